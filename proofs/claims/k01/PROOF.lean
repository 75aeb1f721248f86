import PyProof.Rows.All
import Wide.All
import OpenK.AllK
import Wide.FinOn
import HandS.ForMost
import HandS.SetFor
import HandS.Strs
import HandS.TupAny
import HandS.Conv
import HandS.Deep
import HandS.Text
import HandS.Wide
import HandS.Style
import HandS.SortInts
import KE.KDictPairs
import HandS.Ends
import HandS.IsInst
import HandS.Zip
import HandS.StrMore
import HandS.TupMul
import KE.SortData
import KE.DataCmp
import KE.DataMinMax
import PyProof.StrOps2
import KE.GoesRev
import PyProof.Rows.IntBool
import PyProof.FactsAll.bool
import HandS.Set
import PySem.Challenge.RW_storeways_k01_kinds
set_option Elab.async false
set_option linter.all false
set_option maxRecDepth 100000
/-! ML: tuples that bear no dict of their own -/
namespace L2
open PySem PySem.Spec PyProof.Rows
/-- a new tuple, bare -/
def bareT (its : List Value) : Obj := { cls := .type "tuple", data := .seq its.toArray }
def tupQ (H : Hp) (Q : VK) (xs : List V) : Prop := ∀ p q, q.dict = none → H p = none → Q (.ref p) (upd H p (.frz q (.tup xs)))
section
variable {X : Cx} {pins : List (Addr × Obj)} {σ : St} {H : Hp} {s : Shared}
theorem Inv.laidF (I : Inv X pins σ H s) {xs : List V} {its : List Value} (r : Vals xs its) (hz : xs.length ≤ sizeLine) :
    Inv X pins σ (upd H s.heap.objs.size (.frz (bareT its) (.tup xs))) { s with heap := s.heap.push (bareT its) } :=
  I.laid (t' := s.toks) (fun b ob q => Heap.get?_push_of_some _ q) (Nat.le_refl _) ⟨Heap.get?_push_size _ rfl, hz, its, r, IsTup.new _ _⟩
theorem tupQ.at {Q : VK} {xs : List V} (I : Inv X pins σ H s) (q : tupQ H Q xs) (its : List Value) : Q (.ref s.heap.objs.size) (upd H s.heap.objs.size (.frz (bareT its) (.tup xs))) :=
  q _ _ rfl (I.hok.fresh (Nat.le_refl _))
end
section
variable {X : Cx} {es : List Expr} {t : TA} {pos : Pos}
def tTupF (t : TA) : TE := fun σ H Q => t σ H fun xs H1 => xs.length ≤ sizeLine ∧ tupQ H1 Q xs
theorem pe_tupF {x1} (h : PA X es t) : PE X (.Tuple es x1 pos) (tTupF t) := by
  refine ⟨fun pins s σ H Q I hq => ?_⟩
  refine wpAny_Tuple_spliced (thn (h.run pos pins s σ H _ I hq) fun us s1 ⟨xs, H1, I1, r, z, q⟩ => ⟨by rw [← r.length]; exact z, ?_⟩)
  exact ⟨.ref s1.heap.objs.size, _, I1.laidF r z, rfl, q.at I1 _⟩
def rCatF (K : PySem.W.Frag) : R2 := fun x y H Q => ∃ a b xs ys, x = .ref a ∧ y = .ref b ∧ SqT K H a xs ∧ SqT K H b ys ∧ xs.length + ys.length ≤ sizeLine ∧
  (xs = [] → Q (.ref b) H) ∧ (xs ≠ [] → ys = [] → Q (.ref a) H) ∧ (xs ≠ [] → ys ≠ [] → tupQ H Q (xs ++ ys))
theorem op_catF : OpR X (binaryOp .Add) (rCatF X.K) := by
  intro pins s σ H x y v u Q I rx ry h
  obtain ⟨a, b, xs, ys, rfl, rfl, ha, hb, hz, q0, q1, q2⟩ := h
  cases rx
  cases ry
  obtain ⟨its, r1, p1, _⟩ := I.tuple ha
  obtain ⟨its2, r2, p2, _⟩ := I.tuple hb
  by_cases hx : xs = []
  · subst hx
    cases r1
    exact cat_tup0 p1 p2 ⟨.ref b, H, I, rfl, q0 rfl⟩
  · refine HT.cat_tup p1 p2 (fun z => hx (r1.nil_iff.mp z)) (fun z => ⟨.ref a, H, I, rfl, q1 hx (r2.nil_iff.mp z)⟩) (fun z => ?_) (by rw [← r1.length, ← r2.length]; exact hz)
    exact ⟨.ref s.heap.objs.size, _, I.laidF (r1.append r2) (by rw [List.length_append]; exact hz), rfl, (q2 hx (fun w => z (r2.nil_iff.mpr w))).at I _⟩
def rSlF (K : PySem.W.Frag) : V → Option Int → Option Int → Hp → VK → Prop := fun x lo hi H Q => ∃ a xs, x = .ref a ∧ SqT K H a xs ∧
  (HT.sIx xs.length 0 lo = 0 ∧ HT.sIx xs.length xs.length hi = xs.length → Q (.ref a) H) ∧ (¬ (HT.sIx xs.length 0 lo = 0 ∧ HT.sIx xs.length xs.length hi = xs.length) → tupQ H Q (cutV xs lo hi))
theorem sl_tupF : SlR X (rSlF X.K) := by
  intro pins s σ H x v vl vu lo hi sl Q I rx hs pl pu h
  obtain ⟨a, xs, rfl, hx, q1, q2⟩ := h
  cases rx
  obtain ⟨its, r, ht, hz⟩ := I.tuple hx
  have hlen : its.toArray.size = xs.length := by rw [List.size_toArray]; exact r.length.symm
  refine ⟨"tuple", _, PyProof.Rows.slot_tuple_getitem.lookup, ht.typeIs, ?_⟩
  by_cases hw : HT.sIx xs.length 0 lo = 0 ∧ HT.sIx xs.length xs.length hi = xs.length
  · exact getItem_tuple_whole ht hs pl pu (by rw [hlen]; exact hw) ⟨.ref a, H, I, rfl, q1 hw⟩
  · refine HT.getItem_tuple_cut ht hs pl pu (by rw [hlen]; exact hw) ?_ (by rw [hlen]; exact hz)
    rw [hlen]
    exact ⟨.ref s.heap.objs.size, _, I.laidF ((r.drop (HT.sIx xs.length 0 lo)).take (HT.sIx xs.length xs.length hi - HT.sIx xs.length 0 lo)) (Nat.le_trans (cutV_length xs lo hi) hz), rfl, (q2 hw).at I _⟩
theorem call_tupF : CallR X (.type "tuple") (fun xs H Q => ∃ p ys, xs = [.ref p] ∧ ((SqL X.K H p ys ∧ tupQ H Q ys) ∨ (SqT X.K H p ys ∧ Q (.ref p) H))) := by
  intro pins s σ H xs us Q I r h
  obtain ⟨p, ys, rfl, h⟩ := h
  obtain ⟨u, rfl, rx⟩ := vals1 r
  cases rx
  rcases h with ⟨hq, q⟩ | ⟨hq, q⟩
  · obtain ⟨its, r', pl, hz⟩ := I.list hq
    have hlen := r'.length
    refine call_tuple_list pl.isList (fun h' kp => ?_) (by simp only [List.size_toArray] <;> omega)
    have I1 : Inv X pins σ H { s with heap := h' } := I.kept (t' := s.toks) kp
    exact ⟨.ref h'.objs.size, _, I1.laidF r' hz, rfl, q.at I1 _⟩
  · obtain ⟨its, r', pl, hz⟩ := I.tuple hq
    exact call_tuple_same pl ⟨.ref p, H, I, rfl, q⟩
variable {e : Expr} {te : St → Hp → (Int → Int → Hp → Prop) → Prop}
def tTupRgF (te : St → Hp → (Int → Int → Hp → Prop) → Prop) : TE := fun σ H Q => te σ H fun a b H1 => RgOk a b ∧ tupQ H1 Q (rgV a b)
theorem pe_tupRgF {p pos : Pos} (hc : X.calm = true) (hg : Gl X "tuple") (hm : X.mg "tuple" = none) (he : PRg X e te) (na : starEach [e] X.env = (false, eval e X.env) :: starEach [] X.env := by rfl) : PE X (.Call (.Name "tuple" p) [e] [] pos) (tTupRgF te) := by
  refine ⟨fun pins s σ H Q I h => ?_⟩
  refine Call_ (ld_blt I hg hm boot_tuple (PyProof.Rows.callWith_type1 (args_cons (thn (he pins s σ H _ I h) fun x s1 ⟨r, a, b, t, u, v, H1, ex, hr, I1, ok, q⟩ => args_nil ?_) na) na))
  subst ex
  obtain ⟨b1, b2, b3, b4, b5⟩ := ok
  refine call_tuple_range (n := (b - a).toNat) (I1.ok.hd hc) hr (small_one b1 b2 b3 b4) (rangeSize_nat a b) b5 fun h' tk acc hk hi => ?_
  have I2 : Inv X pins σ H1 { s1 with heap := h', toks := tk } := I1.kept hk
  exact ⟨.ref h'.objs.size, _, I2.laidF (vals_rg hi) (by rw [rgV_length, sizeLine_eq]; omega), rfl, q.at I2 _⟩
end
end L2

/-! ML: a layer over the hand layer: expressions and statements as partial functions of an environment of data. -/
namespace ML
open PySem PySem.Spec PyProof.Rows L2

abbrev D := PyData
inductive O where
  | lst (ds : List D)
  | dK (kvs : List (Key × D))
  | sI (ns : List Int)
inductive B where
  | val (d : D) | mu (o : O) | lk (o : O)
inductive R where
  | val (d : D) | new (o : O) | bor (i : Nat) | lkd (i : Nat) (o : O)
abbrev En := List (Option B)
def B.own : B → Option O
  | .val _ => none | .mu o => some o | .lk o => some o
def R.toB : R → Option B
  | .val d => some (.val d) | .new o => some (.mu o) | .bor _ => none | .lkd _ _ => none

abbrev Ix := Nat ⊕ Nat
structure Fr where
  K : PySem.W.Frag
  w : World
  H0 : Hp
  G0 : Hp
  args : List V
  bor : List Addr
  cv : Nat → Bool

/-! ### data in a growing heap -/
theorem same_sqT {K : PySem.W.Frag} {H H' : Hp} {a : Addr} {xs : List V} (e : Same H H') (h : SqT K H a xs) : SqT K H' a xs := by
  rcases h with (h | ⟨o, h⟩) | h
  · exact .inl (.inl (e _ _ h))
  · exact .inl (.inr ⟨o, e _ _ h⟩)
  · exact .inr h
mutual
theorem dp_mono {K : PySem.W.Frag} {H H' : Hp} (e : Same H H') : ∀ (d : D) (v : V), Dp K H v d → Dp K H' v d
  | .none, _, h => by cases h; exact .non
  | .bool b, _, h => by cases h; exact .bl b
  | .int i, _, h => by cases h; exact .int i
  | .str x, _, h => by cases h; exact .str x
  | .list ds, _, h => by
    cases h with
    | lst hs ha => exact .lst (e.seq hs) (dpAll_mono e ds _ ha)
  | .tuple ds, _, h => by
    cases h with
    | tup hs ha => exact .tup (same_sqT e hs) (dpAll_mono e ds _ ha)
  | .dict _, _, h => by cases h
theorem dpAll_mono {K : PySem.W.Frag} {H H' : Hp} (e : Same H H') : ∀ (ds : List D) (vs : List V), DpAll K H vs ds → DpAll K H' vs ds
  | [], _, h => by cases h; exact .nil
  | d :: ds, _, h => by
    cases h with
    | cons h1 h2 => exact .cons (dp_mono e d _ h1) (dpAll_mono e ds _ h2)
end
theorem dpAll_len {K : PySem.W.Frag} {H : Hp} : ∀ {ds : List D} {vs : List V}, DpAll K H vs ds → vs.length = ds.length
  | [], _, h => by cases h; rfl
  | _ :: _, _, h => by cases h with | cons h1 h2 => simp [dpAll_len h2]
theorem dpAll_get {K : PySem.W.Frag} {H : Hp} : ∀ {ds : List D} {vs : List V} {i : Nat} {d : D}, DpAll K H vs ds → ds[i]? = some d → ∃ v, vs[i]? = some v ∧ Dp K H v d
  | [], _, i, d, h, e => by simp at e
  | d :: ds, _, 0, d', h, e => by
    cases h with
    | cons h1 h2 => simp at e; subst e; exact ⟨_, rfl, h1⟩
  | d :: ds, _, i + 1, d', h, e => by
    cases h with
    | cons h1 h2 =>
      obtain ⟨v, e1, e2⟩ := dpAll_get (i := i) h2 (by simpa using e)
      exact ⟨v, by simpa using e1, e2⟩
theorem dpAll_get' {K : PySem.W.Frag} {H : Hp} {ds : List D} {vs : List V} {i : Nat} {v : V} (h : DpAll K H vs ds) (e : vs[i]? = some v) : ∃ d, ds[i]? = some d ∧ Dp K H v d := by
  have hl := dpAll_len h
  have hi : i < vs.length := (List.getElem?_eq_some_iff.mp e).1
  obtain ⟨v', e1, e2⟩ := dpAll_get h (List.getElem?_eq_getElem (show i < ds.length by omega))
  rw [e] at e1; cases e1
  exact ⟨_, List.getElem?_eq_getElem _, e2⟩
theorem dpAll_app {K : PySem.W.Frag} {H : Hp} : ∀ {vs : List V} {ds : List D} {vs' : List V} {ds' : List D}, DpAll K H vs ds → DpAll K H vs' ds' → DpAll K H (vs ++ vs') (ds ++ ds')
  | _, _, _, _, .nil, h => h
  | _, _, _, _, .cons a b, h => .cons a (dpAll_app b h)
theorem dpAll_take {K : PySem.W.Frag} {H : Hp} : ∀ {vs : List V} {ds : List D} (n : Nat), DpAll K H vs ds → DpAll K H (vs.take n) (ds.take n)
  | _, _, 0, _ => .nil
  | _, _, _ + 1, .nil => .nil
  | _, _, n + 1, .cons a b => .cons a (dpAll_take n b)
theorem dpAll_drop {K : PySem.W.Frag} {H : Hp} : ∀ {vs : List V} {ds : List D} (n : Nat), DpAll K H vs ds → DpAll K H (vs.drop n) (ds.drop n)
  | _, _, 0, h => h
  | _, _, _ + 1, .nil => .nil
  | _, _, n + 1, .cons a b => dpAll_drop n b
theorem dpAll_set {K : PySem.W.Frag} {H : Hp} {v : V} {d : D} (r : Dp K H v d) : ∀ {vs : List V} {ds : List D} (n : Nat), DpAll K H vs ds → DpAll K H (vs.set n v) (ds.set n d)
  | _, _, _, .nil => .nil
  | _, _, 0, .cons a b => .cons r b
  | _, _, n + 1, .cons a b => .cons a (dpAll_set r n b)
theorem dpAll_rev {K : PySem.W.Frag} {H : Hp} : ∀ {vs : List V} {ds : List D}, DpAll K H vs ds → DpAll K H vs.reverse ds.reverse
  | _, _, .nil => .nil
  | _, _, .cons a b => by
    rw [List.reverse_cons, List.reverse_cons]
    exact dpAll_app (dpAll_rev b) (.cons a .nil)
theorem dpAll_dropLast {K : PySem.W.Frag} {H : Hp} {vs : List V} {ds : List D} (h : DpAll K H vs ds) : DpAll K H vs.dropLast ds.dropLast := by
  rw [List.dropLast_eq_take, List.dropLast_eq_take, dpAll_len h]
  exact dpAll_take _ h
theorem dpAll_erase {K : PySem.W.Frag} {H : Hp} : ∀ {vs : List V} {ds : List D} (n : Nat), DpAll K H vs ds → DpAll K H (vs.eraseIdx n) (ds.eraseIdx n)
  | _, _, _, .nil => .nil
  | _, _, 0, .cons a b => b
  | _, _, n + 1, .cons a b => .cons a (dpAll_erase n b)
theorem dpAll_ints {K : PySem.W.Frag} {H : Hp} : ∀ {ns : List Int} {vs : List V}, DpAll K H vs (ns.map PyData.int) → vs = ns.map V.int
  | [], _, h => by cases h; rfl
  | n :: ns, _, h => by
    cases h with
    | cons h1 h2 => cases h1; simp [dpAll_ints h2]
theorem dpAll_of_ints {K : PySem.W.Frag} {H : Hp} : ∀ (ns : List Int), DpAll K H (ns.map V.int) (ns.map PyData.int)
  | [] => .nil
  | n :: ns => .cons (.int n) (dpAll_of_ints ns)
theorem dpAll_bls {K : PySem.W.Frag} {H : Hp} : ∀ {ns : List Bool} {vs : List V}, DpAll K H vs (ns.map PyData.bool) → vs = ns.map V.bl
  | [], _, h => by cases h; rfl
  | n :: ns, _, h => by
    cases h with
    | cons h1 h2 => cases h1; simp [dpAll_bls h2]
theorem dpAll_strs {K : PySem.W.Frag} {H : Hp} : ∀ {ns : List Str} {vs : List V}, DpAll K H vs (ns.map PyData.str) → vs = ns.map V.str
  | [], _, h => by cases h; rfl
  | n :: ns, _, h => by
    cases h with
    | cons h1 h2 => cases h1; simp [dpAll_strs h2]
theorem dpAll_of_strs {K : PySem.W.Frag} {H : Hp} : ∀ (ns : List Str), DpAll K H (ns.map V.str) (ns.map PyData.str)
  | [] => .nil
  | n :: ns => .cons (.str n) (dpAll_of_strs ns)

/-! ### objects of one's own -/
def KVr (K : PySem.W.Frag) (G : Hp) : List (Key × V) → List (Key × D) → Prop := Paired fun p q => p.1 = q.1 ∧ Dp K G p.2 q.2
def hasO (F : Fr) (G H : Hp) (a : Addr) : O → Prop
  | .lst ds => ∃ vs, H a = some (.lst vs) ∧ DpAll F.K G vs ds
  | .dK kvs => ∃ ws, H a = some (.dK ws) ∧ KVr F.K G ws kvs
  | .sI ns => H a = some (SetO F.w a (fun k => decide (k ∈ ns)) ns.length) ∧ ns.Nodup
theorem hasO_mono {F : Fr} {G G' H H' : Hp} {a : Addr} {o : O} (g : Same G G') (e : H' a = H a) (h : hasO F G H a o) : hasO F G' H' a o := by
  cases o with
  | lst ds => obtain ⟨vs, h1, h2⟩ := h; exact ⟨vs, e.trans h1, dpAll_mono g _ _ h2⟩
  | dK kvs => obtain ⟨ws, h1, h2⟩ := h; exact ⟨ws, e.trans h1, Paired.mapP h2 fun p q r => ⟨r.1, dp_mono g _ _ r.2⟩⟩
  | sI ns => exact ⟨e.trans h.1, h.2⟩
theorem hasO_some {F : Fr} {G H : Hp} {a : Addr} {o : O} (h : hasO F G H a o) : ∃ u, H a = some u := by
  cases o with
  | lst ds => obtain ⟨vs, h1, h2⟩ := h; exact ⟨_, h1⟩
  | dK kvs => obtain ⟨ws, h1, h2⟩ := h; exact ⟨_, h1⟩
  | sI ns => exact ⟨_, h.1⟩

/-- what stands as data: each tuple bare of a dict of its own -/
structure GPure (G : Hp) : Prop where
  tup : ∀ a xs, G a ≠ some (.tup xs)
  dic : ∀ a o u, G a = some (.frz o u) → o.dict = none
theorem GPure.put {G : Hp} (h : GPure G) {p : Addr} {o : HO} (h1 : ∀ xs, o ≠ .tup xs) (h2 : ∀ q u, o = .frz q u → q.dict = none) : GPure (upd G p o) := by
  refine ⟨fun a xs e => ?_, fun a q u e => ?_⟩
  · by_cases ha : a = p
    · subst ha; rw [upd_same] at e; exact h1 xs (Option.some.inj e)
    · rw [upd_ne ha] at e; exact h.tup a xs e
  · by_cases ha : a = p
    · subst ha; rw [upd_same] at e; exact h2 q u (Option.some.inj e)
    · rw [upd_ne ha] at e; exact h.dic a q u e
/-- a parameter's place -/
def Fr.par (F : Fr) : Ix → Prop
  | .inl i => i < F.args.length
  | .inr _ => False
structure Rep (F : Fr) (L : Ix → Option B) (vs : Ix → Option V) (G H : Hp) : Prop where
  g0 : Same F.G0 G
  sub : Same G H
  fr : ∀ b o, F.H0 b = some o → b ∉ F.bor → H b = some o
  bh : ∀ b ∈ F.bor, ∃ o, H b = some o
  bh0 : ∀ b ∈ F.bor, ∃ o, F.H0 b = some o
  gn : ∀ b u, G b = some u → F.G0 b = some u ∨ F.H0 b = none ∨ b ∈ F.bor
  gp : GPure G
  val : ∀ i d, L i = some (.val d) → ∃ v, vs i = some v ∧ Dp F.K G v d
  own : ∀ i b o, L i = some b → b.own = some o → ∃ a, vs i = some (.ref a) ∧ hasO F G H a o ∧ G a = none ∧ ((F.par i ∧ a ∈ F.bor) ∨ F.H0 a = none)
  dis : ∀ i j b c o o' a, L i = some b → L j = some c → b.own = some o → c.own = some o' → vs i = some (.ref a) → vs j = some (.ref a) → i = j
  par : ∀ i v, F.args[i]? = some v → vs (.inl i) = some v

section
variable {F : Fr} {L L2 : Ix → Option B} {vs vs2 : Ix → Option V} {G G' H H' : Hp}
theorem Rep.fresh (I : Rep F L vs G H) {p : Addr} (hp : H p = none) : F.H0 p = none := by
  cases e : F.H0 p with
  | none => rfl
  | some o =>
    by_cases hb : p ∈ F.bor
    · obtain ⟨u, hu⟩ := I.bh p hb; rw [hp] at hu; cases hu
    · have := I.fr p o e hb; rw [hp] at this; cases this
theorem Rep.gfresh (I : Rep F L vs G H) {p : Addr} (hp : H p = none) : G p = none := by
  cases e : G p with
  | none => rfl
  | some o => have := I.sub p o e; rw [hp] at this; cases this
/-- places renamed, some forgotten -/
theorem Rep.re (I : Rep F L vs G H) (ρ : Ix → Ix) (h : ∀ j b, L2 j = some b → L (ρ j) = some b ∧ vs2 j = vs (ρ j) ∧ (F.par (ρ j) → F.par j))
    (inj : ∀ j j' b b', L2 j = some b → L2 j' = some b' → ρ j = ρ j' → j = j') (par : ∀ i v, F.args[i]? = some v → vs2 (.inl i) = some v) : Rep F L2 vs2 G H := by
  refine ⟨I.g0, I.sub, I.fr, I.bh, I.bh0, I.gn, I.gp, fun i d e => ?_, fun i b o e eo => ?_, fun i j b c o o' a e1 e2 eo eo' h1 h2 => ?_, par⟩
  · obtain ⟨e1, e2, _⟩ := h i _ e
    rw [e2]; exact I.val _ d e1
  · obtain ⟨e1, e2, e3⟩ := h i _ e
    obtain ⟨a, q1, q2, q3, q4⟩ := I.own _ b o e1 eo
    exact ⟨a, by rw [e2]; exact q1, q2, q3, q4.imp (fun z => ⟨e3 z.1, z.2⟩) id⟩
  · obtain ⟨p1, p2, _⟩ := h i _ e1
    obtain ⟨q1, q2, _⟩ := h j _ e2
    exact inj i j b c e1 e2 (I.dis _ _ b c o o' a p1 q1 eo eo' (p2 ▸ h1) (q2 ▸ h2))
/-- a value laid at a place -/
theorem Rep.addV (I : Rep F L vs G H) {j : Ix} {d : D} {v : V} (hj : ¬ F.par j) (hv : Dp F.K G v d) : Rep F (fun k => if k = j then some (.val d) else L k) (fun k => if k = j then some v else vs k) G H := by
  refine ⟨I.g0, I.sub, I.fr, I.bh, I.bh0, I.gn, I.gp, fun i d e => ?_, fun i b o e eo => ?_, fun i k b c o o' a e1 e2 eo eo' h1 h2 => ?_, fun i v e => ?_⟩
  · by_cases hi : i = j
    · simp only [hi, if_true] at e ⊢; cases e; exact ⟨v, rfl, hv⟩
    · simp only [hi, if_false] at e ⊢; exact I.val i _ e
  · by_cases hi : i = j
    · simp only [hi, if_true] at e; cases e; cases eo
    · simp only [hi, if_false] at e ⊢; exact I.own i b o e eo
  · by_cases hi : i = j
    · simp only [hi, if_true] at e1; cases e1; cases eo
    · by_cases hk : k = j
      · simp only [hk, if_true] at e2; cases e2; cases eo'
      · simp only [hi, hk, if_false] at e1 e2 h1 h2; exact I.dis i k b c o o' a e1 e2 eo eo' h1 h2
  · have : (Sum.inl i : Ix) ≠ j := by
      rintro rfl
      exact hj (List.getElem?_eq_some_iff.mp e).1
    simp only [this, if_false]; exact I.par i v e
/-- the heap grows by an object that nobody owns yet -/
theorem Rep.heap (I : Rep F L vs G H) {p : Addr} {o : HO} (hp : H p = none) : Rep F L vs G (upd H p o) := by
  refine ⟨I.g0, fun b u e => ?_, fun b u e nb => ?_, fun b hb => ?_, I.bh0, I.gn, I.gp, I.val, fun i b u e eo => ?_, I.dis, I.par⟩
  · have q := I.sub b u e
    rw [upd_ne (ne_of_none q hp)]; exact q
  · have q := I.fr b u e nb
    rw [upd_ne (ne_of_none q hp)]; exact q
  · obtain ⟨u, q⟩ := I.bh b hb
    exact ⟨u, by rw [upd_ne (ne_of_none q hp)]; exact q⟩
  · obtain ⟨a, q1, q2, q3, q4⟩ := I.own i b u e eo
    obtain ⟨z, hz⟩ := hasO_some q2
    exact ⟨a, q1, hasO_mono (fun _ _ z => z) (upd_ne (ne_of_none hz hp)) q2, q3, q4⟩
/-- the stable part grows by an object that stands in the heap and is nobody's own -/
theorem Rep.grow (I : Rep F L vs G H) {p : Addr} {o : HO} (ho : (∀ xs, o ≠ .tup xs) ∧ ∀ q u, o = .frz q u → q.dict = none) (hp : G p = none) (hH : H p = some o) (hf : F.H0 p = none ∨ p ∈ F.bor) (no : ∀ i b u, L i = some b → b.own = some u → vs i ≠ some (.ref p)) : Rep F L vs (upd G p o) H := by
  have sm : Same G (upd G p o) := fun b u e => by rw [upd_ne (ne_of_none e hp)]; exact e
  refine ⟨I.g0.trans sm, fun b u e => ?_, I.fr, I.bh, I.bh0, fun b u e => ?_, I.gp.put ho.1 ho.2, fun i d e => ?_, fun i b u e eo => ?_, I.dis, I.par⟩
  · by_cases hb : b = p
    · subst hb; rw [upd_same] at e; cases e; exact hH
    · rw [upd_ne hb] at e; exact I.sub b u e
  · by_cases hb : b = p
    · subst hb; exact .inr hf
    · rw [upd_ne hb] at e; exact I.gn b u e
  · obtain ⟨v, e1, e2⟩ := I.val i d e
    exact ⟨v, e1, dp_mono sm _ _ e2⟩
  · obtain ⟨a, q1, q2, q3, q4⟩ := I.own i b u e eo
    have ha : a ≠ p := by
      rintro rfl
      exact no i b u e eo q1
    exact ⟨a, q1, hasO_mono sm rfl q2, by rw [upd_ne ha]; exact q3, q4⟩
/-- an own object at a place that was free -/
theorem Rep.addO (I : Rep F L vs G H) {j : Ix} {b : B} {u : O} {p : Addr} (hj : ¬ F.par j) (hu : b.own = some u) (ho : hasO F G H p u) (hG : G p = none) (h0 : F.H0 p = none)
    (no : ∀ i b u, L i = some b → b.own = some u → vs i ≠ some (.ref p)) : Rep F (fun k => if k = j then some b else L k) (fun k => if k = j then some (.ref p) else vs k) G H := by
  refine ⟨I.g0, I.sub, I.fr, I.bh, I.bh0, I.gn, I.gp, fun i d e => ?_, fun i b' o e eo => ?_, fun i k b1 c o o' a e1 e2 eo eo' h1 h2 => ?_, fun i v e => ?_⟩
  · by_cases hi : i = j
    · simp only [hi, if_true] at e; cases e; cases hu
    · simp only [hi, if_false] at e ⊢; exact I.val i _ e
  · by_cases hi : i = j
    · simp only [hi, if_true] at e ⊢; cases e
      rw [hu] at eo; cases eo
      exact ⟨p, rfl, ho, hG, .inr h0⟩
    · simp only [hi, if_false] at e ⊢; exact I.own i b' o e eo
  · by_cases hi : i = j
    · by_cases hk : k = j
      · rw [hi, hk]
      · simp only [hi, hk, if_true, if_false] at e1 e2 h1 h2
        cases h1
        exact absurd h2 (no k c o' e2 eo')
    · by_cases hk : k = j
      · simp only [hi, hk, if_true, if_false] at e1 e2 h1 h2
        cases h2
        exact absurd h1 (no i b1 o e1 eo)
      · simp only [hi, hk, if_false] at e1 e2 h1 h2; exact I.dis i k b1 c o o' a e1 e2 eo eo' h1 h2
  · have : (Sum.inl i : Ix) ≠ j := by
      rintro rfl
      exact hj (List.getElem?_eq_some_iff.mp e).1
    simp only [this, if_false]; exact I.par i v e
theorem Rep.noref (I : Rep F L vs G H) {p : Addr} (hp : H p = none) : ∀ i b u, L i = some b → b.own = some u → vs i ≠ some (.ref p) := fun i b u e eo z => by
  obtain ⟨a, q1, q2, _⟩ := I.own i b u e eo
  rw [z] at q1; cases q1
  obtain ⟨z, hz⟩ := hasO_some q2
  rw [hp] at hz; cases hz
/-- an own object is changed -/
theorem Rep.write (I : Rep F L vs G H) {j : Ix} {b b' : B} {u u' : O} {p : Addr} {o : HO} (hb : L j = some b) (hu : b.own = some u) (hv : vs j = some (.ref p)) (hu' : b'.own = some u') (ho : hasO F G (upd H p o) p u') :
    Rep F (fun k => if k = j then some b' else L k) vs G (upd H p o) := by
  obtain ⟨a, q1, q2, q3, q4⟩ := I.own j b u hb hu
  rw [hv] at q1; cases q1
  refine ⟨I.g0, fun b u e => ?_, fun b u e nb => ?_, fun b hb => ?_, I.bh0, I.gn, I.gp, fun i d e => ?_, fun i c u2 e eo => ?_, fun i k b1 c o o' a e1 e2 eo eo' h1 h2 => ?_, I.par⟩
  · have : b ≠ p := by rintro rfl; rw [q3] at e; cases e
    rw [upd_ne this]; exact I.sub b u e
  · have : b ≠ p := by
      rintro rfl
      rcases q4 with z | z
      · exact nb z.2
      · rw [z] at e; cases e
    rw [upd_ne this]; exact I.fr b u e nb
  · by_cases hbp : b = p
    · subst hbp; exact ⟨_, upd_same⟩
    · rw [upd_ne hbp]; exact I.bh b hb
  · by_cases hi : i = j
    · simp only [hi, if_true] at e; cases e; cases hu'
    · simp only [hi, if_false] at e ⊢; exact I.val i _ e
  · by_cases hi : i = j
    · simp only [hi, if_true] at e ⊢; cases e
      rw [hu'] at eo; cases eo
      exact ⟨p, hv, ho, q3, q4⟩
    · simp only [hi, if_false] at e ⊢
      obtain ⟨a, r1, r2, r3, r4⟩ := I.own i c u2 e eo
      have ha : a ≠ p := by
        rintro rfl
        exact hi (I.dis i j c b u2 u a e hb eo hu r1 hv)
      exact ⟨a, r1, hasO_mono (fun _ _ z => z) (upd_ne ha) r2, r3, r4⟩
  · have g : ∀ {i : Ix} {b1 : B} {o1 : O}, (if i = j then some b' else L i) = some b1 → b1.own = some o1 → ∃ b2 o2, L i = some b2 ∧ b2.own = some o2 := fun {i b1 o1} e eo => by
      by_cases hi : i = j
      · exact ⟨b, u, by rw [hi]; exact hb, hu⟩
      · simp only [hi, if_false] at e; exact ⟨b1, o1, e, eo⟩
    obtain ⟨b2, o2, r1, r2⟩ := g e1 eo
    obtain ⟨b3, o3, r3, r4⟩ := g e2 eo'
    exact I.dis i k b2 b3 o2 o3 a r1 r3 r2 r4 h1 h2
/-- a place's word changed, the object as it was (locked, unlocked) -/
theorem Rep.relabel (I : Rep F L vs G H) {j : Ix} {b b' : B} {u : O} (hb : L j = some b) (hu : b.own = some u) (hu' : b'.own = some u) : Rep F (fun k => if k = j then some b' else L k) vs G H := by
  refine ⟨I.g0, I.sub, I.fr, I.bh, I.bh0, I.gn, I.gp, fun i d e => ?_, fun i c u2 e eo => ?_, fun i k b1 c o o' a e1 e2 eo eo' h1 h2 => ?_, I.par⟩
  · by_cases hi : i = j
    · simp only [hi, if_true] at e; cases e; cases hu'
    · simp only [hi, if_false] at e ⊢; exact I.val i _ e
  · by_cases hi : i = j
    · simp only [hi, if_true] at e ⊢; cases e
      rw [hu'] at eo; cases eo
      exact I.own j b u hb hu
    · simp only [hi, if_false] at e ⊢
      exact I.own i c u2 e eo
  · have g : ∀ {i : Ix} {b1 : B} {o1 : O}, (if i = j then some b' else L i) = some b1 → b1.own = some o1 → ∃ b2 o2, L i = some b2 ∧ b2.own = some o2 := fun {i b1 o1} e eo => by
      by_cases hi : i = j
      · exact ⟨b, u, by rw [hi]; exact hb, hu⟩
      · simp only [hi, if_false] at e; exact ⟨b1, o1, e, eo⟩
    obtain ⟨b2, o2, r1, r2⟩ := g e1 eo
    obtain ⟨b3, o3, r3, r4⟩ := g e2 eo'
    exact I.dis i k b2 b3 o2 o3 a r1 r3 r2 r4 h1 h2
/-- an own list is given up: it is data from now on -/
theorem Rep.freeze (I : Rep F L vs G H) {j : Ix} {b : B} {ds : List D} (hb : L j = some b) (hu : b.own = some (.lst ds)) :
    ∃ G', Same G G' ∧ Rep F (fun k => if k = j then some (.val (.list ds)) else L k) vs G' H := by
  obtain ⟨a, q1, ⟨ws, q2, q2'⟩, q3, q4⟩ := I.own j b _ hb hu
  have sm : Same G (upd G a (.lst ws)) := fun b u e => by rw [upd_ne (ne_of_none e q3)]; exact e
  refine ⟨upd G a (.lst ws), sm, ?_⟩
  have I1 : Rep F (fun k => if k = j then none else L k) vs G H := by
    refine I.re id (fun k b e => ?_) (fun _ _ _ _ _ _ z => z) I.par
    by_cases hk : k = j
    · simp only [hk, if_true] at e; cases e
    · simp only [hk, if_false] at e; exact ⟨e, rfl, id⟩
  have I2 := I1.grow ⟨(fun _ z => by cases z), (fun _ _ z => by cases z)⟩ q3 q2 (q4.elim (fun z => .inr z.2) .inl) (fun i b' u e eo z => by
    by_cases hk : i = j
    · simp only [hk, if_true] at e; cases e
    · simp only [hk, if_false] at e
      exact hk (I.dis i j b' b u _ a e hb eo hu z q1))
  refine ⟨I2.g0, I2.sub, I2.fr, I2.bh, I2.bh0, I2.gn, I2.gp, fun i d e => ?_, fun i c u2 e eo => ?_, fun i k b1 c o o' a e1 e2 eo eo' h1 h2 => ?_, I2.par⟩
  · by_cases hi : i = j
    · simp only [hi, if_true] at e; cases e
      exact ⟨.ref a, by rw [hi]; exact q1, .lst (.inl (.inl upd_same)) (dpAll_mono sm _ _ q2')⟩
    · simp only [hi, if_false] at e
      exact I2.val i d (by simp only [hi, if_false]; exact e)
  · by_cases hi : i = j
    · simp only [hi, if_true] at e; cases e; cases eo
    · simp only [hi, if_false] at e
      exact I2.own i c u2 (by simp only [hi, if_false]; exact e) eo
  · by_cases hi : i = j
    · simp only [hi, if_true] at e1; cases e1; cases eo
    · by_cases hk : k = j
      · simp only [hk, if_true] at e2; cases e2; cases eo'
      · simp only [hi, hk, if_false] at e1 e2; exact I.dis i k b1 c o o' a e1 e2 eo eo' h1 h2
end
end ML

/-! ML2: slots and operands; the readings of expressions, tests, argument lists; names, constants, operations. -/
namespace ML
open PySem PySem.Spec PyProof.Rows L2

abbrev St := L2.St
abbrev Ops := List (V × R)
def ix (env : En) (ops : Ops) : Ix → Option B
  | .inl i => env[i]?.join
  | .inr k => (ops[k]?).bind fun p => p.2.toB
def ixv (σ : St) (ops : Ops) : Ix → Option V
  | .inl i => σ[i]?.join
  | .inr k => ops[k]?.map (·.1)
/-- what an operand that stands in a slot says of it -/
def OpOk (F : Fr) (env : En) (σ : St) (v : V) : R → Prop
  | .bor i => σ[i]? = some (some v) ∧ F.cv i = false
  | .lkd i o => σ[i]? = some (some v) ∧ env[i]?.join = some (.lk o)
  | _ => True
structure RepS (F : Fr) (env : En) (ops : Ops) (G : Hp) (σ : St) (H : Hp) : Prop where
  rep : Rep F (ix env ops) (ixv σ ops) G H
  opr : ∀ v r, (v, r) ∈ ops → OpOk F env σ v r
  len : σ.length = env.length
def R.obj (r : R) (env : En) : Option B := match r with
  | .val d => some (.val d)
  | .new o => some (.mu o)
  | .bor i => env[i]?.join
  | .lkd _ o => some (.lk o)
def B.dat : B → Option D
  | .val d => some d
  | .mu (.lst ds) => some (.list ds)
  | .lk (.lst ds) => some (.list ds)
  | _ => none
def R.dat (r : R) (env : En) : Option D := (r.obj env).bind B.dat
def R.lst (r : R) (env : En) : Option (List D) := match r.dat env with | some (.list ds) => some ds | _ => none
def R.tup (r : R) (env : En) : Option (List D) := match r.dat env with | some (.tuple ds) => some ds | _ => none
def R.int (r : R) : Option Int := match r with | .val (.int i) => some i | _ => none
def R.str (r : R) : Option Str := match r with | .val (.str i) => some i | _ => none
def R.bl (r : R) : Option Bool := match r with | .val (.bool i) => some i | _ => none
def R.ownO (r : R) (env : En) : Option O := (r.obj env).bind B.own
def R.dk (r : R) (env : En) : Option (List (Key × D)) := match r.ownO env with | some (.dK kvs) => some kvs | _ => none

theorem ix_snoc (env : En) (ops : Ops) (v : V) (r : R) : ix env (ops ++ [(v, r)]) = fun k => if k = .inr ops.length then r.toB else ix env ops k := by
  funext k
  cases k with
  | inl i => simp [ix]
  | inr n =>
    by_cases h : n = ops.length
    · subst h; simp [ix]
    · simp only [ix, Sum.inr.injEq, h, if_false]
      by_cases h2 : n < ops.length
      · rw [List.getElem?_append_left h2]
      · rw [List.getElem?_append_right (by omega), List.getElem?_eq_none (show ops.length ≤ n by omega)]
        rw [List.getElem?_eq_none (by simp; omega)]
theorem ixv_snoc (σ : St) (ops : Ops) (v : V) (r : R) : ixv σ (ops ++ [(v, r)]) = fun k => if k = .inr ops.length then some v else ixv σ ops k := by
  funext k
  cases k with
  | inl i => simp [ixv]
  | inr n =>
    by_cases h : n = ops.length
    · subst h; simp [ixv]
    · simp only [ixv, Sum.inr.injEq, h, if_false]
      by_cases h2 : n < ops.length
      · rw [List.getElem?_append_left h2]
      · rw [List.getElem?_append_right (by omega), List.getElem?_eq_none (show ops.length ≤ n by omega)]
        rw [List.getElem?_eq_none (by simp; omega)]
theorem ix_set (env : En) (ops : Ops) (i : Nat) (b : Option B) (hi : i < env.length) : ix (env.set i b) ops = fun k => if k = .inl i then b else ix env ops k := by
  funext k
  cases k with
  | inr n => simp [ix]
  | inl j =>
    by_cases h : j = i
    · subst h; simp [ix, hi]
    · simp only [ix, Sum.inl.injEq, h, if_false]
      rw [List.getElem?_set_ne (Ne.symm h)]
theorem ixv_set (σ : St) (ops : Ops) (i : Nat) (b : Option V) (hi : i < σ.length) : ixv (σ.set i b) ops = fun k => if k = .inl i then b else ixv σ ops k := by
  funext k
  cases k with
  | inr n => simp [ixv]
  | inl j =>
    by_cases h : j = i
    · subst h; simp [ixv, hi]
    · simp only [ixv, Sum.inl.injEq, h, if_false]
      rw [List.getElem?_set_ne (Ne.symm h)]

section
variable {F : Fr} {env env' : En} {ops ps : Ops} {G G' H H' : Hp} {σ : St} {v : V} {r : R} {d : D}
theorem RepS.pop (I : RepS F env (ops ++ ps) G σ H) : RepS F env ops G σ H := by
  refine ⟨I.rep.re id (fun j b e => ?_) (fun _ _ _ _ _ _ z => z) (fun i v e => I.rep.par i v e), fun v r h => I.opr v r (List.mem_append_left _ h), I.len⟩
  cases j with
  | inl i => exact ⟨e, rfl, id⟩
  | inr k =>
    simp only [ix] at e
    have hk : k < ops.length := by
      by_cases h : k < ops.length
      · exact h
      · rw [List.getElem?_eq_none (by omega)] at e; cases e
    refine ⟨?_, ?_, id⟩
    · show ((ops ++ ps)[k]?).bind _ = _
      rw [List.getElem?_append_left hk]; exact e
    · show ops[k]?.map _ = ((ops ++ ps)[k]?).map _
      rw [List.getElem?_append_left hk]
theorem RepS.pushV (I : RepS F env ops G σ H) (hv : Dp F.K G v d) : RepS F env (ops ++ [(v, .val d)]) G σ H := by
  refine ⟨?_, fun w i h => ?_, I.len⟩
  · rw [ix_snoc, ixv_snoc]
    exact I.rep.addV (fun z => z) hv
  · rcases List.mem_append.mp h with h | h
    · exact I.opr w i h
    · simp at h; obtain ⟨rfl, rfl⟩ := h; trivial
theorem RepS.pushB (I : RepS F env ops G σ H) {i : Nat} (hv : σ[i]? = some (some v)) (hc : F.cv i = false) : RepS F env (ops ++ [(v, .bor i)]) G σ H := by
  refine ⟨?_, fun w j h => ?_, I.len⟩
  · rw [ix_snoc, ixv_snoc]
    refine I.rep.re id (fun k b e => ?_) (fun _ _ _ _ _ _ z => z) (fun i v e => by simpa using I.rep.par i v e)
    by_cases hk : k = .inr ops.length
    · simp only [hk, if_true] at e; cases e
    · simp only [hk, if_false] at e ⊢; exact ⟨e, rfl, id⟩
  · rcases List.mem_append.mp h with h | h
    · exact I.opr w j h
    · simp at h; obtain ⟨rfl, rfl⟩ := h; exact ⟨hv, hc⟩
/-- a new own object -/
theorem RepS.pushN (I : RepS F env ops G σ H) {p : Addr} {o : HO} {u : O} (hp : H p = none) (ho : hasO F G (upd H p o) p u) : RepS F env (ops ++ [(.ref p, .new u)]) G σ (upd H p o) := by
  refine ⟨?_, fun w j h => ?_, I.len⟩
  · rw [ix_snoc, ixv_snoc]
    have I1 := I.rep.heap (o := o) hp
    exact I1.addO (b := .mu u) (fun z => z) rfl ho (I.rep.gfresh hp) (I.rep.fresh hp) (I.rep.noref hp)
  · rcases List.mem_append.mp h with h | h
    · exact I.opr w j h
    · simp at h; obtain ⟨rfl, rfl⟩ := h; trivial
/-- a tuple as it is made: the object itself -/
abbrev tupO (its : Array Value) (n : Nat) : Obj := { cls := .type "tuple", data := .seq its n }
/-- a new tuple -/
theorem RepS.pushT (I : RepS F env ops G σ H) {p : Addr} {xs : List V} {ds : List D} {q : Obj} (hq : q.dict = none) (hp : H p = none) (hx : DpAll F.K G xs ds) :
    ∃ G', Same G G' ∧ RepS F env (ops ++ [(.ref p, .val (.tuple ds))]) G' σ (upd H p (.frz q (.tup xs))) := by
  have I1 : RepS F env ops G σ (upd H p (.frz q (.tup xs))) := ⟨I.rep.heap hp, I.opr, I.len⟩
  have hg := I.rep.gfresh hp
  have sm : Same G (upd G p (.frz q (.tup xs))) := fun b u e => by rw [upd_ne (ne_of_none e hg)]; exact e
  have I2 : RepS F env ops (upd G p (.frz q (.tup xs))) σ (upd H p (.frz q (.tup xs))) := ⟨I1.rep.grow ⟨(fun _ z => by cases z), (fun q' u z => by cases z; exact hq)⟩ hg upd_same (.inl (I.rep.fresh hp)) (I.rep.noref hp), I.opr, I.len⟩
  exact ⟨_, sm, I2.pushV (.tup (.inl (.inr ⟨q, upd_same⟩)) (dpAll_mono sm _ _ hx))⟩
theorem RepS.same (I : RepS F env ops G σ H) : Same G H := I.rep.sub

theorem RepS.obj (I : RepS F env ops G σ H) (hk : (v, r) ∈ ops) {b : B} (e : r.obj env = some b) :
    (∀ d, b = .val d → Dp F.K G v d) ∧ (∀ o, b.own = some o → ∃ a, v = .ref a ∧ hasO F G H a o ∧ G a = none) := by
  obtain ⟨k, hk'⟩ := List.getElem?_of_mem hk
  cases r with
  | val d =>
    cases e
    obtain ⟨v', e1, e2⟩ := I.rep.val (.inr k) d (by simp [ix, hk', R.toB])
    simp [ixv, hk'] at e1; subst e1
    exact ⟨fun d' e => by cases e; exact e2, fun o e => by cases e⟩
  | new o =>
    cases e
    obtain ⟨a, e1, e2, e3, _⟩ := I.rep.own (.inr k) (.mu o) o (by simp [ix, hk', R.toB]) rfl
    simp [ixv, hk'] at e1; subst e1
    exact ⟨fun d' e => (by cases e), fun o' e => by cases e; exact ⟨a, rfl, e2, e3⟩⟩
  | bor i =>
    have hσ : σ[i]? = some (some v) := (show σ[i]? = some (some v) ∧ F.cv i = false from I.opr v _ hk).1
    have e : env[i]?.join = some b := e
    refine ⟨fun d hd => ?_, fun o ho => ?_⟩
    · subst hd
      obtain ⟨v', e1, e2⟩ := I.rep.val (.inl i) d (by simp [ix, e])
      simp [ixv, hσ] at e1; subst e1
      exact e2
    · obtain ⟨a, e1, e2, e3, _⟩ := I.rep.own (.inl i) b o (by simp [ix, e]) ho
      simp [ixv, hσ] at e1; subst e1
      exact ⟨a, rfl, e2, e3⟩
  | lkd i o =>
    cases e
    obtain ⟨hσ, he⟩ : σ[i]? = some (some v) ∧ env[i]?.join = some (.lk o) := I.opr v _ hk
    refine ⟨fun d hd => (by cases hd), fun o' ho => ?_⟩
    cases ho
    obtain ⟨a, e1, e2, e3, _⟩ := I.rep.own (.inl i) (.lk o) o (by simp [ix, he]) rfl
    simp [ixv, hσ] at e1; subst e1
    exact ⟨a, rfl, e2, e3⟩
theorem RepS.dat (I : RepS F env ops G σ H) (hk : (v, r) ∈ ops) (e : r.dat env = some d) : Dp F.K H v d := by
  unfold R.dat at e
  cases hb : r.obj env with
  | none => rw [hb] at e; cases e
  | some b =>
    rw [hb] at e
    obtain ⟨h1, h2⟩ := I.obj hk hb
    have go : ∀ ds, b.own = some (.lst ds) → Dp F.K H v (.list ds) := fun ds ho => by
      obtain ⟨a, rfl, ⟨ws, q1, q2⟩, _⟩ := h2 _ ho
      exact .lst (.inl (.inl q1)) (dpAll_mono I.same _ _ q2)
    cases b with
    | val d' => cases e; exact dp_mono I.same _ _ (h1 _ rfl)
    | mu o => cases o <;> cases e; exact go _ rfl
    | lk o => cases o <;> cases e; exact go _ rfl
theorem RepS.lst (I : RepS F env ops G σ H) (hk : (v, r) ∈ ops) {ds : List D} (e : r.lst env = some ds) : ∃ a vs, v = .ref a ∧ SqL F.K H a vs ∧ DpAll F.K G vs ds := by
  have e' : r.dat env = some (.list ds) := by
    unfold R.lst at e; split at e <;> first | (cases e; assumption) | cases e
  unfold R.dat at e'
  cases hb : r.obj env with
  | none => rw [hb] at e'; cases e'
  | some b =>
    rw [hb] at e'
    obtain ⟨h1, h2⟩ := I.obj hk hb
    have go : ∀ ds, b.own = some (.lst ds) → ∃ a vs, v = .ref a ∧ SqL F.K H a vs ∧ DpAll F.K G vs ds := fun ds ho => by
      obtain ⟨a, rfl, ⟨ws, q1, q2⟩, _⟩ := h2 _ ho
      exact ⟨a, ws, rfl, .inl (.inl q1), q2⟩
    cases b with
    | val d' =>
      cases e'
      have := h1 _ rfl
      cases this with
      | lst hs ha => exact ⟨_, _, rfl, I.same.seq hs, ha⟩
    | mu o => cases o <;> cases e'; exact go _ rfl
    | lk o => cases o <;> cases e'; exact go _ rfl
theorem RepS.tup (I : RepS F env ops G σ H) (hk : (v, r) ∈ ops) {ds : List D} (e : r.tup env = some ds) : ∃ a vs, v = .ref a ∧ SqT F.K H a vs ∧ DpAll F.K G vs ds := by
  have e' : r.dat env = some (.tuple ds) := by
    unfold R.tup at e; split at e <;> first | (cases e; assumption) | cases e
  unfold R.dat at e'
  cases hb : r.obj env with
  | none => rw [hb] at e'; cases e'
  | some b =>
    rw [hb] at e'
    obtain ⟨h1, h2⟩ := I.obj hk hb
    cases b with
    | val d' =>
      cases e'
      have := h1 _ rfl
      cases this with
      | tup hs ha => exact ⟨_, _, rfl, same_sqT I.same hs, ha⟩
    | mu o => cases o <;> cases e'
    | lk o => cases o <;> cases e'
theorem R.dat_of_tup {r : R} {env : En} {ds : List D} (e : r.tup env = some ds) : r.dat env = some (.tuple ds) := by
  unfold R.tup at e; split at e <;> first | (cases e; assumption) | cases e
theorem R.dat_of_lst {r : R} {env : En} {ds : List D} (e : r.lst env = some ds) : r.dat env = some (.list ds) := by
  unfold R.lst at e; split at e <;> first | (cases e; assumption) | cases e
theorem RepS.vint (I : RepS F env ops G σ H) {i : Int} (hk : (v, R.val (.int i)) ∈ ops) : v = .int i := by
  have := I.dat hk (d := .int i) rfl
  cases this; rfl
theorem RepS.vstr (I : RepS F env ops G σ H) {i : Str} (hk : (v, R.val (.str i)) ∈ ops) : v = .str i := by
  have := I.dat hk (d := .str i) rfl
  cases this; rfl
theorem RepS.vbl (I : RepS F env ops G σ H) {i : Bool} (hk : (v, R.val (.bool i)) ∈ ops) : v = .bl i := by
  have := I.dat hk (d := .bool i) rfl
  cases this; rfl
theorem RepS.vnon (I : RepS F env ops G σ H) (hk : (v, R.val .none) ∈ ops) : v = .non := by
  have := I.dat hk (d := .none) rfl
  cases this; rfl
theorem RepS.ownO (I : RepS F env ops G σ H) (hk : (v, r) ∈ ops) {o : O} (e : r.ownO env = some o) : ∃ a, v = .ref a ∧ hasO F G H a o ∧ G a = none := by
  unfold R.ownO at e
  cases hb : r.obj env with
  | none => rw [hb] at e; cases e
  | some b =>
    rw [hb] at e
    exact (I.obj hk hb).2 o e
theorem R.own_of_dk {r : R} {env : En} {kvs : List (Key × D)} (e : r.dk env = some kvs) : r.ownO env = some (.dK kvs) := by
  unfold R.dk at e; split at e <;> first | (cases e; assumption) | cases e
theorem RepS.dk (I : RepS F env ops G σ H) (hk : (v, r) ∈ ops) {kvs : List (Key × D)} (e : r.dk env = some kvs) : ∃ a ws, v = .ref a ∧ H a = some (.dK ws) ∧ KVr F.K G ws kvs := by
  obtain ⟨a, h1, ⟨ws, h2, h3⟩, _⟩ := I.ownO hk (R.own_of_dk e)
  exact ⟨a, ws, h1, h2, h3⟩
theorem R.int_eq {r : R} {i : Int} (e : r.int = some i) : r = .val (.int i) := by
  unfold R.int at e; split at e <;> first | (cases e; rfl) | cases e
theorem R.str_eq {r : R} {i : Str} (e : r.str = some i) : r = .val (.str i) := by
  unfold R.str at e; split at e <;> first | (cases e; rfl) | cases e
theorem R.bl_eq {r : R} {i : Bool} (e : r.bl = some i) : r = .val (.bool i) := by
  unfold R.bl at e; split at e <;> first | (cases e; rfl) | cases e
end

/-! ### readings -/
abbrev FE := En → Option (R × En)
abbrev FT := En → Option (Bool × En)
abbrev FA := En → Option (List R × En)
def tE (F : Fr) (f : FE) : TE := fun σ H Q => ∃ env ops G r env', RepS F env ops G σ H ∧ f env = some (r, env') ∧ ∀ v G' H', Same G G' → RepS F env' (ops ++ [(v, r)]) G' σ H' → Q v H'
def tT (F : Fr) (f : FT) : TT := fun σ H Q => ∃ env ops G b env', RepS F env ops G σ H ∧ f env = some (b, env') ∧ ∀ G' H', Same G G' → RepS F env' ops G' σ H' → Q b H'
def tA (F : Fr) (f : FA) : TA := fun σ H Q => ∃ env ops G rs env', RepS F env ops G σ H ∧ f env = some (rs, env') ∧ ∀ (ps : Ops) G' H', ps.map (·.2) = rs → Same G G' → RepS F env' (ops ++ ps) G' σ H' → Q (ps.map (·.1)) H'

section
variable {X : Cx} {F : Fr} {a b c : Expr} {pos : Pos}
theorem _root_.L2.PE.wk {e : Expr} {t t' : TE} (h : PE X e t) (w : ∀ σ H Q, t' σ H Q → t σ H Q) : PE X e t' := ⟨fun pins s σ H Q I q => h.run pins s σ H Q I (w _ _ _ q)⟩
theorem _root_.L2.PT.wk {e : Expr} {t t' : TT} (h : PT X e t) (w : ∀ σ H Q, t' σ H Q → t σ H Q) : PT X e t' := ⟨fun pins s σ H Q I q => h.run pins s σ H Q I (w _ _ _ q)⟩
theorem _root_.L2.PA.wk {es : List Expr} {t t' : TA} (h : PA X es t) (w : ∀ σ H Q, t' σ H Q → t σ H Q) : PA X es t' := ⟨fun pos pins s σ H Q I q => h.run pos pins s σ H Q I (w _ _ _ q)⟩
theorem _root_.L2.PS.wk {e : Stmt} {t t' : TS} (h : PS X e t) (w : ∀ D σ H, t' D σ H → t D σ H) : PS X e t' := ⟨fun pins s σ H D I q => h.run pins s σ H D I (w _ _ _ q)⟩
theorem _root_.L2.PSs.wk {e : List Stmt} {t t' : TS} (h : PSs X e t) (w : ∀ D σ H, t' D σ H → t D σ H) : PSs X e t' := ⟨fun pins s σ H D I q => h.run pins s σ H D I (w _ _ _ q)⟩

/-- a value of the expression is put where a test is wanted -/
def rB (f : FE) : FT := fun env => (f env).bind fun p => p.1.bl.map fun b => (b, p.2)
theorem rB_some {f : FE} {env env' : En} {b : Bool} (h : rB f env = some (b, env')) : f env = some (.val (.bool b), env') := by
  unfold rB at h
  cases e : f env with
  | none => rw [e] at h; cases h
  | some p =>
    rw [e] at h
    obtain ⟨r, e2⟩ := p
    cases hb : R.bl r with
    | none => simp [hb] at h
    | some b' =>
      simp [hb] at h
      obtain ⟨rfl, rfl⟩ := h
      rw [R.bl_eq hb]

/-! ### names, constants -/
def eV (i : Nat) : FE := fun env => match env[i]?.join with
  | some (.val d) => some (.val d, env)
  | some _ => some (.bor i, env)
  | none => none
def eK (d : D) : FE := fun env => some (.val d, env)
theorem me_var {i : Nat} {x : Str} (h : PE X (.Name x pos) (tVar i)) (hc : F.cv i = false) : PE X (.Name x pos) (tE F (eV i)) := by
  refine h.wk fun σ H Q ⟨env, ops, G, r, env', I, e, q⟩ => ?_
  unfold eV at e
  split at e
  · rename_i d he
    cases e
    obtain ⟨v, e1, e2⟩ := I.rep.val (.inl i) d (by simpa [ix] using he)
    have e3 : σ[i]? = some (some v) := by
      have e1 : σ[i]?.join = some v := e1
      cases h : σ[i]? with
      | none => rw [h] at e1; cases e1
      | some o => rw [h] at e1; have e1 : o = some v := e1; rw [e1]
    exact ⟨v, e3, q v G H (Same.refl _) (I.pushV e2)⟩
  · rename_i b hb he
    cases e
    obtain ⟨o, ho⟩ : ∃ o, b.own = some o := by
      cases b with
      | val d => exact absurd rfl (hb d)
      | mu o => exact ⟨o, rfl⟩
      | lk o => exact ⟨o, rfl⟩
    obtain ⟨p, e1, _⟩ := I.rep.own (.inl i) b o (by simpa [ix] using he) ho
    have e3 : σ[i]? = some (some (.ref p)) := by
      have e1 : σ[i]?.join = some (.ref p) := e1
      cases h : σ[i]? with
      | none => rw [h] at e1; cases e1
      | some o => rw [h] at e1; have e1 : o = some (.ref p) := e1; rw [e1]
    exact ⟨_, e3, q _ G H (Same.refl _) (I.pushB e3 hc)⟩
  · cases e
/-- a comprehension's own name -/
def eC (i : Nat) : FE := fun env => match env[i]?.join with
  | some (.val d) => some (.val d, env)
  | _ => none
theorem me_cvar {i : Nat} {x : Str} (h : PE X (.Name x pos) (tVar i)) : PE X (.Name x pos) (tE F (eC i)) := by
  refine h.wk fun σ H Q ⟨env, ops, G, r, env', I, e, q⟩ => ?_
  unfold eC at e
  split at e
  · rename_i d he
    cases e
    obtain ⟨v, e1, e2⟩ := I.rep.val (.inl i) d (by simpa [ix] using he)
    have e3 : σ[i]? = some (some v) := by
      have e1 : σ[i]?.join = some v := e1
      cases h : σ[i]? with
      | none => rw [h] at e1; cases e1
      | some o => rw [h] at e1; have e1 : o = some v := e1; rw [e1]
    exact ⟨v, e3, q v G H (Same.refl _) (I.pushV e2)⟩
  · cases e
theorem me_k {e : Expr} {v : V} {d : D} (h : PE X e (tC v)) (hd : ∀ G, Dp F.K G v d) : PE X e (tE F (eK d)) := by
  refine h.wk fun σ H Q ⟨env, ops, G, r, env', I, e, q⟩ => ?_
  cases e
  exact q v G H (Same.refl _) (I.pushV (hd G))
theorem me_int {i j} : PE X (.Constant (.int i) j pos) (tE F (eK (.int i))) := me_k pe_int fun _ => .int i
theorem me_str {i j} : PE X (.Constant (.str i) j pos) (tE F (eK (.str i))) := me_k pe_str fun _ => .str i
theorem me_bl {i j} : PE X (.Constant (.bool i) j pos) (tE F (eK (.bool i))) := me_k pe_bl fun _ => .bl i
theorem me_non {j} : PE X (.Constant .none j pos) (tE F (eK .none)) := me_k pe_non fun _ => .non

/-! ### operations -/
abbrev G1 := R → En → Option (R × En)
abbrev G2 := R → R → En → Option (R × En)
abbrev GN := List R → En → Option (R × En)
abbrev GL := R → List R → En → Option (R × En)
/-- what is wanted of an operation's reading -/
def Cont (F : Fr) (ops : Ops) (G : Hp) (σ : St) (r : R) (env' : En) (Q : VK) : Prop := ∀ v G' H', Same G G' → RepS F env' (ops ++ [(v, r)]) G' σ H' → Q v H'
def S1 (F : Fr) (r1 : V → Hp → VK → Prop) (g : G1) : Prop := ∀ env ops G σ H x ra r env' Q, RepS F env (ops ++ [(x, ra)]) G σ H → g ra env = some (r, env') → Cont F ops G σ r env' Q → r1 x H Q
def S2 (F : Fr) (r2 : R2) (g : G2) : Prop := ∀ env ops G σ H x y ra rb r env' Q, RepS F env (ops ++ [(x, ra), (y, rb)]) G σ H → g ra rb env = some (r, env') → Cont F ops G σ r env' Q → r2 x y H Q
def SN (F : Fr) (rn : List V → Hp → VK → Prop) (g : GN) : Prop := ∀ env ops (ps : Ops) G σ H r env' Q, RepS F env (ops ++ ps) G σ H → g (ps.map (·.2)) env = some (r, env') → Cont F ops G σ r env' Q → rn (ps.map (·.1)) H Q
/-- a method's: the receiver, the arguments -/
def SM (F : Fr) (rm : V → List V → Hp → VK → Prop) (g : GL) : Prop := ∀ env ops x ra (ps : Ops) G σ H r env' Q, RepS F env (ops ++ (x, ra) :: ps) G σ H → g ra (ps.map (·.2)) env = some (r, env') → Cont F ops G σ r env' Q → rm x (ps.map (·.1)) H Q

def e1 (g : G1) (fa : FE) : FE := fun env => (fa env).bind fun p => g p.1 p.2
def e2 (g : G2) (fa fb : FE) : FE := fun env => (fa env).bind fun p => (fb p.2).bind fun q => g p.1 q.1 q.2
theorem bind_some {α β : Type} {x : Option α} {f : α → Option β} {b : β} (h : x.bind f = some b) : ∃ a, x = some a ∧ f a = some b := by
  cases x with
  | none => cases h
  | some a => exact ⟨a, rfl, h⟩
theorem tE_un {r1 : V → Hp → VK → Prop} {g : G1} {fa : FE} (hg : S1 F r1 g) (σ : St) (H : Hp) (Q : VK) (h : tE F (e1 g fa) σ H Q) : tUn r1 (tE F fa) σ H Q := by
  obtain ⟨env, ops, G, r, env', I, e, q⟩ := h
  obtain ⟨⟨ra, ea⟩, h1, h2⟩ := bind_some e
  refine ⟨env, ops, G, ra, ea, I, h1, fun x G1 H1 s1 I1 => ?_⟩
  exact hg ea ops G1 σ H1 x ra r env' Q I1 h2 fun v G' H' s2 I2 => q v G' H' (s1.trans s2) I2
theorem tE_op {r2 : R2} {g : G2} {fa fb : FE} (hg : S2 F r2 g) (σ : St) (H : Hp) (Q : VK) (h : tE F (e2 g fa fb) σ H Q) : tOp r2 (tE F fa) (tE F fb) σ H Q := by
  obtain ⟨env, ops, G, r, env', I, e, q⟩ := h
  obtain ⟨⟨ra, ea⟩, h1, e⟩ := bind_some e
  obtain ⟨⟨rb, eb⟩, h2, h3⟩ := bind_some e
  refine ⟨env, ops, G, ra, ea, I, h1, fun x G1 H1 s1 I1 => ?_⟩
  refine ⟨ea, ops ++ [(x, ra)], G1, rb, eb, I1, h2, fun y G2 H2 s2 I2 => ?_⟩
  refine hg eb ops G2 σ H2 x y ra rb r env' Q (by simpa using I2) h3 fun v G' H' s3 I3 => q v G' H' ((s1.trans s2).trans s3) I3
theorem me_un {op : UnaryOp} {r1 : V → Hp → VK → Prop} {g : G1} {fa : FE} (ho : UnR X (unaryOp op) r1) (hg : S1 F r1 g) (ha : PE X a (tE F fa)) : PE X (.UnaryOp op a pos) (tE F (e1 g fa)) := (pe_un ho ha).wk (tE_un hg)
theorem me_bin {op : Operator} {r2 : R2} {g : G2} {fa fb : FE} (ho : OpR X (binaryOp op) r2) (hg : S2 F r2 g) (ha : PE X a (tE F fa)) (hb : PE X b (tE F fb)) : PE X (.BinOp a op b pos) (tE F (e2 g fa fb)) := (pe_op ho ha hb).wk (tE_op hg)
theorem me_cmp {op : CmpOp} {r2 : R2} {g : G2} {fa fb : FE} (ho : OpR X (compareOp op) r2) (hg : S2 F r2 g) (ha : PE X a (tE F fa)) (hb : PE X b (tE F fb)) (hm : behindInMarks op b = false) : PE X (.Compare a [op] [b] pos) (tE F (e2 g fa fb)) := (pe_cmpR ho ha hb hm).wk (tE_op hg)
theorem tE_test {t : TE} {f : FE} (hw : ∀ σ H Q, tE F f σ H Q → t σ H Q) (σ : St) (H : Hp) (Q : Bool → Hp → Prop) (h : tT F (rB f) σ H Q) : tTest t σ H Q := by
  obtain ⟨env, ops, G, b, env', I, e, q⟩ := h
  refine hw _ _ _ ⟨env, ops, G, _, env', I, rB_some e, fun v G' H' s1 I1 => ?_⟩
  exact ⟨b, I1.vbl (by simp), q G' H' s1 I1.pop⟩
theorem mt_cmp {op : CmpOp} {r2 : R2} {g : G2} {fa fb : FE} (ho : OpR X (compareOp op) r2) (hg : S2 F r2 g) (ha : PE X a (tE F fa)) (hb : PE X b (tE F fb)) (hm : behindInMarks op b = false) : PT X (.Compare a [op] [b] pos) (tT F (rB (e2 g fa fb))) :=
  (pt_cmpR ho ha hb hm).wk fun σ H Q h => tE_test (tE_op hg) σ H Q h
/-- an expression that gives a bool, as a test -/
theorem mt_val {e : Expr} {f : FE} (h : PE X e (tE F f)) (he : ∀ whole, isTrue e X.env whole = (do let v ← whole; standAt e.pos; holding [v] (truthy v)) := by intro _; rfl) : PT X e (tT F (rB f)) :=
  (pt_val h he).wk fun σ H Q h => tE_test (fun _ _ _ z => z) σ H Q h

/-! ### and, or, not; a if t else b -/
def fAnd (f g : FT) : FT := fun env => (f env).bind fun p => if p.1 = true then g p.2 else some (false, p.2)
def fOr (f g : FT) : FT := fun env => (f env).bind fun p => if p.1 = true then some (true, p.2) else g p.2
def fNot (f : FT) : FT := fun env => (f env).map fun p => (!p.1, p.2)
def eIf (t : FT) (f g : FE) : FE := fun env => (t env).bind fun p => if p.1 = true then f p.2 else g p.2
structure PWm (X : Cx) (e : Expr) (t : TT) : Prop where
  run : PW X e t
theorem mw_and1 {t : FT} (ha : PT X a (tT F t)) : PW X (.BoolOp .And [a] pos) (tT F t) := pw_and1 ha
theorem mw_or1 {t : FT} (ha : PT X a (tT F t)) : PW X (.BoolOp .Or [a] pos) (tT F t) := pw_or1 ha
theorem _root_.L2.PW.wk {e : Expr} {t t' : TT} (h : PW X e t) (w : ∀ σ H Q, t' σ H Q → t σ H Q) : PW X e t' := ⟨fun wh pins s σ H Q I q => h.run wh pins s σ H Q I (w _ _ _ q)⟩
theorem mw_and {t u : FT} {rest : List Expr} (ha : PT X a (tT F t)) (hb : PW X (.BoolOp .And (b :: rest) pos) (tT F u)) : PW X (.BoolOp .And (a :: b :: rest) pos) (tT F (fAnd t u)) :=
  (pw_and ha hb).wk fun σ H Q ⟨env, ops, G, k, env', I, e, q⟩ => by
    obtain ⟨⟨k1, e1⟩, h1, h2⟩ := bind_some e
    refine ⟨env, ops, G, k1, e1, I, h1, fun G1 H1 s1 I1 => ?_⟩
    cases k1 with
    | true => exact ⟨e1, ops, G1, k, env', I1, h2, fun G' H' s2 I2 => q G' H' (s1.trans s2) I2⟩
    | false => cases h2; exact q G1 H1 s1 I1
theorem mw_or {t u : FT} {rest : List Expr} (ha : PT X a (tT F t)) (hb : PW X (.BoolOp .Or (b :: rest) pos) (tT F u)) : PW X (.BoolOp .Or (a :: b :: rest) pos) (tT F (fOr t u)) :=
  (pw_or ha hb).wk fun σ H Q ⟨env, ops, G, k, env', I, e, q⟩ => by
    obtain ⟨⟨k1, e1⟩, h1, h2⟩ := bind_some e
    refine ⟨env, ops, G, k1, e1, I, h1, fun G1 H1 s1 I1 => ?_⟩
    cases k1 with
    | false => exact ⟨e1, ops, G1, k, env', I1, h2, fun G' H' s2 I2 => q G' H' (s1.trans s2) I2⟩
    | true => cases h2; exact q G1 H1 s1 I1
theorem mt_not {t : FT} (ha : PT X a (tT F t)) : PT X (.UnaryOp .Not a pos) (tT F (fNot t)) :=
  (pt_not ha).wk fun σ H Q ⟨env, ops, G, k, env', I, e, q⟩ => by
    unfold fNot at e
    cases h : t env with
    | none => rw [h] at e; cases e
    | some p =>
      rw [h] at e; cases e
      exact ⟨env, ops, G, p.1, p.2, I, h, fun G1 H1 s1 I1 => q G1 H1 s1 I1⟩
theorem me_if {t : FT} {f g : FE} (hc : PT X c (tT F t)) (ha : PE X a (tE F f)) (hb : PE X b (tE F g)) : PE X (.IfExp c a b pos) (tE F (eIf t f g)) :=
  (pe_ifExp hc ha hb).wk fun σ H Q ⟨env, ops, G, r, env', I, e, q⟩ => by
    obtain ⟨⟨k1, e1⟩, h1, h2⟩ := bind_some e
    refine ⟨env, ops, G, k1, e1, I, h1, fun G1 H1 s1 I1 => ?_⟩
    cases k1 with
    | true => exact ⟨e1, ops, G1, r, env', I1, h2, fun v G' H' s2 I2 => q v G' H' (s1.trans s2) I2⟩
    | false => exact ⟨e1, ops, G1, r, env', I1, h2, fun v G' H' s2 I2 => q v G' H' (s1.trans s2) I2⟩
/-- as values: all but the last are bools -/
def eAnd (f g : FE) : FE := fun env => (f env).bind fun p => p.1.bl.bind fun b => if b = true then g p.2 else some (.val (.bool false), p.2)
def eOr (f g : FE) : FE := fun env => (f env).bind fun p => p.1.bl.bind fun b => if b = true then some (.val (.bool true), p.2) else g p.2
def eNot (f : FE) : FE := fun env => (f env).bind fun p => p.1.bl.map fun b => (.val (.bool !b), p.2)
theorem me_one {op} {f : FE} (h : PE X a (tE F f)) : PE X (.BoolOp op [a] pos) (tE F f) := pe_one h
theorem me_and {f g : FE} {rest : List Expr} (ha : PE X a (tE F f)) (hb : PE X (.BoolOp .And (b :: rest) pos) (tE F g)) : PE X (.BoolOp .And (a :: b :: rest) pos) (tE F (eAnd f g)) :=
  (pe_and ha hb).wk fun σ H Q ⟨env, ops, G, r, env', I, e, q⟩ => by
    obtain ⟨⟨ra, ea⟩, h1, h2⟩ := bind_some e
    obtain ⟨k, h2, h3⟩ := bind_some h2
    obtain rfl := R.bl_eq h2
    refine ⟨env, ops, G, _, ea, I, h1, fun v G1 H1 s1 I1 => ?_⟩
    refine ⟨k, I1.vbl (by simp), ?_⟩
    cases k with
    | true => exact ⟨ea, ops, G1, r, env', I1.pop, h3, fun v G' H' s2 I2 => q v G' H' (s1.trans s2) I2⟩
    | false => cases h3; exact q _ G1 H1 s1 (I1.pop.pushV (.bl false))
theorem me_or {f g : FE} {rest : List Expr} (ha : PE X a (tE F f)) (hb : PE X (.BoolOp .Or (b :: rest) pos) (tE F g)) : PE X (.BoolOp .Or (a :: b :: rest) pos) (tE F (eOr f g)) :=
  (pe_or ha hb).wk fun σ H Q ⟨env, ops, G, r, env', I, e, q⟩ => by
    obtain ⟨⟨ra, ea⟩, h1, h2⟩ := bind_some e
    obtain ⟨k, h2, h3⟩ := bind_some h2
    obtain rfl := R.bl_eq h2
    refine ⟨env, ops, G, _, ea, I, h1, fun v G1 H1 s1 I1 => ?_⟩
    refine ⟨k, I1.vbl (by simp), ?_⟩
    cases k with
    | false => exact ⟨ea, ops, G1, r, env', I1.pop, h3, fun v G' H' s2 I2 => q v G' H' (s1.trans s2) I2⟩
    | true => cases h3; exact q _ G1 H1 s1 (I1.pop.pushV (.bl true))
theorem me_not {f : FE} (ha : PE X a (tE F f)) : PE X (.UnaryOp .Not a pos) (tE F (eNot f)) :=
  (pe_not ha).wk fun σ H Q ⟨env, ops, G, r, env', I, e, q⟩ => by
    obtain ⟨⟨ra, ea⟩, h1, h2⟩ := bind_some e
    cases hb : R.bl ra with
    | none => simp [hb] at h2
    | some k =>
      simp [hb] at h2
      obtain ⟨rfl, rfl⟩ := h2
      obtain rfl := R.bl_eq hb
      refine ⟨env, ops, G, _, ea, I, h1, fun v G1 H1 s1 I1 => ?_⟩
      exact ⟨k, I1.vbl (by simp), q _ G1 H1 s1 (I1.pop.pushV (.bl _))⟩

/-! ### argument lists, displays -/
def aNil : FA := fun env => some ([], env)
def aCons (f : FE) (g : FA) : FA := fun env => (f env).bind fun p => (g p.2).map fun q => (p.1 :: q.1, q.2)
theorem ma_nil : PA X [] (tA F aNil) := pa_nil.wk fun σ H Q ⟨env, ops, G, rs, env', I, e, q⟩ => by
  cases e
  exact q [] G H rfl (Same.refl _) (by simpa using I)
theorem ma_cons {e : Expr} {es : List Expr} {f : FE} {g : FA} (ha : PE X e (tE F f)) (hr : PA X es (tA F g)) (hs : starEach (e :: es) X.env = (false, eval e X.env) :: starEach es X.env := by rfl) : PA X (e :: es) (tA F (aCons f g)) :=
  (pa_cons ha hr hs).wk fun σ H Q ⟨env, ops, G, rs, env', I, e, q⟩ => by
    obtain ⟨⟨ra, ea⟩, h1, h2⟩ := bind_some e
    cases h3 : g ea with
    | none => simp [h3] at h2
    | some p =>
      simp [h3] at h2
      obtain ⟨rfl, rfl⟩ := h2
      refine ⟨env, ops, G, ra, ea, I, h1, fun v G1 H1 s1 I1 => ?_⟩
      refine ⟨ea, ops ++ [(v, ra)], G1, p.1, p.2, I1, h3, fun ps G2 H2 hp s2 I2 => ?_⟩
      exact q ((v, ra) :: ps) G2 H2 (by simp [hp]) (s1.trans s2) (by simpa using I2)
end
end ML

/-! ML3: operations on data. -/
namespace ML
open PySem PySem.Spec PyProof.Rows L2

theorem dat_int {r : R} {env : En} {i : Int} (h : r.int = some i) : r.dat env = some (.int i) := by rw [R.int_eq h]; rfl
theorem dp_int {K : PySem.W.Frag} {H : Hp} {v : V} {i : Int} (h : Dp K H v (.int i)) : v = .int i := by cases h; rfl
theorem dp_str {K : PySem.W.Frag} {H : Hp} {v : V} {i : Str} (h : Dp K H v (.str i)) : v = .str i := by cases h; rfl
theorem dp_bl {K : PySem.W.Frag} {H : Hp} {v : V} {i : Bool} (h : Dp K H v (.bool i)) : v = .bl i := by cases h; rfl
theorem dp_non {K : PySem.W.Frag} {H : Hp} {v : V} (h : Dp K H v .none) : v = .non := by cases h; rfl
theorem dp_tup {K : PySem.W.Frag} {H : Hp} {v : V} {ds : List D} (h : Dp K H v (.tuple ds)) : ∃ a vs, v = .ref a ∧ SqT K H a vs ∧ DpAll K H vs ds := by cases h with | tup a b => exact ⟨_, _, rfl, a, b⟩
theorem dp_lst {K : PySem.W.Frag} {H : Hp} {v : V} {ds : List D} (h : Dp K H v (.list ds)) : ∃ a vs, v = .ref a ∧ SqL K H a vs ∧ DpAll K H vs ds := by cases h with | lst a b => exact ⟨_, _, rfl, a, b⟩

section
variable {F : Fr} {env env' : En} {ops ps : Ops} {G G' H H' : Hp} {σ : St} {v : V} {r : R} {d : D} {Q : VK}
theorem RepS.retV (I : RepS F env (ops ++ ps) G σ H) (c : Cont F ops G σ (.val d) env Q) (hv : Dp F.K G v d) : Q v H := c v G H (Same.refl _) (I.pop.pushV hv)
theorem RepS.retT (I : RepS F env (ops ++ ps) G σ H) {ds : List D} (c : Cont F ops G σ (.val (.tuple ds)) env Q) {xs : List V} (hv : DpAll F.K G xs ds) : ∀ p q, q.dict = none → H p = none → Q (.ref p) (upd H p (.frz q (.tup xs))) := fun p q hq hp => by
  obtain ⟨G', s, I'⟩ := I.pop.pushT hq hp hv
  exact c _ G' _ s I'
theorem RepS.retN (I : RepS F env (ops ++ ps) G σ H) {o : O} (c : Cont F ops G σ (.new o) env Q) {p : Addr} {u : HO} (hp : H p = none) (ho : hasO F G (upd H p u) p o) : Q (.ref p) (upd H p u) := c _ G _ (Same.refl _) (I.pop.pushN hp ho)
theorem RepS.retL (I : RepS F env (ops ++ ps) G σ H) {ds : List D} (c : Cont F ops G σ (.new (.lst ds)) env Q) {xs : List V} (hv : DpAll F.K G xs ds) : ∀ p, H p = none → Q (.ref p) (upd H p (.lst xs)) := fun p hp =>
  I.retN c hp ⟨xs, upd_same, hv⟩
end

/-! ### arithmetic -/
def g2I (c : Int → Int → Bool) (f : Int → Int → D) : G2 := fun ra rb env => match ra.int, rb.int with
  | some i, some j => if c i j = true then some (.val (f i j), env) else none
  | _, _ => none
theorem g2I_some {c : Int → Int → Bool} {f : Int → Int → D} {ra rb : R} {env env' : En} {r : R} (h : g2I c f ra rb env = some (r, env')) : ∃ i j, ra = .val (.int i) ∧ rb = .val (.int j) ∧ c i j = true ∧ r = .val (f i j) ∧ env' = env := by
  unfold g2I at h
  split at h
  · rename_i i j h1 h2
    split at h
    · cases h; exact ⟨i, j, R.int_eq h1, R.int_eq h2, by assumption, rfl, rfl⟩
    · cases h
  · cases h
variable {F : Fr} {X : Cx}
theorem s2I {C : Int → Int → Prop} {c : Int → Int → Bool} {g : Int → Int → V} {f : Int → Int → D} (hC : ∀ i j, c i j = true → C i j) (hd : ∀ G i j, Dp F.K G (g i j) (f i j)) : S2 F (rI C g) (g2I c f) := by
  intro env ops G σ H x y ra rb r env' Q I h k
  obtain ⟨i, j, rfl, rfl, hc, rfl, rfl⟩ := g2I_some h
  exact ⟨i, j, I.vint (by simp), I.vint (by simp), hC i j hc, I.retV k (hd G i j)⟩
theorem s2I0 {g : Int → Int → V} {f : Int → Int → D} (hd : ∀ G i j, Dp F.K G (g i j) (f i j)) : S2 F (rI0 g) (g2I (fun _ _ => true) f) := by
  intro env ops G σ H x y ra rb r env' Q I h k
  obtain ⟨i, j, rfl, rfl, hc, rfl, rfl⟩ := g2I_some h
  exact ⟨i, j, I.vint (by simp), I.vint (by simp), I.retV k (hd G i j)⟩
def gSub : G2 := g2I (fun _ _ => true) fun i j => .int (i - j)
def mulOk (i j : Int) : Bool := decide (i.natAbs.log2 + j.natAbs.log2 < 1000000)
def gMul : G2 := g2I mulOk fun i j => .int (i * j)
def gDiv : G2 := g2I (fun i j => decide (0 < j ∧ j < 1073741824)) fun i j => .int (i / j)
def gMod : G2 := g2I (fun i j => decide (0 < j)) fun i j => .int (i % j)
def gPow : G2 := g2I (fun i j => decide (0 ≤ j ∧ j ≤ 1000000 ∧ i.natAbs < 2 ^ 64)) fun i j => .int (i ^ j.toNat)
def gLt : G2 := g2I (fun _ _ => true) fun i j => .bool (decide (i < j))
def gLe : G2 := g2I (fun _ _ => true) fun i j => .bool (decide (i ≤ j))
def gGt : G2 := g2I (fun _ _ => true) fun i j => .bool (decide (j < i))
def gGe : G2 := g2I (fun _ _ => true) fun i j => .bool (decide (j ≤ i))
theorem s_sub : S2 F (rI0 fun i j => .int (i - j)) gSub := s2I0 fun _ _ _ => .int _
theorem s_mul : S2 F (rI CMulW fun i j => .int (i * j)) gMul := s2I (fun i j h => by have := of_decide_eq_true h; unfold CMulW; omega) fun _ _ _ => .int _
theorem s_div : S2 F (rI CDiv fun i j => .int (i / j)) gDiv := s2I (fun i j h => (of_decide_eq_true h : 0 < j ∧ j < 1073741824)) fun _ _ _ => .int _
theorem s_mod : S2 F (rI (fun _ j => 0 < j) fun i j => .int (i % j)) gMod := s2I (fun i j h => of_decide_eq_true h) fun _ _ _ => .int _
theorem s_pow : S2 F (rI CPow fun i j => .int (i ^ j.toNat)) gPow := s2I (fun i j h => (of_decide_eq_true h : 0 ≤ j ∧ j ≤ 1000000 ∧ i.natAbs < 2 ^ 64)) fun _ _ _ => .int _
theorem s_lt : S2 F (rI0 fun i j => .bl (decide (i < j))) gLt := s2I0 fun _ _ _ => .bl _
theorem s_le : S2 F (rI0 fun i j => .bl (decide (i ≤ j))) gLe := s2I0 fun _ _ _ => .bl _
theorem s_gt : S2 F (rI0 fun i j => .bl (decide (j < i))) gGt := s2I0 fun _ _ _ => .bl _
theorem s_ge : S2 F (rI0 fun i j => .bl (decide (j ≤ i))) gGe := s2I0 fun _ _ _ => .bl _
def gNeg : G1 := fun ra env => ra.int.map fun i => (.val (.int (-i)), env)
theorem s_neg : S1 F (rU fun i => .int (-i)) gNeg := by
  intro env ops G σ H x ra r env' Q I h k
  unfold gNeg at h
  cases e : ra.int with
  | none => rw [e] at h; cases h
  | some i =>
    rw [e] at h; cases h
    obtain rfl := R.int_eq e
    exact ⟨i, I.vint (by simp), I.retV k (.int _)⟩

/-! ### + -/
def gAdd : G2 := fun ra rb env => match ra.obj env, rb.obj env with
  | some (.val (.int i)), some (.val (.int j)) => some (.val (.int (i + j)), env)
  | some (.val (.str x)), some (.val (.str y)) => if x.length + y.length ≤ sizeLine then some (.val (.str (x ++ y)), env) else none
  | some (.val (.tuple xs)), some (.val (.tuple ys)) => if xs.length + ys.length ≤ sizeLine then some (.val (.tuple (xs ++ ys)), env) else none
  | some b, some c => match b.own, c.own with
    | some (.lst xs), some (.lst ys) => if xs.length + ys.length ≤ sizeLine then some (.new (.lst (xs ++ ys)), env) else none
    | _, _ => none
  | _, _ => none
def rAddA (K : PySem.W.Frag) : R2 := fun x y H Q => (rI0 (fun i j => .int (i + j)) x y H Q ∨ (∃ i j, x = .str i ∧ y = .str j ∧ i.length + j.length ≤ sizeLine ∧ Q (.str (i ++ j)) H)) ∨ (rCatF K x y H Q ∨ rCat x y H Q)
theorem op_addA : OpR X (binaryOp .Add) (rAddA X.K) := (op_add.or op_add_str).or (op_catF.or op_cat)
theorem s_add : S2 F (rAddA F.K) gAdd := by
  intro env ops G σ H x y ra rb r env' Q I h k
  unfold gAdd at h
  split at h
  · rename_i i j h1 h2
    cases h
    have q1 := (I.obj (v := x) (r := ra) (by simp) h1).1 _ rfl
    have q2 := (I.obj (v := y) (r := rb) (by simp) h2).1 _ rfl
    exact .inl (.inl ⟨i, j, dp_int q1, dp_int q2, I.retV k (.int _)⟩)
  · rename_i i j h1 h2
    split at h
    · rename_i hl
      cases h
      have q1 := (I.obj (v := x) (r := ra) (by simp) h1).1 _ rfl
      have q2 := (I.obj (v := y) (r := rb) (by simp) h2).1 _ rfl
      exact .inl (.inr ⟨i, j, dp_str q1, dp_str q2, hl, I.retV k (.str _)⟩)
    · cases h
  · rename_i xs ys h1 h2
    split at h
    · rename_i hl
      cases h
      have q1 := (I.obj (v := x) (r := ra) (by simp) h1).1 _ rfl
      have q2 := (I.obj (v := y) (r := rb) (by simp) h2).1 _ rfl
      obtain ⟨a, vs, rfl, t1, t2⟩ := dp_tup q1
      obtain ⟨b, ws, rfl, u1, u2⟩ := dp_tup q2
      have e1 := dpAll_len t2
      have e2 := dpAll_len u2
      refine .inr (.inl ⟨a, b, vs, ws, rfl, rfl, same_sqT I.same t1, same_sqT I.same u1, by omega, fun z => ?_, fun _ z => ?_, fun _ _ => I.retT k (dpAll_app t2 u2)⟩)
      · subst z
        cases t2
        exact I.retV k (by simpa using Dp.tup u1 u2)
      · subst z
        cases u2
        exact I.retV k (by simpa using Dp.tup t1 t2)
    · cases h
  · rename_i b c _ _ _ h1 h2
    split at h
    · rename_i xs ys h3 h4
      split at h
      · rename_i hl
        cases h
        obtain ⟨a, rfl, ⟨vs, p1, p2⟩, _⟩ := (I.obj (v := x) (r := ra) (by simp) h1).2 _ h3
        obtain ⟨a', rfl, ⟨ws, q1, q2⟩, _⟩ := (I.obj (v := y) (r := rb) (by simp) h2).2 _ h4
        have e1 := dpAll_len p2
        have e2 := dpAll_len q2
        exact .inr (.inr ⟨a, a', vs, ws, rfl, rfl, p1, q1, by omega, I.retL k (dpAll_app p2 q2)⟩)
      · cases h
    · cases h
  · cases h

/-! ### ==, != -/
def gEq (neg : Bool) : G2 := fun ra rb env => match ra.dat env, rb.dat env with
  | some d, some e => if SeqAt.shaped d = true ∧ SeqAt.shaped e = true then some (.val (.bool (if neg = true then !PyData.eqv d e else PyData.eqv d e)), env) else none
  | _, _ => none
theorem s_eq : S2 F (rEqD F.K) (gEq false) := by
  intro env ops G σ H x y ra rb r env' Q I h k
  unfold gEq at h
  split at h
  · rename_i d e h1 h2
    split at h
    · rename_i hs
      cases h
      exact ⟨d, e, I.dat (r := ra) (by simp) h1, I.dat (r := rb) (by simp) h2, hs.1, hs.2, I.retV k (.bl _)⟩
    · cases h
  · cases h
theorem s_ne : S2 F (rNeD F.K) (gEq true) := by
  intro env ops G σ H x y ra rb r env' Q I h k
  unfold gEq at h
  split at h
  · rename_i d e h1 h2
    split at h
    · rename_i hs
      cases h
      exact ⟨d, e, I.dat (r := ra) (by simp) h1, I.dat (r := rb) (by simp) h2, hs.1, hs.2, I.retV k (.bl _)⟩
    · cases h
  · cases h

/-! ### in, not in -/
def flatD : D → Bool
  | .none | .bool _ | .int _ | .str _ => true
  | _ => false
theorem flat_of {K : PySem.W.Frag} {H : Hp} {v : V} {d : D} (h : Dp K H v d) (f : flatD d = true) : flatV v = true := by
  cases h <;> first | rfl | cases f
theorem eqV_of {K : PySem.W.Frag} {H : Hp} {v w : V} {d e : D} (h : Dp K H v d) (h' : Dp K H w e) (f : flatD d = true) (f' : flatD e = true) : eqV v w = PyData.eqv d e := by
  cases h <;> cases h' <;> first | rfl | cases f | cases f'
theorem flats_of {K : PySem.W.Frag} {H : Hp} : ∀ {ds : List D} {vs : List V}, DpAll K H vs ds → ds.all flatD = true → vs.all flatV = true
  | [], _, h, _ => by cases h; rfl
  | d :: ds, _, h, f => by
    cases h with
    | cons h1 h2 =>
      simp only [List.all_cons, Bool.and_eq_true] at f ⊢
      exact ⟨flat_of h1 f.1, flats_of h2 f.2⟩
theorem inV_of {K : PySem.W.Frag} {H : Hp} {x : V} {d : D} (hx : Dp K H x d) (fx : flatD d = true) : ∀ {ds : List D} {vs : List V}, DpAll K H vs ds → ds.all flatD = true → inV x vs = ds.any fun z => PyData.eqv z d
  | [], _, h, _ => by cases h; rfl
  | e :: ds, _, h, f => by
    cases h with
    | cons h1 h2 =>
      simp only [List.all_cons, Bool.and_eq_true] at f
      have ih := inV_of hx fx h2 f.2
      unfold inV at ih ⊢
      simp only [List.any_cons]
      rw [ih, eqV_of h1 hx f.1 fx]
def keyD : D → Option Key
  | .int i => some (.inl i)
  | .str x => some (.inr x)
  | _ => none
theorem keyD_of {K : PySem.W.Frag} {H : Hp} {v : V} {d : D} {k : Key} (h : Dp K H v d) (e : keyD d = some k) : v = kV k := by
  cases h <;> cases e <;> rfl
/-- a dict's value at a key -/
def lkD (kvs : List (Key × D)) (k : Key) : Option D := (kvs.find? fun kv => decide (kv.1 = k)).map (·.2)
theorem lkD_pos {p : Key × D} {r : List (Key × D)} {k : Key} (e : p.1 = k) : lkD (p :: r) k = some p.2 := by simp [lkD, List.find?_cons, e]
theorem lkD_neg {p : Key × D} {r : List (Key × D)} {k : Key} (e : ¬ p.1 = k) : lkD (p :: r) k = lkD r k := by simp [lkD, List.find?_cons, e]
theorem kvr_val {K : PySem.W.Frag} {G : Hp} (k : Key) : ∀ {ws : List (Key × V)} {kvs : List (Key × D)}, KVr K G ws kvs → (∀ d, lkD kvs k = some d → ∃ v, valV ws k = some v ∧ Dp K G v d) ∧ (lkD kvs k = none → valV ws k = none)
  | [], _, .nil => ⟨fun d e => (by cases e), fun _ => rfl⟩
  | (k1, w) :: ws, _, .cons (b := (k2, e)) r t => by
    obtain ⟨r1, r2⟩ := r
    have r1 : k1 = k2 := r1
    subst r1
    obtain ⟨t1, t2⟩ := kvr_val k t
    by_cases hk : k1 = k
    · refine ⟨fun d hd => ?_, fun hd => ?_⟩
      · rw [lkD_pos hk] at hd; cases hd
        exact ⟨w, valV_pos hk, r2⟩
      · rw [lkD_pos hk] at hd; cases hd
    · refine ⟨fun d hd => ?_, fun hd => ?_⟩
      · rw [lkD_neg hk] at hd
        rw [valV_neg hk]; exact t1 d hd
      · rw [lkD_neg hk] at hd
        rw [valV_neg hk]; exact t2 hd
theorem kvr_some {K : PySem.W.Frag} {G : Hp} {k : Key} {ws : List (Key × V)} {kvs : List (Key × D)} (h : KVr K G ws kvs) : (valV ws k).isSome = (lkD kvs k).isSome := by
  obtain ⟨h1, h2⟩ := kvr_val k h
  cases e : lkD kvs k with
  | none => rw [h2 e]; rfl
  | some d => obtain ⟨v, e1, _⟩ := h1 d e; rw [e1]; rfl
def rDIn (neg : Bool) : R2 := fun x y H Q => ∃ a o, y = .ref a ∧ DGet H a x o ∧ Q (.bl (if neg = true then !o.isSome else o.isSome)) H
theorem op_dIn (hu : X.A.units + 1 < cLine) : OpR X (compareOp .In) (rDIn false) := by
  intro pins s σ H x y v u Q I rx ry h
  obtain ⟨a, o, rfl, g, q⟩ := h
  cases ry
  exact d_in hu I g rx fun s' I' => ⟨.bl _, H, I', rfl, q⟩
theorem op_dNotIn (hu : X.A.units + 1 < cLine) : OpR X (compareOp .NotIn) (rDIn true) := by
  intro pins s σ H x y v u Q I rx ry h
  obtain ⟨a, o, rfl, g, q⟩ := h
  cases ry
  exact d_notIn hu I g rx fun s' I' => ⟨.bl _, H, I', rfl, q⟩
def bneg (neg b : Bool) : Bool := if neg = true then !b else b
def gIn (neg : Bool) : G2 := fun ra rb env => match ra.dat env with
  | none => none
  | some d => match rb.dat env with
    | some (.list ds) => if SeqAt.shaped d = true ∧ SeqAt.shaped (.list ds) = true then some (.val (.bool (bneg neg (ds.any fun z => PyData.eqv z d))), env) else none
    | some (.tuple ds) => if flatD d = true ∧ ds.all flatD = true then some (.val (.bool (bneg neg (ds.any fun z => PyData.eqv z d))), env) else none
    | some _ => none
    | none => match rb.dk env, keyD d with
      | some kvs, some k => some (.val (.bool (bneg neg (lkD kvs k).isSome)), env)
      | _, _ => none
def rInA (K : PySem.W.Frag) : R2 := fun x y H Q => rInD K x y H Q ∨ (rIn K false x y H Q ∨ rDIn false x y H Q)
def rNotInA (K : PySem.W.Frag) : R2 := fun x y H Q => rNotInD K x y H Q ∨ (rIn K true x y H Q ∨ rDIn true x y H Q)
theorem op_inA (hu : X.A.units + 65 < cLine) : OpR X (compareOp .In) (rInA X.K) := (op_inD hu).or (op_in_seq.or (op_dIn (by omega)))
theorem op_notInA (hu : X.A.units + 65 < cLine) : OpR X (compareOp .NotIn) (rNotInA X.K) := (op_notInD hu).or (op_notIn_seq.or (op_dNotIn (by omega)))
theorem s_inG {neg : Bool} {rl : R2} (hl : ∀ x y H Q, (∃ d ds, Dp F.K H x d ∧ Dp F.K H y (.list ds) ∧ SeqAt.shaped d = true ∧ SeqAt.shaped (.list ds) = true ∧ Q (V.bl (bneg neg (ds.any fun z => PyData.eqv z d))) H) → rl x y H Q) :
    S2 F (fun x y H Q => rl x y H Q ∨ (rIn F.K neg x y H Q ∨ rDIn neg x y H Q)) (gIn neg) := by
  intro env ops G σ H x y ra rb r env' Q I h k
  unfold gIn at h
  split at h
  · cases h
  · rename_i d h1
    have hd := I.dat (r := ra) (v := x) (by simp) h1
    split at h
    · rename_i ds h2
      split at h
      · rename_i hs
        cases h
        exact .inl (hl _ _ _ _ ⟨d, ds, hd, I.dat (r := rb) (by simp) h2, hs.1, hs.2, I.retV k (.bl _)⟩)
      · cases h
    · rename_i ds h2
      split at h
      · rename_i hs
        cases h
        obtain ⟨a, vs, rfl, q1, q2⟩ := dp_tup (I.dat (r := rb) (v := y) (by simp) h2)
        refine .inr (.inl ⟨a, vs, rfl, .inr q1, flat_of hd hs.1, flats_of q2 hs.2, ?_⟩)
        have e : (if neg = true then !inV x vs else inV x vs) = bneg neg (ds.any fun z => PyData.eqv z d) := by
          rw [inV_of hd hs.1 q2 hs.2]; rfl
        rw [e]
        exact I.retV k (.bl _)
      · cases h
    · cases h
    · split at h
      · rename_i kvs kk h2 h3
        cases h
        obtain ⟨a, ws, rfl, q1, q2⟩ := I.dk (r := rb) (v := y) (by simp) h2
        refine .inr (.inr ⟨a, valV ws kk, rfl, ?_, ?_⟩)
        · rw [keyD_of hd h3]; exact DGet.k q1
        · rw [kvr_some q2]; exact I.retV k (.bl _)
      · cases h
theorem s_in : S2 F (rInA F.K) (gIn false) := s_inG fun _ _ _ _ h => h
theorem s_notIn : S2 F (rNotInA F.K) (gIn true) := s_inG fun _ _ _ _ h => h

/-! ### is None, is not None -/
def gIsN (neg : Bool) : G2 := fun ra rb env => match ra.dat env, rb.dat env with
  | some d, some .none => some (.val (.bool (bneg neg (match d with | .none => true | _ => false))), env)
  | _, _ => none
theorem s_isN : S2 F (fun x y H Q => y = .non ∧ Q (.bl (decide (x = .non))) H) (gIsN false) := by
  intro env ops G σ H x y ra rb r env' Q I h k
  unfold gIsN at h
  split at h
  · rename_i d h1 h2
    cases h
    have q1 := I.dat (r := ra) (v := x) (by simp) h1
    have q2 := I.dat (r := rb) (v := y) (by simp) h2
    cases q2
    refine ⟨rfl, ?_⟩
    cases q1 <;> exact I.retV k (.bl _)
  · cases h
theorem s_notN : S2 F (fun x y H Q => y = .non ∧ Q (.bl (!decide (x = .non))) H) (gIsN true) := by
  intro env ops G σ H x y ra rb r env' Q I h k
  unfold gIsN at h
  split at h
  · rename_i d h1 h2
    cases h
    have q1 := I.dat (r := ra) (v := x) (by simp) h1
    have q2 := I.dat (r := rb) (v := y) (by simp) h2
    cases q2
    refine ⟨rfl, ?_⟩
    cases q1 <;> exact I.retV k (.bl _)
  · cases h

/-! ### o[i] -/
def rIxD : R2 := fun x y H Q => ∃ a v, x = .ref a ∧ DGet H a y (some v) ∧ Q v H
theorem ix_dict (hu : X.A.units + 1 < cLine) : IxR X rIxD := by
  intro value slice pins s σ H x y v u Q I rx ry h hs
  obtain ⟨a, z, rfl, g, q⟩ := h
  cases rx
  exact tail_any (dict_typeIs I g) PySem.F.slot_dict_getitem.lookup (d_getItem hu I g ry fun w' s' I' r' => ⟨z, H, I', r', q⟩) hs
def rIxA (K : PySem.W.Frag) : R2 := fun x y H Q => rIx K x y H Q ∨ rIxD x y H Q
theorem ix_any (hu : X.A.units + 1 < cLine) : IxR X (rIxA X.K) := ix_seq.or (ix_dict hu)
def gIx : G2 := fun ra rb env => match ra.dat env with
  | some (.list ds) => rb.int.bind fun i => (atI ds i).map fun d => (.val d, env)
  | some (.tuple ds) => rb.int.bind fun i => (atI ds i).map fun d => (.val d, env)
  | some (.str x) => rb.int.bind fun i => if x.length ≤ sizeLine then (atI x.cps.toList i).map fun c => (.val (.str ⟨#[c]⟩), env) else none
  | some _ => none
  | none => (ra.dk env).bind fun kvs => (rb.dat env).bind fun d => (keyD d).bind fun k => (lkD kvs k).map fun d => (.val d, env)
theorem atI_dp {K : PySem.W.Frag} {H : Hp} {ds : List D} {vs : List V} {i : Int} {d : D} (h : DpAll K H vs ds) (e : atI ds i = some d) : ∃ v, atI vs i = some v ∧ Dp K H v d := by
  unfold atI at e ⊢
  rw [dpAll_len h]
  cases q : ixN ds.length i with
  | none => rw [q] at e; cases e
  | some j =>
    rw [q] at e
    exact dpAll_get h e
theorem omap_some {α β : Type} {x : Option α} {f : α → β} {b : β} (h : x.map f = some b) : ∃ a, x = some a ∧ f a = b := by
  cases x with
  | none => cases h
  | some a => exact ⟨a, rfl, Option.some.inj h⟩
theorem s_ix : S2 F (rIxA F.K) gIx := by
  intro env ops G σ H x y ra rb r env' Q I h k
  unfold gIx at h
  split at h
  · rename_i ds h1
    obtain ⟨i, h2, h⟩ := bind_some h
    obtain ⟨d, h3, h4⟩ := omap_some h
    cases h4
    obtain rfl := R.int_eq h2
    obtain ⟨a, vs, rfl, q1, q2⟩ := I.lst (r := ra) (v := x) (by simp) (ds := ds) (by unfold R.lst; rw [h1])
    obtain ⟨v, e1, e2⟩ := atI_dp q2 h3
    exact .inl (.inl ⟨a, vs, i, v, rfl, I.vint (by simp), q1, e1, I.retV k e2⟩)
  · rename_i ds h1
    obtain ⟨i, h2, h⟩ := bind_some h
    obtain ⟨d, h3, h4⟩ := omap_some h
    cases h4
    obtain rfl := R.int_eq h2
    obtain ⟨a, vs, rfl, q1, q2⟩ := I.tup (r := ra) (v := x) (by simp) (ds := ds) (by unfold R.tup; rw [h1])
    obtain ⟨v, e1, e2⟩ := atI_dp q2 h3
    exact .inl (.inr (.inl ⟨a, vs, i, v, rfl, I.vint (by simp), q1, e1, I.retV k e2⟩))
  · rename_i z h1
    obtain ⟨i, h2, h⟩ := bind_some h
    split at h
    · rename_i hz
      obtain ⟨c, h3, h4⟩ := omap_some h
      cases h4
      obtain rfl := R.int_eq h2
      exact .inl (.inr (.inr ⟨z, i, c, dp_str (I.dat (r := ra) (v := x) (by simp) h1), I.vint (by simp), hz, h3, I.retV k (.str _)⟩))
    · cases h
  · cases h
  · obtain ⟨kvs, h1, h⟩ := bind_some h
    obtain ⟨d, h2, h⟩ := bind_some h
    obtain ⟨kk, h3, h⟩ := bind_some h
    obtain ⟨d', h4, h5⟩ := omap_some h
    cases h5
    obtain ⟨a, ws, rfl, q1, q2⟩ := I.dk (r := ra) (v := x) (by simp) h1
    obtain ⟨v, e1, e2⟩ := (kvr_val kk q2).1 d' h4
    refine .inr ⟨a, v, rfl, ?_, I.retV k e2⟩
    rw [keyD_of (I.dat (r := rb) (v := y) (by simp) h2) h3, ← e1]
    exact DGet.k q1
theorem me_ix {a b : Expr} {pos : Pos} {fa fb : FE} (hu : X.A.units + 1 < cLine) (hg : S2 F (rIxA X.K) gIx) (ha : PE X a (tE F fa)) (hb : PE X b (tE F fb)) (hs : PlainIx b) : PE X (.Subscript a b pos) (tE F (e2 gIx fa fb)) :=
  (pe_ix (ix_any hu) ha hb hs).wk (tE_op hg)

/-! ### o[lo:hi] -/
abbrev FO := En → Option (Option Int × En)
def tO (F : Fr) (f : FO) : TO := fun σ H Q => ∃ env ops G o env', RepS F env ops G σ H ∧ f env = some (o, env') ∧ ∀ G' H', Same G G' → RepS F env' ops G' σ H' → Q o H'
theorem _root_.L2.PO.wk {e : Option Expr} {t t' : TO} (h : PO X e t) (w : ∀ σ H Q, t' σ H Q → t σ H Q) : PO X e t' := ⟨fun pins s σ H Q I q => h.run pins s σ H Q I (w _ _ _ q)⟩
def oNone : FO := fun env => some (none, env)
def oSome (f : FE) : FO := fun env => (f env).bind fun p => p.1.int.map fun i => (some i, p.2)
theorem mo_none : PO X none (tO F oNone) := po_none.wk fun σ H Q ⟨env, ops, G, o, env', I, e, q⟩ => by
  cases e
  exact q G H (Same.refl _) I
theorem mo_some {e : Expr} {f : FE} (h : PE X e (tE F f)) : PO X (some e) (tO F (oSome f)) := (po_some h).wk fun σ H Q ⟨env, ops, G, o, env', I, e, q⟩ => by
  obtain ⟨⟨r, e1⟩, h1, h2⟩ := bind_some e
  obtain ⟨i, h3, h4⟩ := omap_some h2
  cases h4
  obtain rfl := R.int_eq h3
  exact ⟨env, ops, G, _, e1, I, h1, fun v G' H' s1 I1 => ⟨i, I1.vint (by simp), q G' H' s1 I1.pop⟩⟩
def cutD {α : Type} (xs : List α) (lo hi : Option Int) : List α := (xs.drop (HT.sIx xs.length 0 lo)).take (HT.sIx xs.length xs.length hi - HT.sIx xs.length 0 lo)
theorem cut_dp {K : PySem.W.Frag} {H : Hp} {ds : List D} {vs : List V} (h : DpAll K H vs ds) (lo hi : Option Int) : DpAll K H (cutV vs lo hi) (cutD ds lo hi) := by
  unfold cutV cutD
  rw [dpAll_len h]
  exact dpAll_take _ (dpAll_drop _ h)
def gSl (r : R) (lo hi : Option Int) (env : En) : Option (R × En) := match r.dat env with
  | some (.list ds) => some (.new (.lst (cutD ds lo hi)), env)
  | some (.tuple ds) => some (.val (.tuple (cutD ds lo hi)), env)
  | some (.str x) => if x.length ≤ sizeLine then some (.val (.str (cutS x lo hi)), env) else none
  | _ => none
def rSlLT (K : PySem.W.Frag) : V → Option Int → Option Int → Hp → VK → Prop := fun x lo hi H Q => (rSlL K x lo hi H Q ∨ rSlF K x lo hi H Q) ∨ rSlS x lo hi H Q
theorem sl_LT : SlR X (rSlLT X.K) := (sl_list.or sl_tupF).or sl_str
def eSl (fa : FE) (fl fh : FO) : FE := fun env => (fa env).bind fun p => (fl p.2).bind fun q => (fh q.2).bind fun s => gSl p.1 q.1 s.1 s.2
theorem me_sl {a : Expr} {lo hi : Option Expr} {p2 pos : Pos} {fa : FE} {fl fh : FO} (hK : X.K = F.K) (ha : PE X a (tE F fa)) (hl : PO X lo (tO F fl)) (hh : PO X hi (tO F fh)) : PE X (.Subscript a (.Slice lo hi none p2) pos) (tE F (eSl fa fl fh)) :=
  (pe_slice sl_LT ha hl hh).wk fun σ H Q ⟨env, ops, G, r, env', I, e, q⟩ => by
    obtain ⟨⟨ra, ea⟩, h1, e⟩ := bind_some e
    obtain ⟨⟨l, el⟩, h2, e⟩ := bind_some e
    obtain ⟨⟨u, eu⟩, h3, e⟩ := bind_some e
    refine ⟨env, ops, G, ra, ea, I, h1, fun v G1 H1 s1 I1 => ?_⟩
    refine ⟨ea, _, G1, l, el, I1, h2, fun G2 H2 s2 I2 => ?_⟩
    refine ⟨el, _, G2, u, eu, I2, h3, fun G3 H3 s3 I3 => ?_⟩
    have s : Same G G3 := (s1.trans s2).trans s3
    have k : Cont F ops G3 σ r env' Q := fun v G' H' s4 I4 => q v G' H' (s.trans s4) I4
    rw [hK]
    have e : gSl ra l u eu = some (r, env') := e
    unfold gSl at e
    split at e
    · rename_i ds hd
      cases e
      obtain ⟨a, vs, rfl, q1, q2⟩ := I3.lst (r := ra) (v := v) (by simp) (ds := ds) (by unfold R.lst; rw [hd])
      exact .inl (.inl ⟨a, vs, rfl, q1, I3.retL k (cut_dp q2 l u)⟩)
    · rename_i ds hd
      cases e
      obtain ⟨a, vs, rfl, q1, q2⟩ := I3.tup (r := ra) (v := v) (by simp) (ds := ds) (by unfold R.tup; rw [hd])
      refine .inl (.inr ⟨a, vs, rfl, q1, fun z => ?_, fun _ => I3.retT k (cut_dp q2 l u)⟩)
      have e2 : cutD ds l u = ds := by
        unfold cutD
        rw [← dpAll_len q2, z.1, z.2]
        simp [dpAll_len q2]
      refine I3.retV k ?_
      rw [e2]
      -- the tuple itself: its data stands in the stable part
      cases hb : ra.obj env' with
      | none => unfold R.dat at hd; rw [hb] at hd; cases hd
      | some b =>
        have hd' := hd
        unfold R.dat at hd'; rw [hb] at hd'
        cases b with
        | val d =>
          cases hd'
          exact (I3.obj (v := .ref a) (r := ra) (by simp) hb).1 _ rfl
        | mu o => cases o <;> cases hd'
        | lk o => cases o <;> cases hd'
    · rename_i x hd
      split at e
      · rename_i hz
        cases e
        exact .inr ⟨x, dp_str (I3.dat (r := ra) (v := v) (by simp) hd), hz, I3.retV k (.str _)⟩
      · cases e
    · cases e

/-! ### displays -/
/-- kept as data: what was one's own is given up -/
def keep (r : R) (env : En) : Option (D × En) := match r with
  | .val d => some (d, env)
  | .new (.lst ds) => some (.list ds, env)
  | .bor i => match env[i]?.join with
    | some (.val d) => some (d, env)
    | some (.mu (.lst ds)) => some (.list ds, env.set i (some (.val (.list ds))))
    | _ => none
  | _ => none
end ML

/-! ML4: what is kept; displays; calls of built-ins by name; methods. -/
namespace ML
open PySem PySem.Spec PyProof.Rows L2

section
variable {F : Fr} {env env' : En} {ops ps : Ops} {G G' H H' : Hp} {σ : St} {v : V} {r : R} {d : D} {Q : VK}
theorem ix_mid (env : En) (o1 o2 : Ops) (v : V) (r r' : R) : ix env (o1 ++ (v, r') :: o2) = fun k => if k = .inr o1.length then r'.toB else ix env (o1 ++ (v, r) :: o2) k := by
  funext k
  cases k with
  | inl i => simp [ix]
  | inr n =>
    by_cases h : n = o1.length
    · subst h; simp [ix]
    · simp only [ix, Sum.inr.injEq, h, if_false]
      by_cases h2 : n < o1.length
      · rw [List.getElem?_append_left h2, List.getElem?_append_left h2]
      · rw [List.getElem?_append_right (by omega), List.getElem?_append_right (by omega)]
        have : n - o1.length = (n - o1.length - 1) + 1 := by omega
        rw [this, List.getElem?_cons_succ, List.getElem?_cons_succ]
theorem ixv_mid (σ : St) (o1 o2 : Ops) (v : V) (r r' : R) : ixv σ (o1 ++ (v, r') :: o2) = ixv σ (o1 ++ (v, r) :: o2) := by
  funext k
  cases k with
  | inl i => rfl
  | inr n =>
    simp only [ixv]
    by_cases h2 : n < o1.length
    · rw [List.getElem?_append_left h2, List.getElem?_append_left h2]
    · rw [List.getElem?_append_right (by omega), List.getElem?_append_right (by omega)]
      cases n - o1.length <;> rfl
theorem ixv_mid_at (σ : St) (o1 o2 : Ops) (v : V) (r : R) : ixv σ (o1 ++ (v, r) :: o2) (.inr o1.length) = some v := by simp [ixv]
theorem mem_mid {o1 o2 : Ops} {p q x : V × R} (h : x ∈ o1 ++ p :: o2) : x = p ∨ x ∈ o1 ++ q :: o2 := by
  simp only [List.mem_append, List.mem_cons] at h ⊢
  rcases h with h | h | h
  · exact .inr (.inl h)
  · exact .inl h
  · exact .inr (.inr (.inr h))
/-- one operand becomes data -/
theorem RepS.keep {o1 o2 : Ops} (I : RepS F env (o1 ++ (v, r) :: o2) G σ H) (e : keep r env = some (d, env')) : ∃ G', Same G G' ∧ RepS F env' (o1 ++ (v, .val d) :: o2) G' σ H := by
  have setV : ∀ {G' : Hp} {en : En}, RepS F en (o1 ++ (v, r) :: o2) G' σ H → Dp F.K G' v d → RepS F en (o1 ++ (v, .val d) :: o2) G' σ H := fun {G' en} J hd => by
    refine ⟨?_, fun w q h => ?_, J.len⟩
    · have J1 := J.rep.addV (j := .inr o1.length) (d := d) (v := v) (fun z => z) hd
      rw [ix_mid en o1 o2 v r (.val d), ixv_mid σ o1 o2 v r (.val d)]
      have e1 : (fun k => if k = Sum.inr o1.length then some v else ixv σ (o1 ++ (v, r) :: o2) k) = ixv σ (o1 ++ (v, r) :: o2) := by
        funext k
        by_cases hk : k = .inr o1.length
        · subst hk; simp [ixv]
        · simp [hk]
      rw [e1] at J1
      exact J1
    · rcases mem_mid (q := (v, r)) h with h | h
      · cases h; trivial
      · exact J.opr w q h
  unfold ML.keep at e
  split at e
  · cases e
    exact ⟨G, Same.refl _, I⟩
  · rename_i ds
    cases e
    obtain ⟨G', s, J⟩ := I.rep.freeze (j := .inr o1.length) (b := .mu (.lst ds)) (ds := ds) (by simp [ix, R.toB]) rfl
    refine ⟨G', s, ?_, fun w q h => ?_, I.len⟩
    · rw [ix_mid env o1 o2 v (.new (.lst ds)) (.val (.list ds)), ixv_mid σ o1 o2 v (.new (.lst ds)) (.val (.list ds))]
      exact J
    · rcases mem_mid (q := (v, R.new (.lst ds))) h with h | h
      · cases h; trivial
      · exact I.opr w q h
  · rename_i i
    split at e
    · rename_i d' hi
      cases e
      have hd := (I.obj (v := v) (r := .bor i) (by simp) (b := .val d) hi).1 d rfl
      exact ⟨G, Same.refl _, setV I hd⟩
    · rename_i ds hi
      cases e
      obtain ⟨G', s, J⟩ := I.rep.freeze (j := .inl i) (b := .mu (.lst ds)) (ds := ds) (by simp [ix, hi]) rfl
      have hσ : σ[i]? = some (some v) := (show σ[i]? = some (some v) ∧ F.cv i = false from I.opr v (.bor i) (by simp)).1
      have hl : i < env.length := by
        rw [← I.len]; exact (List.getElem?_eq_some_iff.mp hσ).1
      have J2 : RepS F (env.set i (some (.val (.list ds)))) (o1 ++ (v, .bor i) :: o2) G' σ H := by
        refine ⟨?_, fun w q h => ?_, by rw [List.length_set]; exact I.len⟩
        · rw [ix_set _ _ _ _ hl]; exact J
        · have q1 := I.opr w q h
          cases q with
          | lkd j o =>
            obtain ⟨q2, q3⟩ := q1
            refine ⟨q2, ?_⟩
            by_cases hj : j = i
            · subst hj; rw [hi] at q3; cases q3
            · rw [List.getElem?_set_ne (Ne.symm hj)]; exact q3
          | bor j => exact q1
          | val d => trivial
          | new o => trivial
      have hd : Dp F.K G' v (.list ds) := (J2.obj (v := v) (r := .bor i) (by simp) (b := .val (.list ds)) (by simp [R.obj, hl])).1 _ rfl
      refine ⟨G', s, ?_, fun w q h => ?_, J2.len⟩
      · have J3 := J2.rep.addV (j := .inr o1.length) (d := .list ds) (v := v) (fun z => z) hd
        rw [ix_mid _ o1 o2 v (.bor i) (.val (.list ds)), ixv_mid σ o1 o2 v (.bor i) (.val (.list ds))]
        have e1 : (fun k => if k = Sum.inr o1.length then some v else ixv σ (o1 ++ (v, R.bor i) :: o2) k) = ixv σ (o1 ++ (v, R.bor i) :: o2) := by
          funext k
          by_cases hk : k = .inr o1.length
          · subst hk; simp [ixv]
          · simp [hk]
        rw [e1] at J3
        exact J3
      · rcases mem_mid (q := (v, R.bor i)) h with h | h
        · cases h; trivial
        · exact J2.opr w q h
    · cases e
  · cases e
def keepAll : List R → En → Option (List D × En)
  | [], env => some ([], env)
  | r :: rs, env => (keep r env).bind fun p => (keepAll rs p.2).map fun q => (p.1 :: q.1, q.2)
def vals : Ops → List D → Ops
  | (v, _) :: ps, d :: ds => (v, .val d) :: vals ps ds
  | _, _ => []
theorem RepS.keeps : ∀ {ps o1 o2 : Ops} {env env' : En} {G : Hp} {ds : List D}, RepS F env (o1 ++ (ps ++ o2)) G σ H → keepAll (ps.map (·.2)) env = some (ds, env') → ∃ G', Same G G' ∧ RepS F env' (o1 ++ (vals ps ds ++ o2)) G' σ H ∧ DpAll F.K G' (ps.map (·.1)) ds
  | [], o1, o2, env, env', G, ds, I, e => by
    cases e
    exact ⟨G, Same.refl _, I, .nil⟩
  | (v, r) :: ps, o1, o2, env, env', G, ds, I, e => by
    obtain ⟨⟨d, e1⟩, h1, h2⟩ := bind_some e
    obtain ⟨⟨ds', e2⟩, h3, h4⟩ := omap_some h2
    cases h4
    obtain ⟨G1, s1, I1⟩ := RepS.keep (o1 := o1) (o2 := ps ++ o2) I h1
    obtain ⟨G2, s2, I2, a2⟩ := RepS.keeps (ps := ps) (o1 := o1 ++ [(v, .val d)]) (o2 := o2) (by simpa using I1) h3
    refine ⟨G2, s1.trans s2, by simpa [vals] using I2, .cons ?_ a2⟩
    exact (I2.obj (v := v) (r := .val d) (by simp) (b := .val d) rfl).1 d rfl
theorem RepS.keeps0 {ds : List D} (I : RepS F env (ops ++ ps) G σ H) (e : keepAll (ps.map (·.2)) env = some (ds, env')) : ∃ G', Same G G' ∧ RepS F env' ops G' σ H ∧ DpAll F.K G' (ps.map (·.1)) ds := by
  obtain ⟨G', s, J, a⟩ := RepS.keeps (ps := ps) (o1 := ops) (o2 := []) (by simpa using I) e
  exact ⟨G', s, J.pop, a⟩
end

section
variable {X : Cx} {F : Fr} {pos : Pos} {e : Expr} {es : List Expr}
def eTup (f : FA) : FE := fun env => (f env).bind fun p => (keepAll p.1 p.2).bind fun q => if q.1.length ≤ sizeLine then some (.val (.tuple q.1), q.2) else none
def eLst (f : FA) : FE := fun env => (f env).bind fun p => (keepAll p.1 p.2).bind fun q => if q.1.length ≤ sizeLine then some (.new (.lst q.1), q.2) else none
theorem me_tup {k} {f : FA} (h : PA X es (tA F f)) : PE X (.Tuple es k pos) (tE F (eTup f)) := (pe_tupF h).wk fun σ H Q ⟨env, ops, G, r, env', I, e, q⟩ => by
  obtain ⟨⟨rs, e1⟩, h1, e⟩ := bind_some e
  obtain ⟨⟨ds, e2⟩, h2, e⟩ := bind_some e
  split at e
  · rename_i hl
    cases e
    refine ⟨env, ops, G, rs, e1, I, h1, fun ps G1 H1 hp s1 I1 => ?_⟩
    subst hp
    obtain ⟨G2, s2, I2, a2⟩ := I1.keeps0 h2
    refine ⟨by rw [dpAll_len a2]; exact hl, fun p q' hq' hp => ?_⟩
    obtain ⟨G3, s3, I3⟩ := I2.pushT hq' hp a2
    exact q _ G3 _ ((s1.trans s2).trans s3) I3
  · cases e
theorem me_lst {f : FA} (h : PA X es (tA F f)) : PE X (.List es pos) (tE F (eLst f)) := (pe_lst h).wk fun σ H Q ⟨env, ops, G, r, env', I, e, q⟩ => by
  obtain ⟨⟨rs, e1⟩, h1, e⟩ := bind_some e
  obtain ⟨⟨ds, e2⟩, h2, e⟩ := bind_some e
  split at e
  · rename_i hl
    cases e
    refine ⟨env, ops, G, rs, e1, I, h1, fun ps G1 H1 hp s1 I1 => ?_⟩
    subst hp
    obtain ⟨G2, s2, I2, a2⟩ := I1.keeps0 h2
    refine ⟨by rw [dpAll_len a2]; exact hl, fun p hp => ?_⟩
    exact q _ G2 _ (s1.trans s2) (I2.pushN (u := .lst ds) hp ⟨_, upd_same, a2⟩)
  · cases e

/-! ### calls of built-ins -/
def eN (g : GN) (f : FA) : FE := fun env => (f env).bind fun p => g p.1 p.2
theorem tE_call {rn : List V → Hp → VK → Prop} {g : GN} {f : FA} (hg : SN F rn g) (σ : St) (H : Hp) (Q : VK) (h : tE F (eN g f) σ H Q) : tCB rn (tA F f) σ H Q := by
  obtain ⟨env, ops, G, r, env', I, e, q⟩ := h
  obtain ⟨⟨rs, e1⟩, h1, h2⟩ := bind_some e
  refine ⟨env, ops, G, rs, e1, I, h1, fun ps G1 H1 hp s1 I1 => ?_⟩
  subst hp
  exact hg e1 ops ps G1 σ H1 r env' Q I1 h2 fun v G' H' s2 I2 => q v G' H' (s1.trans s2) I2
theorem me_callB {rn : List V → Hp → VK → Prop} {g : GN} {f : FA} {id : String} {x : Str} {p : Pos} (hc : CallR X (.builtin id) rn) (hg : SN F rn g) (hG : Gl X x) (hm : X.mg x = none) (hv : bootBuiltins x = some (.builtin id)) (ha : PA X (e :: es) (tA F f)) (hn : x ≠ "__name__" := by decide) (hdb : (x == ("__debug__" : Str)) = false := by decide)
    (he : starEach (e :: es) X.env = (false, eval e X.env) :: starEach es X.env := by rfl) (hpl : (backTo pos (starEach es X.env)).any (·.1) = false := by rfl) : PE X (.Call (.Name x p) (e :: es) [] pos) (tE F (eN g f)) :=
  (pe_callB hc hG hm hv ha hn hdb he hpl).wk (tE_call hg)
theorem me_callTy {rn : List V → Hp → VK → Prop} {g : GN} {f : FA} {T : String} {x : Str} {p : Pos} (hc : CallR X (.type T) rn) (hg : SN F rn g) (hG : Gl X x) (hm : X.mg x = none) (hv : bootBuiltins x = some (.type T)) (ha : PA X (e :: es) (tA F f)) (hn : x ≠ "__name__" := by decide) (hdb : (x == ("__debug__" : Str)) = false := by decide)
    (he : starEach (e :: es) X.env = (false, eval e X.env) :: starEach es X.env := by rfl) (hpl : (backTo pos (starEach es X.env)).any (·.1) = false := by rfl) : PE X (.Call (.Name x p) (e :: es) [] pos) (tE F (eN g f)) :=
  (pe_callTy hc hG hm hv ha hn hdb he hpl).wk (tE_call hg)
/-- a method: the receiver's kind is looked at as it comes -/
def eM (chk : R → En → Bool) (g : GL) (fo : FE) (f : FA) : FE := fun env => (fo env).bind fun p => if chk p.1 p.2 = true then (f p.2).bind fun q => g p.1 q.1 q.2 else none
def SChk (F : Fr) (T : String) (chk : R → En → Bool) : Prop := ∀ env ops x r G σ H, RepS F env (ops ++ [(x, r)]) G σ H → chk r env = true → tyV F.K T x H
theorem tE_meth {T : String} {chk : R → En → Bool} {rm : V → List V → Hp → VK → Prop} {g : GL} {fo : FE} {f : FA} (hk : SChk F T chk) (hg : SM F rm g) (σ : St) (H : Hp) (Q : VK) (h : tE F (eM chk g fo f) σ H Q) : tBM F.K T rm (tE F fo) (tA F f) σ H Q := by
  obtain ⟨env, ops, G, r, env', I, e, q⟩ := h
  obtain ⟨⟨ro, e1⟩, h1, e⟩ := bind_some e
  split at e
  · rename_i hc
    obtain ⟨⟨rs, e2⟩, h2, h3⟩ := bind_some e
    refine ⟨env, ops, G, ro, e1, I, h1, fun x G1 H1 s1 I1 => ?_⟩
    refine ⟨hk _ _ _ _ _ _ _ I1 hc, ?_⟩
    refine ⟨e1, _, G1, rs, e2, I1, h2, fun ps G2 H2 hp s2 I2 => ?_⟩
    subst hp
    exact hg e2 ops x ro ps G2 σ H2 r env' Q (by simpa using I2) h3 fun v G' H' s3 I3 => q v G' H' ((s1.trans s2).trans s3) I3
  · cases e
theorem tE_meth0 {T : String} {chk : R → En → Bool} {rm : V → List V → Hp → VK → Prop} {g : GL} {fo : FE} (hk : SChk F T chk) (hg : SM F rm g) (σ : St) (H : Hp) (Q : VK) (h : tE F (eM chk g fo aNil) σ H Q) : tBM0 F.K T rm (tE F fo) σ H Q := by
  obtain ⟨env, ops, G, r, env', I, e, q⟩ := h
  obtain ⟨⟨ro, e1⟩, h1, e⟩ := bind_some e
  split at e
  · rename_i hc
    obtain ⟨⟨rs, e2⟩, h2, h3⟩ := bind_some e
    cases h2
    refine ⟨env, ops, G, ro, e1, I, h1, fun x G1 H1 s1 I1 => ?_⟩
    refine ⟨hk _ _ _ _ _ _ _ I1 hc, ?_⟩
    exact hg e1 ops x ro [] G1 σ H1 r env' Q (by simpa using I1) h3 fun v G' H' s3 I3 => q v G' H' (s1.trans s3) I3
  · cases e
def chkL (r : R) (env : En) : Bool := (r.lst env).isSome
def chkD (r : R) (env : En) : Bool := (r.dk env).isSome
def chkS (r : R) (env : En) : Bool := r.str.isSome
theorem s_chkL : SChk F "list" chkL := fun env ops x r G σ H I h => by
  obtain ⟨ds, e⟩ := Option.isSome_iff_exists.mp h
  obtain ⟨a, vs, rfl, q1, _⟩ := I.lst (r := r) (v := x) (by simp) e
  exact .inl ⟨rfl, vs, q1⟩
theorem s_chkD : SChk F "dict" chkD := fun env ops x r G σ H I h => by
  obtain ⟨ds, e⟩ := Option.isSome_iff_exists.mp h
  obtain ⟨a, vs, rfl, q1, _⟩ := I.dk (r := r) (v := x) (by simp) e
  exact .inr (.inr (.inl ⟨rfl, .inl ⟨vs, q1⟩⟩))
theorem s_chkS : SChk F "str" chkS := fun env ops x r G σ H I h => by
  obtain ⟨ds, e⟩ := Option.isSome_iff_exists.mp h
  obtain rfl := R.str_eq e
  rw [I.vstr (v := x) (i := ds) (by simp)]
  rfl

/-! ### len, list, tuple, all, any, min -/
theorem map1 {ps : Ops} {r : R} (h : ps.map (·.2) = [r]) : ∃ v, ps = [(v, r)] := by
  match ps, h with
  | [(v, r')], h => simp at h; subst h; exact ⟨v, rfl⟩
theorem map2 {ps : Ops} {r s : R} (h : ps.map (·.2) = [r, s]) : ∃ v w, ps = [(v, r), (w, s)] := by
  match ps, h with
  | [(v, r'), (w, s')], h => simp at h; obtain ⟨rfl, rfl⟩ := h; exact ⟨v, w, rfl⟩
theorem map0 {ps : Ops} (h : ps.map (·.2) = []) : ps = [] := by simpa using h
def n1 (g : R → En → Option (R × En)) : GN := fun rs env => match rs with | [r] => g r env | _ => none
def n2 (g : R → R → En → Option (R × En)) : GN := fun rs env => match rs with | [r, s] => g r s env | _ => none
theorem sn1 {rn : List V → Hp → VK → Prop} {g : R → En → Option (R × En)} (h : ∀ env ops x ra G σ H r env' Q, RepS F env (ops ++ [(x, ra)]) G σ H → g ra env = some (r, env') → Cont F ops G σ r env' Q → rn [x] H Q) : SN F rn (n1 g) := by
  intro env ops ps G σ H r env' Q I e k
  unfold n1 at e
  split at e
  · rename_i ra hp
    obtain ⟨x, rfl⟩ := map1 hp
    exact h env ops x ra G σ H r env' Q I e k
  · cases e
theorem sn2 {rn : List V → Hp → VK → Prop} {g : R → R → En → Option (R × En)} (h : ∀ env ops x y ra rb G σ H r env' Q, RepS F env (ops ++ [(x, ra), (y, rb)]) G σ H → g ra rb env = some (r, env') → Cont F ops G σ r env' Q → rn [x, y] H Q) : SN F rn (n2 g) := by
  intro env ops ps G σ H r env' Q I e k
  unfold n2 at e
  split at e
  · rename_i ra rb hp
    obtain ⟨x, y, rfl⟩ := map2 hp
    exact h env ops x y ra rb G σ H r env' Q I e k
  · cases e
def rLenA (K : PySem.W.Frag) : List V → Hp → VK → Prop := fun xs H Q => (∃ x n, xs = [x] ∧ LenV K x H n ∧ Q (.int n) H) ∨ ∃ a kvs, xs = [.ref a] ∧ H a = some (.dK kvs) ∧ Q (.int kvs.length) H
theorem call_lenA : CallR X (.builtin "len") (rLenA X.K) := by
  intro pins s σ H xs us Q I r h
  rcases h with h | ⟨a, kvs, rfl, e, q⟩
  · exact call_len pins s σ H xs us Q I r h
  · rw [Vals.ref1 r]
    exact d_len I (.inl e) fun t s' I' => ⟨.int kvs.length, H, I', ⟨t, rfl⟩, q⟩
def gLen : GN := n1 fun r env => match r.dat env with
  | some (.list ds) => some (.val (.int ds.length), env)
  | some (.tuple ds) => some (.val (.int ds.length), env)
  | some (.str x) => if x.length ≤ sizeLine then some (.val (.int x.length), env) else none
  | some _ => none
  | none => (r.dk env).map fun kvs => (.val (.int kvs.length), env)
theorem kvr_len {K : PySem.W.Frag} {G : Hp} : ∀ {ws : List (Key × V)} {kvs : List (Key × D)}, KVr K G ws kvs → ws.length = kvs.length
  | _, _, .nil => rfl
  | _, _, .cons _ t => congrArg (· + 1) (kvr_len t)
theorem s_len : SN F (rLenA F.K) gLen := sn1 fun env ops x ra G σ H r env' Q I e k => by
  split at e
  · rename_i ds h
    cases e
    obtain ⟨a, vs, rfl, q1, q2⟩ := I.lst (r := ra) (v := x) (by simp) (ds := ds) (by unfold R.lst; rw [h])
    exact .inl ⟨_, _, rfl, .inl ⟨vs, q1, rfl⟩, by rw [dpAll_len q2]; exact I.retV k (.int _)⟩
  · rename_i ds h
    cases e
    obtain ⟨a, vs, rfl, q1, q2⟩ := I.tup (r := ra) (v := x) (by simp) (ds := ds) (by unfold R.tup; rw [h])
    exact .inl ⟨_, _, rfl, .inr ⟨vs, q1, rfl⟩, by rw [dpAll_len q2]; exact I.retV k (.int _)⟩
  · rename_i z h
    split at e
    · rename_i hz
      cases e
      obtain rfl := dp_str (I.dat (r := ra) (v := x) (by simp) h)
      exact .inl ⟨_, _, rfl, ⟨hz, rfl⟩, I.retV k (.int _)⟩
    · cases e
  · cases e
  · obtain ⟨kvs, h1, h2⟩ := omap_some e
    cases h2
    obtain ⟨a, ws, rfl, q1, q2⟩ := I.dk (r := ra) (v := x) (by simp) h1
    exact .inr ⟨a, ws, rfl, q1, by rw [kvr_len q2]; exact I.retV k (.int _)⟩
def seqOf (r : R) (env : En) : Option (List D) := match r.dat env with
  | some (.list ds) => some ds
  | some (.tuple ds) => some ds
  | _ => none
theorem RepS.seq {env : En} {ops : Ops} {G H : Hp} {σ : St} {v : V} {r : R} {ds : List D} (I : RepS F env ops G σ H) (hk : (v, r) ∈ ops) (e : seqOf r env = some ds) : ∃ a vs, v = .ref a ∧ (SqL F.K H a vs ∨ SqT F.K H a vs) ∧ DpAll F.K G vs ds := by
  unfold seqOf at e
  split at e
  · rename_i ds' h
    cases e
    obtain ⟨a, vs, rfl, q1, q2⟩ := I.lst (r := r) (v := v) hk (ds := ds) (by unfold R.lst; rw [h])
    exact ⟨a, vs, rfl, .inl q1, q2⟩
  · rename_i ds' h
    cases e
    obtain ⟨a, vs, rfl, q1, q2⟩ := I.tup (r := r) (v := v) hk (ds := ds) (by unfold R.tup; rw [h])
    exact ⟨a, vs, rfl, .inr q1, q2⟩
  · cases e
def gList : GN := n1 fun r env => (seqOf r env).map fun ds => (.new (.lst ds), env)
theorem s_list : SN F (fun xs H Q => ∃ p ys, xs = [.ref p] ∧ (SqL F.K H p ys ∨ SqT F.K H p ys) ∧ ∀ l, H l = none → Q (.ref l) (upd H l (.lst ys))) gList := sn1 fun env ops x ra G σ H r env' Q I e k => by
  obtain ⟨ds, h1, h2⟩ := omap_some e
  cases h2
  obtain ⟨a, vs, rfl, q1, q2⟩ := I.seq (r := ra) (v := x) (by simp) h1
  exact ⟨a, vs, rfl, q1, I.retL k q2⟩
def gTuple : GN := n1 fun r env => (seqOf r env).map fun ds => (.val (.tuple ds), env)
theorem s_tuple : SN F (fun xs H Q => ∃ p ys, xs = [.ref p] ∧ ((SqL F.K H p ys ∧ L2.tupQ H Q ys) ∨ (SqT F.K H p ys ∧ Q (.ref p) H))) gTuple := sn1 fun env ops x ra G σ H r env' Q I e k => by
  obtain ⟨ds, h1, h2⟩ := omap_some e
  cases h2
  unfold seqOf at h1
  split at h1
  · rename_i ds' h
    cases h1
    obtain ⟨a, vs, rfl, q1, q2⟩ := I.lst (r := ra) (v := x) (by simp) (ds := ds) (by unfold R.lst; rw [h])
    exact ⟨a, vs, rfl, .inl ⟨q1, I.retT k q2⟩⟩
  · rename_i ds' h
    cases h1
    obtain ⟨a, vs, rfl, q1, q2⟩ := I.tup (r := ra) (v := x) (by simp) (ds := ds) (by unfold R.tup; rw [h])
    have hd : Dp F.K G (.ref a) (.tuple ds) := by
      cases hb : ra.obj env with
      | none => unfold R.dat at h; rw [hb] at h; cases h
      | some b =>
        have hd' := h
        unfold R.dat at hd'; rw [hb] at hd'
        cases b with
        | val d =>
          cases hd'
          exact (I.obj (v := .ref a) (r := ra) (by simp) hb).1 _ rfl
        | mu o => cases o <;> cases hd'
        | lk o => cases o <;> cases hd'
    exact ⟨a, vs, rfl, .inr ⟨q1, I.retV k hd⟩⟩
  · cases h1
/-- all are truths -/
def bools : List D → Option (List Bool)
  | [] => some []
  | .bool b :: ds => (bools ds).map (b :: ·)
  | _ => none
theorem bools_eq : ∀ {ds : List D} {bs : List Bool}, bools ds = some bs → ds = bs.map PyData.bool
  | [], bs, h => by cases h; rfl
  | .bool b :: ds, bs, h => by
    obtain ⟨bs', h1, h2⟩ := omap_some (show (bools ds).map (b :: ·) = some bs from h)
    subst h2
    rw [bools_eq h1]; rfl
  | .none :: ds, bs, h => by cases h
  | .int _ :: ds, bs, h => by cases h
  | .str _ :: ds, bs, h => by cases h
  | .list _ :: ds, bs, h => by cases h
  | .tuple _ :: ds, bs, h => by cases h
  | .dict _ :: ds, bs, h => by cases h
def intsOf : List D → Option (List Int)
  | [] => some []
  | .int b :: ds => (intsOf ds).map (b :: ·)
  | _ => none
theorem intsOf_eq : ∀ {ds : List D} {bs : List Int}, intsOf ds = some bs → ds = bs.map PyData.int
  | [], bs, h => by cases h; rfl
  | .int b :: ds, bs, h => by
    obtain ⟨bs', h1, h2⟩ := omap_some (show (intsOf ds).map (b :: ·) = some bs from h)
    subst h2
    rw [intsOf_eq h1]; rfl
  | .none :: ds, bs, h => by cases h
  | .bool _ :: ds, bs, h => by cases h
  | .str _ :: ds, bs, h => by cases h
  | .list _ :: ds, bs, h => by cases h
  | .tuple _ :: ds, bs, h => by cases h
  | .dict _ :: ds, bs, h => by cases h
def gAll : GN := n1 fun r env => (r.lst env).bind fun ds => (bools ds).map fun bs => (.val (.bool (bs.all id)), env)
theorem s_all : SN F (rAll F.K) gAll := sn1 fun env ops x ra G σ H r env' Q I e k => by
  obtain ⟨ds, h1, e⟩ := bind_some e
  obtain ⟨bs, h2, h3⟩ := omap_some e
  cases h3
  obtain ⟨a, vs, rfl, q1, q2⟩ := I.lst (r := ra) (v := x) (by simp) h1
  rw [bools_eq h2] at q2
  rw [dpAll_bls q2] at q1
  exact ⟨a, bs, rfl, q1, I.retV k (.bl _)⟩

/-! ### sorted of intsOf -/
def insI (x : Int) : List Int → List Int
  | [] => [x]
  | y :: r => if x ≤ y then x :: y :: r else y :: insI x r
def isort : List Int → List Int
  | [] => []
  | x :: r => insI x (isort r)
theorem insI_perm (x : Int) : ∀ l : List Int, (insI x l).Perm (x :: l)
  | [] => .refl _
  | y :: r => by
    unfold insI
    split
    · exact .refl _
    · exact ((insI_perm x r).cons y).trans (.swap x y r)
theorem isort_perm : ∀ l : List Int, (isort l).Perm l
  | [] => .refl _
  | x :: r => (insI_perm x _).trans ((isort_perm r).cons x)
theorem insI_sorted (x : Int) : ∀ l : List Int, l.Pairwise (· ≤ ·) → (insI x l).Pairwise (· ≤ ·)
  | [], _ => by simp [insI]
  | y :: r, h => by
    unfold insI
    rw [List.pairwise_cons] at h
    split
    · rename_i hx
      refine List.pairwise_cons.mpr ⟨fun z hz => ?_, List.pairwise_cons.mpr h⟩
      rcases List.mem_cons.mp hz with rfl | hz
      · exact hx
      · exact Int.le_trans hx (h.1 z hz)
    · rename_i hx
      refine List.pairwise_cons.mpr ⟨fun z hz => ?_, insI_sorted x r h.2⟩
      have := (insI_perm x r).mem_iff.mp hz
      rcases List.mem_cons.mp this with rfl | hz
      · omega
      · exact h.1 z hz
theorem isort_sorted : ∀ l : List Int, (isort l).Pairwise (· ≤ ·)
  | [] => .nil
  | x :: r => insI_sorted x _ (isort_sorted r)
theorem isort_of {ns ms : List Int} (h : ns.Perm ms) (s : ns.Pairwise (· ≤ ·)) : ns = isort ms :=
  (h.trans (isort_perm ms).symm).eq_of_pairwise (fun x y _ _ h1 h2 => Int.le_antisymm h1 h2) s (isort_sorted ms)
/-- rising, each once -/
def insU (x : Int) : List Int → List Int
  | [] => [x]
  | y :: r => if x < y then x :: y :: r else if x = y then y :: r else y :: insU x r
def usort : List Int → List Int
  | [] => []
  | x :: r => insU x (usort r)
theorem insU_mem (x z : Int) : ∀ l : List Int, z ∈ insU x l ↔ z = x ∨ z ∈ l
  | [] => by simp [insU]
  | y :: r => by
    unfold insU
    split
    · simp
    · split
      · rename_i h; subst h; simp
      · simp only [List.mem_cons, insU_mem x z r]
        constructor
        · rintro (h | h | h) <;> simp [h]
        · rintro (h | h | h) <;> simp [h]
theorem usort_mem (z : Int) : ∀ l : List Int, z ∈ usort l ↔ z ∈ l
  | [] => by simp [usort]
  | x :: r => by rw [usort, insU_mem, usort_mem z r, List.mem_cons]
theorem insU_sorted (x : Int) : ∀ l : List Int, l.Pairwise (· < ·) → (insU x l).Pairwise (· < ·)
  | [], _ => by simp [insU]
  | y :: r, h => by
    unfold insU
    have h' := List.pairwise_cons.mp h
    split
    · rename_i hx
      refine List.pairwise_cons.mpr ⟨fun z hz => ?_, h⟩
      rcases List.mem_cons.mp hz with rfl | hz
      · exact hx
      · exact Int.lt_trans hx (h'.1 z hz)
    · split
      · exact h
      · rename_i hx hn
        refine List.pairwise_cons.mpr ⟨fun z hz => ?_, insU_sorted x r h'.2⟩
        rcases (insU_mem x z r).mp hz with rfl | hz
        · omega
        · exact h'.1 z hz
theorem usort_sorted : ∀ l : List Int, (usort l).Pairwise (· < ·)
  | [] => .nil
  | x :: r => insU_sorted x _ (usort_sorted r)
theorem rising_eq : ∀ {a b : List Int}, a.Pairwise (· < ·) → b.Pairwise (· < ·) → (∀ x, x ∈ a ↔ x ∈ b) → a = b
  | [], [], _, _, _ => rfl
  | [], y :: b, _, _, h => by have := (h y).mpr (by simp); simp at this
  | x :: a, [], _, _, h => by have := (h x).mp (by simp); simp at this
  | x :: a, y :: b, ha, hb, h => by
    have ha' := List.pairwise_cons.mp ha
    have hb' := List.pairwise_cons.mp hb
    have e : x = y := by
      rcases List.mem_cons.mp ((h x).mp (by simp)) with e | e
      · exact e
      · rcases List.mem_cons.mp ((h y).mpr (by simp)) with e2 | e2
        · exact e2.symm
        · have := ha'.1 y e2
          have := hb'.1 x e
          omega
    subst e
    congr 1
    refine rising_eq ha'.2 hb'.2 fun z => ?_
    have q := h z
    simp only [List.mem_cons] at q
    constructor
    · intro hz
      rcases q.mp (.inr hz) with rfl | h2
      · have := ha'.1 z hz; omega
      · exact h2
    · intro hz
      rcases q.mpr (.inr hz) with rfl | h2
      · have := hb'.1 z hz; omega
      · exact h2
theorem usort_of {ns ms : List Int} (s : ns.Pairwise (· < ·)) (h : ∀ x, x ∈ ns ↔ x ∈ ms) : ns = usort ms :=
  rising_eq s (usort_sorted ms) fun x => by rw [h, usort_mem]
theorem rising_nodup {a : List Int} (h : a.Pairwise (· < ·)) : a.Nodup := List.Pairwise.imp (fun h => Int.ne_of_lt h) h
def keyInts : List (Key × D) → Option (List Int)
  | [] => some []
  | (.inl i, _) :: r => (keyInts r).map (i :: ·)
  | _ => none
theorem keyInts_eq : ∀ {kvs : List (Key × D)} {ns : List Int}, keyInts kvs = some ns → kvs.map (·.1) = ns.map Sum.inl
  | [], ns, h => by cases h; rfl
  | (.inl i, d) :: r, ns, h => by
    obtain ⟨ns', h1, h2⟩ := omap_some (show (keyInts r).map (i :: ·) = some ns from h)
    subst h2
    simp [keyInts_eq h1]
  | (.inr _, _) :: r, ns, h => by cases h
theorem kvr_keys {K : PySem.W.Frag} {G : Hp} : ∀ {ws : List (Key × V)} {kvs : List (Key × D)}, KVr K G ws kvs → ws.map (·.1) = kvs.map (·.1)
  | _, _, .nil => rfl
  | _, _, .cons r t => by simp only [List.map_cons]; rw [kvr_keys t, r.1]
def rSortedA (K : PySem.W.Frag) (w : World) : List V → Hp → VK → Prop := fun xs H Q => (rSortedI K xs H Q ∨ rSortedSet w xs H Q) ∨
  (∃ (a : Addr) (kvs : List (Key × V)) (ks : List Int), xs = [.ref a] ∧ Rd H a (.dK kvs) ∧ kvs.map (·.1) = ks.map Sum.inl ∧ ks.length < 64 ∧ ∀ (ys : List Int) (p : Addr), ys.Perm ks → ys.Pairwise (· ≤ ·) → H p = none → Q (.ref p) (upd H p (.lst (ys.map V.int))))
theorem call_sortedA (hc : X.calm = true) : CallR X (.builtin "sorted") (rSortedA X.K X.w) := (cr_sortedI.or (cr_sortedSet hc)).or (call_sortedDI hc)
def gSorted : GN := n1 fun r env => match r.ownO env with
  | some (.sI ns) => if ns.length < 64 then some (.new (.lst ((usort ns).map .int)), env) else none
  | some (.dK kvs) => (keyInts kvs).bind fun ks => if ks.length < 64 then some (.new (.lst ((isort ks).map .int)), env) else none
  | _ => (r.lst env).bind fun ds => (intsOf ds).map fun ns => (.new (.lst ((isort ns).map .int)), env)
theorem s_sorted : SN F (rSortedA F.K F.w) gSorted := sn1 fun env ops x ra G σ H r env' Q I e k => by
  split at e
  · rename_i ns h
    split at e
    · rename_i hl
      cases e
      obtain ⟨a, rfl, ⟨q1, q2⟩, _⟩ := I.ownO (r := ra) (v := x) (by simp) h
      refine .inl (.inr ⟨a, _, _, rfl, q1, hl, fun ms p h1 h2 h3 hp => ?_⟩)
      have e : ms = usort ns := usort_of h1 fun z => by rw [h2]; simp
      subst e
      exact I.retL k (dpAll_of_ints _) p hp
    · cases e
  · rename_i kvs h
    obtain ⟨ks, h1, e⟩ := bind_some e
    split at e
    · rename_i hl
      cases e
      obtain ⟨a, rfl, ⟨ws, q1, q2⟩, _⟩ := I.ownO (r := ra) (v := x) (by simp) h
      refine .inr ⟨a, ws, ks, rfl, .inl q1, by rw [kvr_keys q2]; exact keyInts_eq h1, hl, fun ms p h1 h2 hp => ?_⟩
      obtain rfl := isort_of h1 h2
      exact I.retL k (dpAll_of_ints _) p hp
    · cases e
  · obtain ⟨ds, h1, e⟩ := bind_some e
    obtain ⟨ns, h2, h3⟩ := omap_some e
    cases h3
    obtain ⟨a, vs, rfl, q1, q2⟩ := I.lst (r := ra) (v := x) (by simp) h1
    rw [intsOf_eq h2] at q2
    rw [dpAll_ints q2] at q1
    refine .inl (.inl ⟨a, ns, rfl, q1, fun ms p h1 h2 hp => ?_⟩)
    obtain rfl := isort_of h1 h2
    exact I.retL k (dpAll_of_ints _) p hp
end
end ML

/-! ML5: statements, loops, a def's body, the call of a def. -/
namespace ML
open PySem PySem.Spec PyProof.Rows L2

inductive Fl where
  | nx | bk | ct | rt (r : R)
abbrev FS := En → Option (Fl × En)
def NoBor (ops : Ops) : Prop := ∀ v i, (v, R.bor i) ∉ ops
theorem NoBor.app {a b : Ops} (h : NoBor a) (h' : NoBor b) : NoBor (a ++ b) := fun v i hm => (List.mem_append.mp hm).elim (h v i) (h' v i)
/-- what is wanted behind a statement that ends so -/
def FlOk (F : Fr) (D : Ends) (ops : Ops) (G : Hp) (fl : Fl) (env' : En) : Prop := ∀ σ' G' H', Same G G' → match fl with
  | .nx => RepS F env' ops G' σ' H' → D.nx σ' H'
  | .bk => RepS F env' ops G' σ' H' → D.bk σ' H'
  | .ct => RepS F env' ops G' σ' H' → D.ct σ' H'
  | .rt r => ∀ v, RepS F env' (ops ++ [(v, r)]) G' σ' H' → D.rt v H'
def tS (F : Fr) (f : FS) : TS := fun D σ H => ∃ env ops G fl env', NoBor ops ∧ RepS F env ops G σ H ∧ f env = some (fl, env') ∧ FlOk F D ops G fl env'
theorem FlOk.mono {F : Fr} {D : Ends} {ops : Ops} {G G1 : Hp} {fl : Fl} {env' : En} (h : FlOk F D ops G fl env') (s : Same G G1) : FlOk F D ops G1 fl env' := fun σ' G' H' s' => h σ' G' H' (s.trans s')
section
variable {X : Cx} {F : Fr} {pos : Pos} {e : Expr} {es : List Expr} {st : Stmt} {rest : List Stmt} {f g : FS}

def sNil : FS := fun env => some (.nx, env)
def sSeq (f g : FS) : FS := fun env => (f env).bind fun p => match p.1 with
  | .nx => g p.2
  | fl => some (fl, p.2)
theorem mss_nil : PSs X [] (tS F sNil) := pss_nil.wk fun D σ H ⟨env, ops, G, fl, env', nb, I, e, k⟩ => by
  cases e
  exact k σ G H (Same.refl _) I
theorem mss_one (h : PS X st (tS F f)) : PSs X [st] (tS F f) := pss_one h
theorem mss_cons (h : PS X st (tS F f)) (hr : PSs X rest (tS F g)) : PSs X (st :: rest) (tS F (sSeq f g)) := (pss_cons h hr).wk fun D σ H ⟨env, ops, G, fl, env', nb, I, e, k⟩ => by
  obtain ⟨⟨fl1, e1⟩, h1, h2⟩ := bind_some e
  refine ⟨env, ops, G, fl1, e1, nb, I, h1, fun σ' G' H' s => ?_⟩
  cases fl1 with
  | nx => exact fun I' => ⟨e1, ops, G', fl, env', nb, I', h2, k.mono s⟩
  | bk => cases h2; exact fun I' => k σ' G' H' s I'
  | ct => cases h2; exact fun I' => k σ' G' H' s I'
  | rt r => cases h2; exact fun v I' => k σ' G' H' s v I'
theorem ms_pass : PS X (.Pass pos) (tS F sNil) := ps_pass.wk fun D σ H ⟨env, ops, G, fl, env', nb, I, e, k⟩ => by
  cases e
  exact k σ G H (Same.refl _) I
def sBk : FS := fun env => some (.bk, env)
def sCt : FS := fun env => some (.ct, env)
theorem ms_break : PS X (.Break pos) (tS F sBk) := ps_break.wk fun D σ H ⟨env, ops, G, fl, env', nb, I, e, k⟩ => by
  cases e
  exact k σ G H (Same.refl _) I
theorem ms_continue : PS X (.Continue pos) (tS F sCt) := ps_continue.wk fun D σ H ⟨env, ops, G, fl, env', nb, I, e, k⟩ => by
  cases e
  exact k σ G H (Same.refl _) I
def sIf (t : FT) (f g : FS) : FS := fun env => (t env).bind fun p => if p.1 = true then f p.2 else g p.2
theorem ms_if {c : Expr} {a b : List Stmt} {t : FT} (hc : PT X c (tT F t)) (ha : PSs X a (tS F f)) (hb : PSs X b (tS F g)) : PS X (.If c a b pos) (tS F (sIf t f g)) := (ps_if hc ha hb).wk fun D σ H ⟨env, ops, G, fl, env', nb, I, e, k⟩ => by
  obtain ⟨⟨k1, e1⟩, h1, h2⟩ := bind_some e
  refine ⟨env, ops, G, k1, e1, I, h1, fun G1 H1 s1 I1 => ?_⟩
  cases k1 with
  | true => exact ⟨e1, ops, G1, fl, env', nb, I1, h2, k.mono s1⟩
  | false => exact ⟨e1, ops, G1, fl, env', nb, I1, h2, k.mono s1⟩
def sExpr (f : FE) : FS := fun env => (f env).map fun p => (.nx, p.2)
theorem ms_expr {f : FE} (h : PE X e (tE F f)) (hs : swapsWith e none pos.line X.env = pure false := by rfl) : PS X (.Expr e pos) (tS F (sExpr f)) := (ps_expr h hs).wk fun D σ H ⟨env, ops, G, fl, env', nb, I, e, k⟩ => by
  obtain ⟨⟨r, e1⟩, h1, h2⟩ := omap_some e
  cases h2
  exact ⟨env, ops, G, r, e1, I, h1, fun v G1 H1 s1 I1 => k σ G1 H1 s1 I1.pop⟩
/-- never come to -/
def sNever : FS := fun _ => none
theorem ms_never : PS X st (tS F sNever) := ps_never.wk fun D σ H ⟨env, ops, G, fl, env', nb, I, e, k⟩ => by cases e
theorem mss_never {sts : List Stmt} : PSs X sts (tS F sNever) := pss_never.wk fun D σ H ⟨env, ops, G, fl, env', nb, I, e, k⟩ => by cases e

/-! ### return -/
def sRet (np : Nat) (f : FE) : FS := fun env => (f env).bind fun p => match p.1 with
  | .val d => some (.rt (.val d), p.2)
  | .new o => some (.rt (.new o), p.2)
  | .bor i => if np ≤ i then (match p.2[i]?.join with
    | some (.mu o) => some (.rt (.new o), p.2.set i none)
    | _ => none) else none
  | _ => none
theorem RepS.move {env : En} {ops : Ops} {G H : Hp} {σ : St} {v : V} {i : Nat} {o : O} (I : RepS F env (ops ++ [(v, .bor i)]) G σ H) (nb : NoBor ops) (hi : env[i]?.join = some (.mu o)) (hp : F.args.length ≤ i) :
    RepS F (env.set i none) (ops ++ [(v, .new o)]) G σ H := by
  have hσ : σ[i]? = some (some v) := (show σ[i]? = some (some v) ∧ F.cv i = false from I.opr v (.bor i) (by simp)).1
  have hl : i < env.length := by
    rw [← I.len]; exact (List.getElem?_eq_some_iff.mp hσ).1
  refine ⟨?_, fun w q hq => ?_, by rw [List.length_set]; exact I.len⟩
  · have npar : ¬ F.par (.inl i) := fun z => by
      have z : i < F.args.length := z
      omega
    rw [ix_snoc, ix_set _ _ _ _ hl, ixv_snoc]
    refine I.rep.re (fun k => if k = .inr ops.length then .inl i else k) (fun k b e => ?_) (fun j j' b b' e e' q => ?_) (fun j w e => ?_)
    · by_cases h1 : k = .inr ops.length
      · simp only [h1, if_true] at e ⊢
        have e : some (B.mu o) = some b := e
        cases e
        exact ⟨by simp [ix, hi], by simp [ixv, hσ], fun z => (npar z).elim⟩
      · simp only [h1, if_false] at e ⊢
        by_cases h2 : k = .inl i
        · simp only [h2, if_true] at e; cases e
        · simp only [h2, if_false] at e
          refine ⟨?_, ?_, id⟩
          · rw [ix_snoc]; simp only [h1, if_false]; exact e
          · rw [ixv_snoc]; simp only [h1, if_false]
    · by_cases h1 : j = .inr ops.length
      · by_cases h2 : j' = .inr ops.length
        · rw [h1, h2]
        · simp only [h1, h2, if_true, if_false] at q e'
          rw [← q] at e'
          simp at e'
      · by_cases h2 : j' = .inr ops.length
        · simp only [h1, h2, if_true, if_false] at q e
          rw [q] at e
          simp at e
        · simp only [h1, h2, if_false] at q; exact q
    · have := I.rep.par j w e
      rw [ixv_snoc] at this
      simpa using this
  · rcases List.mem_append.mp hq with h | h
    · have q1 := I.opr w q (List.mem_append_left _ h)
      cases q with
      | lkd j u =>
        obtain ⟨q2, q3⟩ := q1
        refine ⟨q2, ?_⟩
        by_cases hj : j = i
        · subst hj; rw [hi] at q3; cases q3
        · rw [List.getElem?_set_ne (Ne.symm hj)]; exact q3
      | bor j => exact absurd h (nb w j)
      | val d => trivial
      | new o => trivial
    · simp at h; obtain ⟨rfl, rfl⟩ := h; trivial
theorem ms_ret {np : Nat} {f : FE} (hnp : F.args.length = np) (h : PE X e (tE F f)) : PS X (.Return (some e) pos) (tS F (sRet np f)) := (ps_ret h).wk fun D σ H ⟨env, ops, G, fl, env', nb, I, e, k⟩ => by
  obtain ⟨⟨r, e1⟩, h1, h2⟩ := bind_some e
  refine ⟨env, ops, G, r, e1, I, h1, fun v G1 H1 s1 I1 => ?_⟩
  cases r with
  | val d => cases h2; exact k σ G1 H1 s1 v I1
  | new o => cases h2; exact k σ G1 H1 s1 v I1
  | lkd i o => cases h2
  | bor i =>
    have h2 : (if np ≤ i then (match e1[i]?.join with
      | some (.mu o) => some (Fl.rt (.new o), e1.set i none)
      | _ => none) else none) = some (fl, env') := h2
    split at h2
    · rename_i hp
      split at h2
      · rename_i o ho
        cases h2
        exact k σ G1 H1 s1 v (I1.move nb ho (by omega))
      · cases h2
    · cases h2
def sRetN : FS := fun env => some (.rt (.val .none), env)
theorem ms_retN : PS X (.Return none pos) (tS F sRetN) := ps_retN.wk fun D σ H ⟨env, ops, G, fl, env', nb, I, e, k⟩ => by
  cases e
  exact k σ G H (Same.refl _) .non (I.pushV .non)

/-! ### stores -/
/-- no operand that stands in a slot is left -/
def norm (r : R) (env : En) : Option (R × En) := match r with
  | .val d => some (.val d, env)
  | .new o => some (.new o, env)
  | .bor i => (keep (.bor i) env).map fun p => (.val p.1, p.2)
  | .lkd _ _ => none
def put (np i : Nat) (r : R) (env : En) : Option En := if i < np then none else if i < env.length then (match env[i]?.join with
  | some (.lk _) => none
  | _ => (match r with
    | .val d => some (env.set i (some (.val d)))
    | .new o => some (env.set i (some (.mu o)))
    | _ => none)) else none
theorem RepS.norm {env env' : En} {o1 o2 : Ops} {G H : Hp} {σ : St} {v : V} {r r' : R} (I : RepS F env (o1 ++ (v, r) :: o2) G σ H) (e : norm r env = some (r', env')) : ∃ G', Same G G' ∧ RepS F env' (o1 ++ (v, r') :: o2) G' σ H ∧ (∀ i, r' ≠ .bor i) := by
  unfold ML.norm at e
  cases r with
  | val d => cases e; exact ⟨G, Same.refl _, I, fun i h => nomatch h⟩
  | new o => cases e; exact ⟨G, Same.refl _, I, fun i h => nomatch h⟩
  | lkd i o => cases e
  | bor i =>
    obtain ⟨⟨d, e1⟩, h1, h2⟩ := omap_some e
    cases h2
    obtain ⟨G', s, J⟩ := I.keep h1
    exact ⟨G', s, J, fun i h => nomatch h⟩
/-- the last operand goes to its slot -/
theorem RepS.put {env env' : En} {ops : Ops} {G H : Hp} {σ : St} {v : V} {r : R} {i np : Nat} (I : RepS F env (ops ++ [(v, r)]) G σ H) (hnp : F.args.length = np) (nb : ∀ w, (w, R.bor i) ∉ ops) (e : put np i r env = some env') :
    RepS F env' ops G (σ.set i (some v)) H := by
  unfold ML.put at e
  split at e
  · cases e
  rename_i hp
  split at e
  case isFalse => cases e
  rename_i hl
  have key : (∃ b, r.toB = some b ∧ env' = env.set i (some b)) ∧ ∀ o, env[i]?.join ≠ some (.lk o) := by
    split at e
    · cases e
    · rename_i hk
      refine ⟨?_, fun o z => hk o z⟩
      split at e <;> first | (cases e; exact ⟨_, rfl, rfl⟩) | cases e
  obtain ⟨⟨b, hb, rfl⟩, nlk⟩ := key
  have hlσ : i < σ.length := by rw [I.len]; exact hl
  refine ⟨?_, fun w q hq => ?_, by rw [List.length_set, List.length_set]; exact I.len⟩
  · have npar : ¬ F.par (.inl i) := fun z => by
      have z : i < F.args.length := z
      omega
    rw [ix_set _ _ _ _ hl, ixv_set _ _ _ _ hlσ]
    refine I.rep.re (fun k => if k = .inl i then .inr ops.length else k) (fun k c e => ?_) (fun j j' c c' e e' q => ?_) (fun j w e => ?_)
    · by_cases h1 : k = .inl i
      · subst h1
        simp only [if_true] at e ⊢
        cases e
        exact ⟨by simp [ix, hb], by simp [ixv], fun z => z.elim⟩
      · simp only [h1, if_false] at e ⊢
        have h2 : k ≠ .inr ops.length := by
          rintro rfl
          simp [ix] at e
        refine ⟨?_, ?_, id⟩
        · rw [ix_snoc]; simp only [h2, if_false]; exact e
        · rw [ixv_snoc]; simp only [h2, if_false]
    · have off : ∀ {k : Ix} {c : B}, ¬ k = .inl i → (if k = .inl i then some b else ix env ops k) = some c → k ≠ .inr ops.length := fun {k c} h1 e => by
        rintro rfl
        simp [ix] at e
      by_cases h1 : j = .inl i
      · by_cases h2 : j' = .inl i
        · rw [h1, h2]
        · simp only [h1, h2, if_true, if_false] at q
          exact absurd q.symm (off h2 e')
      · by_cases h2 : j' = .inl i
        · simp only [h1, h2, if_true, if_false] at q
          exact absurd q (off h1 e)
        · simp only [h1, h2, if_false] at q; exact q
    · have hj : j < F.args.length := (List.getElem?_eq_some_iff.mp e).1
      have h1 : (Sum.inl j : Ix) ≠ .inl i := by
        intro z; cases z; omega
      have := I.rep.par j w e
      rw [ixv_snoc] at this
      simp only [h1, if_false]
      simpa using this
  · have q1 := I.opr w q (List.mem_append_left _ hq)
    cases q with
    | lkd j u =>
      obtain ⟨q2, q3⟩ := q1
      have hj : j ≠ i := by
        rintro rfl
        exact nlk u q3
      refine ⟨?_, ?_⟩
      · rw [List.getElem?_set_ne (Ne.symm hj)]; exact q2
      · rw [List.getElem?_set_ne (Ne.symm hj)]; exact q3
    | bor j =>
      have hj : j ≠ i := by
        rintro rfl
        exact nb w hq
      obtain ⟨q2, q3⟩ := q1
      exact ⟨by rw [List.getElem?_set_ne (Ne.symm hj)]; exact q2, q3⟩
    | val d => trivial
    | new o => trivial

/-- name = value -/
def sSet (np i : Nat) (f : FE) : FS := fun env => (f env).bind fun p => (norm p.1 p.2).bind fun q => (put np i q.1 q.2).map fun e => (.nx, e)
theorem ms_set {np i : Nat} {x : Str} {pos' : Pos} {f : FE} (hnp : F.args.length = np) (hN : X.N.Nodup) (hi : X.N[i]? = some x) (hx : Loc X.env.scope x) (h : PE X e (tE F f)) (hs : swapsWith e (some (.Name x pos')) pos.line X.env = pure false := by rfl)
    (hf : X.fn x = true ∨ X.env.scope.names.lookup x = some .local := by first | exact .inl rfl | exact .inr rfl | assumption) : PS X (.Assign [.Name x pos'] e pos) (tS F (sSet np i f)) :=
  (ps_set hN hi hx h hs hf).wk fun D σ H ⟨env, ops, G, fl, env', nb, I, e, k⟩ => by
    obtain ⟨⟨r, e1⟩, h1, e⟩ := bind_some e
    obtain ⟨⟨r', e2⟩, h2, e⟩ := bind_some e
    obtain ⟨e3, h3, h4⟩ := omap_some e
    cases h4
    refine ⟨env, ops, G, r, e1, I, h1, fun v G1 H1 s1 I1 => ?_⟩
    obtain ⟨G2, s2, I2, _⟩ := RepS.norm (o1 := ops) (o2 := []) I1 h2
    exact k _ G2 H1 (s1.trans s2) (RepS.put I2 hnp (fun w => nb w i) h3)

/-! ### targets -/
inductive Tg where
  | nm (i : Nat)
  | tp (ts : List Tg)
mutual
def Tg.slots : Tg → List Nat
  | .nm i => [i]
  | .tp ts => Tg.slotsL ts
def Tg.slotsL : List Tg → List Nat
  | [] => []
  | t :: ts => t.slots ++ Tg.slotsL ts
end
mutual
def setT (np : Nat) : Tg → D → En → Option En
  | .nm i, d, env => put np i (.val d) env
  | .tp ts, .tuple ds, env => setTs np ts ds env
  | .tp _, _, _ => none
def setTs (np : Nat) : List Tg → List D → En → Option En
  | [], [], env => some env
  | t :: ts, d :: ds, env => (setT np t d env).bind fun e => setTs np ts ds e
  | _, _, _ => none
end
def gT (F : Fr) (np : Nat) (t : Tg) : TG := fun v σ H Q => ∃ env ops G d env', (∀ w i, (w, R.bor i) ∈ ops → i ∉ t.slots) ∧ RepS F env (ops ++ [(v, .val d)]) G σ H ∧ setT np t d env = some env' ∧
  ∀ σ', (∀ j, j ∉ t.slots → σ'[j]? = σ[j]?) → σ'.length = σ.length → RepS F env' ops G σ' H → Q σ' H
def gTs (F : Fr) (np : Nat) (ts : List Tg) : TGs := fun vs σ H Q => ∃ env ops G ds env', (∀ w i, (w, R.bor i) ∈ ops → i ∉ Tg.slotsL ts) ∧ RepS F env ops G σ H ∧ DpAll F.K G vs ds ∧ setTs np ts ds env = some env' ∧
  ∀ σ', (∀ j, j ∉ Tg.slotsL ts → σ'[j]? = σ[j]?) → σ'.length = σ.length → RepS F env' ops G σ' H → Q σ' H
theorem _root_.L2.PG.wk {t : Expr} {g g' : TG} (h : PG X t g) (w : ∀ v σ H Q, g' v σ H Q → g v σ H Q) : PG X t g' := ⟨fun pins s σ H v u Q I r q => h.run pins s σ H v u Q I r (w _ _ _ _ q)⟩
theorem _root_.L2.PGs.wk {t : List Expr} {g g' : TGs} (h : PGs X t g) (w : ∀ v σ H Q, g' v σ H Q → g v σ H Q) : PGs X t g' := ⟨fun pins s σ H v u Q I r q => h.run pins s σ H v u Q I r (w _ _ _ _ q)⟩
theorem mg_name {np i : Nat} {x : Str} (hnp : F.args.length = np) (hN : X.N.Nodup) (hi : X.N[i]? = some x) (hx : Loc X.env.scope x) (hf : X.fn x = true ∨ X.env.scope.names.lookup x = some .local := by first | exact .inl rfl | exact .inr rfl | assumption) : PG X (.Name x pos) (gT F np (.nm i)) :=
  (pg_name hN hi hx hf).wk fun v σ H Q ⟨env, ops, G, d, env', nb, I, e, k⟩ => by
    refine k _ (fun j hj => ?_) (by rw [List.length_set]) (I.put hnp (fun w hm => nb w i hm (by simp [Tg.slots])) e)
    rw [List.getElem?_set_ne]
    rintro rfl
    simp [Tg.slots] at hj
theorem mgs_nil {np : Nat} : PGs X [] (gTs F np []) := pgs_nil.wk fun vs σ H Q ⟨env, ops, G, ds, env', nb, I, a, e, k⟩ => by
  cases a with
  | nil => cases e; exact ⟨rfl, k σ (fun _ _ => rfl) rfl I⟩
  | cons _ _ => cases e
theorem mgs_cons {np : Nat} {t : Expr} {ts : List Expr} {g : Tg} {gs : List Tg} (h : PG X t (gT F np g)) (hr : PGs X ts (gTs F np gs)) (hs : (assignEach (t :: ts) X.env).map (·.2) = assign t X.env :: (assignEach ts X.env).map (·.2) := by rfl) : PGs X (t :: ts) (gTs F np (g :: gs)) :=
  (pgs_cons h hr hs).wk fun vs σ H Q ⟨env, ops, G, ds, env', nb, I, a, e, k⟩ => by
    cases a with
    | nil => cases e
    | @cons v vs' d ds' a1 a2 =>
      obtain ⟨e1, h1, h2⟩ := bind_some (show (setT np g d env).bind (fun e => setTs np gs ds' e) = some env' by simpa [setTs] using e)
      refine ⟨v, vs', rfl, env, ops, G, d, e1, fun w i hm z => nb w i hm (by simp [Tg.slotsL, z]), I.pushV a1, h1, fun σ1 s1 l1 I1 => ?_⟩
      refine ⟨e1, ops, G, ds', env', fun w i hm z => nb w i hm (by simp [Tg.slotsL, z]), I1, a2, h2, fun σ2 s2 l2 I2 => k σ2 (fun j hj => ?_) (l2.trans l1) I2⟩
      simp only [Tg.slotsL, List.mem_append, not_or] at hj
      rw [s2 j hj.2, s1 j hj.1]
theorem setTs_len {np : Nat} : ∀ {ts : List Tg} {ds : List D} {env env' : En}, setTs np ts ds env = some env' → ds.length = ts.length
  | [], [], _, _, _ => rfl
  | [], _ :: _, _, _, h => by simp [setTs] at h
  | _ :: _, [], _, _, h => by simp [setTs] at h
  | t :: ts, d :: ds, env, env', h => by
    rw [setTs] at h
    obtain ⟨e1, h1, h2⟩ := bind_some h
    simp [setTs_len h2]
theorem RepS.dtup {env : En} {ops : Ops} {G H : Hp} {σ : St} {v : V} {ds : List D} (I : RepS F env (ops ++ [(v, .val (.tuple ds))]) G σ H) : ∃ a vs, v = .ref a ∧ SqT F.K H a vs ∧ DpAll F.K G vs ds := by
  obtain ⟨a, vs, h1, h2, h3⟩ := dp_tup ((I.obj (v := v) (r := .val (.tuple ds)) (by simp) (b := .val (.tuple ds)) rfl).1 _ rfl)
  exact ⟨a, vs, h1, same_sqT I.same h2, h3⟩
theorem mg_tup {np : Nat} {ts : List Expr} {k : Nat} {gs : List Tg} (hK : X.K = F.K) (hc : X.calm = true) (h : PGs X ts (gTs F np gs)) (hn : (assignEach ts X.env).length = gs.length := by rfl) (hst : (assignEach ts X.env).findIdx? (·.1) = none := by rfl) : PG X (.Tuple ts k pos) (gT F np (.tp gs)) :=
  (pg_tup (n := gs.length) hc h hn hst).wk fun v σ H Q ⟨env, ops, G, d, env', nb, I, e, q⟩ => by
    cases d with
    | tuple ds =>
      rw [setT] at e
      obtain ⟨a, vs, rfl, h2, h3⟩ := I.dtup
      rw [hK]
      refine ⟨a, vs, rfl, h2, by rw [dpAll_len h3, setTs_len e], env, ops, G, ds, env', fun w i hm => ?_, I.pop, h3, e, fun σ' s l I' => q σ' (fun j hj => ?_) l I'⟩
      · have := nb w i hm
        rw [Tg.slots] at this; exact this
      · rw [Tg.slots] at hj; exact s j hj
    | _ => rw [setT] at e; cases e; simp
/-- target = value, by any target -/
def sAsg (np : Nat) (t : Tg) (f : FE) : FS := fun env => (f env).bind fun p => (keep p.1 p.2).bind fun q => (setT np t q.1 q.2).map fun e => (.nx, e)
theorem ms_asg {np : Nat} {tg : Expr} {t : Tg} {f : FE} (h : PE X e (tE F f)) (hg : PG X tg (gT F np t)) (hs : swapsWithSole [tg] e pos.line X.env = pure false := by rfl) (hw : swappedStores [tg] e X.env = pure none := by rfl)
    (h1 : (assignEach [tg] X.env).map (·.2) = [assign tg X.env] := by rfl) : PS X (.Assign [tg] e pos) (tS F (sAsg np t f)) :=
  (ps_asg h hg hs hw h1).wk fun D σ H ⟨env, ops, G, fl, env', nb, I, e, k⟩ => by
    obtain ⟨⟨r, e1⟩, h1, e⟩ := bind_some e
    obtain ⟨⟨d, e2⟩, h2, e⟩ := bind_some e
    obtain ⟨e3, h3, h4⟩ := omap_some e
    cases h4
    refine ⟨env, ops, G, r, e1, I, h1, fun v G1 H1 s1 I1 => ?_⟩
    obtain ⟨G2, s2, I2⟩ := RepS.keep (o1 := ops) (o2 := []) I1 h2
    exact ⟨e2, ops, G2, d, env', fun w i hm => absurd hm (nb w i), I2, h3, fun σ' _ _ I' => k σ' G2 H1 (s1.trans s2) I'⟩

/-! ### a, b = x, y -/
def norms : List R → En → Option (List R × En)
  | [], env => some ([], env)
  | r :: rs, env => (norm r env).bind fun p => (norms rs p.2).map fun q => (p.1 :: q.1, q.2)
def sPar2 (np i j : Nat) (f : FA) : FS := fun env => (f env).bind fun p => (norms p.1 p.2).bind fun q => match q.1 with
  | [r, s] => (put np j s q.2).bind fun e => (put np i r e).map fun e' => (.nx, e')
  | _ => none
def sPar3 (np i j l : Nat) (f : FA) : FS := fun env => (f env).bind fun p => (norms p.1 p.2).bind fun q => match q.1 with
  | [r, s, t] => (put np l t q.2).bind fun e => (put np j s e).bind fun e => (put np i r e).map fun e' => (.nx, e')
  | _ => none
theorem RepS.norms : ∀ {ps o1 : Ops} {env env' : En} {G H : Hp} {σ : St} {rs : List R}, RepS F env (o1 ++ ps) G σ H → norms (ps.map (·.2)) env = some (rs, env') → NoBor o1 → ∃ G' ps', Same G G' ∧ RepS F env' (o1 ++ ps') G' σ H ∧ ps'.map (·.1) = ps.map (·.1) ∧ ps'.map (·.2) = rs ∧ NoBor (o1 ++ ps')
  | [], o1, env, env', G, H, σ, rs, I, e, nb => by
    cases e
    exact ⟨G, [], Same.refl _, I, rfl, rfl, by simpa using nb⟩
  | (v, r) :: ps, o1, env, env', G, H, σ, rs, I, e, nb => by
    obtain ⟨⟨r1, e1⟩, h1, e⟩ := bind_some e
    obtain ⟨⟨rs1, e2⟩, h2, h3⟩ := omap_some e
    cases h3
    obtain ⟨G1, s1, I1, n1⟩ := RepS.norm (o1 := o1) (o2 := ps) I h1
    obtain ⟨G2, ps', s2, I2, m1, m2, n2⟩ := RepS.norms (ps := ps) (o1 := o1 ++ [(v, r1)]) (by simpa using I1) h2 (nb.app fun w i hm => by
      simp at hm; exact n1 i hm.2.symm)
    exact ⟨G2, (v, r1) :: ps', s1.trans s2, by simpa using I2, by simp [m1], by simp [m2], by simpa using n2⟩
theorem nobor_left {a b : Ops} (h : NoBor (a ++ b)) : NoBor a := fun v i hm => h v i (List.mem_append_left _ hm)
theorem ms_par2 {np i j : Nat} {x y : Str} {a b : Expr} {px py pt : Pos} {kt k2 pt2} {f : FA} (hnp : F.args.length = np) (hc : X.calm = true) (hN : X.N.Nodup) (hi : X.N[i]? = some x) (hj : X.N[j]? = some y) (hij : i ≠ j)
    (hx : X.env.scope.names.lookup x = some .local) (hy : X.env.scope.names.lookup y = some .local) (ha : PA X [a, b] (tA F f))
    (hw : swappedStores [.Tuple [.Name x px, .Name y py] kt pt] (.Tuple [a, b] k2 pt2) X.env = pure (some [x, y]))
    (hs : swapsWithSole [.Tuple [.Name x px, .Name y py] kt pt] (.Tuple [a, b] k2 pt2) pos.line X.env = pure false := by rfl) :
    PS X (.Assign [.Tuple [.Name x px, .Name y py] kt pt] (.Tuple [a, b] k2 pt2) pos) (tS F (sPar2 np i j f)) :=
  (ps_par hc hN hi hj hij hx hy ha hw hs).wk fun D σ H ⟨env, ops, G, fl, env', nb, I, e, k⟩ => by
    obtain ⟨⟨rs, e1⟩, h1, e⟩ := bind_some e
    obtain ⟨⟨rs', e2⟩, h2, e⟩ := bind_some e
    split at e
    · rename_i r s hrs
      have hrs : rs' = [r, s] := hrs
      subst hrs
      obtain ⟨e3, h3, e⟩ := bind_some e
      obtain ⟨e4, h4, h5⟩ := omap_some e
      cases h5
      refine ⟨env, ops, G, rs, e1, I, h1, fun ps G1 H1 hp s1 I1 => ?_⟩
      subst hp
      obtain ⟨G2, ps', s2, I2, m1, m2, n2⟩ := RepS.norms I1 h2 nb
      obtain ⟨v, w, rfl⟩ := map2 m2
      refine ⟨v, w, by rw [← m1]; rfl, ?_⟩
      have I2' : RepS F e2 ((ops ++ [(v, r)]) ++ [(w, s)]) G2 σ H1 := by simpa using I2
      have n2' : NoBor ((ops ++ [(v, r)]) ++ [(w, s)]) := by simpa using n2
      have I3 := I2'.put hnp (fun u => nobor_left n2' u j) h3
      have I4 := I3.put hnp (fun u => nb u i) h4
      rw [List.set_comm _ _ (Ne.symm hij)] at I4
      exact k _ G2 H1 (s1.trans s2) I4
    · cases e
theorem map3 {ps : Ops} {r s t : R} (h : ps.map (·.2) = [r, s, t]) : ∃ v w z, ps = [(v, r), (w, s), (z, t)] := by
  match ps, h with
  | [(v, r'), (w, s'), (z, t')], h => simp at h; obtain ⟨rfl, rfl, rfl⟩ := h; exact ⟨v, w, z, rfl⟩
end
end ML

/-! ML6: loops; a def's body; the call of a def. -/
namespace ML
open PySem PySem.Spec PyProof.Rows L2

section
variable {X : Cx} {F : Fr} {pos : Pos} {e : Expr} {es : List Expr} {st : Stmt} {rest : List Stmt} {f g : FS}
theorem ms_par3 {np i j l : Nat} {x y z : Str} {a b c : Expr} {px py pz pt : Pos} {kt k2 pt2} {f : FA} (hnp : F.args.length = np) (hc : X.calm = true) (hN : X.N.Nodup) (hi : X.N[i]? = some x) (hj : X.N[j]? = some y) (hl : X.N[l]? = some z) (hij : i ≠ j) (hil : i ≠ l) (hjl : j ≠ l)
    (hx : X.env.scope.names.lookup x = some .local) (hy : X.env.scope.names.lookup y = some .local) (hz : X.env.scope.names.lookup z = some .local) (ha : PA X [a, b, c] (tA F f))
    (hw : swappedStores [.Tuple [.Name x px, .Name y py, .Name z pz] kt pt] (.Tuple [a, b, c] k2 pt2) X.env = pure (some [x, y, z]))
    (hs : swapsWithSole [.Tuple [.Name x px, .Name y py, .Name z pz] kt pt] (.Tuple [a, b, c] k2 pt2) pos.line X.env = pure false := by rfl) :
    PS X (.Assign [.Tuple [.Name x px, .Name y py, .Name z pz] kt pt] (.Tuple [a, b, c] k2 pt2) pos) (tS F (sPar3 np i j l f)) :=
  (ps_par3 hc hN hi hj hl hij hil hjl hx hy hz ha hw hs).wk fun D σ H ⟨env, ops, G, fl, env', nb, I, e, k⟩ => by
    obtain ⟨⟨rs, e1⟩, h1, e⟩ := bind_some e
    obtain ⟨⟨rs', e2⟩, h2, e⟩ := bind_some e
    split at e
    · rename_i r s t hrs
      have hrs : rs' = [r, s, t] := hrs
      subst hrs
      obtain ⟨e3, h3, e⟩ := bind_some e
      obtain ⟨e4, h4, e⟩ := bind_some e
      obtain ⟨e5, h5, h6⟩ := omap_some e
      cases h6
      refine ⟨env, ops, G, rs, e1, I, h1, fun ps G1 H1 hp s1 I1 => ?_⟩
      subst hp
      obtain ⟨G2, ps', s2, I2, m1, m2, n2⟩ := RepS.norms I1 h2 nb
      obtain ⟨u, v, w, rfl⟩ := map3 m2
      refine ⟨u, v, w, by rw [← m1]; rfl, ?_⟩
      have I2' : RepS F e2 ((ops ++ [(u, r), (v, s)]) ++ [(w, t)]) G2 σ H1 := by simpa using I2
      have n2' : NoBor ((ops ++ [(u, r), (v, s)]) ++ [(w, t)]) := by simpa using n2
      have I3 := I2'.put hnp (fun z => nobor_left n2' z l) h3
      have n3 : NoBor ((ops ++ [(u, r)]) ++ [(v, s)]) := by simpa using nobor_left n2'
      have I3' : RepS F e3 ((ops ++ [(u, r)]) ++ [(v, s)]) G2 (σ.set l (some w)) H1 := by simpa using I3
      have I4 := I3'.put hnp (fun z => nobor_left n3 z j) h4
      have I5 := I4.put hnp (fun z => nb z i) h5
      have e1 : (((σ.set l (some w)).set j (some v)).set i (some u)) = (((σ.set i (some u)).set j (some v)).set l (some w)) := by
        rw [List.set_comm _ _ (Ne.symm hij), List.set_comm (some w) (some u) (Ne.symm hil), List.set_comm (some w) (some v) (Ne.symm hjl)]
      rw [e1] at I5
      exact k _ G2 H1 (s1.trans s2) I5
    · cases e

/-! ### what a loop walks -/
/-- the items, the slot that is locked meanwhile -/
abbrev FI := En → Option ((List D × Option Nat) × En)
def IsIt (F : Fr) (J : It) (xs : List D) (ops ps : Ops) : Prop := ∀ (more : Ops) env G σ H i, RepS F env ((ops ++ ps) ++ more) G σ H →
  (∀ d, xs[i]? = some d → J.go i H ∧ ∀ x H', J.yld i H x H' → ∃ G', Same G G' ∧ RepS F env (((ops ++ ps) ++ more) ++ [(x, .val d)]) G' σ H') ∧ (xs.length ≤ i → J.stop i H)
/-- what is held beside a loop: the lock -/
def LkP (src : Option Nat) (ops ps : Ops) : Prop := match src with
  | none => True
  | some i => (∃ v o, ps = [(v, .lkd i o)]) ∧ ∀ w o, (w, R.lkd i o) ∉ ops
def tI (F : Fr) (f : FI) : TI := fun σ H Q => ∃ env ops G xs src env', RepS F env ops G σ H ∧ f env = some ((xs, src), env') ∧ ∀ ps G' H' J, Same G G' → RepS F env' (ops ++ ps) G' σ H' → NoBor ps → LkP src ops ps → IsIt F J xs ops ps → Q J H'
theorem _root_.L2.PI.wk {tg i : Expr} {t t' : TI} (h : PI X tg i t) (w : ∀ σ H Q, t' σ H Q → t σ H Q) : PI X tg i t' := ⟨fun pins s σ H Q I q => h.run pins s σ H Q I (w _ _ _ q)⟩
theorem _root_.L2.PI.or {tg i : Expr} {t t' : TI} (h : PI X tg i t) (h' : PI X tg i t') : PI X tg i (fun σ H Q => t σ H Q ∨ t' σ H Q) := ⟨fun pins s σ H Q I q => q.elim (h.run pins s σ H Q I) (h'.run pins s σ H Q I)⟩
/-- a list or a tuple; a list that stands in a slot is locked -/
def lockR (r : R) (env : En) : Option ((List D × Option Nat) × En) := match r with
  | .val (.list ds) => some ((ds, none), env)
  | .val (.tuple ds) => some ((ds, none), env)
  | .new (.lst ds) => some ((ds, none), env)
  | .bor i => match env[i]?.join with
    | some (.mu (.lst ds)) => some ((ds, some i), env.set i (some (.lk (.lst ds))))
    | some (.lk (.lst ds)) => some ((ds, none), env)
    | _ => none
  | _ => none
def iSeq (f : FE) : FI := fun env => (f env).bind fun p => lockR p.1 p.2
theorem RepS.lockSlot {env : En} {ops : Ops} {G H : Hp} {σ : St} {v : V} {i : Nat} {o : O} (I : RepS F env (ops ++ [(v, .bor i)]) G σ H) (hi : env[i]?.join = some (.mu o)) : RepS F (env.set i (some (.lk o))) (ops ++ [(v, .lkd i o)]) G σ H := by
  have hσ : σ[i]? = some (some v) := (show σ[i]? = some (some v) ∧ F.cv i = false from I.opr v (.bor i) (by simp)).1
  have hl : i < env.length := by
    rw [← I.len]; exact (List.getElem?_eq_some_iff.mp hσ).1
  have I0 := I.pop
  refine ⟨?_, fun w q hq => ?_, by rw [List.length_set]; exact I.len⟩
  · have J := I0.rep.relabel (j := .inl i) (b := .mu o) (b' := .lk o) (u := o) (by simp [ix, hi]) rfl rfl
    rw [ix_snoc, ixv_snoc, ix_set _ _ _ _ hl]
    refine J.re id (fun k b e => ?_) (fun _ _ _ _ _ _ z => z) (fun j w e => by simpa using J.par j w e)
    by_cases h1 : k = .inr ops.length
    · simp only [h1, if_true] at e; cases e
    · simp only [h1, if_false] at e ⊢; exact ⟨e, rfl, id⟩
  · rcases List.mem_append.mp hq with h | h
    · have q1 := I0.opr w q h
      cases q with
      | lkd j u =>
        obtain ⟨q2, q3⟩ := q1
        refine ⟨q2, ?_⟩
        by_cases hj : j = i
        · subst hj; rw [hi] at q3; cases q3
        · rw [List.getElem?_set_ne (Ne.symm hj)]; exact q3
      | bor j => exact q1
      | val d => trivial
      | new o => trivial
    · simp at h
      obtain ⟨rfl, rfl⟩ := h
      exact ⟨hσ, by simp [hl]⟩
theorem isIt_list' {K : PySem.W.Frag} (hK : K = F.K) {a : Addr} {ds : List D} {ops ps : Ops} (h : ∀ env G σ H, RepS F env (ops ++ ps) G σ H → ∃ vs, SqL F.K H a vs ∧ DpAll F.K G vs ds) : IsIt F (Itl K a) ds ops ps := by
  subst hK
  intro more env G σ H i I
  obtain ⟨vs, q1, q2⟩ := h env G σ H I.pop
  refine ⟨fun d hd => ?_, fun hl => ⟨vs, q1, by rw [dpAll_len q2]; exact hl⟩⟩
  obtain ⟨v, e1, e2⟩ := dpAll_get q2 hd
  refine ⟨⟨vs, v, q1, e1⟩, fun x H' hy => ?_⟩
  obtain ⟨rfl, hy⟩ := hy
  have := hy vs q1
  rw [e1] at this
  cases this
  exact ⟨G, Same.refl _, I.pushV e2⟩
theorem isIt_tup {K : PySem.W.Frag} (hK : K = F.K) {a : Addr} {ds : List D} {ops ps : Ops} (h : ∀ env G σ H, RepS F env (ops ++ ps) G σ H → ∃ vs, SqT F.K H a vs ∧ DpAll F.K G vs ds) : IsIt F (Itt K a) ds ops ps := by
  subst hK
  intro more env G σ H i I
  obtain ⟨vs, q1, q2⟩ := h env G σ H I.pop
  refine ⟨fun d hd => ?_, fun hl => ⟨vs, q1, by rw [dpAll_len q2]; exact hl⟩⟩
  obtain ⟨v, e1, e2⟩ := dpAll_get q2 hd
  refine ⟨⟨vs, v, q1, e1⟩, fun x H' hy => ?_⟩
  obtain ⟨rfl, hy⟩ := hy
  have := hy vs q1
  rw [e1] at this
  cases this
  exact ⟨G, Same.refl _, I.pushV e2⟩
theorem mi_seq {tg l : Expr} {f : FE} (hK : X.K = F.K) (hl : PE X l (tE F f)) : PI X tg l (tI F (iSeq f)) :=
  ((pi_list hl).or (pi_tup hl)).wk fun σ H Q ⟨env, ops, G, xs, src, env', I, e, q⟩ => by
    obtain ⟨⟨r, e1⟩, h1, h2⟩ := bind_some e
    replace h2 : lockR r e1 = some ((xs, src), env') := h2
    clear e
    have go : (∃ ds, r = .val (.tuple ds) ∧ xs = ds ∧ src = none ∧ env' = e1) ∨ (∀ v G1 H1, Same G G1 → RepS F e1 (ops ++ [(v, r)]) G1 σ H1 → ∃ a, v = .ref a ∧ (∃ ys, SqL X.K H1 a ys) ∧ Q (Itl X.K a) H1) := by
      unfold lockR at h2
      split at h2
      · rename_i ds
        cases h2
        refine .inr fun v G1 H1 s1 I1 => ?_
        obtain ⟨a, vs, rfl, q1, q2⟩ := I1.lst (r := .val (.list xs)) (v := v) (by simp) rfl
        refine ⟨a, rfl, ⟨vs, by rw [hK]; exact q1⟩, q _ G1 H1 _ s1 I1 (fun v i hm => by simp at hm) trivial (isIt_list' hK fun env G σ H J => ?_)⟩
        obtain ⟨a', vs', e', q1', q2'⟩ := J.lst (r := .val (.list xs)) (v := .ref a) (by simp) rfl
        cases e'
        exact ⟨vs', q1', q2'⟩
      · rename_i ds
        cases h2
        exact .inl ⟨xs, rfl, rfl, rfl, rfl⟩
      · rename_i ds
        cases h2
        refine .inr fun v G1 H1 s1 I1 => ?_
        obtain ⟨a, vs, rfl, q1, q2⟩ := I1.lst (r := .new (.lst xs)) (v := v) (by simp) rfl
        refine ⟨a, rfl, ⟨vs, by rw [hK]; exact q1⟩, q _ G1 H1 _ s1 I1 (fun v i hm => by simp at hm) trivial (isIt_list' hK fun env G σ H J => ?_)⟩
        obtain ⟨a', vs', e', q1', q2'⟩ := J.lst (r := .new (.lst xs)) (v := .ref a) (by simp) rfl
        cases e'
        exact ⟨vs', q1', q2'⟩
      · rename_i i
        split at h2
        · rename_i ds hi
          cases h2
          refine .inr fun v G1 H1 s1 I1 => ?_
          obtain ⟨a, vs, rfl, q1, q2⟩ := I1.lst (r := .bor i) (v := v) (by simp) (ds := xs) (by simp [R.lst, R.dat, R.obj, hi, B.dat])
          have I2 := I1.lockSlot hi
          refine ⟨a, rfl, ⟨vs, by rw [hK]; exact q1⟩, q _ G1 H1 _ s1 I2 (fun v i hm => by simp at hm) ⟨⟨_, _, rfl⟩, fun w o hm => by
            have q3 := (show σ[i]? = some (some w) ∧ e1[i]?.join = some (.lk o) from I1.opr w (.lkd i o) (by simp [hm])).2
            rw [hi] at q3; cases q3⟩ (isIt_list' hK fun env G σ H J => ?_)⟩
          obtain ⟨a', vs', e', q1', q2'⟩ := J.lst (r := .lkd i (.lst xs)) (v := .ref a) (by simp) rfl
          cases e'
          exact ⟨vs', q1', q2'⟩
        · rename_i ds hi
          cases h2
          refine .inr fun v G1 H1 s1 I1 => ?_
          obtain ⟨a, vs, rfl, q1, q2⟩ := I1.lst (r := .bor i) (v := v) (by simp) (ds := xs) (by simp [R.lst, R.dat, R.obj, hi, B.dat])
          have hσ := (show σ[i]? = some (some (V.ref a)) ∧ F.cv i = false from I1.opr _ (.bor i) (by simp)).1
          have I2 : RepS F env' (ops ++ [(.ref a, .lkd i (.lst xs))]) G1 σ H1 := by
            have I0 := I1.pop
            refine ⟨?_, fun w q hq => ?_, I1.len⟩
            · rw [ix_snoc, ixv_snoc]
              refine I0.rep.re id (fun k b e => ?_) (fun _ _ _ _ _ _ z => z) (fun j w e => by simpa using I0.rep.par j w e)
              by_cases h1 : k = .inr ops.length
              · simp only [h1, if_true] at e; cases e
              · simp only [h1, if_false] at e ⊢; exact ⟨e, rfl, id⟩
            · rcases List.mem_append.mp hq with h | h
              · exact I0.opr w q h
              · simp at h
                obtain ⟨rfl, rfl⟩ := h
                exact ⟨hσ, hi⟩
          refine ⟨a, rfl, ⟨vs, by rw [hK]; exact q1⟩, q _ G1 H1 _ s1 I2 (fun v i hm => by simp at hm) trivial (isIt_list' hK fun env G σ H J => ?_)⟩
          obtain ⟨a', vs', e', q1', q2'⟩ := J.lst (r := .lkd i (.lst xs)) (v := .ref a) (by simp) rfl
          cases e'
          exact ⟨vs', q1', q2'⟩
        · cases h2
      · cases h2
    rcases go with ⟨ds, rfl, rfl, rfl, rfl⟩ | go
    · refine .inr ⟨env, ops, G, _, env', I, h1, fun v G1 H1 s1 I1 => ?_⟩
      obtain ⟨a, vs, rfl, q1, q2⟩ := I1.tup (r := .val (.tuple xs)) (v := v) (by simp) rfl
      refine ⟨a, rfl, ⟨vs, by rw [hK]; exact q1⟩, q _ G1 H1 _ s1 I1 (fun v i hm => by simp at hm) trivial (isIt_tup hK fun env G σ H J => ?_)⟩
      obtain ⟨a', vs', e', q1', q2'⟩ := J.tup (r := .val (.tuple xs)) (v := .ref a) (by simp) rfl
      cases e'
      exact ⟨vs', q1', q2'⟩
    · exact .inl ⟨env, ops, G, r, e1, I, h1, fun v G1 H1 s1 I1 => go v G1 H1 s1 I1⟩
/-- range(n), range(a, b) -/
def rangeD (a b : Int) : List D := (List.range (b - a).toNat).map fun i => .int (a + (i : Nat))
def iRng1 (f : FE) : FI := fun env => (f env).bind fun p => p.1.int.bind fun n => if -(2 ^ 62) ≤ n ∧ n < 2 ^ 62 then some ((rangeD 0 n, none), p.2) else none
def iRng2 (f g : FE) : FI := fun env => (f env).bind fun p => (g p.2).bind fun q => p.1.int.bind fun m => q.1.int.bind fun n => if -(2 ^ 62) ≤ m ∧ m < 2 ^ 62 ∧ -(2 ^ 62) ≤ n ∧ n < 2 ^ 62 then some ((rangeD m n, none), q.2) else none
theorem isIt_range {a b : Int} {ops : Ops} : IsIt F (Itr a (b - a).toNat) (rangeD a b) ops [] := by
  intro more env G σ H i I
  refine ⟨fun d hd => ?_, fun hl => ?_⟩
  · unfold rangeD at hd
    rw [List.getElem?_map] at hd
    obtain ⟨j, hj, rfl⟩ := omap_some hd
    obtain ⟨h1, h2⟩ := List.getElem?_eq_some_iff.mp hj
    rw [List.length_range] at h1
    rw [List.getElem_range] at h2
    subst h2
    exact ⟨h1, fun x H' hy => by
      obtain ⟨rfl, rfl⟩ := hy
      exact ⟨G, Same.refl _, I.pushV (.int _)⟩⟩
  · show (b - a).toNat ≤ i
    simpa [rangeD] using hl
theorem mi_range1 {tg a : Expr} {p : Pos} {f : FE} (hg : Gl X "range") (hm : X.mg "range" = none) (ha : PE X a (tE F f)) (hs : starEach [a] X.env = [(false, eval a X.env)] := by rfl) : PI X tg (.Call (.Name "range" p) [a] [] pos) (tI F (iRng1 f)) :=
  (pi_range1 hg hm (ma_cons ha ma_nil hs) hs).wk fun σ H Q ⟨env, ops, G, xs, src, env', I, e, q⟩ => by
    obtain ⟨⟨r, e1⟩, h1, e⟩ := bind_some e
    obtain ⟨n, h2, e⟩ := bind_some e
    split at e
    · rename_i hn
      cases e
      obtain rfl := R.int_eq h2
      refine ⟨env, ops, G, [.val (.int n)], e1, I, show aCons f aNil env = _ by simp [aCons, aNil, h1], fun ps G1 H1 hp s1 I1 => ?_⟩
      obtain ⟨v, rfl⟩ := map1 hp
      have ev := I1.vint (v := v) (i := n) (by simp)
      subst ev
      refine ⟨n, rfl, hn.1, hn.2, ?_⟩
      have := q [] G1 H1 (Itr 0 (n - 0).toNat) s1 (by simpa using I1.pop) (fun v i hm => by simp at hm) trivial isIt_range
      simpa using this
    · cases e
theorem mi_range2 {tg a b : Expr} {p : Pos} {f g : FE} (hg : Gl X "range") (hm : X.mg "range" = none) (ha : PE X a (tE F f)) (hb : PE X b (tE F g)) (hs : starEach [a, b] X.env = [(false, eval a X.env), (false, eval b X.env)] := by rfl) (hs2 : starEach [b] X.env = [(false, eval b X.env)] := by rfl) : PI X tg (.Call (.Name "range" p) [a, b] [] pos) (tI F (iRng2 f g)) :=
  (pi_range2 hg hm (ma_cons ha (ma_cons hb ma_nil hs2) (by rw [hs, hs2])) hs hs2).wk fun σ H Q ⟨env, ops, G, xs, src, env', I, e, q⟩ => by
    obtain ⟨⟨r, e1⟩, h1, e⟩ := bind_some e
    obtain ⟨⟨s, e2⟩, h3, e⟩ := bind_some e
    obtain ⟨m, h2, e⟩ := bind_some e
    obtain ⟨n, h4, e⟩ := bind_some e
    split at e
    · rename_i hn
      cases e
      obtain rfl := R.int_eq h2
      obtain rfl := R.int_eq h4
      refine ⟨env, ops, G, [.val (.int m), .val (.int n)], e2, I, show aCons f (aCons g aNil) env = _ by simp [aCons, aNil, h1, h3], fun ps G1 H1 hp s1 I1 => ?_⟩
      obtain ⟨v, w, rfl⟩ := map2 hp
      have ev := I1.vint (v := v) (i := m) (by simp)
      have ew := I1.vint (v := w) (i := n) (by simp)
      subst ev; subst ew
      refine ⟨m, n, rfl, hn, ?_⟩
      exact q [] G1 H1 (Itr m (n - m).toNat) s1 (by simpa using I1.pop) (fun v i hm => by simp at hm) trivial isIt_range
    · cases e

/-! ### for -/
def loopL (step : D → FS) : List D → FS
  | [], env => some (.nx, env)
  | d :: ds, env => (step d env).bind fun p => match p.1 with
    | .nx => loopL step ds p.2
    | .ct => loopL step ds p.2
    | .bk => some (.nx, p.2)
    | .rt r => some (.rt r, p.2)
def unlock (src : Option Nat) (env : En) : En := match src with
  | none => env
  | some i => match env[i]?.join with
    | some (.lk o) => env.set i (some (.mu o))
    | _ => env
def sFor (np : Nat) (fi : FI) (t : Tg) (body : FS) : FS := fun env => (fi env).bind fun p => (loopL (fun d e => (setT np t d e).bind body) p.1.1 p.2).map fun q => (q.1, match q.1 with | .rt _ => q.2 | _ => unlock p.1.2 q.2)
theorem RepS.unlock {env : En} {ops ps : Ops} {G H : Hp} {σ : St} {src : Option Nat} (I : RepS F env (ops ++ ps) G σ H) (nb : NoBor ops) (h : LkP src ops ps) : RepS F (unlock src env) ops G σ H := by
  cases src with
  | none => exact I.pop
  | some i =>
    obtain ⟨⟨v, o, rfl⟩, no⟩ := h
    obtain ⟨hσ, hi⟩ : σ[i]? = some (some v) ∧ env[i]?.join = some (.lk o) := I.opr v (.lkd i o) (by simp)
    have hl : i < env.length := by
      rw [← I.len]; exact (List.getElem?_eq_some_iff.mp hσ).1
    have I0 := I.pop
    unfold ML.unlock
    simp only [hi]
    refine ⟨?_, fun w q hq => ?_, by rw [List.length_set]; exact I.len⟩
    · rw [ix_set _ _ _ _ hl]
      exact I0.rep.relabel (j := .inl i) (b := .lk o) (b' := .mu o) (u := o) (by simp [ix, hi]) rfl rfl
    · have q1 := I0.opr w q hq
      cases q with
      | lkd j u =>
        obtain ⟨q2, q3⟩ := q1
        refine ⟨q2, ?_⟩
        have hj : j ≠ i := by
          rintro rfl
          exact no w u hq
        rw [List.getElem?_set_ne (Ne.symm hj)]; exact q3
      | bor j => exact q1
      | val d => trivial
      | new o => trivial
theorem RepS.dropMid {env : En} {ops ps : Ops} {G H : Hp} {σ : St} {v : V} {r : R} (I : RepS F env ((ops ++ ps) ++ [(v, r)]) G σ H) : RepS F env (ops ++ [(v, r)]) G σ H := by
  refine ⟨I.rep.re (fun k => match k with | .inl i => .inl i | .inr k => if k < ops.length then .inr k else .inr (k + ps.length)) (fun k b e => ?_) (fun j j' b b' e e' q => ?_) (fun j w e => ?_), fun w q h => I.opr w q ?_, I.len⟩
  · cases k with
    | inl i => exact ⟨e, rfl, id⟩
    | inr k =>
      simp only
      by_cases h1 : k < ops.length
      · simp only [h1, if_true]
        refine ⟨?_, ?_, id⟩
        · simp only [ix] at e ⊢
          rw [List.getElem?_append_left h1] at e
          rw [List.append_assoc, List.getElem?_append_left h1]; exact e
        · simp only [ixv]
          rw [List.getElem?_append_left h1, List.append_assoc, List.getElem?_append_left h1]
      · simp only [h1, if_false]
        have h2 : (ops ++ [(v, r)])[k]? = ((ops ++ ps) ++ [(v, r)])[k + ps.length]? := by
          rw [List.getElem?_append_right (by omega), List.getElem?_append_right (by simp; omega)]
          congr 1
          simp; omega
        refine ⟨?_, ?_, id⟩
        · simp only [ix] at e ⊢
          rw [← h2]; exact e
        · simp only [ixv]
          rw [h2]
  · cases j with
    | inl i =>
      cases j' with
      | inl i' => exact q
      | inr k' =>
        simp only at q
        split at q <;> cases q
    | inr k =>
      cases j' with
      | inl i' =>
        simp only at q
        split at q <;> cases q
      | inr k' =>
        simp only at q
        have hk : k = k' := by
          split at q <;> split at q <;> (have q' := Sum.inr.inj q; omega)
        rw [hk]
  · exact I.rep.par j w e
  · simp only [List.mem_append] at h ⊢
    rcases h with h | h
    · exact .inl (.inl h)
    · exact .inr h
theorem ms_for {np : Nat} {tg iter : Expr} {body : List Stmt} {fi : FI} {t : Tg} {f : FS} (hp : PassesOwn (model X.prog X.w) X.A X.env X.xe) (hc : X.calm = true) (hi : PI X tg iter (tI F fi)) (hg : PG X tg (gT F np t)) (hb : PSs X body (tS F f))
    (hs : ∀ x, foldedSetIterable iter X.env x = pure x := by intro _; rfl) : PS X (.For tg iter body [] pos) (tS F (sFor np fi t f)) :=
  (ps_for hp hc hi hg hb hs).wk fun D σ H ⟨env, ops, G, fl, env', nb, I, e, k⟩ => by
    obtain ⟨⟨⟨xs, src⟩, e1⟩, h1, e⟩ := bind_some e
    obtain ⟨⟨fl1, e2⟩, h2, h3⟩ := omap_some e
    refine ⟨env, ops, G, xs, src, e1, I, h1, fun ps G1 H1 J s1 I1 nbp lp it => ?_⟩
    refine ⟨fun i m σ H => ∃ en G2, m = xs.length - i ∧ i ≤ xs.length ∧ Same G1 G2 ∧ RepS F en (ops ++ ps) G2 σ H ∧ loopL (fun d e => (setT np t d e).bind f) (xs.drop i) en = some (fl1, e2), ⟨_, e1, G1, rfl, Nat.zero_le _, Same.refl _, I1, h2⟩, ?_⟩
    rintro i m σ2 H2 ⟨en, G2, rfl, hi, s2, I2, h4⟩
    obtain ⟨go, stop⟩ := it [] en G2 σ2 H2 i (by simpa using I2)
    by_cases hlt : i < xs.length
    · refine .inr ?_
      obtain ⟨go1, go2⟩ := go xs[i] (List.getElem?_eq_getElem hlt)
      rw [List.drop_eq_getElem_cons hlt] at h4
      obtain ⟨⟨fl3, e4⟩, h5, h6⟩ := bind_some h4
      obtain ⟨e3, h7, h8⟩ := bind_some h5
      refine ⟨go1, fun σ' H' => ∃ en G3, Same G1 G3 ∧ RepS F en (ops ++ ps) G3 σ' H' ∧ loopL (fun d e => (setT np t d e).bind f) (xs.drop (i + 1)) en = some (fl1, e2), fun σ' H' ⟨en, G3, s3, I3, h9⟩ => ⟨_, by omega, en, G3, rfl, hlt, s3, I3, h9⟩, fun x H3 hy => ?_⟩
      obtain ⟨G3, s3, I3⟩ := go2 x H3 hy
      simp only [List.append_nil] at I3
      have nb2 : NoBor (ops ++ ps) := nb.app nbp
      refine ⟨en, ops ++ ps, G3, xs[i], e3, fun w j hm => absurd hm (nb2 w j), I3, h7, fun σ' _ _ I4 => ?_⟩
      refine ⟨e3, ops ++ ps, G3, fl3, e4, nb2, I4, h8, fun σ5 G5 H5 s5 => ?_⟩
      have s15 : Same G1 G5 := (s2.trans s3).trans s5
      cases fl3 with
      | nx => exact fun I5 => ⟨e4, G5, s15, I5, h6⟩
      | ct => exact fun I5 => ⟨e4, G5, s15, I5, h6⟩
      | bk =>
        cases h6
        cases h3
        exact fun I5 => k σ5 G5 H5 (s1.trans s15) (I5.unlock nb lp)
      | rt r =>
        cases h6
        cases h3
        exact fun v I5 => k σ5 G5 H5 (s1.trans s15) v I5.dropMid
    · have : i = xs.length := by omega
      subst this
      rw [List.drop_length] at h4
      cases h4
      cases h3
      exact .inl ⟨stop (Nat.le_refl _), k σ2 G2 H2 (s1.trans s2) (I2.unlock nb lp)⟩

/-! ### while -/
def whileL (t : FT) (f : FS) : Nat → FS
  | 0, _ => none
  | n + 1, env => (t env).bind fun p => if p.1 = true then (f p.2).bind fun q => match q.1 with
      | .nx => whileL t f n q.2
      | .ct => whileL t f n q.2
      | .bk => some (.nx, q.2)
      | .rt r => some (.rt r, q.2)
    else some (.nx, p.2)
theorem ms_while {c : Expr} {body : List Stmt} {t : FT} {f : FS} {n : Nat} (hp : PassesOwn (model X.prog X.w) X.A X.env X.xe) (hc : PT X c (tT F t)) (hb : PSs X body (tS F f)) : PS X (.While c body [] pos) (tS F (whileL t f n)) :=
  (ps_while hp hc hb).wk fun D σ H ⟨env, ops, G, fl, env', nb, I, e, k⟩ => by
    refine ⟨fun m σ H => ∃ en G2, Same G G2 ∧ RepS F en ops G2 σ H ∧ whileL t f m en = some (fl, env'), ⟨n, env, G, Same.refl _, I, e⟩, ?_⟩
    rintro m σ1 H1 ⟨en, G1, s1, I1, h1⟩
    cases m with
    | zero => cases h1
    | succ m =>
      obtain ⟨⟨b, e1⟩, h2, h3⟩ := bind_some h1
      refine ⟨en, ops, G1, b, e1, I1, h2, fun G2 H2 s2 I2 => ?_⟩
      cases b with
      | false =>
        rw [if_neg Bool.false_ne_true]
        cases h3
        exact k σ1 G2 H2 (s1.trans s2) I2
      | true =>
        rw [if_pos rfl]
        obtain ⟨⟨fl3, e3⟩, h4, h5⟩ := bind_some h3
        refine ⟨fun σ' H' => ∃ en G2, Same G G2 ∧ RepS F en ops G2 σ' H' ∧ whileL t f m en = some (fl, env'), fun σ' H' h => ⟨m, Nat.lt_succ_self m, h⟩, ?_⟩
        refine ⟨e1, ops, G2, fl3, e3, nb, I2, h4, fun σ3 G3 H3 s3 => ?_⟩
        have s : Same G G3 := (s1.trans s2).trans s3
        cases fl3 with
        | nx => exact fun I3 => ⟨e3, G3, s, I3, h5⟩
        | ct => exact fun I3 => ⟨e3, G3, s, I3, h5⟩
        | bk => cases h5; exact fun I3 => k σ3 G3 H3 s I3
        | rt r => cases h5; exact fun v I3 => k σ3 G3 H3 s v I3
end
end ML

/-! ML7: a def's body; the call of a def. -/
namespace ML
open PySem PySem.Spec PyProof.Rows L2

/-- a def: from what its arguments are to what it hands back and what they are behind -/
abbrev Fn := List B → Option (R × List B)
def R.out (r : R) : Bool := match r with | .val _ => true | .new _ => true | _ => false
def ixB (bs : List B) : Ix → Option B
  | .inl i => bs[i]?
  | .inr _ => none
def ixR (bs : List B) (r : R) : Ix → Option B
  | .inl i => bs[i]?
  | .inr 0 => r.toB
  | .inr _ => none
def ixV (vs : List V) (v : Option V) : Ix → Option V
  | .inl i => vs[i]?
  | .inr 0 => v
  | .inr _ => none
/-- the promise of a def that does f -/
def spF (K : PySem.W.Frag) (w : World) (n : Nat) (f : Fn) : Sp := fun vs H Q _ => ∃ G bs r bs' bor, vs.length = n ∧ bs.length = n ∧ Rep ⟨K, w, H, G, vs, bor, fun _ => false⟩ (ixB bs) (ixV vs none) G H ∧ f bs = some (r, bs') ∧
  ∀ v G' H', r.out = true → bs'.length = n → Rep ⟨K, w, H, G, vs, bor, fun _ => false⟩ (ixR bs' r) (ixV vs (some v)) G' H' → Q v H'
theorem Rep.cv {K : PySem.W.Frag} {w : World} {H0 G0 : Hp} {args : List V} {bor : List Addr} {c c' : Nat → Bool} {L : Ix → Option B} {vs : Ix → Option V} {G H : Hp} (I : Rep ⟨K, w, H0, G0, args, bor, c⟩ L vs G H) : Rep ⟨K, w, H0, G0, args, bor, c'⟩ L vs G H := by
  have h : ∀ a o, hasO ⟨K, w, H0, G0, args, bor, c⟩ G H a o → hasO ⟨K, w, H0, G0, args, bor, c'⟩ G H a o := fun a o z => by cases o <;> exact z
  refine ⟨I.g0, I.sub, I.fr, I.bh, I.bh0, I.gn, I.gp, I.val, fun i b o e eo => ?_, I.dis, I.par⟩
  obtain ⟨a, h1, h2, h3, h4⟩ := I.own i b o e eo
  exact ⟨a, h1, h a o h2, h3, h4⟩
def allSome : List (Option B) → Option (List B)
  | [] => some []
  | some b :: r => (allSome r).map (b :: ·)
  | none :: _ => none
theorem allSome_get : ∀ {l : List (Option B)} {bs : List B}, allSome l = some bs → l = bs.map some
  | [], bs, h => by cases h; rfl
  | some b :: r, bs, h => by
    obtain ⟨bs', h1, h2⟩ := omap_some (show (allSome r).map (b :: ·) = some bs from h)
    subst h2
    rw [allSome_get h1]; rfl
  | none :: _, bs, h => by cases h
/-- a def's body: np parameters, n names -/
def fnBody (np n : Nat) (body : FS) : Fn := fun bs => (body (bs.map some ++ List.replicate (n - np) none)).bind fun p => (match p.1 with
  | .rt r => if r.out = true then some r else none
  | .nx => some (.val .none)
  | _ => none).bind fun r => (allSome (p.2.take np)).map fun bs' => (r, bs')
section
variable {P : Program} {w : World} {K : PySem.W.Frag} {mg : Str → Option Value} {base : Heap}
/-- what a body's reading has to begin with -/
theorem body_tS {N : List Str} {np n : Nat} {body : FS} {c : Nat → Bool} {vs : List V} {H : Hp} {Q : VK} {E : XK} (hn : N.length = n) (hle : np ≤ n) (h : spF K w np (fnBody np n body) vs H Q E) :
    ∃ (G : Hp) (bor : List Addr), vs.length = np ∧ tS ⟨K, w, H, G, vs, bor, c⟩ body { nx := fun _ H' => Q .non H', rt := Q } (L2.start N vs) H := by
  obtain ⟨G, bs, r, bs', bor, hl, hbl, I, e, q⟩ := h
  refine ⟨G, bor, hl, ?_⟩
  obtain ⟨⟨fl, env'⟩, h1, e⟩ := bind_some e
  obtain ⟨r', h2, e⟩ := bind_some e
  obtain ⟨bs', h3, h4⟩ := omap_some e
  cases h4
  have I0 : RepS ⟨K, w, H, G, vs, bor, c⟩ (bs.map some ++ List.replicate (n - np) none) [] G (L2.start N vs) H := by
    refine ⟨?_, fun w q h => by simp at h, ?_⟩
    · refine (I.cv (c' := c)).re id (fun j b e => ?_) (fun _ _ _ _ _ _ z => z) (fun i v e => ?_)
      · cases j with
        | inr k => simp [ix] at e
        | inl i =>
          simp only [ix] at e
          have hi : i < bs.length := by
            by_cases hi : i < bs.length
            · exact hi
            · rw [List.getElem?_append_right (by simpa using hi), List.getElem?_replicate] at e
              split at e <;> cases e
          rw [List.getElem?_append_left (by simpa using hi), List.getElem?_map] at e
          refine ⟨?_, ?_, id⟩
          · simp only [ixB, id]
            cases hb : bs[i]? with
            | none => rw [hb] at e; cases e
            | some b' => rw [hb] at e; exact e
          · simp only [ixv, ixV, L2.start, id]
            rw [List.getElem?_append_left (by rw [List.length_map]; omega), List.getElem?_map]
            cases vs[i]? <;> rfl
      · have hi : i < vs.length := (List.getElem?_eq_some_iff.mp e).1
        simp only [ixv, L2.start]
        rw [List.getElem?_append_left (by rw [List.length_map]; exact hi), List.getElem?_map, e]
        rfl
    · simp [L2.start]; omega
  refine ⟨_, [], G, fl, env', fun v i h => by simp at h, I0, h1, fun σ' G' H' s' => ?_⟩
  have outs := allSome_get h3
  have fin : ∀ {σ' : St} {G' H' : Hp} {v : V} {ops : Ops} {r : R}, RepS ⟨K, w, H, G, vs, bor, c⟩ env' (ops ++ [(v, r)]) G' σ' H' → (∀ i, r ≠ .bor i) → Rep ⟨K, w, H, G, vs, bor, fun _ => false⟩ (ixR bs' r) (ixV vs (some v)) G' H' := fun {σ' G' H' v ops r} J nb => by
    refine (J.rep.re (fun k => match k with | .inl i => .inl i | .inr k => .inr ops.length) (fun j b e => ?_) (fun j j' b b' e e' q => ?_) (fun i v e => e)).cv
    · cases j with
      | inl i =>
        have e : bs'[i]? = some b := e
        have h5 : (env'.take np)[i]? = some (some b) := by rw [outs, List.getElem?_map, e]; rfl
        have hi : i < np := by
          have := (List.getElem?_eq_some_iff.mp h5).1
          rw [List.length_take] at this; omega
        rw [List.getElem?_take_of_lt hi] at h5
        refine ⟨by simp [ix, h5], ?_, id⟩
        have hv : i < vs.length := by omega
        have e2 := J.rep.par i (vs[i]'hv) (List.getElem?_eq_getElem hv)
        simp only [ixV]
        rw [e2, List.getElem?_eq_getElem (show i < vs.length by omega)]
      | inr k =>
        cases k with
        | zero =>
          have e : r.toB = some b := e
          exact ⟨by simp [ix, e], by simp [ixv, ixV], fun z => z.elim⟩
        | succ k => simp [ixR] at e
    · cases j with
      | inl i =>
        cases j' with
        | inl i' => exact q
        | inr k => simp at q
      | inr k =>
        cases j' with
        | inl i' => simp at q
        | inr k' =>
          cases k with
          | zero =>
            cases k' with
            | zero => rfl
            | succ k' => simp [ixR] at e'
          | succ k => simp [ixR] at e
  have hlen : ∀ {σ' : St} {G' H' : Hp} {ops : Ops}, RepS ⟨K, w, H, G, vs, bor, c⟩ env' ops G' σ' H' → bs'.length = np := fun {σ' G' H' ops} J => by
    have h5 : (env'.take np).length = (bs'.map some).length := congrArg List.length outs
    rw [List.length_map, List.length_take] at h5
    by_cases h0 : np = 0
    · omega
    · have hv : np - 1 < vs.length := by omega
      have e2 := J.rep.par (np - 1) (vs[np - 1]'hv) (List.getElem?_eq_getElem hv)
      have h6 : np - 1 < σ'.length := by
        by_cases h7 : np - 1 < σ'.length
        · exact h7
        · simp only [ixv] at e2
          rw [List.getElem?_eq_none (by omega)] at e2
          cases e2
      have h8 : σ'.length = env'.length := J.len
      omega
  cases fl with
  | nx =>
    cases h2
    refine fun J => q .non G' H' rfl (hlen J) (fin (ops := []) (J.pushV .non) (fun i h => nomatch h))
  | rt r2 =>
    have h2 : (if r2.out = true then some r2 else none) = some r := h2
    split at h2
    case isFalse => cases h2
    rename_i ho
    cases h2
    exact fun v J => q v G' H' ho (hlen J) (fin (ops := []) J (fun i h => by rw [h] at ho; cases ho))
  | bk => cases h2
  | ct => cases h2
/-- THE RULE for a def -/
theorem fn_ok {x qual : Str} {st : Stmt} {f : Addr} {fd : FuncData} {N ps : List Str} {k np n : Nat} {body : FS} {c : Nat → Bool} (Fx : Fun K x qual st f fd) (S : FnScope N ps (defScope st)) (hnp : ps.length = np) (hn : N.length = n) (hle : np ≤ n)
    (hb : ∀ (cdv : Value) (A : Around) (outer : List Env) (s : Shared) (H G : Hp) (vs : List V) (bor : List Addr) (E : XK), Room k (A.deeper (envOfC qual (defScope st) s.heap.objs.size f cdv)) → vs.length = np →
      PSs (cxOf CX0 P w K mg base N qual (defScope st) f cdv A outer s H E).nox (defBody st) (tS ⟨K, w, H, G, vs, bor, c⟩ body)) : FnOk P w K mg base CX0 (k + 1) f fd ps (spF K w np (fnBody np n body)) := by
  refine Fx.ok S (fun vs H Q E h => ?_) (fun cdv A outer s H vs Q E hr h => ?_)
  · obtain ⟨_, _, _, _, _, h, _⟩ := h
    rw [hnp]; exact h
  · obtain ⟨G, bor, hl, h⟩ := body_tS (N := N) (c := c) hn hle h
    exact ⟨_, hb cdv A outer s H G vs bor E hr hl, h⟩
end

/-! ### calls -/
def argB (r : R) (env : En) : Option B := match r with
  | .val d => some (.val d)
  | .new o => some (.mu o)
  | .bor i => match env[i]?.join with
    | some (.mu o) => some (.mu o)
    | some (.val d) => some (.val d)
    | _ => none
  | .lkd _ _ => none
def argsB : List R → En → Option (List B)
  | [], _ => some []
  | r :: rs, env => (argB r env).bind fun b => (argsB rs env).map (b :: ·)
def borIx : List R → List Nat
  | [] => []
  | .bor i :: rs => i :: borIx rs
  | _ :: rs => borIx rs
def isMu : Option B → Bool
  | some (.mu _) => true
  | _ => false
def putBack : List R → List B → En → En
  | .bor i :: rs, b :: bs, env => if isMu env[i]?.join = true then putBack rs bs (env.set i (some b)) else putBack rs bs env
  | _ :: rs, _ :: bs, env => putBack rs bs env
  | _, _, env => env
theorem argsB_get : ∀ {rs : List R} {bs : List B} {env : En}, argsB rs env = some bs → bs.length = rs.length ∧ ∀ (j : Nat) (b : B), bs[j]? = some b → ∃ r, rs[j]? = some r ∧ argB r env = some b
  | [], bs, env, h => by cases h; exact ⟨rfl, fun j b e => by simp at e⟩
  | r :: rs, bs, env, h => by
    obtain ⟨b, h1, h2⟩ := bind_some h
    obtain ⟨bs', h3, h4⟩ := omap_some h2
    subst h4
    obtain ⟨l, g⟩ := argsB_get h3
    refine ⟨by simp [l], fun j c e => ?_⟩
    cases j with
    | zero => simp at e; subst e; exact ⟨r, rfl, h1⟩
    | succ j =>
      obtain ⟨r', e1, e2⟩ := g j c (by simpa using e)
      exact ⟨r', by simpa using e1, e2⟩
theorem borIx_mem : ∀ {rs : List R} {i : Nat}, i ∈ borIx rs ↔ ∃ j : Nat, rs[j]? = some (.bor i)
  | [], i => by simp [borIx]
  | r :: rs, i => by
    have ih := borIx_mem (rs := rs) (i := i)
    have st : (∃ j : Nat, (r :: rs)[j]? = some (R.bor i)) ↔ r = .bor i ∨ ∃ j : Nat, rs[j]? = some (R.bor i) := by
      constructor
      · rintro ⟨j, h⟩
        cases j with
        | zero => simp at h; exact .inl h
        | succ j => exact .inr ⟨j, by simpa using h⟩
      · rintro (h | ⟨j, h⟩)
        · exact ⟨0, by simp [h]⟩
        · exact ⟨j + 1, by simpa using h⟩
    rw [st, ← ih]
    cases r with
    | bor k =>
      simp only [borIx, List.mem_cons, R.bor.injEq]
      constructor
      · rintro (h | h)
        · exact .inl h.symm
        · exact .inr h
      · rintro (h | h)
        · exact .inl h.symm
        · exact .inr h
    | val d => simp [borIx]
    | new o => simp [borIx]
    | lkd k o => simp [borIx]
theorem putBack_len : ∀ {rs : List R} {bs : List B} {env : En}, (putBack rs bs env).length = env.length
  | [], _, _ => by simp [putBack]
  | .bor i :: rs, [], _ => by simp [putBack]
  | .bor i :: rs, b :: bs, env => by
    rw [putBack]
    split
    · rw [putBack_len, List.length_set]
    · rw [putBack_len]
  | .val _ :: rs, [], _ => by simp [putBack]
  | .new _ :: rs, [], _ => by simp [putBack]
  | .lkd _ _ :: rs, [], _ => by simp [putBack]
  | .val _ :: rs, b :: bs, env => by rw [putBack]; exact putBack_len; simp
  | .new _ :: rs, b :: bs, env => by rw [putBack]; exact putBack_len; simp
  | .lkd _ _ :: rs, b :: bs, env => by rw [putBack]; exact putBack_len; simp
theorem putBack_off : ∀ {rs : List R} {bs : List B} {env : En} {i : Nat}, (i ∉ borIx rs ∨ isMu env[i]?.join = false) → (putBack rs bs env)[i]? = env[i]?
  | [], _, _, _, _ => by simp [putBack]
  | .bor k :: rs, [], _, _, _ => by simp [putBack]
  | .bor k :: rs, b :: bs, env, i, h => by
    rw [putBack]
    split
    · rename_i hk
      have hne : k ≠ i := by
        rintro rfl
        rcases h with h | h
        · simp [borIx] at h
        · rw [hk] at h; cases h
      rw [putBack_off (h.imp (fun h => by simp [borIx] at h; exact h.2) (fun h => by rw [List.getElem?_set_ne hne]; exact h)), List.getElem?_set_ne hne]
    · exact putBack_off (h.imp (fun h => by simp [borIx] at h; exact h.2) id)
  | .val _ :: rs, [], _, _, _ => by simp [putBack]
  | .new _ :: rs, [], _, _, _ => by simp [putBack]
  | .lkd _ _ :: rs, [], _, _, _ => by simp [putBack]
  | .val _ :: rs, b :: bs, env, i, h => by rw [putBack]; exact putBack_off (h.imp (fun h => by simpa [borIx] using h) id); simp
  | .new _ :: rs, b :: bs, env, i, h => by rw [putBack]; exact putBack_off (h.imp (fun h => by simpa [borIx] using h) id); simp
  | .lkd _ _ :: rs, b :: bs, env, i, h => by rw [putBack]; exact putBack_off (h.imp (fun h => by simpa [borIx] using h) id); simp
theorem putBack_on : ∀ {rs : List R} {bs : List B} {env : En} {i j : Nat} {b : B}, (borIx rs).Nodup → rs[j]? = some (.bor i) → bs[j]? = some b → isMu env[i]?.join = true → (putBack rs bs env)[i]? = some (some b)
  | [], _, _, _, _, _, _, h, _, _ => by simp at h
  | .bor k :: rs, [], _, _, _, _, _, _, h, _ => by simp at h
  | .bor k :: rs, c :: bs, env, i, j, b, nd, h1, h2, h3 => by
    rw [borIx, List.nodup_cons] at nd
    have hl : i < env.length := by
      by_cases hl : i < env.length
      · exact hl
      · rw [List.getElem?_eq_none (by omega)] at h3; cases h3
    rw [putBack]
    cases j with
    | zero =>
      simp at h1 h2
      subst h1; subst h2
      rw [if_pos h3, putBack_off (.inl nd.1)]
      simp [hl]
    | succ j =>
      have hr : rs[j]? = some (.bor i) := by simpa using h1
      have hne : k ≠ i := by
        rintro rfl
        exact nd.1 (borIx_mem.mpr ⟨j, hr⟩)
      split
      · exact putBack_on (j := j) nd.2 hr (by simpa using h2) (by rw [List.getElem?_set_ne hne]; exact h3)
      · exact putBack_on (j := j) nd.2 hr (by simpa using h2) h3
  | .val d :: rs, [], _, _, _, _, _, _, h, _ => by simp at h
  | .new d :: rs, [], _, _, _, _, _, _, h, _ => by simp at h
  | .lkd _ d :: rs, [], _, _, _, _, _, _, h, _ => by simp at h
  | .val d :: rs, c :: bs, env, i, j, b, nd, h1, h2, h3 => by
    cases j with
    | zero => simp at h1
    | succ j => rw [putBack]; exact putBack_on (j := j) (by simpa [borIx] using nd) (by simpa using h1) (by simpa using h2) h3; simp
  | .new d :: rs, c :: bs, env, i, j, b, nd, h1, h2, h3 => by
    cases j with
    | zero => simp at h1
    | succ j => rw [putBack]; exact putBack_on (j := j) (by simpa [borIx] using nd) (by simpa using h1) (by simpa using h2) h3; simp
  | .lkd _ d :: rs, c :: bs, env, i, j, b, nd, h1, h2, h3 => by
    cases j with
    | zero => simp at h1
    | succ j => rw [putBack]; exact putBack_on (j := j) (by simpa [borIx] using nd) (by simpa using h1) (by simpa using h2) h3; simp
def borOf : List V → List B → List Addr
  | .ref a :: vs, b :: bs => if b.own.isSome = true then a :: borOf vs bs else borOf vs bs
  | _ :: vs, _ :: bs => borOf vs bs
  | _, _ => []
theorem borOf_mem {a : Addr} : ∀ {vs : List V} {bs : List B}, a ∈ borOf vs bs ↔ ∃ (j : Nat) (b : B) (o : O), vs[j]? = some (.ref a) ∧ bs[j]? = some b ∧ b.own = some o
  | [], bs => by simp [borOf]
  | v :: vs, [] => by
    have e : borOf (v :: vs) [] = [] := by cases v <;> rfl
    rw [e]
    simp
  | v :: vs, b :: bs => by
    have ih := borOf_mem (a := a) (vs := vs) (bs := bs)
    have st : (∃ (j : Nat) (c : B) (o : O), (v :: vs)[j]? = some (.ref a) ∧ (b :: bs)[j]? = some c ∧ c.own = some o) ↔ (v = .ref a ∧ ∃ o, b.own = some o) ∨ ∃ (j : Nat) (c : B) (o : O), vs[j]? = some (.ref a) ∧ bs[j]? = some c ∧ c.own = some o := by
      constructor
      · rintro ⟨j, c, o, h1, h2, h3⟩
        cases j with
        | zero => simp at h1 h2; subst h2; exact .inl ⟨h1, o, h3⟩
        | succ j => exact .inr ⟨j, c, o, by simpa using h1, by simpa using h2, h3⟩
      · rintro (⟨h, o, h3⟩ | ⟨j, c, o, h1, h2, h3⟩)
        · exact ⟨0, b, o, by simp [h], rfl, h3⟩
        · exact ⟨j + 1, c, o, by simpa using h1, by simpa using h2, h3⟩
    rw [st, ← ih]
    cases v with
    | ref p =>
      rw [borOf]
      cases hb : b.own with
      | none => simp
      | some o => simp [eq_comm]
    | _ => simp [borOf]
end ML

/-! ML8: the call of a def. -/
namespace ML
open PySem PySem.Spec PyProof.Rows L2

section
variable {F : Fr} {env : En} {ops ps : Ops} {G G' H H' : Hp} {σ : St} {v : V} {r : R} {bs bs' : List B}
/-- where argument j stands -/
def plc (ops : Ops) (rs : List R) (j : Nat) : Ix := match rs[j]? with
  | some (.bor i) => .inl i
  | _ => .inr (ops.length + j)
theorem arg_at (I : RepS F env (ops ++ ps) G σ H) (h : argsB (ps.map (·.2)) env = some bs) {j : Nat} {b : B} (hb : bs[j]? = some b) :
    ix env (ops ++ ps) (plc ops (ps.map (·.2)) j) = some b ∧ ∃ w, (ps.map (·.1))[j]? = some w ∧ ixv σ (ops ++ ps) (plc ops (ps.map (·.2)) j) = some w := by
  obtain ⟨hl, hg⟩ := argsB_get h
  obtain ⟨q, h1, h2⟩ := hg j b hb
  rw [List.getElem?_map] at h1
  obtain ⟨⟨w, q'⟩, h3, h4⟩ := omap_some h1
  have h4 : q' = q := h4
  subst h4
  have hp : (ops ++ ps)[ops.length + j]? = some (w, q') := by
    rw [List.getElem?_append_right (by omega), Nat.add_sub_cancel_left]; exact h3
  have hw : (ps.map (·.1))[j]? = some w := by rw [List.getElem?_map, h3]; rfl
  have hr : (ps.map (·.2))[j]? = some q' := by rw [List.getElem?_map, h3]; rfl
  cases q' with
  | val d =>
    have e : plc ops (ps.map (·.2)) j = .inr (ops.length + j) := by unfold plc; rw [hr]
    rw [e]
    cases h2
    exact ⟨by simp only [ix]; rw [hp]; rfl, w, hw, by simp only [ixv]; rw [hp]; rfl⟩
  | new o =>
    have e : plc ops (ps.map (·.2)) j = .inr (ops.length + j) := by unfold plc; rw [hr]
    rw [e]
    cases h2
    exact ⟨by simp only [ix]; rw [hp]; rfl, w, hw, by simp only [ixv]; rw [hp]; rfl⟩
  | lkd i o => cases h2
  | bor i =>
    have e : plc ops (ps.map (·.2)) j = .inl i := by unfold plc; rw [hr]
    rw [e]
    have hσ : σ[i]? = some (some w) := (show σ[i]? = some (some w) ∧ F.cv i = false from I.opr w (.bor i) (by
      exact List.mem_append_right _ (List.mem_of_getElem? h3))).1
    refine ⟨?_, w, hw, by simp [ixv, hσ]⟩
    simp only [ix]
    have h2 : (match env[i]?.join with
      | some (.mu o) => some (.mu o)
      | some (.val d) => some (.val d)
      | _ => none) = some b := h2
    split at h2
    · rename_i o ho; cases h2; exact ho
    · rename_i d hd; cases h2; exact hd
    · cases h2
theorem plc_inj {rs : List R} (nd : (borIx rs).Nodup) {j j' : Nat} (h : plc ops rs j = plc ops rs j') : j = j' := by
  unfold plc at h
  split at h
  · rename_i i h1
    split at h
    · rename_i i' h2
      cases h
      -- the same slot twice
      have key : ∀ {rs : List R} {j j' : Nat}, (borIx rs).Nodup → rs[j]? = some (.bor i) → rs[j']? = some (.bor i) → j = j' := by
        intro rs
        induction rs with
        | nil => intro j j' _ h; simp at h
        | cons r rs ih =>
          intro j j' nd h1 h2
          cases j with
          | zero =>
            simp at h1; subst h1
            rw [borIx, List.nodup_cons] at nd
            cases j' with
            | zero => rfl
            | succ j' => exact absurd (borIx_mem.mpr ⟨j', by simpa using h2⟩) nd.1
          | succ j =>
            cases j' with
            | zero =>
              simp at h2; subst h2
              rw [borIx, List.nodup_cons] at nd
              exact absurd (borIx_mem.mpr ⟨j, by simpa using h1⟩) nd.1
            | succ j' =>
              have nd' : (borIx rs).Nodup := by
                cases r with
                | bor k => rw [borIx, List.nodup_cons] at nd; exact nd.2
                | val d => simpa [borIx] using nd
                | new d => simpa [borIx] using nd
                | lkd k d => simpa [borIx] using nd
              exact congrArg (· + 1) (ih nd' (by simpa using h1) (by simpa using h2))
      exact key nd h1 h2
    · cases h
  · split at h
    · cases h
    · have h := Sum.inr.inj h
      omega
abbrev frOf (F : Fr) (ps : Ops) (bs : List B) (G H : Hp) : Fr := ⟨F.K, F.w, H, G, ps.map (·.1), borOf (ps.map (·.1)) bs, fun _ => false⟩
theorem hasO_fr {F1 F2 : Fr} {G H : Hp} {a : Addr} {o : O} (hK : F1.K = F2.K) (hw : F1.w = F2.w) (h : hasO F1 G H a o) : hasO F2 G H a o := by
  obtain ⟨K1, w1, _, _, _, _, _⟩ := F1
  obtain ⟨K2, w2, _, _, _, _, _⟩ := F2
  have hK : K1 = K2 := hK
  have hw : w1 = w2 := hw
  subst hK; subst hw
  cases o <;> exact h
theorem RepS.callIn (I : RepS F env (ops ++ ps) G σ H) (h : argsB (ps.map (·.2)) env = some bs) (nd : (borIx (ps.map (·.2))).Nodup) :
    Rep (frOf F ps bs G H) (ixB bs) (ixV (ps.map (·.1)) none) G H := by
  have own : ∀ (j : Nat) (b : B) (o : O), bs[j]? = some b → b.own = some o → ∃ a, (ps.map (·.1))[j]? = some (.ref a) ∧ hasO F G H a o ∧ G a = none := fun j b o hb ho => by
    obtain ⟨h1, w, h2, h3⟩ := arg_at I h hb
    obtain ⟨a, e1, e2, e3, _⟩ := I.rep.own _ b o h1 ho
    rw [h3] at e1; cases e1
    exact ⟨a, h2, e2, e3⟩
  have bh : ∀ b ∈ borOf (ps.map (·.1)) bs, ∃ o, H b = some o := fun a ha => by
    obtain ⟨j, b, o, h1, h2, h3⟩ := borOf_mem.mp ha
    obtain ⟨a', e1, e2, _⟩ := own j b o h2 h3
    rw [h1] at e1; cases e1
    exact hasO_some e2
  refine ⟨Same.refl _, I.rep.sub, fun b o e _ => e, bh, bh, fun b u e => .inl e, I.rep.gp, fun i d e => ?_, fun i b o e eo => ?_, fun i j b c o o' a e1 e2 eo eo' h1 h2 => ?_, fun i w e => e⟩
  · cases i with
    | inr k => cases e
    | inl i =>
      obtain ⟨h1, w, h2, h3⟩ := arg_at I h (show bs[i]? = some (.val d) from e)
      obtain ⟨w', e1, e2⟩ := I.rep.val _ d h1
      rw [h3] at e1; cases e1
      exact ⟨w, h2, e2⟩
  · cases i with
    | inr k => cases e
    | inl i =>
      have e : bs[i]? = some b := e
      obtain ⟨a, h1, h2, h3⟩ := own i b o e eo
      exact ⟨a, h1, hasO_fr rfl rfl h2, h3, .inl ⟨(List.getElem?_eq_some_iff.mp h1).1, borOf_mem.mpr ⟨i, b, o, h1, e, eo⟩⟩⟩
  · cases i with
    | inr k => cases e1
    | inl i =>
      cases j with
      | inr k => cases e2
      | inl j =>
        obtain ⟨p1, w1, p2, p3⟩ := arg_at I h (show bs[i]? = some b from e1)
        obtain ⟨q1, w2, q2, q3⟩ := arg_at I h (show bs[j]? = some c from e2)
        have h1 : (ps.map (·.1))[i]? = some (.ref a) := h1
        have h2 : (ps.map (·.1))[j]? = some (.ref a) := h2
        rw [h1] at p2; cases p2
        rw [h2] at q2; cases q2
        rw [plc_inj nd (I.rep.dis _ _ b c o o' a p1 q1 eo eo' p3 q3)]
theorem RepS.callOut (I : RepS F env (ops ++ ps) G σ H) (h : argsB (ps.map (·.2)) env = some bs) (nd : (borIx (ps.map (·.2))).Nodup) (ro : r.out = true) (hl : bs'.length = bs.length)
    (J : Rep (frOf F ps bs G H) (ixR bs' r) (ixV (ps.map (·.1)) (some v)) G' H') : RepS F (putBack (ps.map (·.2)) bs' env) (ops ++ [(v, r)]) G' σ H' := by
  obtain ⟨hal, hag⟩ := argsB_get h
  have len : (putBack (ps.map (·.2)) bs' env).length = env.length := putBack_len
  -- what stands behind in a slot: as it was, or put back
  have slot : ∀ i, (putBack (ps.map (·.2)) bs' env)[i]? = env[i]? ∨ ∃ (j : Nat) (b : B) (w : V) (o : O), bs'[j]? = some b ∧ (ps.map (·.1))[j]? = some w ∧ ixv σ (ops ++ ps) (.inl i) = some w ∧ (putBack (ps.map (·.2)) bs' env)[i]? = some (some b) ∧ env[i]?.join = some (.mu o) ∧ bs[j]? = some (.mu o) ∧ plc ops (ps.map (·.2)) j = .inl i := fun i => by
    by_cases hm : i ∈ borIx (ps.map (·.2))
    · cases hmu : isMu env[i]?.join with
      | false => exact .inl (putBack_off (.inr hmu))
      | true =>
        obtain ⟨j, hj⟩ := borIx_mem.mp hm
        have hjl : j < bs.length := by
          rw [hal]; exact (List.getElem?_eq_some_iff.mp hj).1
        obtain ⟨h1, w, h2, h3⟩ := arg_at I h (List.getElem?_eq_getElem hjl)
        have hp : plc ops (ps.map (·.2)) j = .inl i := by unfold plc; rw [hj]
        rw [hp] at h1 h3
        obtain ⟨o, ho⟩ : ∃ o, env[i]?.join = some (.mu o) := by
          cases hx : env[i]?.join with
          | none => rw [hx] at hmu; cases hmu
          | some b =>
            rw [hx] at hmu
            cases b with
            | mu o => exact ⟨o, rfl⟩
            | val d => cases hmu
            | lk o => cases hmu
        refine .inr ⟨j, bs'[j]'(by omega), w, o, List.getElem?_eq_getElem _, h2, h3, putBack_on nd hj (List.getElem?_eq_getElem _) hmu, ho, ?_, hp⟩
        have h1 : env[i]?.join = some bs[j] := h1
        rw [ho] at h1
        rw [List.getElem?_eq_getElem hjl]
        exact h1.symm
    · exact .inl (putBack_off (.inl hm))
  -- an own address of the caller's that was handed in
  have given : ∀ {k : Ix} {b : B} {o : O} {a : Addr}, ix env (ops ++ ps) k = some b → b.own = some o → ixv σ (ops ++ ps) k = some (.ref a) → a ∈ borOf (ps.map (·.1)) bs → ∃ j : Nat, plc ops (ps.map (·.2)) j = k ∧ ∃ c, bs[j]? = some c := fun {k b o a} e eo hv ha => by
    obtain ⟨j, c, u, h1, h2, h3⟩ := borOf_mem.mp ha
    obtain ⟨q1, w, q2, q3⟩ := arg_at I h h2
    rw [h1] at q2; cases q2
    exact ⟨j, I.rep.dis _ _ c b u o a q1 e h3 eo q3 hv, c, h2⟩
  have notg : ∀ {k : Ix} {b : B} {o : O} {a : Addr}, ix env (ops ++ ps) k = some b → b.own = some o → ixv σ (ops ++ ps) k = some (.ref a) → a ∉ borOf (ps.map (·.1)) bs → H' a = H a ∧ G' a = none := fun {k b o a} e eo hv ha => by
    obtain ⟨a', e1, e2, e3, e4⟩ := I.rep.own k b o e eo
    rw [hv] at e1; cases e1
    obtain ⟨u, hu⟩ := hasO_some e2
    refine ⟨by rw [hu]; exact J.fr a u hu ha, ?_⟩
    cases hg : G' a with
    | none => rfl
    | some u' =>
      rcases J.gn a u' hg with z | z | z
      · have z : G a = some u' := z
        rw [e3] at z; cases z
      · have z : H a = none := z
        rw [hu] at z; cases z
      · exact absurd z ha
  have parBor : ∀ b, b ∈ borOf (ps.map (·.1)) bs → b ∈ F.bor ∨ F.H0 b = none := fun a ha => by
    obtain ⟨j, c, u, h1, h2, h3⟩ := borOf_mem.mp ha
    obtain ⟨q1, w, q2, q3⟩ := arg_at I h h2
    rw [h1] at q2; cases q2
    obtain ⟨a', e1, e2, e3, e4⟩ := I.rep.own _ c u q1 h3
    rw [q3] at e1; cases e1
    exact e4.imp (fun z => z.2) id
  have opsI : ∀ {k : Nat} {b : B}, ix (putBack (ps.map (·.2)) bs' env) (ops ++ [(v, r)]) (.inr k) = some b → (k < ops.length ∧ ix env (ops ++ ps) (.inr k) = some b ∧ ixv σ (ops ++ [(v, r)]) (.inr k) = ixv σ (ops ++ ps) (.inr k)) ∨ (k = ops.length ∧ r.toB = some b ∧ ixv σ (ops ++ [(v, r)]) (.inr k) = some v) := fun {k b} e => by
    by_cases hk : k < ops.length
    · refine .inl ⟨hk, ?_, ?_⟩
      · simp only [ix] at e ⊢
        rw [List.getElem?_append_left hk] at e ⊢; exact e
      · simp only [ixv]
        rw [List.getElem?_append_left hk, List.getElem?_append_left hk]
    · refine .inr ?_
      have hk2 : k = ops.length := by
        simp only [ix] at e
        rw [List.getElem?_append_right (by omega)] at e
        by_cases h0 : k - ops.length = 0
        · omega
        · rw [List.getElem?_eq_none (by simp; omega)] at e; cases e
      subst hk2
      refine ⟨rfl, ?_, by simp [ixv]⟩
      simp [ix] at e; exact e
  refine ⟨⟨I.rep.g0.trans J.g0, J.sub, fun b o e nb => ?_, fun b hb => ?_, I.rep.bh0, fun b u e => ?_, J.gp, fun i d e => ?_, fun i b o e eo => ?_, fun i j b c o o' a e1 e2 eo eo' h1 h2 => ?_, fun i w e => ?_⟩, fun w q hq => ?_, by rw [len]; exact I.len⟩
  · refine J.fr b o (I.rep.fr b o e nb) fun z => ?_
    rcases parBor b z with z | z
    · exact nb z
    · rw [e] at z; cases z
  · by_cases hz : b ∈ borOf (ps.map (·.1)) bs
    · exact J.bh b hz
    · obtain ⟨o, ho⟩ := I.rep.bh b hb
      exact ⟨o, J.fr b o ho hz⟩
  · rcases J.gn b u e with z | z | z
    · exact I.rep.gn b u z
    · exact .inr (.inl (I.rep.fresh z))
    · exact .inr ((parBor b z).symm.imp id id)
  · cases i with
    | inr k =>
      rcases opsI e with ⟨hk, h1, h2⟩ | ⟨rfl, h1, h2⟩
      · obtain ⟨w, e1, e2⟩ := I.rep.val _ d h1
        exact ⟨w, by rw [h2]; exact e1, dp_mono J.g0 _ _ e2⟩
      · obtain ⟨w, e1, e2⟩ := J.val (.inr 0) d h1
        have e1 : some v = some w := e1
        cases e1
        exact ⟨v, h2, e2⟩
    | inl i =>
      rcases slot i with hs | ⟨j, b, w, o, h1, h2, h3, h4, _⟩
      · have e : env[i]?.join = some (.val d) := by rw [← hs]; exact e
        obtain ⟨w, e1, e2⟩ := I.rep.val (.inl i) d e
        exact ⟨w, e1, dp_mono J.g0 _ _ e2⟩
      · simp only [ix, h4] at e
        have e : some b = some (B.val d) := e
        cases e
        obtain ⟨w', e1, e2⟩ := J.val (.inl j) d h1
        have e1 : (ps.map (·.1))[j]? = some w' := e1
        rw [h2] at e1; cases e1
        exact ⟨w, h3, e2⟩
  · cases i with
    | inr k =>
      rcases opsI e with ⟨hk, h1, h2⟩ | ⟨rfl, h1, h2⟩
      · obtain ⟨a, e1, e2, e3, e4⟩ := I.rep.own _ b o h1 eo
        have na : a ∉ borOf (ps.map (·.1)) bs := fun z => by
          obtain ⟨j, q1, c, q2⟩ := given h1 eo e1 z
          unfold plc at q1
          split at q1
          · cases q1
          · have := Sum.inr.inj q1; omega
        obtain ⟨q1, q2⟩ := notg h1 eo e1 na
        exact ⟨a, by rw [h2]; exact e1, hasO_mono J.g0 q1 e2, q2, e4⟩
      · obtain ⟨a, e1, e2, e3, e4⟩ := J.own (.inr 0) b o h1 eo
        have e1 : some v = some (.ref a) := e1
        cases e1
        refine ⟨a, h2, hasO_fr rfl rfl e2, e3, .inr ?_⟩
        rcases e4 with z | z
        · exact z.1.elim
        · exact I.rep.fresh z
    | inl i =>
      rcases slot i with hs | ⟨j, b', w, u, h1, h2, h3, h4, h5, h6, h7⟩
      · have e : env[i]?.join = some b := by rw [← hs]; exact e
        obtain ⟨a, e1, e2, e3, e4⟩ := I.rep.own (.inl i) b o e eo
        by_cases na : a ∈ borOf (ps.map (·.1)) bs
        · -- it was handed in, so it was put back
          obtain ⟨j, q1, c, q2⟩ := given (k := .inl i) e eo e1 na
          obtain ⟨q3, w, q4, q5⟩ := arg_at I h q2
          rw [q1] at q3 q5
          have q3 : env[i]?.join = some c := q3
          rw [e] at q3; cases q3
          have hr : (ps.map (·.2))[j]? = some (.bor i) := by
            unfold plc at q1
            split at q1
            · rename_i i' hi'
              cases q1; exact hi'
            · cases q1
          have hmu : isMu env[i]?.join = true := by
            obtain ⟨r', g1, g2⟩ := hag j b q2
            rw [hr] at g1; cases g1
            have g2 : (match env[i]?.join with
              | some (.mu o) => some (.mu o)
              | some (.val d) => some (.val d)
              | _ => none) = some b := g2
            split at g2
            · rename_i o' ho'; rw [ho']; rfl
            · rename_i d hd; cases g2; cases eo
            · cases g2
          have hjl : j < bs'.length := by
            rw [hl]; exact (List.getElem?_eq_some_iff.mp q2).1
          have hp := putBack_on (bs := bs') nd hr (List.getElem?_eq_getElem hjl) hmu
          rw [hs] at hp
          rw [hp] at e
          have e : some bs'[j] = some b := e
          cases e
          obtain ⟨a', g1, g2, g3, g4⟩ := J.own (.inl j) bs'[j] o (List.getElem?_eq_getElem hjl) eo
          have g1 : (ps.map (·.1))[j]? = some (.ref a') := g1
          rw [q4] at g1
          cases g1
          rw [e1] at q5
          cases q5
          exact ⟨a, e1, hasO_fr rfl rfl g2, g3, e4⟩
        · obtain ⟨q1, q2⟩ := notg (k := .inl i) e eo e1 na
          exact ⟨a, e1, hasO_mono J.g0 q1 e2, q2, e4⟩
      · simp only [ix, h4] at e
        have e : some b' = some b := e
        cases e
        obtain ⟨a, e1, e2, e3, e4⟩ := J.own (.inl j) b o h1 eo
        have e1 : (ps.map (·.1))[j]? = some (.ref a) := e1
        rw [h2] at e1; cases e1
        obtain ⟨a', g1, g2, g3, g4⟩ := I.rep.own (.inl i) (.mu u) u h5 rfl
        rw [h3] at g1; cases g1
        exact ⟨a, h3, hasO_fr rfl rfl e2, e3, g4⟩
  · -- two own objects stand apart
    have cases1 : ∀ {k : Ix} {b : B} {o : O}, ix (putBack (ps.map (·.2)) bs' env) (ops ++ [(v, r)]) k = some b → b.own = some o → ixv σ (ops ++ [(v, r)]) k = some (.ref a) →
        (∃ b0 o0, k ≠ .inr ops.length ∧ ix env (ops ++ ps) k = some b0 ∧ b0.own = some o0 ∧ ixv σ (ops ++ ps) k = some (.ref a)) ∨ (k = .inr ops.length ∧ H a = none) := fun {k b o} e eo hv => by
      cases k with
      | inr k =>
        rcases opsI e with ⟨hk, g1, g2⟩ | ⟨rfl, g1, g2⟩
        · exact .inl ⟨b, o, fun z => (by have := Sum.inr.inj z; omega), g1, eo, by rw [← g2]; exact hv⟩
        · refine .inr ⟨rfl, ?_⟩
          obtain ⟨a', q1, q2, q3, q4⟩ := J.own (.inr 0) b o g1 eo
          have q1 : some v = some (.ref a') := q1
          cases q1
          rw [g2] at hv; cases hv
          rcases q4 with z | z
          · exact z.1.elim
          · exact z
      | inl i =>
        rcases slot i with hs | ⟨j, b', w, u, g1, g2, g3, g4, g5, g6, g7⟩
        · exact .inl ⟨b, o, (fun z => nomatch z), (show env[i]?.join = some b by rw [← hs]; exact e), eo, hv⟩
        · exact .inl ⟨.mu u, u, (fun z => nomatch z), g5, rfl, hv⟩
    have there : ∀ {k : Ix} {b0 : B} {o0 : O}, ix env (ops ++ ps) k = some b0 → b0.own = some o0 → ixv σ (ops ++ ps) k = some (.ref a) → H a ≠ none := fun {k b0 o0} e eo hv z => by
      obtain ⟨a', q1, q2, _⟩ := I.rep.own k b0 o0 e eo
      rw [hv] at q1; cases q1
      obtain ⟨u, hu⟩ := hasO_some q2
      rw [z] at hu; cases hu
    rcases cases1 e1 eo h1 with ⟨b0, o0, _, p1, p2, p3⟩ | ⟨p1, p2⟩
    · rcases cases1 e2 eo' h2 with ⟨b1, o1, _, q1, q2, q3⟩ | ⟨q1, q2⟩
      · exact I.rep.dis i j b0 b1 o0 o1 a p1 q1 p2 q2 p3 q3
      · exact absurd q2 (there p1 p2 p3)
    · rcases cases1 e2 eo' h2 with ⟨b1, o1, _, q1, q2, q3⟩ | ⟨q1, q2⟩
      · exact absurd p2 (there q1 q2 q3)
      · rw [p1, q1]
  · exact I.rep.par i w e
  · rcases List.mem_append.mp hq with hm | hm
    · have q1 := I.opr w q (List.mem_append_left _ hm)
      cases q with
      | lkd j u =>
        obtain ⟨q2, q3⟩ := q1
        refine ⟨q2, ?_⟩
        rw [putBack_off (.inr (by rw [q3]; rfl))]
        exact q3
      | bor j => exact q1
      | val d => trivial
      | new o => trivial
    · simp at hm
      obtain ⟨rfl, rfl⟩ := hm
      cases q with
      | val d => trivial
      | new o => trivial
      | bor i => cases ro
      | lkd i o => cases ro
end

section
variable {X : Cx} {F : Fr} {x : Str} {p pos : Pos} {e : Expr} {es : List Expr} {k : Nat} {fa : Addr} {fd : FuncData} {pars : List Str} {n : Nat} {f : Fn}
/-- f(..): the written arguments, then the defaults ds -/
def eCall (n : Nat) (f : Fn) (ds : List D) (fa : FA) : FE := fun env => (fa env).bind fun p => (argsB (p.1 ++ ds.map R.val) p.2).bind fun bs => if (borIx (p.1 ++ ds.map R.val)).Nodup ∧ bs.length = n then (f bs).bind fun q => some (q.1, putBack (p.1 ++ ds.map R.val) q.2 p.2) else none
theorem pushVs {F : Fr} {env : En} {G H : Hp} {σ : St} : ∀ {ds : List D} {dvs : List V} {ops : Ops}, RepS F env ops G σ H → DpAll F.K G dvs ds → ∃ ps : Ops, ps.map (·.1) = dvs ∧ ps.map (·.2) = ds.map R.val ∧ RepS F env (ops ++ ps) G σ H
  | [], _, ops, I, h => by cases h; exact ⟨[], rfl, rfl, by simpa using I⟩
  | d :: ds, _, ops, I, h => by
    cases h with
    | @cons v vs _ _ h1 h2 =>
      obtain ⟨ps, e1, e2, J⟩ := pushVs (I.pushV h1) h2
      exact ⟨(v, .val d) :: ps, by simp [e1], by simp [e2], by simpa using J⟩
/-- a call of an own def, by what the layer beneath says of it -/
theorem me_callP {dvs : List V} {ds : List D} {g : FA} (hK : X.K = F.K) (hw : X.w = F.w) (hcall : PE X (.Call (.Name x p) (e :: es) [] pos) (tCall (spF X.K X.w n f) dvs E0 (tA F g))) (hd : ∀ G, DpAll F.K G dvs ds) : PE X (.Call (.Name x p) (e :: es) [] pos) (tE F (eCall n f ds g)) :=
  hcall.wk fun σ H Q ⟨env, ops, G, r, env', I, e, q⟩ => by
    obtain ⟨⟨rs, e1⟩, h1, e⟩ := bind_some e
    obtain ⟨bs, h2, e⟩ := bind_some e
    split at e
    case isFalse => cases e
    rename_i hn
    obtain ⟨⟨r', bs'⟩, h3, h4⟩ := bind_some e
    cases h4
    refine ⟨env, ops, G, rs, e1, I, h1, fun ps G1 H1 hp s1 I1 => ?_⟩
    subst hp
    obtain ⟨p2, m1, m2, I2⟩ := pushVs I1 (hd G1)
    have I3 : RepS F e1 (ops ++ (ps ++ p2)) G1 σ H1 := by simpa using I2
    have em : (ps ++ p2).map (·.2) = ps.map (·.2) ++ ds.map R.val := by rw [List.map_append, m2]
    have ev : (ps ++ p2).map (·.1) = ps.map (·.1) ++ dvs := by rw [List.map_append, m1]
    have h2' : argsB ((ps ++ p2).map (·.2)) e1 = some bs := by rw [em]; exact h2
    have nd : (borIx ((ps ++ p2).map (·.2))).Nodup := by rw [em]; exact hn.1
    obtain ⟨hl, _⟩ := argsB_get h2'
    rw [hK, hw, ← ev]
    refine ⟨G1, bs, r', bs', borOf ((ps ++ p2).map (·.1)) bs, ?_, hn.2, I3.callIn h2' nd, h3, fun v G' H' ho hl' J => ?_⟩
    · rw [List.length_map, ← hn.2, hl, List.length_map]
    · have J2 := I3.callOut h2' nd ho (by rw [hl', hn.2]) J
      rw [em] at J2
      exact q v G' H' (s1.trans J.g0) J2
theorem me_callG {dvs : List V} {ds : List D} {dus : List Value} {g : FA} (hK : X.K = F.K) (hw : X.w = F.w) (Ff : FnOk X.prog X.w X.K X.mg X.base CX0 k fa fd pars (spF X.K X.w n f)) (hr : Room k X.A) (hG : Gl X x) (hm : X.mg x = some (.ref fa)) (hkp : PySem.W.keepIn X.K (.ref fa) = true)
    (hb : Binds X.K fd pars dus) (hdv : Vals dvs dus) (hd : ∀ G, DpAll F.K G dvs ds) (ha : PA X (e :: es) (tA F g)) (hdb : (x == ("__debug__" : Str)) = false := by decide)
    (he : starEach (e :: es) X.env = (false, eval e X.env) :: starEach es X.env := by rfl) (hpl : (backTo pos (starEach es X.env)).any (·.1) = false := by rfl) : PE X (.Call (.Name x p) (e :: es) [] pos) (tE F (eCall n f ds g)) :=
  me_callP hK hw (pe_call Ff hr hG hm hkp hb hdv pass0 ha hdb he hpl) hd
/-- f() -/
theorem me_call0P {f : Fn} (hK : X.K = F.K) (hw : X.w = F.w) (hcall : PE X (.Call (.Name x p) [] [] pos) (tCall (spF X.K X.w 0 f) [] E0 tNil)) : PE X (.Call (.Name x p) [] [] pos) (tE F (eCall 0 f [] aNil)) :=
  hcall.wk fun σ H Q ⟨env, ops, G, r, env', I, e, q⟩ => by
    obtain ⟨⟨rs, e1⟩, h1, e⟩ := bind_some e
    cases h1
    obtain ⟨bs, h2, e⟩ := bind_some e
    cases h2
    split at e
    case isFalse => cases e
    obtain ⟨⟨r', bs'⟩, h3, h4⟩ := bind_some e
    cases h4
    have I3 : RepS F env (ops ++ []) G σ H := by simpa using I
    rw [hK, hw]
    refine ⟨G, [], r', bs', borOf [] [], rfl, rfl, I3.callIn (bs := []) rfl (by simp [borIx]), h3, fun v G' H' ho hl' J => ?_⟩
    have J2 := I3.callOut (bs := []) rfl (by simp [borIx]) ho (by simpa using hl') J
    exact q v G' H' J.g0 J2
theorem me_call0 {f : Fn} (hK : X.K = F.K) (hw : X.w = F.w) (Ff : FnOk X.prog X.w X.K X.mg X.base CX0 k fa fd [] (spF X.K X.w 0 f)) (hr : Room k X.A) (hG : Gl X x) (hm : X.mg x = some (.ref fa)) (hkp : PySem.W.keepIn X.K (.ref fa) = true)
    (hb : Binds X.K fd [] []) (hdb : (x == ("__debug__" : Str)) = false := by decide) : PE X (.Call (.Name x p) [] [] pos) (tE F (eCall 0 f [] aNil)) :=
  me_call0P hK hw (pe_call0 Ff hr hG hm hkp hb .nil pass0 hdb)
end
end ML

/-! ML9: list comprehensions. -/
namespace ML
open PySem PySem.Spec PyProof.Rows L2

def wipeE (env : En) : List Nat → En
  | [] => env
  | v :: vs => (wipeE env vs).set v none
/-- behind the block: its own names as they were -/
def restE (e1 e2 : En) : List Nat → En
  | [] => e2
  | v :: vs => (restE e1 e2 vs).set v e1[v]?.join
def isOwn : Option B → Bool
  | some (.mu _) => true
  | some (.lk _) => true
  | _ => false
theorem wipeE_len (env : En) : ∀ vs, (wipeE env vs).length = env.length
  | [] => rfl
  | v :: vs => by rw [wipeE, List.length_set, wipeE_len env vs]
theorem restE_len (e1 e2 : En) : ∀ vs, (restE e1 e2 vs).length = e2.length
  | [] => rfl
  | v :: vs => by rw [restE, List.length_set, restE_len e1 e2 vs]
theorem wipeE_get (env : En) (j : Nat) : ∀ vs, (wipeE env vs)[j]? = if j ∈ vs then (if j < env.length then some none else none) else env[j]?
  | [] => by simp [wipeE]
  | v :: vs => by
    rw [wipeE]
    by_cases h : v = j
    · subst h
      rw [if_pos (by simp)]
      by_cases hl : v < env.length
      · rw [List.getElem?_set_self (by rw [wipeE_len]; exact hl), if_pos hl]
      · rw [List.getElem?_eq_none (by rw [List.length_set, wipeE_len]; omega), if_neg hl]
    · rw [List.getElem?_set_ne h, wipeE_get env j vs]
      have : j ∈ v :: vs ↔ j ∈ vs := by simp [Ne.symm h]
      simp only [this]
theorem wipe_get (σ : St) (j : Nat) : ∀ vs, (wipe σ vs)[j]? = if j ∈ vs then (if j < σ.length then some none else none) else σ[j]?
  | [] => by simp [wipe]
  | v :: vs => by
    rw [wipe]
    by_cases h : v = j
    · subst h
      rw [if_pos (by simp)]
      by_cases hl : v < σ.length
      · rw [List.getElem?_set_self (by rw [wipe_length]; exact hl), if_pos hl]
      · rw [List.getElem?_eq_none (by rw [List.length_set, wipe_length]; omega), if_neg hl]
    · rw [List.getElem?_set_ne h, wipe_get σ j vs]
      have : j ∈ v :: vs ↔ j ∈ vs := by simp [Ne.symm h]
      simp only [this]
theorem restE_get (e1 e2 : En) (j : Nat) : ∀ vs, (restE e1 e2 vs)[j]? = if j ∈ vs then (if j < e2.length then some e1[j]?.join else none) else e2[j]?
  | [] => by simp [restE]
  | v :: vs => by
    rw [restE]
    by_cases h : v = j
    · subst h
      rw [if_pos (by simp)]
      by_cases hl : v < e2.length
      · rw [List.getElem?_set_self (by rw [restE_len]; exact hl), if_pos hl]
      · rw [List.getElem?_eq_none (by rw [List.length_set, restE_len]; omega), if_neg hl]
    · rw [List.getElem?_set_ne h, restE_get e1 e2 j vs]
      have : j ∈ v :: vs ↔ j ∈ vs := by simp [Ne.symm h]
      simp only [this]

section
variable {F : Fr} {env env' e1 e2 : En} {ops ps : Ops} {G G1 G' H H' H1 : Hp} {σ : St} {v : V} {r : R} {d : D} {own : List Nat}
theorem RepS.wipe (I : RepS F env ops G σ H) (hcv : ∀ i ∈ own, F.cv i = true) (hnp : ∀ i ∈ own, F.args.length ≤ i) (hlk : ∀ w i o, (w, R.lkd i o) ∈ ops → i ∉ own) : RepS F (wipeE env own) ops G (L2.wipe σ own) H := by
  refine ⟨I.rep.re id (fun j b e => ?_) (fun _ _ _ _ _ _ z => z) (fun i w e => ?_), fun w q h => ?_, by rw [wipe_length, wipeE_len]; exact I.len⟩
  · cases j with
    | inr k => exact ⟨e, rfl, id⟩
    | inl i =>
      simp only [ix] at e
      rw [wipeE_get] at e
      by_cases hi : i ∈ own
      · rw [if_pos hi] at e
        split at e <;> cases e
      · rw [if_neg hi] at e
        refine ⟨e, ?_, id⟩
        simp only [ixv]
        rw [wipe_get, if_neg hi]
        rfl
  · have hi : i ∉ own := fun z => by
      have := hnp i z
      have := (List.getElem?_eq_some_iff.mp e).1
      omega
    have := I.rep.par i w e
    simp only [ixv] at this ⊢
    rw [wipe_get, if_neg hi]
    exact this
  · have q1 := I.opr w q h
    cases q with
    | bor i =>
      obtain ⟨q2, q3⟩ := q1
      refine ⟨?_, q3⟩
      rw [wipe_get, if_neg (fun z => by rw [hcv i z] at q3; cases q3)]
      exact q2
    | lkd i o =>
      obtain ⟨q2, q3⟩ := q1
      have hi := hlk w i o h
      refine ⟨?_, ?_⟩
      · rw [wipe_get, if_neg hi]; exact q2
      · rw [wipeE_get, if_neg hi]; exact q3
    | val d => trivial
    | new o => trivial
theorem RepS.rest (I1 : RepS F e1 ps G1 σ H1) (s : Same G1 G) (I : RepS F e2 ops G (L2.wipe σ own) H) (hcv : ∀ i ∈ own, F.cv i = true) (hno : ∀ i ∈ own, isOwn e1[i]?.join = false) (hlk : ∀ w i o, (w, R.lkd i o) ∈ ops → i ∉ own) (hnp : ∀ i ∈ own, F.args.length ≤ i) : RepS F (restE e1 e2 own) ops G σ H := by
  have hl2 : e2.length = σ.length := by rw [← I.len, wipe_length]
  have slot : ∀ {i : Nat} {b : B}, ix (restE e1 e2 own) ops (.inl i) = some b → (i ∉ own ∧ ix e2 ops (.inl i) = some b ∧ ixv (L2.wipe σ own) ops (.inl i) = ixv σ ops (.inl i)) ∨ (i ∈ own ∧ ∃ d, b = .val d ∧ e1[i]?.join = some (.val d)) := fun {i b} e => by
    simp only [ix] at e
    rw [restE_get] at e
    by_cases hi : i ∈ own
    · rw [if_pos hi] at e
      have e3 : e1[i]?.join = some b := by
        split at e
        · exact e
        · cases e
      have e2 := hno i hi
      rw [e3] at e2
      refine .inr ⟨hi, ?_⟩
      cases b with
      | val d => exact ⟨d, rfl, e3⟩
      | mu o => cases e2
      | lk o => cases e2
    · rw [if_neg hi] at e
      refine .inl ⟨hi, e, ?_⟩
      simp only [ixv]
      rw [wipe_get, if_neg hi]
  have opv : ∀ k, ixv (L2.wipe σ own) ops (.inr k) = ixv σ ops (.inr k) := fun k => rfl
  refine ⟨⟨I.rep.g0, I.rep.sub, I.rep.fr, I.rep.bh, I.rep.bh0, I.rep.gn, I.rep.gp, fun i d e => ?_, fun i b o e eo => ?_, fun i j b c o o' a e1' e2' eo eo' h1 h2 => ?_, fun i w e => ?_⟩, fun w q h => ?_, by rw [restE_len]; exact hl2.symm⟩
  · cases i with
    | inr k => exact I.rep.val (.inr k) d e
    | inl i =>
      rcases slot e with ⟨h1, h2, h3⟩ | ⟨h1, d', h2, h3⟩
      · obtain ⟨v, q1, q2⟩ := I.rep.val (.inl i) d h2
        exact ⟨v, by rw [← h3]; exact q1, q2⟩
      · cases h2
        obtain ⟨v, q1, q2⟩ := I1.rep.val (.inl i) d (by simp [ix, h3])
        exact ⟨v, q1, dp_mono s _ _ q2⟩
  · cases i with
    | inr k => exact I.rep.own (.inr k) b o e eo
    | inl i =>
      rcases slot e with ⟨h1, h2, h3⟩ | ⟨h1, d', h2, h3⟩
      · obtain ⟨a, q1, q2⟩ := I.rep.own (.inl i) b o h2 eo
        exact ⟨a, by rw [← h3]; exact q1, q2⟩
      · subst h2; cases eo
  · have back : ∀ {k : Ix} {b : B} {o : O}, ix (restE e1 e2 own) ops k = some b → b.own = some o → ixv σ ops k = some (.ref a) → ix e2 ops k = some b ∧ ixv (L2.wipe σ own) ops k = some (.ref a) := fun {k b o} e eo hv => by
      cases k with
      | inr k => exact ⟨e, hv⟩
      | inl i =>
        rcases slot e with ⟨h1, h2, h3⟩ | ⟨h1, d', h2, h3⟩
        · exact ⟨h2, by rw [h3]; exact hv⟩
        · subst h2; cases eo
    obtain ⟨p1, p2⟩ := back e1' eo h1
    obtain ⟨q1, q2⟩ := back e2' eo' h2
    exact I.rep.dis i j b c o o' a p1 q1 eo eo' p2 q2
  · exact I1.rep.par i w e
  · have q1 := I.opr w q h
    cases q with
    | bor i =>
      obtain ⟨q2, q3⟩ := q1
      refine ⟨?_, q3⟩
      rw [wipe_get, if_neg (fun z => by rw [hcv i z] at q3; cases q3)] at q2
      exact q2
    | lkd i o =>
      obtain ⟨q2, q3⟩ := q1
      have hi := hlk w i o h
      rw [wipe_get, if_neg hi] at q2
      exact ⟨q2, by rw [restE_get, if_neg hi]; exact q3⟩
    | val d => trivial
    | new o => trivial
/-- an own list that stands as an operand grows -/
theorem RepS.growOp {p : Addr} {acc : List D} {xs : List V} (I : RepS F env (ops ++ [(.ref p, .new (.lst acc)), (v, .val d)]) G σ H) (hH : H p = some (.lst xs)) : RepS F env (ops ++ [(.ref p, .new (.lst (acc ++ [d])))]) G σ (upd H p (.lst (xs ++ [v]))) ∧ xs.length = acc.length := by
  have hd : Dp F.K G v d := (I.obj (v := v) (r := .val d) (by simp) (b := .val d) rfl).1 d rfl
  obtain ⟨a, ha, ⟨ws, q1, q2⟩, _⟩ := (I.obj (v := .ref p) (r := .new (.lst acc)) (by simp) (b := .mu (.lst acc)) rfl).2 _ rfl
  cases ha
  rw [hH] at q1; cases q1
  have I1 : RepS F env (ops ++ [(.ref p, .new (.lst acc))]) G σ H := RepS.pop (ps := [(v, .val d)]) (by simpa using I)
  refine ⟨⟨?_, fun w q h => ?_, I.len⟩, dpAll_len q2⟩
  · have J := I1.rep.write (j := .inr ops.length) (b := .mu (.lst acc)) (b' := .mu (.lst (acc ++ [d]))) (u := .lst acc) (u' := .lst (acc ++ [d])) (p := p) (o := .lst (xs ++ [v])) (by simp [ix, R.toB]) rfl (by simp [ixv]) rfl ⟨_, upd_same, dpAll_app q2 (.cons hd .nil)⟩
    rw [ix_snoc, ixv_snoc] at J
    rw [ix_snoc, ixv_snoc]
    have e : (fun k => if k = Sum.inr ops.length then some (B.mu (O.lst (acc ++ [d]))) else (if k = Sum.inr ops.length then (R.new (O.lst acc)).toB else ix env ops k)) = (fun k => if k = Sum.inr ops.length then (R.new (O.lst (acc ++ [d]))).toB else ix env ops k) := by
      funext k
      by_cases hk : k = .inr ops.length
      · simp [hk, R.toB]
      · simp [hk]
    rw [e] at J
    exact J
  · rcases List.mem_append.mp h with h | h
    · exact I.opr w q (List.mem_append_left _ h)
    · simp at h; obtain ⟨rfl, rfl⟩ := h; trivial
end

section
variable {X : Cx} {F : Fr} {pos : Pos}
theorem _root_.L2.PTs.wk {e : List Expr} {t t' : TT} (h : PTs X e t) (w : ∀ σ H Q, t' σ H Q → t σ H Q) : PTs X e t' := ⟨fun pins s σ H Q I q => h.run pins s σ H Q I (w _ _ _ q)⟩
def tTrue : FT := fun env => some (true, env)
theorem mts_nil : PTs X [] (tT F tTrue) := pts_nil.wk fun σ H Q ⟨env, ops, G, b, env', I, e, q⟩ => by
  cases e
  exact q G H (Same.refl _) I
theorem mts_one {c : Expr} {f : FT} (h : PT X c (tT F f)) : PTs X [c] (tT F f) := pts_one h
def lcL (np : Nat) (own : List Nat) (t : Tg) (tst : FT) (elt : FE) : List D → En → Option (List D × En)
  | [], env => some ([], env)
  | d :: ds, env => (setT np t d env).bind fun e1 => (tst e1).bind fun p => if p.1 = true then (elt p.2).bind fun q => (keep q.1 q.2).bind fun s => (lcL np own t tst elt ds (wipeE s.2 own)).map fun u => (s.1 :: u.1, u.2)
    else lcL np own t tst elt ds (wipeE p.2 own)
def lcOk (own : List Nat) (t : Tg) (env : En) : Bool := own.all (fun i => !isOwn env[i]?.join) && t.slots.all (fun i => own.contains i)
def eLc (np : Nat) (own : List Nat) (fi : FI) (t : Tg) (tst : FT) (elt : FE) : FE := fun env => (fi env).bind fun p => if lcOk own t p.2 = true then (lcL np own t tst elt p.1.1 (wipeE p.2 own)).bind fun q => if q.1.length ≤ sizeLine then some (.new (.lst q.1), unlock p.1.2 (restE p.2 q.2 own)) else none else none
/-- the lock goes, what was made stays -/
theorem RepS.unlock1 {env : En} {ops ps : Ops} {G H : Hp} {σ : St} {src : Option Nat} {v : V} {r : R} (I : RepS F env ((ops ++ ps) ++ [(v, r)]) G σ H) (ro : ∀ i o, r ≠ .lkd i o) (h : LkP src ops ps) : RepS F (ML.unlock src env) (ops ++ [(v, r)]) G σ H := by
  cases src with
  | none => exact I.dropMid
  | some i =>
    obtain ⟨⟨w, o, rfl⟩, no⟩ := h
    obtain ⟨hσ, hi⟩ : σ[i]? = some (some w) ∧ env[i]?.join = some (.lk o) := I.opr w (.lkd i o) (by simp)
    have hl : i < env.length := by
      rw [← I.len]; exact (List.getElem?_eq_some_iff.mp hσ).1
    have I0 := I.dropMid
    unfold ML.unlock
    simp only [hi]
    refine ⟨?_, fun w' q hq => ?_, by rw [List.length_set]; exact I.len⟩
    · rw [ix_set _ _ _ _ hl]
      exact I0.rep.relabel (j := .inl i) (b := .lk o) (b' := .mu o) (u := o) (by simp [ix, hi]) rfl rfl
    · have q1 := I0.opr w' q hq
      cases q with
      | lkd j u =>
        obtain ⟨q2, q3⟩ := q1
        refine ⟨q2, ?_⟩
        have hj : j ≠ i := by
          rintro rfl
          rcases List.mem_append.mp hq with h | h
          · exact no w' u h
          · simp at h; exact ro _ _ h.2.symm
        rw [List.getElem?_set_ne (Ne.symm hj)]; exact q3
      | bor j => exact q1
      | val d => trivial
      | new o => trivial
theorem tE_lc {np : Nat} {own : List Nat} {fi : FI} {t : Tg} {tst : FT} {elt : FE} (hcv : ∀ i ∈ own, F.cv i = true) (hnp : ∀ i ∈ own, F.args.length ≤ i) (σ : St) (H : Hp) (Q : VK) (h : tE F (eLc np own fi t tst elt) σ H Q) :
    tLc (tI F fi) (gT F np t) (tT F tst) (tE F elt) own σ H Q := by
  obtain ⟨env, ops, G, r, env', I, e, q⟩ := h
  obtain ⟨⟨⟨xs, src⟩, e1⟩, h1, e⟩ := bind_some e
  split at e
  case isFalse => cases e
  rename_i hok
  obtain ⟨⟨tot, e2⟩, h2, e⟩ := bind_some e
  split at e
  case isFalse => cases e
  rename_i hsz
  cases e
  unfold lcOk at hok
  rw [Bool.and_eq_true, List.all_eq_true, List.all_eq_true] at hok
  obtain ⟨hno, hsl⟩ := hok
  have hno : ∀ i ∈ own, isOwn e1[i]?.join = false := fun i hi => by simpa using hno i hi
  have hsl : ∀ i ∈ t.slots, i ∈ own := fun i hi => by simpa using hsl i hi
  refine ⟨env, ops, G, xs, src, e1, I, h1, fun ps G1 H1 J s1 I1 nbp lp it Da hD => ?_⟩
  have hlk : ∀ w i o, (w, R.lkd i o) ∈ ops ++ ps → i ∉ own := fun w i o hm z => by
    obtain ⟨_, q3⟩ := (show σ[i]? = some (some w) ∧ e1[i]?.join = some (.lk o) from I1.opr w (.lkd i o) hm)
    have := hno i z
    rw [q3] at this; cases this
  have I2 : RepS F e1 ((ops ++ ps) ++ [(.ref Da, .new (.lst []))]) G1 σ (upd H1 Da (.lst [])) := I1.pushN (u := .lst []) hD ⟨[], upd_same, .nil⟩
  have hlk2 : ∀ (acc : List D), ∀ w i o, (w, R.lkd i o) ∈ (ops ++ ps) ++ [(V.ref Da, R.new (.lst acc))] → i ∉ own := fun acc w i o hm => by
    rcases List.mem_append.mp hm with hm | hm
    · exact hlk w i o hm
    · simp at hm
  have I3 := I2.wipe hcv hnp (hlk2 [])
  refine ⟨fun i m H => ∃ en G2 acc rest, m = xs.length - i ∧ i ≤ xs.length ∧ Same G1 G2 ∧ RepS F en ((ops ++ ps) ++ [(.ref Da, .new (.lst acc))]) G2 (L2.wipe σ own) H ∧ lcL np own t tst elt (xs.drop i) en = some (rest, e2) ∧ acc ++ rest = tot,
    ⟨_, wipeE e1 own, G1, [], tot, rfl, Nat.zero_le _, Same.refl _, I3, h2, rfl⟩, ?_⟩
  rintro i m H2 ⟨en, G2, acc, rest, rfl, hi, s2, J2, h4, hacc⟩
  obtain ⟨go, stop⟩ := it [(.ref Da, .new (.lst acc))] en G2 _ H2 i J2
  by_cases hlt : i < xs.length
  · refine .inr ?_
    obtain ⟨go1, go2⟩ := go xs[i] (List.getElem?_eq_getElem hlt)
    rw [List.drop_eq_getElem_cons hlt] at h4
    obtain ⟨e3, h5, h4⟩ := bind_some h4
    obtain ⟨⟨b, e4⟩, h6, h4⟩ := bind_some h4
    refine ⟨go1, fun H' => ∃ en G3 acc rest, Same G1 G3 ∧ RepS F en ((ops ++ ps) ++ [(.ref Da, .new (.lst acc))]) G3 (L2.wipe σ own) H' ∧ lcL np own t tst elt (xs.drop (i + 1)) en = some (rest, e2) ∧ acc ++ rest = tot, fun H' ⟨en, G3, acc, rest, s3, J3, h9, h10⟩ => ⟨_, by omega, en, G3, acc, rest, rfl, hlt, s3, J3, h9, h10⟩, fun x H3 hy => ?_⟩
    obtain ⟨G3, s3, J3⟩ := go2 x H3 hy
    refine ⟨en, (ops ++ ps) ++ [(.ref Da, .new (.lst acc))], G3, xs[i], e3, fun w j hm hj => ?_, J3, h5, fun σ2 hs2 hl2 J4 => ?_⟩
    · have q1 := (show _ ∧ F.cv j = false from J2.opr w (.bor j) hm).2
      rw [hcv j (hsl j hj)] at q1; cases q1
    · have hw : L2.wipe σ2 own = L2.wipe σ own := by
        apply List.ext_getElem?
        intro j
        rw [wipe_get, wipe_get]
        rw [wipe_length] at hl2
        by_cases hj : j ∈ own
        · rw [if_pos hj, if_pos hj, hl2]
        · rw [if_neg hj, if_neg hj, hs2 j (fun z => hj (hsl j z)), wipe_get, if_neg hj]
      refine ⟨hw, e3, _, G3, b, e4, J4, h6, fun G4 H4 s4 J5 => ?_⟩
      have s14 : Same G1 G4 := (s2.trans s3).trans s4
      cases b with
      | false =>
        show (if false = true then _ else _)
        rw [if_neg Bool.false_ne_true]
        have J6 := J5.wipe hcv hnp (hlk2 acc)
        rw [hw] at J6
        exact ⟨_, G4, acc, rest, s14, J6, h4, hacc⟩
      | true =>
        show (if true = true then _ else _)
        rw [if_pos rfl]
        obtain ⟨⟨y, e5⟩, h7, h4⟩ := bind_some h4
        obtain ⟨⟨dy, e6⟩, h8, h4⟩ := bind_some h4
        obtain ⟨⟨rest', e7⟩, h9, h10⟩ := omap_some h4
        cases h10
        refine ⟨e4, _, G4, y, e5, J5, h7, fun yv G5 H5 s5 J6 => ?_⟩
        obtain ⟨G6, s6, J7⟩ := RepS.keep (o2 := []) J6 h8
        have J8 : RepS F e6 ((ops ++ ps) ++ [(.ref Da, .new (.lst acc)), (yv, .val dy)]) G6 σ2 H5 := by simpa using J7
        obtain ⟨a, ha, ⟨ws, q1, q2⟩, _⟩ := (J8.obj (v := .ref Da) (r := .new (.lst acc)) (by simp) (b := .mu (.lst acc)) rfl).2 _ rfl
        cases ha
        obtain ⟨J9, hlen⟩ := J8.growOp q1
        refine ⟨ws, q1, ?_, ?_⟩
        · rw [hlen]
          have hz : tot.length ≤ sizeLine := hsz
          have hacc2 : acc ++ dy :: rest' = tot := hacc
          have hl := congrArg List.length hacc2
          rw [List.length_append, List.length_cons] at hl
          omega
        · have J10 := J9.wipe hcv hnp (hlk2 (acc ++ [dy]))
          rw [hw] at J10
          exact ⟨_, G6, acc ++ [dy], rest', (s14.trans s5).trans s6, J10, h9, by simp [← hacc]⟩
  · have : i = xs.length := by omega
    subst this
    rw [List.drop_length] at h4
    cases h4
    rw [List.append_nil] at hacc
    subst hacc
    refine .inl ⟨stop (Nat.le_refl _), ?_⟩
    have J3 := RepS.rest I2 s2 J2 hcv hno (hlk2 acc) hnp
    exact q _ G2 H2 (s1.trans s2) (J3.unlock1 (fun i o h => nomatch h) lp)
theorem me_lc {np : Nat} {elt tg iter : Expr} {ifs : List Expr} {scope : Scope} {own : List (Str × Nat)} {fi : FI} {t : Tg} {tst : FT} {fe : FE} (hc : X.calm = true) (hN : X.N.Nodup) (hcv : ∀ i ∈ own.map (·.2), F.cv i = true) (hnp : ∀ i ∈ own.map (·.2), F.args.length ≤ i) (hi : PI X tg iter (tI F fi)) (ok : BlkOk X.N X.env.scope scope own)
    (hg : ∀ (s : Shared) (H : Hp) (C : Addr) (cl : List (Str × Addr)) (fp : List Addr), PG (X.blk s H scope (compEnvC scope cl C X.env) fp) tg (gT F np t)) (ht : ∀ (s : Shared) (H : Hp) (C : Addr) (cl : List (Str × Addr)) (fp : List Addr), PTs (X.blk s H scope (compEnvC scope cl C X.env) fp) ifs (tT F tst))
    (he : ∀ (s : Shared) (H : Hp) (C : Addr) (cl : List (Str × Addr)) (fp : List Addr), PE (X.blk s H scope (compEnvC scope cl C X.env) fp) elt (tE F fe)) (hs : ∀ x, foldedSetIterable iter X.env x = pure x := by intro _; rfl) :
    PE X (.ListComp elt [⟨tg, iter, ifs, 0⟩] scope pos) (tE F (eLc np (own.map (·.2)) fi t tst fe)) := (pe_lc hc hN hi ok hg ht he hs).wk (tE_lc hcv hnp)
/-- name = [..] -/
theorem ms_setLc {np i : Nat} {y : Str} {py : Pos} {elt tg iter : Expr} {ifs : List Expr} {scope : Scope} {own : List (Str × Nat)} {spos : Pos} {fi : FI} {t : Tg} {tst : FT} {fe : FE} (hargs : F.args.length = np) (hc : X.calm = true) (hN : X.N.Nodup) (hy : X.N[i]? = some y) (hyl : X.env.scope.names.lookup y = some .local)
    (hsw : swapsWith (.ListComp elt [⟨tg, iter, ifs, 0⟩] scope pos) (some (.Name y py)) spos.line X.env = pure true) (hcv : ∀ i ∈ own.map (·.2), F.cv i = true) (hnp : ∀ i ∈ own.map (·.2), F.args.length ≤ i) (hi : PI X tg iter (tI F fi)) (ok : BlkOk X.N X.env.scope scope own)
    (hg : ∀ (s : Shared) (H : Hp) (C : Addr) (cl : List (Str × Addr)) (fp : List Addr), PG (X.blk s H scope (compEnvC scope cl C X.env) fp) tg (gT F np t)) (ht : ∀ (s : Shared) (H : Hp) (C : Addr) (cl : List (Str × Addr)) (fp : List Addr), PTs (X.blk s H scope (compEnvC scope cl C X.env) fp) ifs (tT F tst))
    (he : ∀ (s : Shared) (H : Hp) (C : Addr) (cl : List (Str × Addr)) (fp : List Addr), PE (X.blk s H scope (compEnvC scope cl C X.env) fp) elt (tE F fe)) (hs : ∀ x, foldedSetIterable iter X.env x = pure x := by intro _; rfl) :
    PS X (.Assign [.Name y py] (.ListComp elt [⟨tg, iter, ifs, 0⟩] scope pos) spos) (tS F (sSet np i (eLc np (own.map (·.2)) fi t tst fe))) := (ps_setLc hc hN hy hyl hsw hi ok hg ht he hs).wk fun D σ H ⟨env, ops, G, fl, env', nb, I, e, k⟩ => by
  obtain ⟨⟨r, e1⟩, h1, e⟩ := bind_some e
  obtain ⟨⟨r', e2⟩, h2, e⟩ := bind_some e
  obtain ⟨e3, h3, h4⟩ := omap_some e
  cases h4
  refine tE_lc hcv hnp σ H _ ⟨env, ops, G, r, e1, I, h1, fun v G1 H1 s1 I1 => ?_⟩
  obtain ⟨G2, s2, I2, _⟩ := RepS.norm (o1 := ops) (o2 := []) I1 h2
  exact k _ G2 H1 (s1.trans s2) (RepS.put I2 hargs (fun w => nb w i) h3)
end
end ML

/-! ML10: methods of lists and dicts; stores by subscript. -/
namespace ML
open PySem PySem.Spec PyProof.Rows L2

section
variable {F : Fr} {env env' : En} {ops ps : Ops} {G G1 G' H H' H1 : Hp} {σ : St} {v : V} {r : R} {d : D} {own : List Nat}
/-- the object of a slot is changed -/
theorem RepS.writeSlot {i : Nat} {p : Addr} {u u' : O} {o : HO} (I : RepS F env ops G σ H) (hσ : σ[i]? = some (some (.ref p))) (hi : env[i]?.join = some (.mu u)) (ho : hasO F G (upd H p o) p u') : RepS F (env.set i (some (.mu u'))) ops G σ (upd H p o) := by
  have hl : i < env.length := by
    rw [← I.len]; exact (List.getElem?_eq_some_iff.mp hσ).1
  refine ⟨?_, fun w q h => ?_, by rw [List.length_set]; exact I.len⟩
  · rw [ix_set _ _ _ _ hl]
    exact I.rep.write (j := .inl i) (b := .mu u) (b' := .mu u') (by simp [ix, hi]) rfl (by simp [ixv, hσ]) rfl ho
  · have q1 := I.opr w q h
    cases q with
    | lkd j z =>
      obtain ⟨q2, q3⟩ := q1
      refine ⟨q2, ?_⟩
      have hj : j ≠ i := by
        rintro rfl
        rw [hi] at q3; cases q3
      rw [List.getElem?_set_ne (Ne.symm hj)]; exact q3
    | bor j => exact q1
    | val d => trivial
    | new o => trivial
theorem RepS.borAt {i : Nat} (I : RepS F env (ops ++ ps) G σ H) (hm : (v, R.bor i) ∈ ops ++ ps) : σ[i]? = some (some v) := (show σ[i]? = some (some v) ∧ F.cv i = false from I.opr v (.bor i) hm).1
end

section
variable {X : Cx} {F : Fr} {pos : Pos} {o e : Expr} {es : List Expr}
theorem me_bm {T id : String} {name : Str} {apos cpos : Pos} {rm : V → List V → Hp → VK → Prop} {chk : R → En → Bool} {g : GL} {fo : FE} {f : FA} (hK : X.K = F.K) (pa : PlainAttrs T) (slot : Slot T name id) (hty : typeOf (.builtin id) = pure (.type "method_descriptor")) (hm : MtR X id rm) (hk : SChk F T chk) (hg : SM F rm g) (ho : PE X o (tE F fo)) (ha : PA X (e :: es) (tA F f))
    (hbase : attributeBase o name X.env (eval o X.env) = eval o X.env := by rfl)
    (hfew : ((backTo cpos (starEach (e :: es) X.env)).all (fun x => !x.1) && (backToKw cpos (keywordEach [] X.env)).all (fun x => x.1.isSome)
      && decide ((e :: es).length + ([] : List Keyword).length + (if ([] : List Keyword).isEmpty then 0 else 1) < 30)) = true := by rfl)
    (hline : (apos.endLine == cpos.line) = true := by rfl) (hs : starEach (e :: es) X.env = (false, eval e X.env) :: starEach es X.env := by rfl) (hplain : (backTo cpos (starEach es X.env)).any (·.1) = false := by rfl) :
    PE X (.Call (.Attribute o name apos) (e :: es) [] cpos) (tE F (eM chk g fo f)) := (pe_bm pa slot hty hm ho ha hbase hfew hline hs hplain).wk fun σ H Q h => by rw [hK]; exact tE_meth hk hg σ H Q h
theorem me_bm0 {T id : String} {name : Str} {apos cpos : Pos} {rm : V → List V → Hp → VK → Prop} {chk : R → En → Bool} {g : GL} {fo : FE} (hK : X.K = F.K) (pa : PlainAttrs T) (slot : Slot T name id) (hty : typeOf (.builtin id) = pure (.type "method_descriptor")) (hm : MtR X id rm) (hk : SChk F T chk) (hg : SM F rm g) (ho : PE X o (tE F fo))
    (hbase : attributeBase o name X.env (eval o X.env) = eval o X.env := by rfl) (hline : (apos.endLine == cpos.line) = true := by rfl) : PE X (.Call (.Attribute o name apos) [] [] cpos) (tE F (eM chk g fo aNil)) :=
  (pe_bm0 pa slot hty hm ho hbase hline).wk fun σ H Q h => by rw [hK]; exact tE_meth0 hk hg σ H Q h

/-! ### lists -/
def gAppend : GL := fun r rs env => match r, rs with
  | .bor i, [a] => (keep a env).bind fun p => match p.2[i]?.join with
    | some (.mu (.lst ds)) => if ds.length < sizeLine then some (.val .none, p.2.set i (some (.mu (.lst (ds ++ [p.1]))))) else none
    | _ => none
  | _, _ => none
theorem s_append : SM F rAppend gAppend := by
  intro env ops x ra ps G σ H r env' Q I e k
  unfold gAppend at e
  split at e
  · rename_i i a hps
    obtain ⟨y, rfl⟩ := map1 hps
    obtain ⟨⟨d, e1⟩, h1, e⟩ := bind_some e
    split at e
    · rename_i ds hi
      split at e
      · rename_i hl
        cases e
        obtain ⟨G1, s1, I1⟩ := RepS.keep (o1 := ops ++ [(x, .bor i)]) (o2 := []) (by simpa using I) h1
        have hσ : σ[i]? = some (some x) := I1.borAt (by simp)
        obtain ⟨p, rfl, ⟨vs, q1, q2⟩, _⟩ := (I1.obj (v := x) (r := .bor i) (by simp) (b := .mu (.lst ds)) hi).2 _ rfl
        have hd : Dp F.K G1 y d := (I1.obj (v := y) (r := .val d) (by simp) (b := .val d) rfl).1 d rfl
        refine ⟨p, vs, y, rfl, rfl, q1, by rw [dpAll_len q2]; exact hl, ?_⟩
        have I2 := I1.writeSlot (u' := .lst (ds ++ [d])) hσ hi ⟨_, upd_same, dpAll_app q2 (.cons hd .nil)⟩
        have I3 : RepS F _ ops G1 σ _ := RepS.pop (ps := [(.ref p, .bor i), (y, .val d)]) (by simpa using I2)
        exact k _ G1 _ s1 (I3.pushV .non)
      · cases e
    · cases e
  · cases e
/-- an own list as an operand -/
def ownL (r : R) (env : En) : Option (List D) := match r.ownO env with
  | some (.lst ds) => some ds
  | _ => none
theorem ownL_eq {r : R} {env : En} {ds : List D} (h : ownL r env = some ds) : r.ownO env = some (.lst ds) := by
  unfold ownL at h; split at h <;> first | (cases h; assumption) | cases h
def gExtend : GL := fun r rs env => match r, rs with
  | .bor i, [a] => (ownL a env).bind fun zs => match env[i]?.join with
    | some (.mu (.lst ds)) => if ds.length + zs.length ≤ sizeLine then some (.val .none, env.set i (some (.mu (.lst (ds ++ zs))))) else none
    | _ => none
  | _, _ => none
theorem s_extend : SM F rExtend gExtend := by
  intro env ops x ra ps G σ H r env' Q I e k
  unfold gExtend at e
  split at e
  · rename_i i a hps
    obtain ⟨y, rfl⟩ := map1 hps
    obtain ⟨zs, h1, e⟩ := bind_some e
    split at e
    · rename_i ds hi
      split at e
      · rename_i hl
        cases e
        have I1 : RepS F env ((ops ++ [(x, .bor i)]) ++ [(y, a)]) G σ H := by simpa using I
        have hσ : σ[i]? = some (some x) := I1.borAt (by simp)
        obtain ⟨p, rfl, ⟨vs, q1, q2⟩, _⟩ := (I1.obj (v := x) (r := .bor i) (by simp) (b := .mu (.lst ds)) hi).2 _ rfl
        obtain ⟨b, rfl, ⟨ws, g1, g2⟩, _⟩ := I1.ownO (v := y) (r := a) (by simp) (ownL_eq h1)
        refine ⟨p, b, vs, ws, rfl, rfl, q1, g1, by rw [dpAll_len q2, dpAll_len g2]; exact hl, ?_⟩
        have I2 := I1.writeSlot (u' := .lst (ds ++ zs)) hσ hi ⟨_, upd_same, dpAll_app q2 g2⟩
        have I3 : RepS F _ ops G σ _ := RepS.pop (ps := [(.ref p, .bor i), (.ref b, a)]) (by simpa using I2)
        exact k _ G _ (Same.refl _) (I3.pushV .non)
      · cases e
    · cases e
  · cases e
def gPop : GL := fun r rs env => match r, rs with
  | .bor i, [] => match env[i]?.join with
    | some (.mu (.lst ds)) => (ds[ds.length - 1]?).map fun d => (.val d, env.set i (some (.mu (.lst ds.dropLast))))
    | _ => none
  | _, _ => none
theorem s_pop : SM F rPop gPop := by
  intro env ops x ra ps G σ H r env' Q I e k
  unfold gPop at e
  split at e
  · rename_i i hps
    obtain rfl := map0 hps
    split at e
    · rename_i ds hi
      obtain ⟨d, h1, h2⟩ := omap_some e
      cases h2
      have hσ : σ[i]? = some (some x) := I.borAt (ps := [(x, .bor i)]) (by simp)
      obtain ⟨p, rfl, ⟨vs, q1, q2⟩, _⟩ := (I.obj (v := x) (r := .bor i) (by simp) (b := .mu (.lst ds)) hi).2 _ rfl
      obtain ⟨y, g1, g2⟩ := dpAll_get q2 h1
      refine ⟨p, vs, y, rfl, rfl, q1, by rw [dpAll_len q2]; exact g1, ?_⟩
      have I2 := I.writeSlot (u' := .lst ds.dropLast) hσ hi ⟨_, upd_same, dpAll_dropLast q2⟩
      exact k _ G _ (Same.refl _) (I2.pop.pushV g2)
    · cases e
  · cases e
def gPopAt : GL := fun r rs env => match r, rs with
  | .bor i, [.val (.int n)] => match env[i]?.join with
    | some (.mu (.lst ds)) => if -(2 ^ 63) ≤ n ∧ n < 2 ^ 63 then (seqIndex? n ds.length).bind fun j => (ds[j]?).map fun d => (.val d, env.set i (some (.mu (.lst (ds.eraseIdx j))))) else none
    | _ => none
  | _, _ => none
theorem s_popAt : SM F rPopAt gPopAt := by
  intro env ops x ra ps G σ H r env' Q I e k
  unfold gPopAt at e
  split at e
  · rename_i i n hps
    obtain ⟨y, rfl⟩ := map1 hps
    split at e
    · rename_i ds hi
      split at e
      · rename_i hn
        obtain ⟨j, h0, e⟩ := bind_some e
        obtain ⟨d, h1, h2⟩ := omap_some e
        cases h2
        have I1 : RepS F env ((ops ++ [(x, .bor i)]) ++ [(y, .val (.int n))]) G σ H := by simpa using I
        have hσ : σ[i]? = some (some x) := I1.borAt (by simp)
        have ey : y = .int n := I1.vint (by simp)
        obtain ⟨p, rfl, ⟨vs, q1, q2⟩, _⟩ := (I1.obj (v := x) (r := .bor i) (by simp) (b := .mu (.lst ds)) hi).2 _ rfl
        obtain ⟨z, g1, g2⟩ := dpAll_get q2 h1
        refine ⟨p, vs, n, j, z, rfl, by rw [← ey]; rfl, q1, hn.1, hn.2, by rw [dpAll_len q2]; exact h0, g1, ?_⟩
        have I2 := I1.writeSlot (u' := .lst (ds.eraseIdx j)) hσ hi ⟨_, upd_same, dpAll_erase j q2⟩
        have I3 : RepS F _ ops G σ _ := RepS.pop (ps := [(.ref p, .bor i), (y, .val (.int n))]) (by simpa using I2)
        exact k _ G _ (Same.refl _) (I3.pushV g2)
      · cases e
    · cases e
  · cases e

/-! ### xs[i] = v, d[k] = v -/
/-- a dict with a value put -/
def putD (kvs : List (Key × D)) (k : Key) (d : D) : List (Key × D) := if (kvs.any fun kv => decide (kv.1 = k)) = true then kvs.map (fun kv => if kv.1 = k then (kv.1, d) else kv) else kvs ++ [(k, d)]
theorem kvr_any {K : PySem.W.Frag} {G : Hp} (k : Key) : ∀ {ws : List (Key × V)} {kvs : List (Key × D)}, KVr K G ws kvs → (ws.any fun kv => decide (kv.1 = k)) = kvs.any fun kv => decide (kv.1 = k)
  | _, _, .nil => rfl
  | _, _, .cons r t => by simp only [List.any_cons]; rw [kvr_any k t, r.1]
theorem kvr_app {K : PySem.W.Frag} {G : Hp} : ∀ {ws ws' : List (Key × V)} {kvs kvs' : List (Key × D)}, KVr K G ws kvs → KVr K G ws' kvs' → KVr K G (ws ++ ws') (kvs ++ kvs')
  | _, _, _, _, .nil, h => h
  | _, _, _, _, .cons r t, h => .cons r (kvr_app t h)
theorem kvr_put {K : PySem.W.Frag} {G : Hp} {k : Key} {v : V} {d : D} (hd : Dp K G v d) {ws : List (Key × V)} {kvs : List (Key × D)} (h : KVr K G ws kvs) : KVr K G (putK ws k v) (putD kvs k d) := by
  unfold putK putD
  rw [kvr_any k h]
  split
  · have go : ∀ {ws : List (Key × V)} {kvs : List (Key × D)}, KVr K G ws kvs → KVr K G (ws.map fun kv => if kv.1 = k then (kv.1, v) else kv) (kvs.map fun kv => if kv.1 = k then (kv.1, d) else kv) := by
      intro ws kvs h
      induction h with
      | nil => exact .nil
      | @cons a b l1 l2 r t ih =>
        refine .cons ?_ ih
        obtain ⟨r1, r2⟩ := r
        by_cases hk : a.1 = k
        · have hk2 : b.1 = k := r1 ▸ hk
          simp only [hk, hk2, if_true]; exact ⟨trivial, hd⟩
        · have hk2 : ¬ b.1 = k := r1 ▸ hk
          simp only [hk, hk2, if_false]; exact ⟨r1, r2⟩
    exact go h
  · exact kvr_app h (.cons ⟨rfl, hd⟩ .nil)
def rSetD : TSet := fun o i v H Q => ∃ a H4, o = .ref a ∧ DPut H a i v H4 ∧ Q H4
theorem set_dict (hu : X.A.units + 1 < cLine) : PSet X rSetD := by
  intro pins s σ H o i v ov iv u Q I ro ri rv h
  obtain ⟨a, H4, rfl, g, q⟩ := h
  cases ro
  exact d_setItem hu I g ri rv fun s' I' => ⟨H4, I', q⟩
def rSetA : TSet := fun o i v H Q => rSetL o i v H Q ∨ rSetD o i v H Q
theorem set_any (hu : X.A.units + 1 < cLine) : PSet X rSetA := by
  intro pins s σ H o i v ov iv u Q I ro ri rv h
  rcases h with h | h
  · exact set_list pins s σ H o i v ov iv u Q I ro ri rv h
  · exact set_dict hu pins s σ H o i v ov iv u Q I ro ri rv h
/-- the store itself: the slot i of the container, the index, the data -/
def setAt (i : Nat) (ri : R) (d : D) (env : En) : Option En := match env[i]?.join with
  | some (.mu (.lst ds)) => ri.int.bind fun n => (ixN ds.length n).map fun j => env.set i (some (.mu (.lst (ds.set j d))))
  | some (.mu (.dK kvs)) => (ri.dat env).bind fun k => (keyD k).bind fun k => if kvs.length < sizeLine then some (env.set i (some (.mu (.dK (putD kvs k d))))) else none
  | _ => none
theorem RepS.setAt {env env' : En} {ops : Ops} {G H : Hp} {σ : St} {x y v : V} {i : Nat} {ri : R} {d : D} {Q : Hp → Prop} (I : RepS F env ops G σ H) (mv : (v, R.val d) ∈ ops) (mx : (x, R.bor i) ∈ ops) (my : (y, ri) ∈ ops) (e : setAt i ri d env = some env') (q : ∀ H', RepS F env' ops G σ H' → Q H') : rSetA x y v H Q := by
  have hσ : σ[i]? = some (some x) := (show σ[i]? = some (some x) ∧ F.cv i = false from I.opr x (.bor i) mx).1
  have hd : Dp F.K G v d := (I.obj (v := v) (r := .val d) mv (b := .val d) rfl).1 d rfl
  unfold ML.setAt at e
  split at e
  · rename_i ds hi
    obtain ⟨n, h1, e⟩ := bind_some e
    obtain ⟨j, h2, h3⟩ := omap_some e
    subst h3
    obtain rfl := R.int_eq h1
    have ey : y = .int n := I.vint my
    obtain ⟨p, rfl, ⟨vs, q1, q2⟩, _⟩ := (I.obj (v := x) (r := .bor i) mx (b := .mu (.lst ds)) hi).2 _ rfl
    refine .inl ⟨p, vs, n, j, rfl, ey, q1, by rw [dpAll_len q2]; exact h2, q _ ?_⟩
    exact (I.writeSlot (u' := .lst (ds.set j d)) hσ hi ⟨_, upd_same, dpAll_set hd j q2⟩)
  · rename_i kvs hi
    obtain ⟨kd, h1, e⟩ := bind_some e
    obtain ⟨k, h2, e⟩ := bind_some e
    split at e
    · rename_i hl
      cases e
      obtain ⟨p, rfl, ⟨ws, q1, q2⟩, _⟩ := (I.obj (v := x) (r := .bor i) mx (b := .mu (.dK kvs)) hi).2 _ rfl
      have ey := keyD_of (I.dat (v := y) (r := ri) my h1) h2
      refine .inr ⟨p, _, rfl, by rw [ey]; exact DPut.k q1 (by rw [kvr_len q2]; exact hl), q _ ?_⟩
      exact (I.writeSlot (u' := .dK (putD kvs k d)) hσ hi ⟨_, upd_same, kvr_put hd q2⟩)
    · cases e
  · cases e
/-- o[i] = v: first the value, then o, then i -/
def sSetIx (fv fo fi : FE) : FS := fun env => (fv env).bind fun p => (fo p.2).bind fun q => (fi q.2).bind fun s => (keep p.1 s.2).bind fun d => match q.1 with
  | .bor i => (setAt i s.1 d.1 d.2).map fun e => (.nx, e)
  | _ => none
theorem ms_setIx {a b : Expr} {tp : Pos} {fv fo fi : FE} (hu : X.A.units + 1 < cLine) (hv : PE X e (tE F fv)) (ho : PE X a (tE F fo)) (hi : PE X b (tE F fi))
    (ha : ∀ v, assign (.Subscript a b tp) X.env v = (do
      let ov ← holding [v] (eval a X.env)
      let iv ← holding [v, ov] (eval b X.env)
      standAt tp
      holding [v, ov, iv] (setItem ov iv v)
      release [v, ov, iv] []) := by intro _; rfl)
    (hs : swapsWithSole [.Subscript a b tp] e pos.line X.env = pure false := by rfl) (hw : swappedStores [.Subscript a b tp] e X.env = pure none := by rfl)
    (h1 : (assignEach [.Subscript a b tp] X.env).map (·.2) = [assign (.Subscript a b tp) X.env] := by rfl) : PS X (.Assign [.Subscript a b tp] e pos) (tS F (sSetIx fv fo fi)) :=
  (ps_asg hv (pg_sub ho hi (set_any hu) ha) hs hw h1).wk fun D σ H ⟨env, ops, G, fl, env', nb, I, e, k⟩ => by
    obtain ⟨⟨rv, e1⟩, h1, e⟩ := bind_some e
    obtain ⟨⟨ro, e2⟩, h2, e⟩ := bind_some e
    obtain ⟨⟨ri, e3⟩, h3, e⟩ := bind_some e
    obtain ⟨⟨d, e4⟩, h4, e⟩ := bind_some e
    split at e
    · rename_i i hro
      obtain ⟨e5, h5, h6⟩ := omap_some e
      cases h6
      have hro : ro = .bor i := hro
      subst hro
      refine ⟨env, ops, G, rv, e1, I, h1, fun v G1 H1 s1 I1 => ?_⟩
      refine ⟨e1, _, G1, _, e2, I1, h2, fun x G2 H2 s2 I2 => ?_⟩
      refine ⟨e2, _, G2, ri, e3, I2, h3, fun y G3 H3 s3 I3 => ?_⟩
      obtain ⟨G4, s4, I4⟩ := RepS.keep (o1 := ops) (v := v) (r := rv) (o2 := [(x, .bor i), (y, ri)]) (by simpa using I3) h4
      exact RepS.setAt I4 (by simp) (by simp) (by simp) h5 fun H' I5 => k σ G4 H' (((s1.trans s2).trans s3).trans s4) I5.pop
    · cases e

/-! ### o[i] op= v, lists of data at places from 0 on -/
def rGetL0 (K : PySem.W.Frag) : V → V → Hp → VK → Prop := fun o i H Q => ∃ (p : Addr) (xs : List V) (n : Nat) (v : V), o = .ref p ∧ i = .int n ∧ SqL K H p xs ∧ xs[n]? = some v ∧ Q v H
theorem get_list0 : PGet X (rGetL0 X.K) := by
  intro pins s σ H o i ov iv Q I ro ri h
  obtain ⟨p, xs, n, v, rfl, rfl, hq, hx, q⟩ := h
  cases ro
  obtain ⟨t, rfl⟩ := ri
  obtain ⟨its, r, pl, hz⟩ := I.list hq
  obtain ⟨w, ew, rw'⟩ := r.get hx
  have hl := r.length
  have hn := line63
  have hi := (List.getElem?_eq_some_iff.mp hx).1
  exact wpAny_getItem_list pl.isList (Int.natCast_nonneg n) (by omega) (by simpa using ew) ⟨v, H, I, rw', q⟩
def rIpAdd : TIp := ipI fun i j => i + j
/-- xs[i] += e, xs[i] -= e of ints: o, i, the old one, e -/
def sAugIx (f : Int → Int → Int) (fo fi fe : FE) : FS := fun env => (fo env).bind fun p => (fi p.2).bind fun q => match p.1, q.1 with
  | .bor i, .val (.int n) => (match q.2[i]?.join with
    | some (.mu (.lst ds)) => if 0 ≤ n then (match ds[n.toNat]? with
      | some (.int a) => (fe q.2).bind fun s => s.1.int.bind fun b => (setAt i (.val (.int n)) (.int (f a b)) s.2).map fun e => (.nx, e)
      | _ => none) else none
    | _ => none)
  | _, _ => none
theorem ms_augIx {a b : Expr} {tp : Pos} {op : Operator} {f : Int → Int → Int} {fo fi fe : FE} (hK : X.K = F.K) (hu : X.A.units + 1 < cLine) (hp : PIp X op (ipI f)) (ho : PE X a (tE F fo)) (hi : PE X b (tE F fi)) (he : PE X e (tE F fe))
    (ha : ∀ ov iv new, augStore b ov iv new = (do holding [new, ov, iv] (setItem ov iv new); release [new, ov, iv] []; pure .next) := by intros; rfl) : PS X (.AugAssign (.Subscript a b tp) op e pos) (tS F (sAugIx f fo fi fe)) :=
  (ps_augS ho hi get_list0 he hp (set_any hu) ha).wk fun D σ H ⟨env, ops, G, fl, env', nb, I, e, k⟩ => by
    obtain ⟨⟨ro, e1⟩, h1, e⟩ := bind_some e
    obtain ⟨⟨ri, e2⟩, h2, e⟩ := bind_some e
    split at e
    · rename_i i n hro hri
      have hro : ro = .bor i := hro
      have hri : ri = .val (.int n) := hri
      subst hro; subst hri
      split at e
      · rename_i ds hi
        split at e
        · rename_i hn
          split at e
          · rename_i z hz
            obtain ⟨⟨rb, e3⟩, h3, e⟩ := bind_some e
            obtain ⟨c, h4, e⟩ := bind_some e
            obtain ⟨e4, h5, h6⟩ := omap_some e
            cases h6
            obtain rfl := R.int_eq h4
            refine ⟨env, ops, G, _, e1, I, h1, fun x G1 H1 s1 I1 => ?_⟩
            refine ⟨e1, _, G1, _, e2, I1, h2, fun y G2 H2 s2 I2 => ?_⟩
            obtain ⟨p, rfl, ⟨vs, q1, q2⟩, _⟩ := (I2.obj (v := x) (r := .bor i) (by simp) (b := .mu (.lst ds)) hi).2 _ rfl
            obtain ⟨w, g1, g2⟩ := dpAll_get q2 hz
            obtain rfl := dp_int g2
            have ey : y = .int n := I2.vint (by simp)
            rw [hK]
            refine ⟨p, vs, n.toNat, .int z, rfl, by rw [ey, Int.toNat_of_nonneg hn], .inl (.inl q1), g1, ?_⟩
            refine ⟨e2, _, G2, _, e3, I2, h3, fun u G3 H3 s3 I3 => ?_⟩
            have eu : u = .int c := I3.vint (by simp)
            refine ⟨z, c, rfl, eu, ?_⟩
            have I4 : RepS F e3 (ops ++ [(.ref p, .bor i), (y, .val (.int n))]) G3 σ H3 := RepS.pop (ps := [(u, .val (.int c))]) (by simpa using I3)
            have I5 := I4.pushV (v := .int (f z c)) (d := .int (f z c)) (.int _)
            have I6 : RepS F e3 (ops ++ [(.ref p, .bor i), (y, .val (.int n)), (.int (f z c), .val (.int (f z c)))]) G3 σ H3 := by simpa using I5
            exact RepS.setAt I6 (by simp) (by simp) (by simp) h5 fun H' I7 => k σ G3 H' ((s1.trans s2).trans s3) I7.pop
          · cases e
        · cases e
      · cases e
    · cases e
end
end ML

/-! ML12: dicts: get, update, dict(..), displays; ranges as tuples and lists. -/
namespace ML
open PySem PySem.Spec PyProof.Rows L2
section
variable {X : Cx} {F : Fr} {pos : Pos} {o e : Expr} {es : List Expr}
/-- d.get(k, x) -/
def eGet2 (fo fk fd : FE) : FE := fun env => (fo env).bind fun p => if chkD p.1 p.2 = true then (fk p.2).bind fun q => (fd q.2).bind fun s => (p.1.dk s.2).bind fun kvs => (q.1.dat s.2).bind fun kd => (keyD kd).bind fun k => match lkD kvs k with
    | some d => some (.val d, s.2)
    | none => some (s.1, s.2)
  else none
theorem me_get2 {apos cpos : Pos} {e f : Expr} {fo fk fd : FE} (hu : X.A.units + 1 < cLine) (ho : PE X o (tE F fo)) (he : PE X e (tE F fk)) (hf : PE X f (tE F fd)) (m : M2 X o "get" apos e f cpos) : PE X (.Call (.Attribute o "get" apos) [e, f] [] cpos) (tE F (eGet2 fo fk fd)) :=
  (pe_dget2 hu ho he hf m).wk fun σ H Q ⟨env, ops, G, r, env', I, e, k⟩ => by
    obtain ⟨⟨ro, e1⟩, h1, e⟩ := bind_some e
    split at e
    case isFalse => cases e
    rename_i hc
    obtain ⟨⟨rk, e2⟩, h2, e⟩ := bind_some e
    obtain ⟨⟨rd, e3⟩, h3, e⟩ := bind_some e
    obtain ⟨kvs, h4, e⟩ := bind_some e
    obtain ⟨kd, h5, e⟩ := bind_some e
    obtain ⟨kk, h6, e⟩ := bind_some e
    refine ⟨env, ops, G, ro, e1, I, h1, fun x G1 H1 s1 I1 => ?_⟩
    obtain ⟨kvs1, h7⟩ := Option.isSome_iff_exists.mp hc
    obtain ⟨a, ws1, rfl, g1, _⟩ := I1.dk (v := x) (r := ro) (by simp) h7
    refine ⟨a, rfl, .inl ⟨ws1, .inl g1⟩, e1, _, G1, rk, e2, I1, h2, fun y G2 H2 s2 I2 => ?_⟩
    refine ⟨e2, _, G2, rd, e3, I2, h3, fun z G3 H3 s3 I3 => ?_⟩
    have s : Same G G3 := (s1.trans s2).trans s3
    have I3' : RepS F e3 ((ops ++ [(.ref a, ro), (y, rk)]) ++ [(z, rd)]) G3 σ H3 := by simpa using I3
    obtain ⟨a', ws, ea, g2, g3⟩ := I3'.dk (v := .ref a) (r := ro) (by simp) h4
    cases ea
    have ey := keyD_of (I3'.dat (v := y) (r := rk) (by simp) h5) h6
    refine ⟨valV ws kk, by rw [ey]; exact DGet.k g2, ?_⟩
    split at e
    · rename_i d hd
      cases e
      obtain ⟨v, e1, e2⟩ := (kvr_val kk g3).1 d hd
      rw [e1]
      exact k v G3 H3 s (RepS.pop (ps := [(.ref a, ro), (y, rk), (z, rd)]) (by simpa using I3') |>.pushV e2)
    · rename_i hd
      cases e
      rw [(kvr_val kk g3).2 hd]
      exact k z G3 H3 s I3'.dropMid
/-- the pairs of a list of pairs -/
def pairsOf : List D → Option (List (Key × D))
  | [] => some []
  | .tuple [k, d] :: r => (keyD k).bind fun k => (pairsOf r).map fun s => (k, d) :: s
  | _ => none
theorem pairsOf_dp {K : PySem.W.Frag} {G : Hp} : ∀ {ds : List D} {vs : List V} {kvs : List (Key × D)}, DpAll K G vs ds → pairsOf ds = some kvs → ∃ (ps : List Addr) (ws : List (Key × V)), vs = ps.map V.ref ∧ Paired (fun p kv => SqT K G p [kV kv.1, kv.2]) ps ws ∧ KVr K G ws kvs
  | [], vs, kvs, h, e => by
    cases h; cases e
    exact ⟨[], [], rfl, .nil, .nil⟩
  | d :: ds, vs, kvs, h, e => by
    unfold pairsOf at e
    split at e
    · rename_i h0; cases h0
    · rename_i d0 k d' r h0
      cases h0
      obtain ⟨kk, h1, e⟩ := bind_some e
      obtain ⟨s, h2, h3⟩ := omap_some e
      subst h3
      cases h with
      | cons a1 a2 =>
        obtain ⟨a, us, rfl, q1, q2⟩ := dp_tup a1
        cases q2 with
        | cons b1 b2 =>
          cases b2 with
          | cons c1 c2 =>
            cases c2
            obtain ⟨ps, ws, rfl, g1, g2⟩ := pairsOf_dp a2 h2
            have := keyD_of b1 h1
            subst this
            exact ⟨a :: ps, (kk, _) :: ws, rfl, .cons q1 g1, .cons ⟨rfl, c1⟩ g2⟩
    · cases e
def mergeD (kvs more : List (Key × D)) : List (Key × D) := more.foldl (fun acc kv => putD acc kv.1 kv.2) kvs
theorem kvr_merge {K : PySem.W.Frag} {G : Hp} {more : List (Key × V)} {mored : List (Key × D)} (hm : KVr K G more mored) : ∀ {ws : List (Key × V)} {kvs : List (Key × D)}, KVr K G ws kvs → KVr K G (mergeK ws more) (mergeD kvs mored) := by
  induction hm with
  | nil => exact fun h => h
  | @cons p q l1 l2 r t ih =>
    intro ws kvs h
    obtain ⟨k, v⟩ := p
    obtain ⟨k2, d⟩ := q
    obtain ⟨r1, r2⟩ := r
    have r1 : k = k2 := r1
    subst r1
    exact ih (kvr_put r2 h)
theorem paired_mono {K : PySem.W.Frag} {G H : Hp} (s : Same G H) {ps : List Addr} {ws : List (Key × V)} (h : Paired (fun p kv => SqT K G p [kV kv.1, kv.2]) ps ws) : Paired (fun p kv => SqT K H p [kV kv.1, kv.2]) ps ws := Paired.mapP h fun _ _ z => same_sqT s z
def gDict : GN := n1 fun r env => (r.lst env).bind fun ds => (pairsOf ds).map fun kvs => (.new (.dK (mergeD [] kvs)), env)
theorem s_dict : SN F (fun xs H Q => ∃ (a : Addr) (ps : List Addr) (kvs : List (Key × V)), xs = [.ref a] ∧ SqL F.K H a (ps.map V.ref) ∧ Paired (fun p kv => SqT F.K H p [kV kv.1, kv.2]) ps kvs ∧
    ∀ p, H p = none → Q (.ref p) (upd H p (.dK (mergeK [] kvs)))) gDict := sn1 fun env ops x ra G σ H r env' Q I e k => by
  obtain ⟨ds, h1, e⟩ := bind_some e
  obtain ⟨kvs, h2, h3⟩ := omap_some e
  cases h3
  obtain ⟨a, vs, rfl, q1, q2⟩ := I.lst (v := x) (r := ra) (by simp) h1
  obtain ⟨ps, ws, rfl, g1, g2⟩ := pairsOf_dp q2 h2
  exact ⟨a, ps, ws, rfl, q1, paired_mono I.same g1, fun p hp => I.retN k hp ⟨_, upd_same, kvr_merge g2 .nil⟩⟩
/-- d.update(list of pairs) -/
def rUpdD (K : PySem.W.Frag) : V → List V → Hp → VK → Prop := fun x xs H Q => ∃ (d a : Addr) (acc : List (Key × V)) (ps : List Addr) (kvs : List (Key × V)), x = .ref d ∧ xs = [.ref a] ∧ H d = some (.dK acc) ∧ SqL K H a (ps.map V.ref) ∧ Paired (fun p kv => SqT K H p [kV kv.1, kv.2]) ps kvs ∧
  acc.length + kvs.length ≤ sizeLine ∧ Q .non (upd H d (.dK (mergeK acc kvs)))
theorem mt_updD (hc : X.calm = true) : MtR X "dict.update" (rUpdD X.K) := by
  intro pins s σ H x xs v us Q I rx rxs h
  obtain ⟨d, a, acc, ps, kvs, rfl, rfl, hd, hq, hp, hz, q⟩ := h
  cases rx
  obtain rfl := Vals.ref1 rxs
  obtain ⟨its, rv, pl, hzl⟩ := I.list hq
  obtain rfl := refs_at rv
  obtain ⟨prs, rel, hl, hpr⟩ := pairs_of I hp
  obtain ⟨za, hda, vsa, ra, dda⟩ := dk_of I.hok hd
  -- the pairs as values: the first parts are read off the tuples
  have hkeys : ∀ j : Nat, ∃ u : Value, ∀ q, prs[j]? = some q → ∃ b, ps[j]? = some b ∧ IsTup s.heap b #[u, q.2] ∧ keyIs q.1 u = true := fun j => by
    cases e : prs[j]? with
    | none => exact ⟨.none, fun q h => nomatch h⟩
    | some q0 =>
      obtain ⟨b, u, e1, e2, e3⟩ := hpr j q0 e
      exact ⟨u, fun q h => by cases h; exact ⟨b, e1, e2, e3⟩⟩
  obtain ⟨K0, hK0⟩ := Classical.axiomOfChoice hkeys
  have hdn : d ≠ a := by
    rintro rfl
    obtain ⟨o1, n1, e1, c1, _⟩ := pl
    obtain ⟨o2, es, ep, e2, x2, _⟩ := dda
    rw [e1] at e2; cases e2
    have := x2.1
    rw [c1] at this
    exact absurd this (by decide)
  let vps : List (Value × Value) := (List.range prs.length).map fun j => (K0 j, (prs[j]?.map (·.2)).getD .none)
  have vget : ∀ (j : Nat) (q : Key × Value), prs[j]? = some q → vps[j]? = some (K0 j, q.2) := fun j q h => by
    have hj := (List.getElem?_eq_some_iff.mp h).1
    show ((List.range prs.length).map _)[j]? = _
    rw [List.getElem?_map, List.getElem?_range hj]
    simp [h]
  have vlen : vps.length = prs.length := by simp [vps]
  have vget' : ∀ (j : Nat) (p : Value × Value), vps[j]? = some p → ∃ q, prs[j]? = some q ∧ p = (K0 j, q.2) := fun j p h => by
    have hj : j < prs.length := by rw [← vlen]; exact (List.getElem?_eq_some_iff.mp h).1
    refine ⟨prs[j], List.getElem?_eq_getElem hj, ?_⟩
    rw [vget j _ (List.getElem?_eq_getElem hj)] at h
    exact (Option.some.inj h).symm
  have PA := PySem.PairArg.list (prog := X.prog) (w := X.w) a (ps.map Value.ref).toArray (fun j => ps.getD j 0) vps
  have psg : ∀ (j : Nat) (b : Addr), ps[j]? = some b → ps.getD j 0 = b := fun j b h => by simp [List.getD, h]
  have hdf : d ∉ a :: (List.range vps.length).map fun j => ps.getD j 0 := fun z => by
    rcases List.mem_cons.mp z with z | z
    · exact hdn z
    · obtain ⟨j, hj, z⟩ := List.mem_map.mp z
      have hj : j < prs.length := by rw [← vlen]; exact List.mem_range.mp hj
      obtain ⟨b, e1, e2, _⟩ := hK0 j _ (List.getElem?_eq_getElem hj)
      rw [psg j b e1] at z
      subst z
      obtain ⟨o1, es, ep, e3, x3, _⟩ := dda
      obtain ⟨o2, e4, c4, _⟩ := e2
      rw [e3] at e4; cases e4
      have := x3.1
      rw [c4] at this
      exact absurd this (by decide)
  refine PySem.call_update_pairs (knd := mixKind X.prog X.w) (acc := vsa) (kvs := prs) PA (I.ok.hd hc) ⟨?_, by simp [vlen, hl], fun j kk vv hj => ?_⟩ hdf ⟨by rw [vlen], fun i key vv hr => ?_⟩ dda ?_ fun h' tk dd' kp => ?_
  · obtain ⟨o, n, ho, hcl, hdc, hdat⟩ := pl
    exact ⟨o, n, ho, hcl, hdc, by simpa using hdat⟩
  · obtain ⟨q, e1, e2⟩ := vget' j _ hj
    cases e2
    obtain ⟨b, e3, e4, _⟩ := hK0 j q e1
    show _ = some (Value.ref (ps.getD j 0)) ∧ PySem.PairAt s.heap (ps.getD j 0) _ _
    rw [psg j b e3]
    exact ⟨by simp [e3], .inl e4⟩
  · obtain ⟨q, e1, e2⟩ := vget' i _ hr
    cases e2
    obtain ⟨b, _, _, e5⟩ := hK0 i q e1
    exact ⟨q.1, e1, e5⟩
  · rw [vlen, ← ra.length, ← rel.length]; exact hz
  · have hlen : (mergeK acc kvs).length ≤ sizeLine := Nat.le_trans (length_mergeK kvs acc) hz
    have he : ∃ u, h'.get? d = some u := by
      obtain ⟨o2, es, ep, e2, _⟩ := dd'
      exact ⟨o2, e2⟩
    exact ⟨.non, _, I.write (e := d) (t' := tk) (by rw [hd]; trivial) (.inl rfl) (fun b u hb hu => kp b u hb (fun z => nomatch z) hu) he (show ObjOk X.prog X.w _ _ _ (.dK (mergeK acc kvs)) from ⟨hlen, hda, merged vsa prs, KV.merge rel ra, dd'⟩), rfl, q⟩
def gUpdate : GL := fun r rs env => match r, rs with
  | .bor i, [a] => (a.lst env).bind fun ds => (pairsOf ds).bind fun more => match env[i]?.join with
    | some (.mu (.dK kvs)) => if kvs.length + more.length ≤ sizeLine then some (.val .none, env.set i (some (.mu (.dK (mergeD kvs more))))) else none
    | _ => none
  | _, _ => none
theorem s_update : SM F (rUpdD F.K) gUpdate := by
  intro env ops x ra ps G σ H r env' Q I e k
  unfold gUpdate at e
  split at e
  · rename_i i a hps
    obtain ⟨y, rfl⟩ := map1 hps
    obtain ⟨ds, h1, e⟩ := bind_some e
    obtain ⟨more, h2, e⟩ := bind_some e
    split at e
    · rename_i kvs hi
      split at e
      · rename_i hl
        cases e
        have I1 : RepS F env ((ops ++ [(x, .bor i)]) ++ [(y, a)]) G σ H := by simpa using I
        have hσ : σ[i]? = some (some x) := I1.borAt (by simp)
        obtain ⟨p, rfl, ⟨ws, q1, q2⟩, _⟩ := (I1.obj (v := x) (r := .bor i) (by simp) (b := .mu (.dK kvs)) hi).2 _ rfl
        obtain ⟨b, vs, rfl, g1, g2⟩ := I1.lst (v := y) (r := a) (by simp) h1
        obtain ⟨qs, ms, rfl, g3, g4⟩ := pairsOf_dp g2 h2
        refine ⟨p, b, ws, qs, ms, rfl, rfl, q1, g1, paired_mono I1.same g3, by rw [kvr_len q2, kvr_len g4]; exact hl, ?_⟩
        have I2 := I1.writeSlot (u' := .dK (mergeD kvs more)) hσ hi ⟨_, upd_same, kvr_merge g4 q2⟩
        have I3 : RepS F _ ops G σ _ := RepS.pop (ps := [(.ref p, .bor i), (.ref b, a)]) (by simpa using I2)
        exact k _ G _ (Same.refl _) (I3.pushV .non)
      · cases e
    · cases e
  · cases e

/-! ### displays -/
def eNewD : FE := fun env => some (.new (.dK []), env)
theorem me_newD : PE X (.Dict [] [] pos) (tE F eNewD) := pe_dnewK.wk fun σ H Q ⟨env, ops, G, r, env', I, e, q⟩ => by
  cases e
  exact fun p hp => q _ G _ (Same.refl _) (I.pushN (u := .dK []) hp ⟨[], upd_same, .nil⟩)
def pairsE : List (FE × FE) → En → Option (List (Key × D) × En)
  | [], env => some ([], env)
  | (fk, fv) :: r, env => (fk env).bind fun p => match p.1 with
    | .val kd => (keyD kd).bind fun k => (fv p.2).bind fun q => (keep q.1 q.2).bind fun d => (pairsE r d.2).map fun s => ((k, d.1) :: s.1, s.2)
    | _ => none
theorem pairs_sound : ∀ (l : List (FE × FE)) (env env' : En) (ops : Ops) (G : Hp) (σ : St) (H : Hp) (kvs : List (Key × D)) (Q : List (V × V) → Hp → Prop), RepS F env ops G σ H → pairsE l env = some (kvs, env') →
    (∀ G' H' (ws : List (Key × V)), Same G G' → RepS F env' ops G' σ H' → KVr F.K G' ws kvs → Q (ws.map fun kv => (kV kv.1, kv.2)) H') → tPairs (l.map fun p => (tE F p.1, tE F p.2)) σ H Q
  | [], env, env', ops, G, σ, H, kvs, Q, I, e, k => by
    cases e
    exact k G H [] (Same.refl _) I .nil
  | (fk, fv) :: l, env, env', ops, G, σ, H, kvs, Q, I, e, k => by
    obtain ⟨⟨rk, e1⟩, h1, e⟩ := bind_some e
    split at e
    · rename_i kd hk
      have hk : rk = .val kd := hk
      subst hk
      obtain ⟨kk, h2, e⟩ := bind_some e
      obtain ⟨⟨rv, e2⟩, h3, e⟩ := bind_some e
      obtain ⟨⟨d, e3⟩, h4, e⟩ := bind_some e
      obtain ⟨⟨kvs', e4⟩, h5, h6⟩ := omap_some e
      cases h6
      refine ⟨env, ops, G, _, e1, I, h1, fun x G1 H1 s1 I1 => ?_⟩
      have ex := keyD_of (I1.dat (v := x) (r := .val kd) (by simp) rfl) h2
      refine ⟨e1, _, G1, rv, e2, I1.pop, h3, fun y G2 H2 s2 I2 => ?_⟩
      obtain ⟨G3, s3, I3⟩ := RepS.keep (o1 := ops) (o2 := []) I2 h4
      have hd : Dp F.K G3 y d := (I3.obj (v := y) (r := .val d) (by simp) (b := .val d) rfl).1 d rfl
      refine pairs_sound l e3 _ ops G3 σ H2 kvs' _ (RepS.pop I3) h5 fun G4 H4 ws s4 I4 hw => ?_
      have := k G4 H4 ((kk, y) :: ws) (((s1.trans s2).trans s3).trans s4) I4 (.cons ⟨rfl, dp_mono s4 _ _ hd⟩ hw)
      rw [ex]
      exact this
    · cases e
def eDisp (l : List (FE × FE)) : FE := fun env => (pairsE l env).bind fun p => if p.1.length ≤ 15 then some (.new (.dK (mergeD [] p.1)), p.2) else none
theorem me_disp {keys : List (Option Expr)} {values : List Expr} {l : List (FE × FE)} (h : PPs X pos keys values (l.map fun p => (tE F p.1, tE F p.2))) (hall : keys.all (·.isSome) = true) (hl : keys.length = values.length) (h0 : keys ≠ [])
    (h15 : keys.length ≤ 15) : PE X (.Dict keys values pos) (tE F (eDisp l)) := (pe_disp h hall hl h0 h15).wk fun σ H Q ⟨env, ops, G, r, env', I, e, q⟩ => by
  obtain ⟨⟨kvs, e1⟩, h1, e⟩ := bind_some e
  split at e
  case isFalse => cases e
  rename_i hlen
  cases e
  intro p hp
  have I1 : RepS F env (ops ++ [(.ref p, .new (.dK []))]) G σ (upd H p (.dK [])) := I.pushN (u := .dK []) hp ⟨[], upd_same, .nil⟩
  refine pairs_sound l env e1 _ G σ _ kvs _ I1 h1 fun G' H' ws s' I2 hw => ?_
  obtain ⟨a, ea, ⟨ws0, q1, q2⟩, _⟩ := (I2.obj (v := .ref p) (r := .new (.dK [])) (by simp) (b := .mu (.dK [])) rfl).2 _ rfl
  cases ea
  cases q2
  refine ⟨q1, ws, rfl, by rw [kvr_len hw]; exact hlen, ?_⟩
  refine q _ G' _ s' ⟨?_, fun w r h => ?_, I2.len⟩
  · have J := I2.rep.write (j := .inr ops.length) (b := .mu (.dK [])) (b' := .mu (.dK (mergeD [] kvs))) (u := .dK []) (u' := .dK (mergeD [] kvs)) (p := p) (o := .dK (mergeK [] ws)) (by simp [ix, R.toB]) rfl (by simp [ixv]) rfl ⟨_, upd_same, kvr_merge hw .nil⟩
    rw [ix_snoc, ixv_snoc] at J
    rw [ix_snoc, ixv_snoc]
    refine J.re id (fun k b e => ⟨?_, rfl, id⟩) (fun _ _ _ _ _ _ z => z) (fun i v e => J.par i v e)
    by_cases hk : k = .inr ops.length
    · simp only [hk, if_true, id] at e ⊢; exact e
    · simp only [hk, if_false, id] at e ⊢; exact e
  · rcases List.mem_append.mp h with h | h
    · exact I2.opr w r (List.mem_append_left _ h)
    · simp at h; obtain ⟨rfl, rfl⟩ := h; trivial

/-! ### tuple(range(..)), list(range(..)) -/
theorem dpAll_rg {K : PySem.W.Frag} {H : Hp} (a b : Int) : DpAll K H (rgV a b) (rangeD a b) := by
  unfold rgV rangeD
  generalize List.range (b - a).toNat = l
  induction l with
  | nil => exact .nil
  | cons x l ih => exact .cons (.int _) ih
def rgOk (a b : Int) : Bool := decide (-(2 ^ 62) ≤ a ∧ a < 2 ^ 62 ∧ -(2 ^ 62) ≤ b ∧ b < 2 ^ 62 ∧ (b - a).toNat ≤ 2 ^ 24)
def eTupRg1 (f : FE) : FE := fun env => (f env).bind fun p => p.1.int.bind fun n => if rgOk 0 n = true then some (.val (.tuple (rangeD 0 n)), p.2) else none
def eLstRg1 (f : FE) : FE := fun env => (f env).bind fun p => p.1.int.bind fun n => if rgOk 0 n = true then some (.new (.lst (rangeD 0 n)), p.2) else none
theorem me_tupRg1 {a : Expr} {p q pos : Pos} {f : FE} (hc : X.calm = true) (hg : Gl X "tuple") (hm : X.mg "tuple" = none) (hg2 : Gl X "range") (hm2 : X.mg "range" = none) (ha : PE X a (tE F f)) (na : starEach [a] X.env = (false, eval a X.env) :: starEach [] X.env := by rfl)
    (nb : starEach [.Call (.Name "range" q) [a] [] pos] X.env = (false, eval (.Call (.Name "range" q) [a] [] pos) X.env) :: starEach [] X.env := by rfl) {pos' : Pos} : PE X (.Call (.Name "tuple" p) [.Call (.Name "range" q) [a] [] pos] [] pos') (tE F (eTupRg1 f)) :=
  (pe_tupRgF hc hg hm (prg_1 hg2 hm2 ha na) nb).wk fun σ H Q ⟨env, ops, G, r, env', I, e, k⟩ => by
    obtain ⟨⟨ra, e1⟩, h1, e⟩ := bind_some e
    obtain ⟨n, h2, e⟩ := bind_some e
    split at e
    case isFalse => cases e
    rename_i hr
    cases e
    obtain rfl := R.int_eq h2
    refine ⟨env, ops, G, _, _, I, h1, fun v G1 H1 s1 I1 => ⟨n, I1.vint (by simp), (of_decide_eq_true hr : -(2 ^ 62) ≤ (0 : Int) ∧ (0 : Int) < 2 ^ 62 ∧ -(2 ^ 62) ≤ n ∧ n < 2 ^ 62 ∧ (n - 0).toNat ≤ 2 ^ 24), fun p q' hq' hp => ?_⟩⟩
    obtain ⟨G2, s2, I2⟩ := I1.pop.pushT hq' hp (dpAll_rg 0 n)
    exact k _ G2 _ (s1.trans s2) I2
theorem me_lstRg1 {a : Expr} {p q pos : Pos} {f : FE} (hc : X.calm = true) (hg : Gl X "list") (hm : X.mg "list" = none) (hg2 : Gl X "range") (hm2 : X.mg "range" = none) (ha : PE X a (tE F f)) (na : starEach [a] X.env = (false, eval a X.env) :: starEach [] X.env := by rfl)
    (nb : starEach [.Call (.Name "range" q) [a] [] pos] X.env = (false, eval (.Call (.Name "range" q) [a] [] pos) X.env) :: starEach [] X.env := by rfl) {pos' : Pos} : PE X (.Call (.Name "list" p) [.Call (.Name "range" q) [a] [] pos] [] pos') (tE F (eLstRg1 f)) :=
  (pe_listRg hc hg hm (prg_1 hg2 hm2 ha na) nb).wk fun σ H Q ⟨env, ops, G, r, env', I, e, k⟩ => by
    obtain ⟨⟨ra, e1⟩, h1, e⟩ := bind_some e
    obtain ⟨n, h2, e⟩ := bind_some e
    split at e
    case isFalse => cases e
    rename_i hr
    cases e
    obtain rfl := R.int_eq h2
    refine ⟨env, ops, G, _, _, I, h1, fun v G1 H1 s1 I1 => ⟨n, I1.vint (by simp), (of_decide_eq_true hr : -(2 ^ 62) ≤ (0 : Int) ∧ (0 : Int) < 2 ^ 62 ∧ -(2 ^ 62) ≤ n ∧ n < 2 ^ 62 ∧ (n - 0).toNat ≤ 2 ^ 24), fun p hp => ?_⟩⟩
    exact k _ G1 _ s1 (I1.pop.pushN (u := .lst (rangeD 0 n)) hp ⟨_, upd_same, dpAll_rg 0 n⟩)
end
end ML

/-! ML11: set(..) of ints. -/
namespace ML
open PySem PySem.Spec PyProof.Rows L2
section
variable {P : Program} {w : World} {A : Around} {E : Value → Shared → Prop} {s : Shared}
/-- the empty set as it is made -/
abbrev emptySet (w : World) : Obj := { cls := .type "set", dict := none, data := .set #[] 0 (.fresh 0 0 (!w.params.followText "set-order")) }
set_option maxHeartbeats 3200000 in
theorem setOfList {l : Addr} {its : Array Value} (ns : List Int) {Q : Value → Shared → Prop} (hh : A.handled = none) (hl : s.heap.IsList l its) (hit : IntsAre its.toList ns) (hb : ns.length + 1 < scanBound)
    (h : ∀ (h' : Heap) (tk c : Nat), SetR w h' s.heap.objs.size (fun j => decide (j ∈ ns)) c → c ≤ ns.length → (∀ b o, s.heap.get? b = some o → h'.get? b = some o) → Q (.ref s.heap.objs.size) { s with heap := h', toks := tk }) :
    wpAny (model P w) A (call (.type "set") [.ref l]) Q E s := by
  have size : its.size = ns.length := by simpa using hit.length
  obtain ⟨c0, tl, hmro⟩ := PySem.F.called_set.mro
  have hmade := PySem.F.called_set.made; have hsub := PySem.F.called_set.sub
  refine wpAny_call (codeAny_of_tree (show wpAny _ _ (callAny (.type "set") _) _ _ _ from ?_))
  refine wpAny_pure (And.intro (Code.quiet_builtin _ (by decide +kernel)) (codeAny_builtin PySem.F.entry_type_call ?_))
  rw [Around.under_plain (weight_type_call_type "set" [Value.ref l] ([] : List (Str × Value))) rfl]
  have h1 := PySem.F.called_set.notType; have h2 := PySem.F.called_set.canCreate; have hct := PySem.F.typeCall_set_1 (.ref l)
  repeat (any_goals (first | assumption | wp_step))
  refine codeAny_mono (code_set_led1 (.ref l) (E := E) (Q₁ := fun ob s₁ => ob = .ref s.heap.objs.size ∧ s₁ = { s with heap := s.heap.push (emptySet w) }) (And.intro rfl rfl)) fun r s₁ hr => ?_
  cases r with
  | error e => exact hr
  | ok fl =>
    cases fl with
    | ret ob =>
      obtain ⟨rfl, rfl⟩ := hr
      have hS : (s.heap.push (emptySet w)).get? s.heap.objs.size = some (emptySet w) := Heap.get?_push_size _ rfl
      have hT : Shared.TypeIs { s with heap := s.heap.push (emptySet w) } (.ref s.heap.objs.size) "set" := ⟨_, hS, rfl⟩
      have hli := PySem.F.called_set.init.lookup; have hbi := PySem.F.called_set.init.bind (.ref s.heap.objs.size)
      repeat (any_goals (first | assumption | wp_step))
      refine codeAny_mono (codeAny_call_builtin (R := wants (fun r s₂ => r = .none ∧ ∃ h' tk c, s₂ = { s with heap := h', toks := tk } ∧ SetR w h' s.heap.objs.size (fun j => decide (j ∈ ns)) c ∧ c ≤ ns.length ∧ ∀ b o, s.heap.get? b = some o → h'.get? b = some o) E)
        PySem.F.called_set.init.plain PySem.F.entry_set_init (check_set_init_1 hT ?_)) fun r₂ s₂ hr₂ => ?_
      · obtain ⟨ol, hol, hcl, nl, hdl⟩ := hl
        obtain ⟨ocls, odict, odata, oslots⟩ := ol
        simp only at hcl hdl
        subst hcl hdl
        have hol' : (s.heap.push (emptySet w)).get? l = some { cls := .type "list", dict := odict, data := .seq its nl, slots := oslots } := Heap.get?_push_of_some _ hol
        have hsls := PySem.F.sub_list_set; have hslf := PySem.F.sub_list_frozenset
        have hne : (Value.type "list" == Value.type "dict") = false := by decide
        have hl1 : (s.heap.push (emptySet w)).IsList l its := ⟨_, hol', rfl, nl, rfl⟩
        unfold Builtin.«set.__init__» noKeywords Builtin.Frozenset.updateFrom
        generalize hPI : pyIter = PI
        wp_walk
        subst hPI
        refine wpAny_pyIter_list hl1 (wpAny_bind (wpAny_runValue ?_))
        have hlS := Heap.lt_size hol
        have hlS : l < s.heap.objs.size := hlS
        have zz : (s.heap.push (emptySet w)).objs.size = s.heap.objs.size + 1 := Heap.size_push ..
        have hneI : l ≠ (s.heap.push (emptySet w)).objs.size := zz ▸ Nat.ne_of_lt (Nat.lt_succ_of_lt hlS)
        have hSf : s.heap.objs.size ∉ [(s.heap.push (emptySet w)).objs.size, l] := fun z => by
          rcases List.mem_cons.mp z with z | z
          · rw [zz] at z; exact Nat.ne_of_lt (Nat.lt_succ_self _) z
          · exact Nat.ne_of_gt hlS (List.mem_singleton.mp z)
        have hval : ∀ (i : Nat) (v : Value), its[i]? = some v → ∃ k t, ns[i]? = some k ∧ v = .int k t := fun i v hv => by
          obtain ⟨t, e⟩ := PyProof.Rows.IntsAre.int_at hit i v (by simpa using hv)
          have hi : i < ns.length := size ▸ (Array.getElem?_eq_some_iff.mp hv).1
          exact ⟨ns[i], t, by simp [hi], by rw [e]; simp [hi]⟩
        have hh3 : A.in1.in1.in1.handled = none := by simp [hh]
        refine set_update_ints ((Walks.list hh3 _ l hneI its).toS) s.heap.objs.size hSf ns size hb hval (its.size - 0) 0 _ (by omega) (Nat.zero_le _) ⟨⟨_, Heap.get?_push_size _ rfl, rfl, rfl⟩, (hl1.push _)⟩ ⟨0, Nat.le_refl 0, setR_new_at (Heap.get?_push_of_some _ hS)⟩ ?_
        intro s' c' hm hc' hS'
        obtain ⟨h', g2, d', tk', os'⟩ := s'
        obtain rfl : g2 = s.gens := hm.gens
        obtain rfl : d' = s.drawn := hm.drawn
        obtain rfl : os' = s.os := hm.os
        refine (show wpAny _ _ _ _ _ _ from wpAny_pure (show wpAny _ _ (ret Value.none) _ _ _ from wpAny_pure ⟨rfl, h', tk', c', rfl, hS', by rw [← size]; exact hc', fun b o e => ?_⟩))
        have hb0 := Heap.lt_size e
        have hb0 : b < s.heap.objs.size := hb0
        exact hm.heap b o (fun z => by
          rcases List.mem_cons.mp z with z | z
          · exact Nat.ne_of_lt hb0 z
          · have z := List.mem_singleton.mp z
            rw [zz] at z
            exact Nat.ne_of_lt (Nat.lt_succ_of_lt hb0) z) (Heap.get?_push_of_some _ (Heap.get?_push_of_some _ e))
      · cases r₂ with
        | error e => exact hr₂
        | ok fl₂ =>
          cases fl₂ with
          | ret r =>
            obtain ⟨rfl, h', tk, c', rfl, hS', hc', hk'⟩ := hr₂
            repeat (any_goals (first | assumption | wp_step))
            exact h _ _ _ hS' hc' hk'
          | _ => exact hr₂.elim
    | _ => exact hr.elim
end
end ML

/-! ML13: set(..) of ints as a value. -/
namespace ML
open PySem PySem.Spec PyProof.Rows L2
theorem setR_count {w : World} {h : Heap} {a : Addr} {ns : List Int} {c : Nat} (R : SetR w h a (fun j => decide (j ∈ ns)) c) : c = (usort ns).length := by
  obtain ⟨o, es, ep, t, ho, hex, hdt, g, nd, hm, hb, hf, hn, _⟩ := R
  have e : (es.toList.map keyOf).Perm (usort ns) := (List.perm_ext_iff_of_nodup nd (rising_nodup (usort_sorted ns))).mpr fun k => by
    rw [← hm k, usort_mem]; simp
  have := e.length_eq
  rw [List.length_map, Array.length_toList] at this
  omega
theorem setR_usort {w : World} {h : Heap} {a : Addr} {ns : List Int} {c : Nat} (R : SetR w h a (fun j => decide (j ∈ ns)) c) : SetR w h a (fun j => decide (j ∈ usort ns)) (usort ns).length := by
  have e := setR_count R
  subst e
  exact R.congr fun k => by simp only [usort_mem]
def rSetOf (K : PySem.W.Frag) (w : World) : List V → Hp → VK → Prop := fun xs H Q => ∃ (a : Addr) (ns : List Int), xs = [.ref a] ∧ (SqL K H a (ns.map V.int) ∨ SqT K H a (ns.map V.int)) ∧ ns.length ≤ 1000 ∧
  ∀ p, H p = none → Q (.ref p) (upd H p (SetO w p (fun k => decide (k ∈ usort ns)) (usort ns).length))
section
variable {X : Cx}
theorem call_setOf (hc : X.calm = true) : CallR X (.type "set") (rSetOf X.K X.w) := by
  intro pins s σ H xs us Q I r h
  obtain ⟨a, ns, rfl, hs, hl, q⟩ := h
  obtain rfl := Vals.ref1 r
  have hh : X.A.handled = none := I.ok.hd hc
  have hb : ns.length + 1 < scanBound := by unfold scanBound; omega
  rcases hs with hs | hs
  · obtain ⟨its, rv, hls, hz⟩ := I.list hs
    refine setOfList ns hh hls.isList rv.ints hb fun h' tk c R1 hcn k => ?_
    exact ⟨.ref _, _, I.laid (t' := tk) k (Nat.le_refl _) (setO_new (setR_usort R1)), rfl, q _ (I.hok.fresh (Nat.le_refl _))⟩
  · obtain ⟨its, rv, pt, hz⟩ := I.tuple hs
    have hi : IntsAre its.toArray.toList ns := ints_of_vals rv
    refine call_set_tupI ns hh (show s.heap.IsTuple a its.toArray from pt) hi hb fun h' tk c R1 hcn k => ?_
    exact ⟨.ref _, _, I.laid (t' := tk) k (Nat.le_refl _) (setO_new (setR_usort R1)), rfl, q _ (I.hok.fresh (Nat.le_refl _))⟩
end
section
variable {F : Fr}
def seqInts (r : R) (env : En) : Option (List Int) := match r.dat env with
  | some (.list ds) => intsOf ds
  | some (.tuple ds) => intsOf ds
  | _ => none
def gSet : GN := n1 fun r env => (seqInts r env).bind fun ns => if ns.length ≤ 1000 then some (.new (.sI (usort ns)), env) else none
theorem s_set : SN F (rSetOf F.K F.w) gSet := sn1 fun env ops x ra G σ H r env' Q I e k => by
  obtain ⟨ns, h1, e⟩ := bind_some e
  split at e
  case isFalse => cases e
  rename_i hl
  cases e
  have go : ∀ (a : Addr), x = .ref a → (SqL F.K H a (ns.map V.int) ∨ SqT F.K H a (ns.map V.int)) → rSetOf F.K F.w [x] H Q := fun a e h => ⟨a, ns, by rw [e], h, hl, fun p hp => k _ G _ (Same.refl _) (I.pop.pushN hp ⟨upd_same, rising_nodup (usort_sorted ns)⟩)⟩
  unfold seqInts at h1
  split at h1
  · rename_i ds hd
    obtain ⟨a, vs, rfl, q1, q2⟩ := I.lst (r := ra) (v := x) (by simp) (show R.lst ra env = some ds by unfold R.lst; rw [hd])
    rw [intsOf_eq h1] at q2
    rw [dpAll_ints q2] at q1
    exact go a rfl (.inl q1)
  · rename_i ds hd
    obtain ⟨a, vs, rfl, q1, q2⟩ := I.tup (r := ra) (v := x) (by simp) (show R.tup ra env = some ds by unfold R.tup; rw [hd])
    rw [intsOf_eq h1] at q2
    rw [dpAll_ints q2] at q1
    exact go a rfl (.inr q1)
  · cases h1
end
end ML

/-! ML14: a law's own end. -/
namespace ML
open PySem PySem.Spec PyProof.Rows L2
theorem law_end {K : PySem.W.Frag} {w : World} {f : Fn} {H : Hp} {a : Addr} {ns : List Int} (hS : SqL K H a (ns.map V.int)) (hgp : GPure H) (h : ∃ bs', f [.val (.list (ns.map PyData.int))] = some (.val (.bool true), bs')) {E : XK} :
    spF K w 1 f [.ref a] H (fun v _ => v = .bl true) E := by
  obtain ⟨bs', h⟩ := h
  refine ⟨H, [.val (.list (ns.map PyData.int))], _, bs', [], rfl, rfl, ⟨Same.refl _, Same.refl _, fun _ _ e _ => e, fun _ h => by simp at h, fun _ h => by simp at h, fun _ _ e => .inl e, hgp, fun i d e => ?_, fun i b o e eo => ?_, fun i j b c o o' a' e1 e2 eo eo' h1 h2 => ?_, fun i v e => ?_⟩, h, fun v G' H' ho hl J => ?_⟩
  · cases i with
    | inr k => simp [ixB] at e
    | inl i =>
      cases i with
      | zero =>
        simp [ixB] at e
        subst e
        exact ⟨.ref a, rfl, .lst hS (dpAll_of_ints ns)⟩
      | succ i => simp [ixB] at e
  · cases i with
    | inr k => simp [ixB] at e
    | inl i =>
      cases i with
      | zero => simp [ixB] at e; subst e; cases eo
      | succ i => simp [ixB] at e
  · cases i with
    | inr k => simp [ixB] at e1
    | inl i =>
      cases i with
      | zero => simp [ixB] at e1; subst e1; cases eo
      | succ i => simp [ixB] at e1
  · exact e
  · obtain ⟨v', e1, e2⟩ := J.val (.inr 0) (.bool true) rfl
    have e1 : v = v' := by simpa [ixV] using e1
    subst e1
    cases e2
    rfl
end ML

/-! ML15: the plain side: evaluating what a def does; the laws' own feed and draw. -/
namespace ML
open PySem PySem.Spec PyProof.Rows L2
/-- bind, written so that what follows is not looked at before what comes first is known -/
abbrev Wt {α β : Type} (_ : α → Option β) : Type := Option α
def bnd {α β : Type} (f : α → Option β) (x : Wt f) : Option β := Option.bind x f
theorem bnd_some {α β : Type} (f : α → Option β) (a : α) : bnd f (some a) = f a := rfl
theorem atI_0 {α : Type} (a : α) (l : List α) : atI (a :: l) 0 = some a := by simp [atI, ixN]
theorem atI_1 {α : Type} (a b : α) (l : List α) : atI (a :: b :: l) 1 = some b := by
  have : (1 : Int) < (l.length : Int) + 1 + 1 := by omega
  simp [atI, ixN, this]
theorem atI_2 {α : Type} (a b c : α) (l : List α) : atI (a :: b :: c :: l) 2 = some c := by
  have : (2 : Int) < (l.length : Int) + 1 + 1 + 1 := by omega
  simp [atI, ixN, this]
theorem atI_3 {α : Type} (a b c d : α) (l : List α) : atI (a :: b :: c :: d :: l) 3 = some d := by
  have : (3 : Int) < (l.length : Int) + 1 + 1 + 1 + 1 := by omega
  simp [atI, ixN, this]
/-- data or nothing: what a slot may hold that nobody looks at -/
def jk (o : Option D) : Option B := o.map B.val
def isLk : Option B → Bool
  | some (.lk _) => true
  | _ => false
theorem put_val (np i : Nat) (d : D) (env : En) : put np i (.val d) env = if i < np then none else if i < env.length then (if isLk env[i]?.join = true then none else some (env.set i (some (.val d)))) else none := by
  unfold put
  split
  · rfl
  · split
    · cases h : env[i]?.join with
      | none => rfl
      | some b => cases b <;> rfl
    · rfl
theorem put_new (np i : Nat) (o : O) (env : En) : put np i (.new o) env = if i < np then none else if i < env.length then (if isLk env[i]?.join = true then none else some (env.set i (some (.mu o)))) else none := by
  unfold put
  split
  · rfl
  · split
    · cases h : env[i]?.join with
      | none => rfl
      | some b => cases b <;> rfl
    · rfl
theorem isLk_jk (o : Option D) : isLk (jk o) = false := by cases o <;> rfl
theorem isLk_none : isLk none = false := rfl
theorem isLk_val (d : D) : isLk (some (.val d)) = false := rfl
theorem isLk_mu (o : O) : isLk (some (.mu o)) = false := rfl
theorem isOwn_jk (o : Option D) : isOwn (jk o) = false := by cases o <;> rfl
theorem setT_nm (np i : Nat) (d : D) (env : En) : setT np (.nm i) d env = put np i (.val d) env := by rw [setT]
theorem setT_tp (np : Nat) (ts : List Tg) (ds : List D) (env : En) : setT np (.tp ts) (.tuple ds) env = setTs np ts ds env := by rw [setT]
theorem setTs_nil (np : Nat) (env : En) : setTs np [] [] env = some env := by rw [setTs]
theorem setTs_cons (np : Nat) (t : Tg) (ts : List Tg) (d : D) (ds : List D) (env : En) : setTs np (t :: ts) (d :: ds) env = (setT np t d env).bind fun e => setTs np ts ds e := by rw [setTs]
def rgI (n : Int) : Bool := decide (-(2 ^ 62) ≤ n ∧ n < 2 ^ 62)
theorem iRng1_eq (f : FE) (env : En) : iRng1 f env = (f env).bind fun p => p.1.int.bind fun n => if rgI n = true then some ((rangeD 0 n, none), p.2) else none := by
  unfold iRng1 rgI
  cases f env with
  | none => rfl
  | some p =>
    simp only [Option.bind_some]
    cases p.1.int with
    | none => rfl
    | some n => simp only [Option.bind_some, decide_eq_true_eq]
theorem iRng2_eq (f g : FE) (env : En) : iRng2 f g env = (f env).bind fun p => (g p.2).bind fun q => p.1.int.bind fun m => q.1.int.bind fun n => if (rgI m && rgI n) = true then some ((rangeD m n, none), q.2) else none := by
  unfold iRng2 rgI
  cases f env with
  | none => rfl
  | some p =>
    simp only [Option.bind_some]
    cases g p.2 with
    | none => rfl
    | some q =>
      simp only [Option.bind_some]
      cases p.1.int with
      | none => rfl
      | some m =>
        simp only [Option.bind_some]
        cases q.1.int with
        | none => rfl
        | some n => simp only [Option.bind_some, Bool.and_eq_true, decide_eq_true_eq, and_assoc]
theorem rgI_of {n : Int} (h : -1000000 ≤ n) (h2 : n ≤ 1000000) : rgI n = true := decide_eq_true ⟨by omega, by omega⟩
theorem rgOk_of {m n : Int} (h : -1000000 ≤ m) (h2 : m ≤ 1000000) (h3 : -1000000 ≤ n) (h4 : n ≤ 1000000) : rgOk m n = true := decide_eq_true ⟨by omega, by omega, by omega, by omega, by omega⟩
theorem natAbs10 : Int.natAbs 10 = 10 := rfl
theorem sl_le {n : Nat} (h : n ≤ 1000000) : n ≤ sizeLine := Nat.le_trans h (by decide)
theorem sl_lt {n : Nat} (h : n ≤ 1000000) : n < sizeLine := Nat.lt_of_le_of_lt h (by decide)
/-! ### what each word says of what is plainly there -/
section
variable {env : En} {i : Nat} {d : D} {ds : List D} {kvs : List (Key × D)} {r : R} {rs : List R} {bs : List B} {b : B} {o : O} {n m : Int}
theorem v_obj_val : R.obj (.val d) env = some (.val d) := rfl
theorem v_obj_new : R.obj (.new o) env = some (.mu o) := rfl
theorem v_obj_bor : R.obj (.bor i) env = env[i]?.join := rfl
def datO : Option B → Option D
  | some b => b.dat
  | none => none
theorem v_dat_val : R.dat (.val d) env = some d := rfl
theorem v_dat_new : R.dat (.new (.lst ds)) env = some (.list ds) := rfl
theorem v_dat_newK : R.dat (.new (.dK kvs)) env = none := rfl
theorem v_dat_bor : R.dat (.bor i) env = datO env[i]?.join := by
  show (env[i]?.join).bind B.dat = datO _
  cases env[i]?.join <;> rfl
theorem v_datO_val : datO (some (.val d)) = some d := rfl
theorem v_datO_mu : datO (some (.mu (.lst ds))) = some (.list ds) := rfl
theorem v_datO_lk : datO (some (.lk (.lst ds))) = some (.list ds) := rfl
theorem v_datO_dK : datO (some (.mu (.dK kvs))) = none := rfl
theorem v_int : R.int (.val (.int n)) = some n := rfl
theorem v_bl {b : Bool} : R.bl (.val (.bool b)) = some b := rfl
def dkO : Option B → Option (List (Key × D))
  | some b => (match b.own with | some (.dK kvs) => some kvs | _ => none)
  | none => none
theorem v_dk_new : R.dk (.new (.dK kvs)) env = some kvs := rfl
theorem v_dk_bor : R.dk (.bor i) env = dkO env[i]?.join := by
  unfold R.dk R.ownO
  rw [v_obj_bor]
  cases env[i]?.join <;> rfl
theorem v_dkO : dkO (some (.mu (.dK kvs))) = some kvs := rfl
def lstD : Option D → Option (List D)
  | some (.list ds) => some ds
  | _ => none
theorem v_lst : R.lst r env = lstD (r.dat env) := rfl
theorem v_lstD : lstD (some (.list ds)) = some ds := rfl
def seqD : Option D → Option (List D)
  | some (.list ds) => some ds
  | some (.tuple ds) => some ds
  | _ => none
theorem v_seqOf : seqOf r env = seqD (r.dat env) := rfl
theorem v_seqD_l : seqD (some (.list ds)) = some ds := rfl
theorem v_seqD_t : seqD (some (.tuple ds)) = some ds := rfl
def evO (i : Nat) (env : En) : Option B → Option (R × En)
  | some (.val d) => some (.val d, env)
  | some _ => some (.bor i, env)
  | none => none
theorem v_eV : eV i env = evO i env env[i]?.join := rfl
theorem v_evO_val : evO i env (some (.val d)) = some (.val d, env) := rfl
theorem v_evO_mu : evO i env (some (.mu o)) = some (.bor i, env) := rfl
theorem v_evO_lk : evO i env (some (.lk o)) = some (.bor i, env) := rfl
def ecO (env : En) : Option B → Option (R × En)
  | some (.val d) => some (.val d, env)
  | _ => none
theorem v_eC : eC i env = ecO env env[i]?.join := rfl
theorem v_ecO : ecO env (some (.val d)) = some (.val d, env) := rfl
def keepO (i : Nat) (env : En) : Option B → Option (D × En)
  | some (.val d) => some (d, env)
  | some (.mu (.lst ds)) => some (.list ds, env.set i (some (.val (.list ds))))
  | _ => none
theorem v_keep_val : keep (.val d) env = some (d, env) := rfl
theorem v_keep_new : keep (.new (.lst ds)) env = some (.list ds, env) := rfl
theorem v_keep_bor : keep (.bor i) env = keepO i env env[i]?.join := rfl
theorem v_keepO_val : keepO i env (some (.val d)) = some (d, env) := rfl
theorem v_keepO_mu : keepO i env (some (.mu (.lst ds))) = some (.list ds, env.set i (some (.val (.list ds)))) := rfl
theorem v_norm_val : norm (.val d) env = some (.val d, env) := rfl
theorem v_norm_new : norm (.new o) env = some (.new o, env) := rfl
theorem v_norm_bor : norm (.bor i) env = (keepO i env env[i]?.join).map fun p => (.val p.1, p.2) := rfl
def ixD (ra rb : R) (env : En) : Option D → Option (R × En)
  | some (.list ds) => rb.int.bind fun i => (atI ds i).map fun d => (.val d, env)
  | some (.tuple ds) => rb.int.bind fun i => (atI ds i).map fun d => (.val d, env)
  | some (.str x) => rb.int.bind fun i => if x.length ≤ sizeLine then (atI x.cps.toList i).map fun c => (.val (.str ⟨#[c]⟩), env) else none
  | some _ => none
  | none => (ra.dk env).bind fun kvs => (rb.dat env).bind fun d => (keyD d).bind fun k => (lkD kvs k).map fun d => (.val d, env)
theorem v_gIx {ra rb : R} : gIx ra rb env = ixD ra rb env (ra.dat env) := by
  unfold gIx
  cases ra.dat env with
  | none => rfl
  | some d => cases d <;> rfl
theorem v_ixD_l {ra rb : R} : ixD ra rb env (some (.list ds)) = (bnd (fun i => (atI ds i).map fun d => (.val d, env)) (rb.int)) := rfl
theorem v_ixD_t {ra rb : R} : ixD ra rb env (some (.tuple ds)) = (bnd (fun i => (atI ds i).map fun d => (.val d, env)) (rb.int)) := rfl
theorem v_ixD_n {ra rb : R} : ixD ra rb env none = (bnd (fun kvs => (bnd (fun d => (bnd (fun k => (lkD kvs k).map fun d => (.val d, env)) (keyD d))) (rb.dat env))) (ra.dk env)) := rfl
def lenD (r : R) (env : En) : Option D → Option (R × En)
  | some (.list ds) => some (.val (.int ds.length), env)
  | some (.tuple ds) => some (.val (.int ds.length), env)
  | some (.str x) => if x.length ≤ sizeLine then some (.val (.int x.length), env) else none
  | some _ => none
  | none => (r.dk env).map fun kvs => (.val (.int kvs.length), env)
theorem v_gLen : gLen [r] env = lenD r env (r.dat env) := rfl
theorem v_lenD_l : lenD r env (some (.list ds)) = some (.val (.int ds.length), env) := rfl
theorem v_lenD_t : lenD r env (some (.tuple ds)) = some (.val (.int ds.length), env) := rfl
theorem v_lenD_n : lenD r env none = (r.dk env).map fun kvs => (.val (.int kvs.length), env) := rfl
def addO (env : En) : Option B → Option B → Option (R × En)
  | some (.val (.int i)), some (.val (.int j)) => some (.val (.int (i + j)), env)
  | some (.val (.str x)), some (.val (.str y)) => if x.length + y.length ≤ sizeLine then some (.val (.str (x ++ y)), env) else none
  | some (.val (.tuple xs)), some (.val (.tuple ys)) => if xs.length + ys.length ≤ sizeLine then some (.val (.tuple (xs ++ ys)), env) else none
  | some b, some c => match b.own, c.own with
    | some (.lst xs), some (.lst ys) => if xs.length + ys.length ≤ sizeLine then some (.new (.lst (xs ++ ys)), env) else none
    | _, _ => none
  | _, _ => none
theorem v_gAdd {ra rb : R} : gAdd ra rb env = addO env (ra.obj env) (rb.obj env) := rfl
theorem v_add_i : addO env (some (.val (.int n))) (some (.val (.int m))) = some (.val (.int (n + m)), env) := rfl
theorem v_add_t {xs ys : List D} : addO env (some (.val (.tuple xs))) (some (.val (.tuple ys))) = if xs.length + ys.length ≤ sizeLine then some (.val (.tuple (xs ++ ys)), env) else none := rfl
theorem v_add_l {xs ys : List D} : addO env (some (.mu (.lst xs))) (some (.mu (.lst ys))) = if xs.length + ys.length ≤ sizeLine then some (.new (.lst (xs ++ ys)), env) else none := rfl
def eqD (neg : Bool) (env : En) : Option D → Option D → Option (R × En)
  | some d, some e => if SeqAt.shaped d = true ∧ SeqAt.shaped e = true then some (.val (.bool (if neg = true then !PyData.eqv d e else PyData.eqv d e)), env) else none
  | _, _ => none
theorem v_gEq {neg : Bool} {ra rb : R} : gEq neg ra rb env = eqD neg env (ra.dat env) (rb.dat env) := rfl
theorem v_eqD {neg : Bool} {d e : D} : eqD neg env (some d) (some e) = if SeqAt.shaped d = true ∧ SeqAt.shaped e = true then some (.val (.bool (if neg = true then !PyData.eqv d e else PyData.eqv d e)), env) else none := rfl
def inD (neg : Bool) (rb : R) (env : En) : Option D → Option D → Option (R × En)
  | none, _ => none
  | some d, some (.list ds) => if SeqAt.shaped d = true ∧ SeqAt.shaped (.list ds) = true then some (.val (.bool (bneg neg (ds.any fun z => PyData.eqv z d))), env) else none
  | some d, some (.tuple ds) => if flatD d = true ∧ ds.all flatD = true then some (.val (.bool (bneg neg (ds.any fun z => PyData.eqv z d))), env) else none
  | some d, some _ => none
  | some d, none => match rb.dk env, keyD d with
      | some kvs, some k => some (.val (.bool (bneg neg (lkD kvs k).isSome)), env)
      | _, _ => none
theorem v_gIn {neg : Bool} {ra rb : R} : gIn neg ra rb env = inD neg rb env (ra.dat env) (rb.dat env) := by
  unfold gIn inD
  cases ra.dat env with
  | none => rfl
  | some d =>
    cases rb.dat env with
    | none => rfl
    | some e => cases e <;> rfl
theorem v_inD_l {neg : Bool} {rb : R} : inD neg rb env (some d) (some (.list ds)) = if SeqAt.shaped d = true ∧ SeqAt.shaped (.list ds) = true then some (.val (.bool (bneg neg (ds.any fun z => PyData.eqv z d))), env) else none := rfl
theorem v_inD_t {neg : Bool} {rb : R} : inD neg rb env (some d) (some (.tuple ds)) = if flatD d = true ∧ ds.all flatD = true then some (.val (.bool (bneg neg (ds.any fun z => PyData.eqv z d))), env) else none := rfl
def inK (neg : Bool) (env : En) : Option (List (Key × D)) → Option Key → Option (R × En)
  | some kvs, some k => some (.val (.bool (bneg neg (lkD kvs k).isSome)), env)
  | _, _ => none
theorem v_inD_n {neg : Bool} {rb : R} : inD neg rb env (some d) none = inK neg env (rb.dk env) (keyD d) := rfl
theorem v_inK {neg : Bool} {k : Key} : inK neg env (some kvs) (some k) = some (.val (.bool (bneg neg (lkD kvs k).isSome)), env) := rfl
theorem v_key_i : keyD (.int n) = some (.inl n) := rfl
theorem v_key_s {x : Str} : keyD (.str x) = some (.inr x) := rfl
theorem v_bneg_t (b : Bool) : bneg true b = !b := rfl
theorem v_bneg_f (b : Bool) : bneg false b = b := rfl
def slD (lo hi : Option Int) (env : En) : Option D → Option (R × En)
  | some (.list ds) => some (.new (.lst (cutD ds lo hi)), env)
  | some (.tuple ds) => some (.val (.tuple (cutD ds lo hi)), env)
  | some (.str x) => if x.length ≤ sizeLine then some (.val (.str (cutS x lo hi)), env) else none
  | _ => none
theorem v_gSl {lo hi : Option Int} : gSl r lo hi env = slD lo hi env (r.dat env) := rfl
theorem v_slD_l {lo hi : Option Int} : slD lo hi env (some (.list ds)) = some (.new (.lst (cutD ds lo hi)), env) := rfl
theorem v_slD_t {lo hi : Option Int} : slD lo hi env (some (.tuple ds)) = some (.val (.tuple (cutD ds lo hi)), env) := rfl
theorem v_slD_s {x : Str} {lo hi : Option Int} : slD lo hi env (some (.str x)) = if x.length ≤ sizeLine then some (.val (.str (cutS x lo hi)), env) else none := rfl
theorem v_ixD_s {x : Str} {ra rb : R} : ixD ra rb env (some (.str x)) = (bnd (fun i => if x.length ≤ sizeLine then (atI x.cps.toList i).map fun c => (.val (.str ⟨#[c]⟩), env) else none) (rb.int)) := rfl
theorem v_add_s {x y : Str} : addO env (some (.val (.str x))) (some (.val (.str y))) = if x.length + y.length ≤ sizeLine then some (.val (.str (x ++ y)), env) else none := rfl
theorem v_gList : gList [r] env = (seqD (r.dat env)).map fun ds => (.new (.lst ds), env) := rfl
theorem v_gTuple : gTuple [r] env = (seqD (r.dat env)).map fun ds => (.val (.tuple ds), env) := rfl
def g2O (c : Int → Int → Bool) (f : Int → Int → D) (env : En) : Option Int → Option Int → Option (R × En)
  | some i, some j => if c i j = true then some (.val (f i j), env) else none
  | _, _ => none
theorem v_g2I {c : Int → Int → Bool} {f : Int → Int → D} {ra rb : R} : g2I c f ra rb env = g2O c f env ra.int rb.int := rfl
theorem v_g2O {c : Int → Int → Bool} {f : Int → Int → D} : g2O c f env (some n) (some m) = if c n m = true then some (.val (f n m), env) else none := rfl
theorem v_gSub {ra rb : R} : gSub ra rb env = g2O (fun _ _ => true) (fun i j => .int (i - j)) env ra.int rb.int := rfl
theorem v_gMul {ra rb : R} : gMul ra rb env = g2O mulOk (fun i j => .int (i * j)) env ra.int rb.int := rfl
theorem v_gDiv {ra rb : R} : gDiv ra rb env = g2O (fun i j => decide (0 < j ∧ j < 1073741824)) (fun i j => .int (i / j)) env ra.int rb.int := rfl
theorem v_gMod {ra rb : R} : gMod ra rb env = g2O (fun i j => decide (0 < j)) (fun i j => .int (i % j)) env ra.int rb.int := rfl
theorem v_gPow {ra rb : R} : gPow ra rb env = g2O (fun i j => decide (0 ≤ j ∧ j ≤ 1000000 ∧ i.natAbs < 2 ^ 64)) (fun i j => .int (i ^ j.toNat)) env ra.int rb.int := rfl
theorem v_gLt {ra rb : R} : gLt ra rb env = g2O (fun _ _ => true) (fun i j => .bool (decide (i < j))) env ra.int rb.int := rfl
theorem v_gLe {ra rb : R} : gLe ra rb env = g2O (fun _ _ => true) (fun i j => .bool (decide (i ≤ j))) env ra.int rb.int := rfl
theorem v_gGt {ra rb : R} : gGt ra rb env = g2O (fun _ _ => true) (fun i j => .bool (decide (j < i))) env ra.int rb.int := rfl
theorem v_gGe {ra rb : R} : gGe ra rb env = g2O (fun _ _ => true) (fun i j => .bool (decide (j ≤ i))) env ra.int rb.int := rfl
theorem v_gNeg {ra : R} : gNeg ra env = ra.int.map fun i => (.val (.int (-i)), env) := rfl
theorem v_argsB_nil : argsB [] env = some [] := rfl
theorem v_argsB_cons : argsB (r :: rs) env = (bnd (fun b => (argsB rs env).map (b :: ·)) (argB r env)) := rfl
def argO : Option B → Option B
  | some (.mu o) => some (.mu o)
  | some (.val d) => some (.val d)
  | _ => none
theorem v_argB_val : argB (.val d) env = some (.val d) := rfl
theorem v_argB_new : argB (.new o) env = some (.mu o) := rfl
theorem v_argB_bor : argB (.bor i) env = argO env[i]?.join := rfl
theorem v_argO_mu : argO (some (.mu o)) = some (.mu o) := rfl
theorem v_argO_val : argO (some (.val d)) = some (.val d) := rfl
theorem v_borIx_nil : borIx [] = [] := rfl
theorem v_borIx_val : borIx (.val d :: rs) = borIx rs := rfl
theorem v_borIx_new : borIx (.new o :: rs) = borIx rs := rfl
theorem v_borIx_bor : borIx (.bor i :: rs) = i :: borIx rs := rfl
theorem v_nodup1 : [i].Nodup := by simp
theorem v_isMu_mu : isMu (some (.mu o)) = true := rfl
theorem v_isMu_val : isMu (some (.val d)) = false := rfl
theorem v_pb_nil : putBack [] bs env = env := by rw [putBack] <;> simp
theorem v_pb_val : putBack (.val d :: rs) (b :: bs) env = putBack rs bs env := by rw [putBack]; simp
theorem v_pb_new : putBack (.new o :: rs) (b :: bs) env = putBack rs bs env := by rw [putBack]; simp
theorem v_pb_bor : putBack (.bor i :: rs) (b :: bs) env = if isMu env[i]?.join = true then putBack rs bs (env.set i (some b)) else putBack rs bs env := by rw [putBack]
def retO (i : Nat) (env : En) : Option B → Option (Fl × En)
  | some (.mu o) => some (.rt (.new o), env.set i none)
  | _ => none
def retK (np : Nat) (env : En) : R → Option (Fl × En)
  | .val d => some (.rt (.val d), env)
  | .new o => some (.rt (.new o), env)
  | .bor i => if np ≤ i then retO i env env[i]?.join else none
  | _ => none
theorem v_sRet {np : Nat} {f : FE} : sRet np f env = (bnd (fun p => retK np p.2 p.1) (f env)) := by
  unfold sRet
  congr 1
theorem v_ret_val {np : Nat} : retK np env (.val d) = some (.rt (.val d), env) := rfl
theorem v_ret_new {np : Nat} : retK np env (.new o) = some (.rt (.new o), env) := rfl
theorem v_ret_bor {np : Nat} : retK np env (.bor i) = if np ≤ i then retO i env env[i]?.join else none := rfl
theorem v_retO : retO i env (some (.mu o)) = some (.rt (.new o), env.set i none) := rfl
def seqK (g : FS) : Fl × En → Option (Fl × En)
  | (.nx, e) => g e
  | (fl, e) => some (fl, e)
theorem v_sSeq {f g : FS} : sSeq f g env = (f env).bind (seqK g) := by
  unfold sSeq
  congr 1
  funext p
  obtain ⟨a, b⟩ := p
  cases a <;> rfl
theorem v_seqK_nx {g : FS} : seqK g (.nx, env) = g env := rfl
theorem v_seqK_rt {g : FS} : seqK g (.rt r, env) = some (.rt r, env) := rfl
theorem v_seqK_bk {g : FS} : seqK g (.bk, env) = some (.bk, env) := rfl
theorem v_seqK_ct {g : FS} : seqK g (.ct, env) = some (.ct, env) := rfl
def finR : Fl → Option R
  | .rt r => if r.out = true then some r else none
  | .nx => some (.val .none)
  | _ => none
theorem v_fnBody {np k : Nat} {body : FS} {bs : List B} : fnBody np k body bs = (bnd (fun p => (bnd (fun r => (allSome (p.2.take np)).map fun bs' => (r, bs')) (finR p.1))) (body (bs.map some ++ List.replicate (k - np) none))) := by
  unfold fnBody
  congr 1
theorem v_fin_nx : finR .nx = some (.val .none) := rfl
theorem v_fin_val : finR (.rt (.val d)) = some (.val d) := rfl
theorem v_fin_new : finR (.rt (.new o)) = some (.new o) := rfl
theorem v_allSome_nil : allSome [] = some [] := rfl
theorem v_allSome_cons {l : List (Option B)} : allSome (some b :: l) = (allSome l).map (b :: ·) := rfl
def setO (i : Nat) (ri : R) (d : D) (env : En) : Option B → Option En
  | some (.mu (.lst ds)) => ri.int.bind fun n => (ixN ds.length n).map fun j => env.set i (some (.mu (.lst (ds.set j d))))
  | some (.mu (.dK kvs)) => (ri.dat env).bind fun k => (keyD k).bind fun k => if kvs.length < sizeLine then some (env.set i (some (.mu (.dK (putD kvs k d))))) else none
  | _ => none
theorem v_setAt {ri : R} : setAt i ri d env = setO i ri d env env[i]?.join := rfl
theorem v_setO_l {ri : R} : setO i ri d env (some (.mu (.lst ds))) = (bnd (fun n => (ixN ds.length n).map fun j => env.set i (some (.mu (.lst (ds.set j d))))) (ri.int)) := rfl
theorem v_setO_d {ri : R} : setO i ri d env (some (.mu (.dK kvs))) = (bnd (fun k => (bnd (fun k => if kvs.length < sizeLine then some (env.set i (some (.mu (.dK (putD kvs k d))))) else none) (keyD k))) (ri.dat env)) := rfl
def sixK (ri : R) (d : D) (env : En) : R → Option (Fl × En)
  | .bor i => (setAt i ri d env).map fun e => (.nx, e)
  | _ => none
theorem v_sSetIx {fv fo fi : FE} : sSetIx fv fo fi env = (bnd (fun p => (bnd (fun q => (bnd (fun s => (bnd (fun d => sixK s.1 d.1 d.2 q.1) (keep p.1 s.2))) (fi q.2))) (fo p.2))) (fv env)) := by
  unfold sSetIx
  congr 1
theorem v_sixK {ri : R} : sixK ri d env (.bor i) = (setAt i ri d env).map fun e => (.nx, e) := rfl
def augD (f : Int → Int → Int) (fe : FE) (i : Nat) (n : Int) (env : En) : Option D → Option (Fl × En)
  | some (.int a) => (fe env).bind fun s => s.1.int.bind fun b => (setAt i (.val (.int n)) (.int (f a b)) s.2).map fun e => (.nx, e)
  | _ => none
def augO (f : Int → Int → Int) (fe : FE) (i : Nat) (n : Int) (env : En) : Option B → Option (Fl × En)
  | some (.mu (.lst ds)) => if 0 ≤ n then augD f fe i n env ds[n.toNat]? else none
  | _ => none
def augK (f : Int → Int → Int) (fe : FE) (env : En) : R → R → Option (Fl × En)
  | .bor i, .val (.int n) => augO f fe i n env env[i]?.join
  | _, _ => none
theorem v_sAugIx {f : Int → Int → Int} {fo fi fe : FE} : sAugIx f fo fi fe env = (bnd (fun p => (bnd (fun q => augK f fe q.2 p.1 q.1) (fi p.2))) (fo env)) := by
  unfold sAugIx
  congr 1
theorem v_augK {f : Int → Int → Int} {fe : FE} : augK f fe env (.bor i) (.val (.int n)) = augO f fe i n env env[i]?.join := rfl
theorem v_augO {f : Int → Int → Int} {fe : FE} : augO f fe i n env (some (.mu (.lst ds))) = if 0 ≤ n then augD f fe i n env ds[n.toNat]? else none := rfl
theorem v_augD {f : Int → Int → Int} {fe : FE} : augD f fe i n env (some (.int m)) = (bnd (fun s => (bnd (fun b => (setAt i (.val (.int n)) (.int (f m b)) s.2).map fun e => (.nx, e)) (s.1.int))) (fe env)) := rfl
def lockO (i : Nat) (env : En) : Option B → Option ((List D × Option Nat) × En)
  | some (.mu (.lst ds)) => some ((ds, some i), env.set i (some (.lk (.lst ds))))
  | some (.lk (.lst ds)) => some ((ds, none), env)
  | _ => none
theorem v_iSeq {f : FE} : iSeq f env = (bnd (fun p => lockR p.1 p.2) (f env)) := rfl
theorem v_lock_l : lockR (.val (.list ds)) env = some ((ds, none), env) := rfl
theorem v_lock_t : lockR (.val (.tuple ds)) env = some ((ds, none), env) := rfl
theorem v_lock_n : lockR (.new (.lst ds)) env = some ((ds, none), env) := rfl
theorem v_lock_b : lockR (.bor i) env = lockO i env env[i]?.join := rfl
theorem v_lockO_mu : lockO i env (some (.mu (.lst ds))) = some ((ds, some i), env.set i (some (.lk (.lst ds)))) := rfl
theorem v_lockO_lk : lockO i env (some (.lk (.lst ds))) = some ((ds, none), env) := rfl
def unlO (i : Nat) (env : En) : Option B → En
  | some (.lk o) => env.set i (some (.mu o))
  | _ => env
theorem v_unl_none : unlock none env = env := rfl
theorem v_unl_some : unlock (some i) env = unlO i env env[i]?.join := rfl
theorem v_unlO : unlO i env (some (.lk o)) = env.set i (some (.mu o)) := rfl
def appO (i : Nat) (d : D) (env : En) : Option B → Option (R × En)
  | some (.mu (.lst ds)) => if ds.length < sizeLine then some (.val .none, env.set i (some (.mu (.lst (ds ++ [d]))))) else none
  | _ => none
theorem v_gAppend : gAppend (.bor i) [r] env = (bnd (fun p => appO i p.1 p.2 p.2[i]?.join) (keep r env)) := rfl
theorem v_appO : appO i d env (some (.mu (.lst ds))) = if ds.length < sizeLine then some (.val .none, env.set i (some (.mu (.lst (ds ++ [d]))))) else none := rfl
def extO (i : Nat) (zs : List D) (env : En) : Option B → Option (R × En)
  | some (.mu (.lst ds)) => if ds.length + zs.length ≤ sizeLine then some (.val .none, env.set i (some (.mu (.lst (ds ++ zs))))) else none
  | _ => none
theorem v_gExtend {zs : List D} : gExtend (.bor i) [.new (.lst zs)] env = extO i zs env env[i]?.join := rfl
theorem v_extO {zs : List D} : extO i zs env (some (.mu (.lst ds))) = if ds.length + zs.length ≤ sizeLine then some (.val .none, env.set i (some (.mu (.lst (ds ++ zs))))) else none := rfl
def popO (i : Nat) (env : En) : Option B → Option (R × En)
  | some (.mu (.lst ds)) => (ds[ds.length - 1]?).map fun d => (.val d, env.set i (some (.mu (.lst ds.dropLast))))
  | _ => none
theorem v_gPop : gPop (.bor i) [] env = popO i env env[i]?.join := rfl
theorem v_popO : popO i env (some (.mu (.lst (ds ++ [d])))) = some (.val d, env.set i (some (.mu (.lst ds)))) := by
  show (((ds ++ [d])[(ds ++ [d]).length - 1]?).map _) = _
  simp
theorem v_chkL : chkL r env = (lstD (r.dat env)).isSome := rfl
theorem v_chkD : chkD r env = (r.dk env).isSome := rfl
theorem v_gAll : gAll [r] env = (bnd (fun ds => (bools ds).map fun bs => (.val (.bool (bs.all id)), env)) (lstD (r.dat env))) := rfl
theorem v_gDict : gDict [r] env = (bnd (fun ds => (pairsOf ds).map fun kvs => (.new (.dK (mergeD [] kvs)), env)) (lstD (r.dat env))) := rfl
def updO (i : Nat) (more : List (Key × D)) (env : En) : Option B → Option (R × En)
  | some (.mu (.dK kvs)) => if kvs.length + more.length ≤ sizeLine then some (.val .none, env.set i (some (.mu (.dK (mergeD kvs more))))) else none
  | _ => none
theorem v_gUpdate : gUpdate (.bor i) [r] env = (bnd (fun ds => (bnd (fun more => updO i more env env[i]?.join) (pairsOf ds))) (lstD (r.dat env))) := rfl
theorem v_updO {more : List (Key × D)} : updO i more env (some (.mu (.dK kvs))) = if kvs.length + more.length ≤ sizeLine then some (.val .none, env.set i (some (.mu (.dK (mergeD kvs more))))) else none := rfl
def siD (env : En) : Option D → Option (R × En)
  | some (.list ds) => (intsOf ds).bind fun ns => if ns.length ≤ 1000 then some (.new (.sI (usort ns)), env) else none
  | some (.tuple ds) => (intsOf ds).bind fun ns => if ns.length ≤ 1000 then some (.new (.sI (usort ns)), env) else none
  | _ => none
theorem v_gSet : gSet [r] env = siD env (r.dat env) := by
  show ((seqInts r env).bind _) = _
  unfold seqInts siD
  cases r.dat env with
  | none => rfl
  | some d => cases d <;> rfl
theorem v_siD_l : siD env (some (.list ds)) = (bnd (fun ns => if ns.length ≤ 1000 then some (.new (.sI (usort ns)), env) else none) (intsOf ds)) := rfl
theorem v_siD_t : siD env (some (.tuple ds)) = (bnd (fun ns => if ns.length ≤ 1000 then some (.new (.sI (usort ns)), env) else none) (intsOf ds)) := rfl
theorem v_sorted_s {ns : List Int} : gSorted [.new (.sI ns)] env = if ns.length < 64 then some (.new (.lst ((usort ns).map .int)), env) else none := rfl
theorem v_sorted_d : gSorted [.new (.dK kvs)] env = (bnd (fun ks => if ks.length < 64 then some (.new (.lst ((isort ks).map .int)), env) else none) (keyInts kvs)) := rfl
theorem v_sorted_l : gSorted [.new (.lst ds)] env = (intsOf ds).map fun ns => (.new (.lst ((isort ns).map .int)), env) := rfl
def par2K (np i j : Nat) (env : En) : List R → Option (Fl × En)
  | [r, s] => (put np j s env).bind fun e => (put np i r e).map fun e' => (.nx, e')
  | _ => none
theorem v_sPar2 {np j : Nat} {f : FA} : sPar2 np i j f env = (bnd (fun p => (bnd (fun q => par2K np i j q.2 q.1) (norms p.1 p.2))) (f env)) := rfl
theorem v_par2K {np j : Nat} {s : R} : par2K np i j env [r, s] = (bnd (fun e => (put np i r e).map fun e' => (.nx, e')) (put np j s env)) := rfl
def par3K (np i j l : Nat) (env : En) : List R → Option (Fl × En)
  | [r, s, t] => (put np l t env).bind fun e => (put np j s e).bind fun e => (put np i r e).map fun e' => (.nx, e')
  | _ => none
theorem v_sPar3 {np j l : Nat} {f : FA} : sPar3 np i j l f env = (bnd (fun p => (bnd (fun q => par3K np i j l q.2 q.1) (norms p.1 p.2))) (f env)) := rfl
theorem v_par3K {np j l : Nat} {s t : R} : par3K np i j l env [r, s, t] = (bnd (fun e => (bnd (fun e => (put np i r e).map fun e' => (.nx, e')) (put np j s e))) (put np l t env)) := rfl
def get2K (s : R × En) : Option D → Option (R × En)
  | some d => some (.val d, s.2)
  | none => some (s.1, s.2)
theorem v_eGet2 {fo fk fd : FE} : eGet2 fo fk fd env = (bnd (fun p => if chkD p.1 p.2 = true then (bnd (fun q => (bnd (fun s => (bnd (fun kvs => (bnd (fun kd => (bnd (fun k => get2K s (lkD kvs k)) (keyD kd))) (q.1.dat s.2))) (p.1.dk s.2))) (fd q.2))) (fk p.2)) else none) (fo env)) := by
  unfold eGet2
  congr 1
theorem v_get2_some {s : R × En} : get2K s (some d) = some (.val d, s.2) := rfl
theorem v_get2_none {s : R × En} : get2K s none = some (s.1, s.2) := rfl
def pairK (fv : FE) (l : List (FE × FE)) (env : En) : R → Option (List (Key × D) × En)
  | .val kd => (keyD kd).bind fun k => (fv env).bind fun q => (keep q.1 q.2).bind fun d => (pairsE l d.2).map fun s => ((k, d.1) :: s.1, s.2)
  | _ => none
theorem v_pairsE_nil : pairsE [] env = some ([], env) := rfl
theorem v_pairsE_cons {fk fv : FE} {l : List (FE × FE)} : pairsE ((fk, fv) :: l) env = (bnd (fun p => pairK fv l p.2 p.1) (fk env)) := by
  rw [pairsE]
  congr 1
theorem v_pairK {fv : FE} {l : List (FE × FE)} : pairK fv l env (.val d) = (bnd (fun k => (bnd (fun q => (bnd (fun d => (pairsE l d.2).map fun s => ((k, d.1) :: s.1, s.2)) (keep q.1 q.2))) (fv env))) (keyD d)) := rfl
theorem v_wipe_nil : wipeE env [] = env := rfl
theorem v_wipe_cons {v : Nat} {vs : List Nat} : wipeE env (v :: vs) = (wipeE env vs).set v none := rfl
end

/-! == of texts, whatever signs they have -/
def gEqA (neg : Bool) : G2 := fun ra rb env => match ra.dat env, rb.dat env with
  | some (.str x), some (.str y) => some (.val (.bool (if neg = true then !(x == y) else x == y)), env)
  | _, _ => gEq neg ra rb env
def eqA (neg : Bool) (env : En) : Option D → Option D → Option (R × En)
  | some (.str x), some (.str y) => some (.val (.bool (if neg = true then !(x == y) else x == y)), env)
  | a, b => eqD neg env a b
section
variable {env : En} {neg : Bool} {e : D} {ds : List D} {x y : Str} {n : Int} {b : Bool}
theorem v_gEqA {ra rb : R} : gEqA neg ra rb env = eqA neg env (ra.dat env) (rb.dat env) := by
  unfold gEqA eqA
  split
  · rfl
  · rw [v_gEq]
theorem v_eqA_ss : eqA neg env (some (.str x)) (some (.str y)) = some (.val (.bool (if neg = true then !(x == y) else x == y)), env) := rfl
theorem v_eqA_l : eqA neg env (some (.list ds)) (some e) = eqD neg env (some (.list ds)) (some e) := by cases e <;> rfl
theorem v_eqA_t : eqA neg env (some (.tuple ds)) (some e) = eqD neg env (some (.tuple ds)) (some e) := by cases e <;> rfl
theorem v_eqA_i : eqA neg env (some (.int n)) (some e) = eqD neg env (some (.int n)) (some e) := by cases e <;> rfl
theorem v_eqA_b : eqA neg env (some (.bool b)) (some e) = eqD neg env (some (.bool b)) (some e) := by cases e <;> rfl
theorem v_eqA_n : eqA neg env (some .none) (some e) = eqD neg env (some .none) (some e) := by cases e <;> rfl
end
/-! the words themselves -/
section
variable {env : En} {np i : Nat} {f g : FE} {fs gs : FS} {t u : FT} {a b : FA}
theorem v_sSet : sSet np i f env = (bnd (fun p => (bnd (fun q => (put np i q.1 q.2).map fun e => (.nx, e)) (norm p.1 p.2))) (f env)) := rfl
theorem v_sIf : sIf t fs gs env = (bnd (fun p => if p.1 = true then fs p.2 else gs p.2) (t env)) := rfl
theorem v_rB : rB f env = (bnd (fun p => p.1.bl.map fun b => (b, p.2)) (f env)) := rfl
theorem v_e2 {h : G2} : e2 h f g env = (bnd (fun p => (bnd (fun q => h p.1 q.1 q.2) (g p.2))) (f env)) := rfl
theorem v_e1 {h : G1} : e1 h f env = (bnd (fun p => h p.1 p.2) (f env)) := rfl
theorem v_sExpr : sExpr f env = (f env).map fun p => (.nx, p.2) := rfl
theorem v_sAsg {tg : Tg} : sAsg np tg f env = (bnd (fun p => (bnd (fun q => (setT np tg q.1 q.2).map fun e => (.nx, e)) (keep p.1 p.2))) (f env)) := rfl
theorem v_norms_nil : norms [] env = some ([], env) := rfl
theorem v_norms_cons {r : R} {rs : List R} : norms (r :: rs) env = (bnd (fun p => (norms rs p.2).map fun q => (p.1 :: q.1, q.2)) (norm r env)) := rfl
theorem v_eIf : eIf t f g env = (bnd (fun p => if p.1 = true then f p.2 else g p.2) (t env)) := rfl
theorem v_eAnd : eAnd f g env = (bnd (fun p => (bnd (fun b => if b = true then g p.2 else some (.val (.bool false), p.2)) (p.1.bl))) (f env)) := rfl
theorem v_eOr : eOr f g env = (bnd (fun p => (bnd (fun b => if b = true then some (.val (.bool true), p.2) else g p.2) (p.1.bl))) (f env)) := rfl
theorem v_eNot : eNot f env = (bnd (fun p => p.1.bl.map fun b => (.val (.bool !b), p.2)) (f env)) := rfl
theorem v_eN {h : GN} : eN h a env = (bnd (fun p => h p.1 p.2) (a env)) := rfl
theorem v_eM {chk : R → En → Bool} {h : GL} : eM chk h f a env = (bnd (fun p => if chk p.1 p.2 = true then (bnd (fun q => h p.1 q.1 q.2) (a p.2)) else none) (f env)) := rfl
theorem v_eCall {n : Nat} {h : Fn} {ds : List D} : eCall n h ds a env = (bnd (fun p => (bnd (fun bs => if (borIx (p.1 ++ ds.map R.val)).Nodup ∧ bs.length = n then (bnd (fun q => some (q.1, putBack (p.1 ++ ds.map R.val) q.2 p.2)) (h bs)) else none) (argsB (p.1 ++ ds.map R.val) p.2))) (a env)) := rfl
theorem v_aCons : aCons f a env = (bnd (fun p => (a p.2).map fun q => (p.1 :: q.1, q.2)) (f env)) := rfl
theorem v_fAnd : fAnd t u env = (bnd (fun p => if p.1 = true then u p.2 else some (false, p.2)) (t env)) := rfl
theorem v_fOr : fOr t u env = (bnd (fun p => if p.1 = true then some (true, p.2) else u p.2) (t env)) := rfl
theorem v_fNot : fNot t env = (t env).map fun p => (!p.1, p.2) := rfl
theorem v_eTup : eTup a env = (bnd (fun p => (bnd (fun q => if q.1.length ≤ sizeLine then some (.val (.tuple q.1), q.2) else none) (keepAll p.1 p.2))) (a env)) := rfl
theorem v_eLst : eLst a env = (bnd (fun p => (bnd (fun q => if q.1.length ≤ sizeLine then some (.new (.lst q.1), q.2) else none) (keepAll p.1 p.2))) (a env)) := rfl
theorem v_kAll_nil : keepAll [] env = some ([], env) := rfl
theorem v_kAll_cons {r : R} {rs : List R} : keepAll (r :: rs) env = (bnd (fun p => (keepAll rs p.2).map fun q => (p.1 :: q.1, q.2)) (keep r env)) := rfl
theorem v_eDisp {l : List (FE × FE)} : eDisp l env = (bnd (fun p => if p.1.length ≤ 15 then some (.new (.dK (mergeD [] p.1)), p.2) else none) (pairsE l env)) := rfl
theorem v_eSl {x y : FO} : eSl f x y env = (bnd (fun p => (bnd (fun q => (bnd (fun s => gSl p.1 q.1 s.1 s.2) (y q.2))) (x p.2))) (f env)) := rfl
theorem v_oSome : oSome f env = (bnd (fun p => p.1.int.map fun i => (some i, p.2)) (f env)) := rfl
theorem v_rng1 : iRng1 f env = (bnd (fun p => (bnd (fun n => if rgI n = true then some ((rangeD 0 n, none), p.2) else none) (p.1.int))) (f env)) := iRng1_eq f env
theorem v_rng2 : iRng2 f g env = (bnd (fun p => (bnd (fun q => (bnd (fun m => (bnd (fun n => if (rgI m && rgI n) = true then some ((rangeD m n, none), q.2) else none) (q.1.int))) (p.1.int))) (g p.2))) (f env)) := iRng2_eq f g env
theorem v_tupRg1 : eTupRg1 f env = (bnd (fun p => (bnd (fun n => if rgOk 0 n = true then some (.val (.tuple (rangeD 0 n)), p.2) else none) (p.1.int))) (f env)) := rfl
theorem v_lstRg1 : eLstRg1 f env = (bnd (fun p => (bnd (fun n => if rgOk 0 n = true then some (.new (.lst (rangeD 0 n)), p.2) else none) (p.1.int))) (f env)) := rfl
end
end ML
local macro_rules
  | `(tactic| simp_arith [$ls,*]) => `(tactic| simp -implicitDefEqProofs only [ML.v_fnBody, ML.v_fin_nx, ML.v_fin_val, ML.v_fin_new, ML.v_allSome_nil, ML.v_allSome_cons, ML.v_sSeq, ML.v_seqK_nx, ML.v_seqK_rt, ML.v_seqK_bk, ML.v_seqK_ct, ML.v_sSet, ML.v_sIf, ML.v_rB, ML.v_e2, ML.v_e1, ML.v_eV, ML.v_evO_val, ML.v_evO_mu, ML.v_evO_lk, ML.v_eC, ML.v_ecO, ML.eK, ML.sNil, ML.v_sRet, ML.v_ret_val, ML.v_ret_new, ML.v_ret_bor, ML.v_retO, ML.v_sExpr, ML.v_sAugIx, ML.v_augK, ML.v_augO, ML.v_augD, ML.v_sSetIx, ML.v_sixK, ML.v_setAt, ML.v_setO_l, ML.v_setO_d, ML.v_sAsg, ML.v_sPar2, ML.v_par2K, ML.v_sPar3, ML.v_par3K, ML.v_norms_nil, ML.v_norms_cons, ML.setT_nm, ML.setT_tp, ML.setTs_nil, ML.setTs_cons, ML.v_eIf, ML.v_eAnd, ML.v_eOr, ML.v_eNot, ML.v_eN, ML.v_eM, ML.v_eCall, ML.v_aCons, ML.aNil, ML.v_fAnd, ML.v_fOr, ML.v_fNot, ML.v_eLst, ML.v_eTup, ML.v_kAll_nil, ML.v_kAll_cons, ML.v_keep_val, ML.v_keep_new, ML.v_keep_bor, ML.v_keepO_val, ML.v_keepO_mu, ML.v_norm_val, ML.v_norm_new, ML.v_norm_bor, ML.put_val, ML.put_new, ML.isLk_jk, ML.isLk_none, ML.isLk_val, ML.isLk_mu, ML.v_int, ML.v_bl, ML.v_obj_val, ML.v_obj_new, ML.v_obj_bor, ML.v_dat_val, ML.v_dat_new, ML.v_dat_newK, ML.v_dat_bor, ML.v_datO_val, ML.v_datO_mu, ML.v_datO_lk, ML.v_datO_dK, ML.v_dk_new, ML.v_dk_bor, ML.v_dkO, ML.v_lst, ML.v_lstD, ML.v_seqD_l, ML.v_seqD_t, ML.v_gIx, ML.v_ixD_l, ML.v_ixD_t, ML.v_ixD_n, ML.v_gLen, ML.v_lenD_l, ML.v_lenD_t, ML.v_lenD_n, ML.v_gGt, ML.v_gGe, ML.v_gLt, ML.v_gLe, ML.v_gMod, ML.v_gDiv, ML.v_gPow, ML.v_gMul, ML.v_gSub, ML.v_gNeg, ML.v_g2O, ML.v_gAdd, ML.v_add_i, ML.v_add_t, ML.v_add_l, ML.v_gEq, ML.v_gEqA, ML.v_eqA_ss, ML.v_eqA_l, ML.v_eqA_t, ML.v_eqA_i, ML.v_eqA_b, ML.v_eqA_n, ML.v_eqD, ML.v_gIn, ML.v_inD_l, ML.v_inD_t, ML.v_inD_n, ML.v_inK, ML.v_key_i, ML.v_key_s, ML.v_bneg_t, ML.v_bneg_f, ML.v_argsB_nil, ML.v_argsB_cons, ML.v_argB_val, ML.v_argB_new, ML.v_argB_bor, ML.v_argO_mu, ML.v_argO_val, ML.v_borIx_nil, ML.v_borIx_val, ML.v_borIx_new, ML.v_borIx_bor, ML.v_nodup1, ML.v_isMu_mu, ML.v_isMu_val, ML.v_pb_nil, ML.v_pb_val, ML.v_pb_new, ML.v_pb_bor, L2.ixN, ML.atI_0, ML.atI_1, ML.atI_2, ML.atI_3, ML.v_chkL, ML.v_chkD, ML.v_gAppend, ML.v_appO, ML.v_gExtend, ML.v_extO, ML.v_gPop, ML.v_popO, ML.v_gTuple, ML.v_gList, ML.v_gAll, ML.v_gDict, ML.v_gUpdate, ML.v_updO, ML.v_gSet, ML.v_siD_l, ML.v_siD_t, ML.v_sorted_s, ML.v_sorted_d, ML.v_sorted_l, ML.v_eGet2, ML.v_get2_some, ML.v_get2_none, ML.v_eDisp, ML.v_pairsE_nil, ML.v_pairsE_cons, ML.v_pairK, ML.v_eSl, ML.oNone, ML.v_oSome, ML.v_gSl, ML.v_slD_l, ML.v_slD_t, ML.eNewD, ML.v_iSeq, ML.v_lock_l, ML.v_lock_t, ML.v_lock_n, ML.v_lock_b, ML.v_lockO_mu, ML.v_lockO_lk, ML.v_unl_none, ML.v_unl_some, ML.v_unlO, ML.v_rng1, ML.v_rng2, ML.v_tupRg1, ML.v_lstRg1, ML.bnd_some, ML.sl_le, ML.sl_lt, ML.v_wipe_nil, ML.v_wipe_cons, ↓reduceIte, Option.bind_some, Option.map_some, Option.join_some, Option.isSome_some, List.getElem?_cons_zero, List.getElem?_cons_succ, List.set_cons_zero, List.set_cons_succ, List.map_cons, List.map_nil, List.length_cons, List.length_nil, List.length_map, List.replicate, List.cons_append, List.nil_append, List.append_nil, List.take_succ_cons, List.take_zero, List.take_nil, List.nodup_nil, Nat.reduceSub, Nat.reduceAdd, Nat.reduceLT, Nat.reduceLeDiff, Nat.lt_irrefl, Int.reduceNeg, Int.reduceLE, Int.reduceLT, Int.reduceToNat, Int.reducePow, ML.natAbs10, Nat.reducePow, Int.cast_ofNat_Int, decide_true, decide_false, Bool.true_eq_false, Bool.false_eq_true, Bool.not_true, Bool.not_false, and_self, and_true, true_and, $ls,*])
namespace ML
open PySem PySem.Spec PyProof.Rows L2


/-! ### data -/
theorem mulOk_of {i j : Int} (hi : i.natAbs < 2 ^ 64) (hj : j.natAbs < 2 ^ 64) : mulOk i j = true := by
  have h : ∀ n : Nat, n < 2 ^ 64 → n.log2 < 64 := fun n hn => by
    by_cases h0 : n = 0
    · subst h0; decide
    · exact (Nat.log2_lt h0).mpr hn
  have := h _ hi
  have := h _ hj
  exact decide_eq_true (by omega)
theorem canLay_ints : ∀ ns : List Int, PyData.canLayAll0 (ns.map PyData.int) = true
  | [] => by simp [PyData.canLayAll0]
  | n :: ns => by simp [PyData.canLayAll0, PyData.canLay0, canLay_ints ns]
theorem depth_ints : ∀ ns : List Int, PyData.depthAll (ns.map PyData.int) = 0
  | [] => by simp [PyData.depthAll]
  | n :: ns => by simp [PyData.depthAll, PyData.depth, depth_ints ns]
theorem shaped_ints (ns : List Int) : SeqAt.shaped (.list (ns.map PyData.int)) = true := by
  simp [SeqAt.shaped, PyData.canLay0, PyData.depth, canLay_ints, depth_ints]
theorem shaped_tints (ns : List Int) : SeqAt.shaped (.tuple (ns.map PyData.int)) = true := by
  simp [SeqAt.shaped, PyData.canLay0, PyData.depth, canLay_ints, depth_ints]
theorem shaped_nil : SeqAt.shaped (.list []) = true := shaped_ints []
theorem shaped_int (n : Int) : SeqAt.shaped (.int n) = true := by simp [SeqAt.shaped, PyData.canLay0, PyData.depth]
theorem atI_ints {ns : List Int} {i : Int} (h0 : 0 ≤ i) (h1 : i < ns.length) : ∃ c, atI (ns.map PyData.int) i = some (.int c) := by
  have hj : i.toNat < ns.length := by omega
  refine ⟨ns[i.toNat], ?_⟩
  simp [atI, ixN, h0, h1, hj]

/-! ### the laws' feed and draw -/
def feedF : Fn := fnBody 1 1
    (sRet 1 (eLst (aCons (eSl (eV 0) oNone (oSome (eK (.int 63)))) (aCons (eK (.int 0)) (aCons (eK (.int 0)) (aCons (eK (.int 0)) aNil))))))
def drawF : Fn := fnBody 2 6
    (sSeq (sAugIx (fun i j => i + j) (eV 0) (eK (.int 3)) (eK (.int 1)))
    (sSeq (sIf (rB (e2 gGt (e2 gIx (eV 0) (eK (.int 2))) (eK (.int 0)))) (sSeq (sSet 2 2 (e2 gMod (e2 gIx (eV 0) (eK (.int 2))) (eV 1)))
    (sSeq (sSetIx (e2 gDiv (e2 gIx (eV 0) (eK (.int 2))) (eV 1)) (eV 0) (eK (.int 2)))
    (sRet 2 (eV 2)))) sNil)
    (sSeq (sSet 2 3 (eIf (rB (e2 (gEqA false) (e2 gIx (eV 0) (eK (.int 0))) (eLst aNil))) (eK (.int 7)) (e2 gIx (e2 gIx (eV 0) (eK (.int 0))) (e2 gMod (e2 gIx (eV 0) (eK (.int 1))) (eN gLen (aCons (e2 gIx (eV 0) (eK (.int 0))) aNil))))))
    (sSeq (sAugIx (fun i j => i + j) (eV 0) (eK (.int 1)) (eK (.int 1)))
    (sSeq (sIf (fAnd (rB (e2 gGe (eV 3) (e2 gPow (eK (.int 10)) (eK (.int 18))))) (rB (e2 gLe (e2 gIx (eV 0) (eK (.int 1))) (eN gLen (aCons (e2 gIx (eV 0) (eK (.int 0))) aNil))))) (sSeq (sSetIx (e2 gDiv (eV 3) (eV 1)) (eV 0) (eK (.int 2)))
    (sRet 2 (e2 gMod (eV 3) (eV 1)))) sNil)
    (sSeq (sSet 2 4 (e2 gIx (eV 0) (eK (.int 3))))
    (sSeq (sSet 2 5 (e2 gMod (e2 gAdd (e2 gAdd (e2 gMod (eV 3) (eK (.int 2147483629))) (e2 gMul (e2 gMul (eK (.int 69621)) (eV 4)) (eV 4))) (e2 gMul (eK (.int 7)) (eV 4))) (eK (.int 2147483629))))
    (sSeq (sSet 2 5 (e2 gMod (e2 gAdd (e2 gMul (eV 5) (eV 5)) (e2 gMul (eK (.int 48271)) (eV 4))) (eK (.int 2147483647))))
    (sSeq (sSet 2 5 (e2 gMod (e2 gAdd (e2 gMul (eV 5) (eV 5)) (e2 gMul (eK (.int 16807)) (eV 4))) (eK (.int 2147483587))))
    (sRet 2 (e2 gMod (e2 gDiv (e2 gMod (e2 gAdd (e2 gMul (eV 5) (eV 5)) (eV 4)) (eK (.int 2147483629))) (eK (.int 131))) (eV 1))))))))))))
/-- the feed as it stands -/
def feedB (cells : List Int) (p l t : Int) : B := .mu (.lst [.list (cells.map PyData.int), .int p, .int l, .int t])
theorem mod_small (x k : Int) (h : 0 < k) (hk : k < 2 ^ 63) : (x % k).natAbs < 2 ^ 64 := by
  have h1 := Int.emod_nonneg x (by omega : k ≠ 0)
  have h2 := Int.emod_lt_of_pos x h
  omega
theorem eqv_nil_cons (a : D) (l : List D) : PyData.eqv (.list (a :: l)) (.list []) = false := by simp [PyData.eqv, PyData.eqvAll]
theorem eqv_nil_nil : PyData.eqv (.list []) (.list []) = true := by simp [PyData.eqv, PyData.eqvAll]
def mixD (c t : Int) : Int :=
  let x := (c % 2147483629 + 69621 * t * t + 7 * t) % 2147483629
  let y := (x * x + 48271 * t) % 2147483647
  let z := (y * y + 16807 * t) % 2147483587
  (z * z + t) % 2147483629 / 131
theorem drawF_spec (cells : List Int) (p l t m : Int) (hp : 0 ≤ p) (hm : 0 < m) (hm2 : m < 1000) (ht : 0 ≤ t) (ht2 : t < 1000000) :
    ∃ r p' l', drawF [feedB cells p l t, .val (.int m)] = some (.val (.int r), [feedB cells p' l' (t + 1), .val (.int m)]) ∧ 0 ≤ r ∧ r < m ∧ 0 ≤ p' := by
  have hm3 : m < 1073741824 := by omega
  have hmne : m ≠ 0 := by omega
  have rm : ∀ x : Int, 0 ≤ x % m ∧ x % m < m := fun x => ⟨Int.emod_nonneg x hmne, Int.emod_lt_of_pos x hm⟩
  unfold feedB
  by_cases hl : 0 < l
  · refine ⟨l % m, p, l / m, ?_, (rm _).1, (rm _).2, hp⟩
    simp_arith [drawF, hl, hm, hm3]
  · have M1 : mulOk 69621 (t + 1) = true := mulOk_of (by decide) (by omega)
    have M2 : mulOk (69621 * (t + 1)) (t + 1) = true := mulOk_of (by omega) (by omega)
    have M3 : mulOk 7 (t + 1) = true := mulOk_of (by decide) (by omega)
    have M4 : mulOk 48271 (t + 1) = true := mulOk_of (by decide) (by omega)
    have M5 : mulOk 16807 (t + 1) = true := mulOk_of (by decide) (by omega)
    have A1 : ∀ x : Int, mulOk (x % 2147483629) (x % 2147483629) = true := fun x => mulOk_of (mod_small _ _ (by decide) (by decide)) (mod_small _ _ (by decide) (by decide))
    have A2 : ∀ x : Int, mulOk (x % 2147483647) (x % 2147483647) = true := fun x => mulOk_of (mod_small _ _ (by decide) (by decide)) (mod_small _ _ (by decide) (by decide))
    have A3 : ∀ x : Int, mulOk (x % 2147483587) (x % 2147483587) = true := fun x => mulOk_of (mod_small _ _ (by decide) (by decide)) (mod_small _ _ (by decide) (by decide))
    cases cells with
    | nil =>
      refine ⟨mixD 7 (t + 1) % m, p + 1, l, ?_, (rm _).1, (rm _).2, by omega⟩
      simp_arith [drawF, hl, hm, hm3, M1, M2, M3, M4, M5, A1, A2, A3, shaped_nil, eqv_nil_nil]
      rfl
    | cons z zs =>
      have hlen : (0 : Int) < ((z :: zs).length : Int) := by simp
      obtain ⟨c, hc⟩ := atI_ints (ns := z :: zs) (i := p % ((z :: zs).length : Int)) (Int.emod_nonneg _ (by omega)) (Int.emod_lt_of_pos _ hlen)
      have hs := shaped_ints (z :: zs)
      simp only [List.map_cons, List.length_cons] at hc hs hlen
      by_cases hg : (10 : Int) ^ 18 ≤ c
      · by_cases hq : p + 1 ≤ ((zs.length + 1 : Nat) : Int)
        · refine ⟨c % m, p + 1, c / m, ?_, (rm _).1, (rm _).2, by omega⟩
          have hg : (1000000000000000000 : Int) ≤ c := hg
          simp_arith [drawF, hl, hm, hm3, hc, hs, hlen, shaped_nil, eqv_nil_cons, hg, hq]
        · have hg : (1000000000000000000 : Int) ≤ c := hg
          refine ⟨mixD c (t + 1) % m, p + 1, l, ?_, (rm _).1, (rm _).2, by omega⟩
          simp_arith [drawF, hl, hm, hm3, hc, hs, hlen, shaped_nil, eqv_nil_cons, hg, hq, M1, M2, M3, M4, M5, A1, A2, A3]
          rfl
      · have hg : ¬ (1000000000000000000 : Int) ≤ c := hg
        refine ⟨mixD c (t + 1) % m, p + 1, l, ?_, (rm _).1, (rm _).2, by omega⟩
        simp_arith [drawF, hl, hm, hm3, hc, hs, hlen, shaped_nil, eqv_nil_cons, hg, M1, M2, M3, M4, M5, A1, A2, A3]
        rfl
end ML

/-! ML16: the plain side: loops. -/
namespace ML
open PySem PySem.Spec PyProof.Rows L2
def lcS (np : Nat) (own : List Nat) (t : Tg) (tst : FT) (elt : FE) (env : En) (d : D) : Option (Option D × En) :=
  (setT np t d env).bind fun e1 => (tst e1).bind fun p => if p.1 = true then (elt p.2).bind fun q => (keep q.1 q.2).bind fun s => some (some s.1, wipeE s.2 own) else some (none, wipeE p.2 own)
theorem v_lcS {np : Nat} {own : List Nat} {t : Tg} {tst : FT} {elt : FE} {env : En} {d : D} : lcS np own t tst elt env d =
    bnd (fun e1 => bnd (fun p => if p.1 = true then bnd (fun q => bnd (fun s => some (some s.1, wipeE s.2 own)) (keep q.1 q.2)) (elt p.2) else some (none, wipeE p.2 own)) (tst e1)) (setT np t d env) := rfl
theorem lcL_run {np : Nat} {own : List Nat} {t : Tg} {tst : FT} {elt : FE} {env : En} {g : D → Option D} : ∀ {ds : List D}, (∀ d ∈ ds, lcS np own t tst elt env d = some (g d, env)) → lcL np own t tst elt ds env = some (ds.filterMap g, env)
  | [], _ => rfl
  | d :: ds, h => by
    have ih := lcL_run (np := np) (own := own) (t := t) (tst := tst) (elt := elt) (env := env) (g := g) (ds := ds) fun d hd => h d (List.mem_cons_of_mem _ hd)
    have h1 := h d (List.mem_cons_self ..)
    unfold lcS at h1
    obtain ⟨e1, q1, h1⟩ := bind_some h1
    obtain ⟨⟨b, e2⟩, q2, h1⟩ := bind_some h1
    unfold lcL
    rw [q1]
    simp only [Option.bind_some, q2]
    cases b with
    | true =>
      obtain ⟨⟨r, e3⟩, q3, h1⟩ := bind_some (show (elt e2).bind _ = _ from h1)
      obtain ⟨⟨v, e4⟩, q4, h1⟩ := bind_some h1
      have h1 : (some v, wipeE e4 own) = (g d, env) := Option.some.inj h1
      have e : g d = some v := (congrArg Prod.fst h1).symm
      have e' : wipeE e4 own = env := congrArg Prod.snd h1
      simp only [↓reduceIte, q3, q4, Option.bind_some, e', ih, Option.map_some, List.filterMap_cons, e]
    | false =>
      have h1 : (none, wipeE e2 own) = (g d, env) := Option.some.inj h1
      have e : g d = none := (congrArg Prod.fst h1).symm
      have e' : wipeE e2 own = env := congrArg Prod.snd h1
      simp only [Bool.false_eq_true, ↓reduceIte, e', ih, List.filterMap_cons, e]
theorem rest_wipe (e : En) (own : List Nat) : restE e (wipeE e own) own = e := by
  apply List.ext_getElem?
  intro j
  rw [restE_get, wipeE_get, wipeE_len]
  by_cases h : j ∈ own
  · simp only [h, if_true]
    by_cases hl : j < e.length
    · simp [hl]
    · simp [hl]
  · simp [h]
theorem eLc_pure {np : Nat} {own : List Nat} {fi : FI} {t : Tg} {tst : FT} {elt : FE} {env env1 : En} {ds : List D} {src : Option Nat} (g : D → Option D) (hi : fi env = some ((ds, src), env1)) (ok : lcOk own t env1 = true)
    (h : ∀ d ∈ ds, lcS np own t tst elt (wipeE env1 own) d = some (g d, wipeE env1 own)) (hl : (ds.filterMap g).length ≤ sizeLine) : eLc np own fi t tst elt env = some (.new (.lst (ds.filterMap g)), unlock src env1) := by
  unfold eLc
  rw [hi]
  simp only [Option.bind_some, ok, ↓reduceIte, lcL_run h, hl, rest_wipe]
theorem filterMap_of {α β : Type} (p : α → Bool) (v : α → β) (k : α → D) (g : D → Option β) : ∀ (xs : List α), (∀ x ∈ xs, g (k x) = if p x = true then some (v x) else none) → (xs.map k).filterMap g = (xs.filter p).map v
  | [], _ => rfl
  | x :: xs, h => by
    have ih := filterMap_of p v k g xs fun y hy => h y (List.mem_cons_of_mem _ hy)
    have h1 := h x (List.mem_cons_self ..)
    rw [List.map_cons, List.filterMap_cons, h1, List.filter_cons]
    cases hp : p x <;> simp [ih]
theorem lcL_of {np : Nat} {own : List Nat} {t : Tg} {tst : FT} {elt : FE} {env : En} {α : Type} (k : α → D) (p : α → Bool) (v : α → D) : ∀ (xs : List α), (∀ x ∈ xs, lcS np own t tst elt env (k x) = some (if p x = true then some (v x) else none, env)) →
    lcL np own t tst elt (xs.map k) env = some ((xs.filter p).map v, env)
  | [], _ => rfl
  | x :: xs, h => by
    have ih := lcL_of (np := np) (own := own) (t := t) (tst := tst) (elt := elt) (env := env) k p v xs fun y hy => h y (List.mem_cons_of_mem _ hy)
    have h1 := h x (List.mem_cons_self ..)
    have e1 := lcL_run (np := np) (own := own) (t := t) (tst := tst) (elt := elt) (env := env) (g := fun _ => if p x = true then some (v x) else none) (ds := [k x]) fun d hd => by rw [List.mem_singleton.mp hd]; exact h1
    rw [List.map_cons, List.filter_cons]
    unfold lcL at e1 ⊢
    obtain ⟨q, q1, e1⟩ := bind_some e1
    rw [q1]
    obtain ⟨b, q2, e1⟩ := bind_some e1
    simp only [Option.bind_some, q2]
    cases hb : b.1 with
    | true =>
      simp only [hb, ↓reduceIte] at e1 ⊢
      obtain ⟨r, q3, e1⟩ := bind_some e1
      obtain ⟨s, q4, e1⟩ := bind_some e1
      obtain ⟨u, q5, e1⟩ := omap_some e1
      unfold lcL at q5
      have q5 : u = ([], wipeE s.2 own) := (Option.some.inj q5).symm
      subst q5
      simp only [q3, q4, Option.bind_some]
      have e2 : wipeE s.2 own = env := congrArg Prod.snd e1
      have e3 : [s.1] = [k x].filterMap (fun _ => if p x = true then some (v x) else none) := congrArg Prod.fst e1
      rw [e2, ih]
      cases hp : p x with
      | true =>
        simp only [hp, ↓reduceIte, List.filterMap_cons, List.filterMap_nil] at e3
        have e3 := List.head_eq_of_cons_eq e3
        simp [e3]
      | false => simp [hp] at e3
    | false =>
      simp only [hb, Bool.false_eq_true, ↓reduceIte] at e1 ⊢
      unfold lcL at e1
      have e2 : wipeE b.2 own = env := congrArg Prod.snd (Option.some.inj e1)
      have e3 : [] = [k x].filterMap (fun _ => if p x = true then some (v x) else none) := congrArg Prod.fst (Option.some.inj e1)
      rw [e2, ih]
      cases hp : p x with
      | true => simp [hp] at e3
      | false => simp
theorem eLc_of {np : Nat} {own : List Nat} {fi : FI} {t : Tg} {tst : FT} {elt : FE} {env env1 : En} {src : Option Nat} {α : Type} (xs : List α) (k : α → D) (p : α → Bool) (v : α → D) (hi : fi env = some ((xs.map k, src), env1)) (ok : lcOk own t env1 = true)
    (h : ∀ x ∈ xs, lcS np own t tst elt (wipeE env1 own) (k x) = some (if p x = true then some (v x) else none, wipeE env1 own)) (hl : xs.length ≤ 1000000) : eLc np own fi t tst elt env = some (.new (.lst ((xs.filter p).map v)), unlock src env1) := by
  have hl2 : ((xs.filter p).map v).length ≤ sizeLine := by
    rw [List.length_map]
    exact sl_le (Nat.le_trans (List.length_filter_le ..) hl)
  unfold eLc
  rw [hi]
  simp only [Option.bind_some, ok, ↓reduceIte, lcL_of k p v xs h, hl2, rest_wipe]
theorem loopL_inv {step : D → FS} (P : List D → En → Prop) (h : ∀ d ds env, P (d :: ds) env → ∃ env', step d env = some (.nx, env') ∧ P ds env') : ∀ {ds : List D} {env : En}, P ds env → ∃ env', loopL step ds env = some (.nx, env') ∧ P [] env'
  | [], env, p => ⟨env, rfl, p⟩
  | d :: ds, env, p => by
    obtain ⟨e1, q1, q2⟩ := h d ds env p
    obtain ⟨e2, q3, q4⟩ := loopL_inv P h q2
    exact ⟨e2, by unfold loopL; rw [q1]; exact q3, q4⟩
theorem sFor_inv {np : Nat} {fi : FI} {t : Tg} {body : FS} {env env1 : En} {ds : List D} {src : Option Nat} (P : List D → En → Prop) (hi : fi env = some ((ds, src), env1)) (p : P ds env1)
    (h : ∀ d ds env, P (d :: ds) env → ∃ e1 env', setT np t d env = some e1 ∧ body e1 = some (.nx, env') ∧ P ds env') : ∃ env', sFor np fi t body env = some (.nx, unlock src env') ∧ P [] env' := by
  obtain ⟨e2, q1, q2⟩ := loopL_inv (step := fun d e => (setT np t d e).bind body) P (fun d ds env p => by
    obtain ⟨e1, e2, q1, q2, q3⟩ := h d ds env p
    exact ⟨e2, by show (setT np t d env).bind body = _; rw [q1]; exact q2, q3⟩) p
  exact ⟨e2, by unfold sFor; rw [hi]; simp only [Option.bind_some, q1, Option.map_some], q2⟩
theorem whileL_inv {t : FT} {f : FS} {Q : En → Prop} (P : Nat → En → Prop) (h : ∀ m env, P m env → (t env = some (false, env) ∧ Q env) ∨ (t env = some (true, env) ∧ ∃ m' env', f env = some (.nx, env') ∧ m' < m ∧ P m' env')) :
    ∀ {n m : Nat} {env : En}, P m env → m < n → ∃ env', whileL t f n env = some (.nx, env') ∧ Q env'
  | 0, m, env, p, hn => absurd hn (Nat.not_lt_zero _)
  | n + 1, m, env, p, hn => by
    rcases h m env p with ⟨q1, q2⟩ | ⟨q1, m', e', q2, q3, q4⟩
    · exact ⟨env, by unfold whileL; rw [q1]; rfl, q2⟩
    · obtain ⟨e2, q5, q6⟩ := whileL_inv P h (n := n) q4 (by omega)
      exact ⟨e2, by unfold whileL; rw [q1]; simp only [Option.bind_some, ↓reduceIte, q2, q5], q6⟩
end ML

/-! ML17: defs that run where nothing is being shown (no guard stands): repr can be told to the letter there. -/
namespace ML
open PySem PySem.Spec PyProof.Rows L2
structure RoomG (k : Nat) (A : Around) : Prop extends Room k A where
  gd : A.guards = some []
theorem RoomG.less {j k : Nat} {A : Around} (r : RoomG k A) (h : j ≤ k) : RoomG j A := ⟨r.toRoom.mono h, r.gd⟩
theorem RoomG.inner {k : Nat} {A : Around} (r : RoomG (k + 1) A) (env : Env) : RoomG k (A.deeper env) := ⟨r.toRoom.deeper env, r.gd⟩
structure FnG (P : Program) (w : World) (K : PySem.W.Frag) (mg : Str → Option Value) (base : Heap) (k : Nat) (f : Addr) (fd : FuncData) (ps : List Str) (sp : Sp) : Prop where
  many : ∀ vs H Q, sp vs H Q E0 → vs.length = ps.length
  go : ∀ (A : Around) (below : List Env) (s : Shared) (H : Hp) (given : Args) (us : List Value) (vs : List V) (Q : VK), RoomG k A → Env0 P w K mg base A below s H → BindsTo s fd given (ps.zip us) → Vals vs us → sp vs H Q E0 →
    codeAny (model P w) A (.call (.ref f) given) (CR CX0 below P w H s Q E0) s
section
variable {P : Program} {w : World} {K : PySem.W.Frag} {mg : Str → Option Value} {base : Heap}
/-- a def's rule, where no guard stands -/
theorem fn_okG {x qual : Str} {st : Stmt} {f : Addr} {fd : FuncData} {N ps : List Str} {k np n : Nat} {body : FS} {c : Nat → Bool} (Fx : Fun K x qual st f fd) (S : FnScope N ps (defScope st)) (hnp : ps.length = np) (hn : N.length = n) (hle : np ≤ n)
    (hb : ∀ (cdv : Value) (A : Around) (below : List Env) (s : Shared) (H G : Hp) (vs : List V) (bor : List Addr), RoomG k (A.deeper (envOfC qual (defScope st) s.heap.objs.size f cdv)) → vs.length = np →
      PSs (cxOf CX0 P w K mg base N qual (defScope st) f cdv A below s H E0).nox (defBody st) (tS ⟨K, w, H, G, vs, bor, c⟩ body)) : FnG P w K mg base (k + 1) f fd ps (spF K w np (fnBody np n body)) := by
  obtain ⟨vcls, vdic, vkw, vdoc, vpm, van, vcode, vct, vsl, efd, at_f, isCode⟩ := Fx.ex
  subst efd
  have cnt : ∀ vs H Q, spF K w np (fnBody np n body) vs H Q E0 → vs.length = ps.length := fun vs H Q h => by
    obtain ⟨_, _, _, _, _, z, _⟩ := h
    omega
  refine ⟨cnt, fun A below s H given us vs Q room env bind rel h => ?_⟩
  obtain ⟨G, bor, hl, start⟩ := body_tS (N := N) (c := c) hn hle h
  have written : K.In s.heap := env.mod.kin.keeps fun b o e => (env.bs b o e).1
  have kinds : ∀ y ∈ ps.zip us, (defScope st).names.lookup y.1 = some .local ∨ ((defScope st).names.lookup y.1 = some .cell ∧ ((cellsFrom (s.heap.objs.size + 1) (defScope st).names []).lookup y.1).isSome = true) := fun y hy =>
    (S.par y.1 (List.of_mem_zip hy).1).imp id fun z => ⟨z, PySem.W.cellsFrom_some _ _ _ (.inl z)⟩
  refine codeAny_call_function room.toRoom.depth (written _ _ at_f) rfl S.co S.gen rfl (PySem.W.codeRec_of written isCode) (bind _ _ _ _ ?_)
  refine wpAny_newFunctionEnv_cells S.kind kinds fun envN eN sN inside => ?_
  subst eN
  have free : sN.heap.NoLimit := (env.mod.nolimit.keeps fun b o e => (env.bs b o e).1).keeps inside.toInCall.keep
  refine ⟨free, codeAny_func ?_⟩
  have runs := (hb vcode A below s H G vs bor (room.inner _) hl).nox
  have I := inv_start (CX := CX0) (E := E0) (cd := vcode) (qual := qual) (f := f) S room.toRoom.hd env (cnt _ _ _ h) rel inside
  refine wpAny_mono (runs.run [] sN (L2.start N vs) H _ I start) (fun fl sE hE => ?_) fun _ _ z => z
  have leave : ∀ {τ : St} {H2 : Hp} {v : V} {u : Value}, Inv (cxOf CX0 P w K mg base N qual (defScope st) f vcode A below s H E0) [] τ H2 sE → RelV v u → Q v H2 → CE below P w H s Q u sE := fun J rv q => ⟨_, _, J.os, J.bare, J.base, J.hok, rv, q⟩
  match fl, hE with
  | .ret u, ⟨v, τ, H2, J, rv, q⟩ => exact leave J rv q
  | .next, ⟨τ, H2, J, q⟩ => exact leave (v := V.non) (u := Value.none) J rfl q
  | .brk, ⟨_, _, _, q⟩ => exact q.elim
  | .cont, ⟨_, _, _, q⟩ => exact q.elim
end
section
variable {X : Cx} {F : Fr} {x : Str} {p pos : Pos} {e : Expr} {es : List Expr} {n k : Nat} {f : Fn} {fa : Addr} {fd : FuncData} {pars : List Str}
theorem callG_run {pins : List (Addr × Obj)} {σ : St} {H : Hp} {s : Shared} {Q : VK} {us dus : List Value} {vs dvs : List V} {sp : Sp} (Ff : FnG X.prog X.w X.K X.mg X.base k fa fd pars sp) (hr : RoomG k X.A) (hb : Binds X.K fd pars dus) (hdv : Vals dvs dus)
    (I : Inv X pins σ H s) (r : Vals vs us) (h : sp (vs ++ dvs) H Q E0) : wpAny (model X.prog X.w) X.A (call (.ref fa) us) (EP X pins σ Q) X.xe s := by
  have rr : Vals (vs ++ dvs) (us ++ dus) := r.append hdv
  have cnt : (us ++ dus).length = pars.length := rr.length.symm.trans (Ff.many _ _ _ h)
  refine wpAny_call (codeAny_mono (Ff.go X.A X.stack s H ⟨us, []⟩ _ _ Q hr I.env0 (hb s us I.kIn cnt) rr h) fun res sE hE => ?_)
  match res, hE with
  | .ok (.ret u), z => exact I.after z
  | .error _, z => exact (pass0 (X := X) pins σ H s _ sE I z)
theorem me_callGG {dvs : List V} {ds : List D} {dus : List Value} {g : FA} (hK : X.K = F.K) (hw : X.w = F.w) (Ff : FnG X.prog X.w X.K X.mg X.base k fa fd pars (spF X.K X.w n f)) (hr : RoomG k X.A) (hG : Gl X x) (hm : X.mg x = some (.ref fa)) (hkp : PySem.W.keepIn X.K (.ref fa) = true)
    (hb : Binds X.K fd pars dus) (hdv : Vals dvs dus) (hd : ∀ G, DpAll F.K G dvs ds) (ha : PA X (e :: es) (tA F g)) (hdb : (x == ("__debug__" : Str)) = false := by decide)
    (he : starEach (e :: es) X.env = (false, eval e X.env) :: starEach es X.env := by rfl) (hpl : (backTo pos (starEach es X.env)).any (·.1) = false := by rfl) : PE X (.Call (.Name x p) (e :: es) [] pos) (tE F (eCall n f ds g)) :=
  me_callP hK hw ⟨fun pins s σ H Q I h => wpAny_Call_Name_kw (ld_glob I hG hm (PySem.W.callWith_K (h₀ := X.base) I.ok.mod.kin hkp (thn (ha.run pos pins s σ H _ I h) fun us s1 ⟨vs, H1, I1, r, q⟩ => ⟨I1.kIn, callG_run Ff hr hb hdv I1 r q⟩) he hpl) hdb)⟩ hd
theorem me_call0G {f : Fn} (hK : X.K = F.K) (hw : X.w = F.w) (Ff : FnG X.prog X.w X.K X.mg X.base k fa fd [] (spF X.K X.w 0 f)) (hr : RoomG k X.A) (hG : Gl X x) (hm : X.mg x = some (.ref fa)) (hkp : PySem.W.keepIn X.K (.ref fa) = true)
    (hb : Binds X.K fd [] []) (hdb : (x == ("__debug__" : Str)) = false := by decide) : PE X (.Call (.Name x p) [] [] pos) (tE F (eCall 0 f [] aNil)) :=
  me_call0P hK hw ⟨fun pins s σ H Q I h => wpAny_Call_Name_kw (ld_glob I hG hm (PySem.W.callWith_K0 I.kIn hkp (callG_run (us := []) Ff hr hb .nil I .nil h)) hdb)⟩
end
/-! ### a law's own end, where no guard stands -/
theorem law_callG {P : Program} {w : World} {K : PySem.W.Frag} {mg mb : Str → Option Value} {k : Nat} {fa a : Addr} {fd : FuncData} {x : Str} {f : Fn} {s₁ : Shared} {vs : List Value} {ns : List Int}
    (KX : K.In s₁.heap) (hns : s₁.heap.Ns mainGlobals mg) (hb : s₁.heap.Ns builtinsNs mb) (hbb : ∀ x : Str, x ≠ "__name__" → mb x = bootBuiltins x) (hlim : s₁.heap.NoLimit) (hg : s₁.gens = #[])
    (ha : s₁.heap.get? a = some { cls := .type "list", data := .seq vs.toArray }) (hi : IntsAre vs ns) (hl : ns.length ≤ sizeLine) (hr : RoomG k callerA)
    (F : ∀ base : Heap, K.In base → base.Ns mainGlobals mg → FnG P w K mg base k fa fd [x] (spF K w 1 f)) (hbind : ∀ (s : Shared) (u : Value), BindsTo s fd ⟨[u], []⟩ [(x, u)])
    (law : ∃ bs', f [.val (.list (ns.map PyData.int))] = some (.val (.bool true), bs')) :
    codeAny (model P w) callerA (.call (.ref fa) ⟨[.ref a], []⟩) (fun r s' => r = .ok (.ret (.bool true)) ∧ OldK s₁.heap s'.heap ∧ s'.os = s₁.os ∧ AllBare s'.gens) s₁ := by
  have rel := vals_ints hi
  -- the script's own place: tracked, unless the module has it already
  obtain ⟨H, seen, good, lone, apart⟩ : ∃ H : Hp, SqL K H a (ns.map V.int) ∧ HOk P w H s₁.heap ∧ (∀ b u, H b = some u → b = a ∧ u = .frz { cls := .type "list", data := .seq vs.toArray } (.lst (ns.map V.int))) ∧ (H a ≠ none → K.lookup a = none) := by
    cases own : K.lookup a with
    | some o =>
      have same : o = { cls := .type "list", data := .seq vs.toArray } := Option.some.inj ((KX a o own).symm.trans ha)
      subst same
      exact ⟨fun _ => none, .inr ⟨_, vs.toArray, _, own, rfl, rfl, rfl, by rw [List.size_toArray, hi.length]; exact hl, by simpa using rel⟩, fun b u z => (nomatch (z : (none : Option HO) = some u)), fun b u z => (nomatch (z : (none : Option HO) = some u)), fun z => absurd rfl z⟩
    | none =>
      refine ⟨fun b => if b = a then some (.frz { cls := .type "list", data := .seq vs.toArray } (.lst (ns.map V.int))) else none, .inl (.inr ⟨_, if_pos rfl⟩), fun b u z => ?_, fun b u z => ?_, fun _ => rfl⟩
      · by_cases hba : b = a
        · subst hba
          have z := (if_pos rfl).symm.trans z
          obtain rfl := Option.some.inj z
          exact ⟨ha, by simpa using hl, vs, _, rel, ha⟩
        · cases (if_neg hba).symm.trans z
      · by_cases hba : b = a
        · exact ⟨hba, (Option.some.inj ((if_pos hba).symm.trans z)).symm⟩
        · cases (if_neg hba).symm.trans z
  have untr : ∀ {b : Addr} {o : Obj}, s₁.heap.get? b = some o → (∀ it n, o.data ≠ .seq it n) → H b = none := fun {b o} e nd => by
    cases hb : H b with
    | none => rfl
    | some u =>
      obtain ⟨rfl, _⟩ := lone b u hb
      rw [ha] at e
      exact absurd (congrArg Obj.data (Option.some.inj e)).symm (nd _ _)
  have spaces : ∀ {b : Addr} {m : Str → Option Value}, s₁.heap.Ns b m → (hidT s₁.heap H).Ns b m := fun ⟨o, es, ep, e, d, r⟩ => ⟨o, es, ep, hidT_get e (untr e fun it n z => by rw [d] at z; cases z), d, r⟩
  have inB : K.In (hidT s₁.heap H) := fun b o e => hidT_get (KX b o e) (by
    cases hb : H b with
    | none => rfl
    | some u =>
      obtain ⟨rfl, _⟩ := lone b u hb
      rw [apart (by rw [hb]; exact fun z => nomatch z)] at e; cases e)
  have env : Env0 P w K mg (hidT s₁.heap H) callerA [] s₁ H := by
    refine ⟨rfl, ⟨inB, spaces hns, ⟨mb, spaces hb, hbb⟩, ?_⟩, fun b o e => of_hidT e, Nat.le_of_eq (hidT_size _ _), trivial, fun b z => (nomatch z), good, .of_eq hg⟩
    obtain ⟨mc, l1, l2⟩ := hlim
    exact ⟨mc, spaces l1, l2⟩
  have runs := (F _ inB (spaces hns)).go callerA [] s₁ H ⟨[.ref a], []⟩ [.ref a] [.ref a] (fun v _ => v = .bl true) hr env (hbind s₁ (.ref a)) (.cons rfl .nil) (law_end seen ⟨(fun b xs z => by cases (lone b _ z).2), (fun b o u z => by cases (lone b _ z).2; rfl)⟩ law)
  refine codeAny_mono runs fun res sE hE => ?_
  match res, hE with
  | .ok (.ret u), ⟨v, H2, os, bare, un, ok2, rv, q⟩ =>
    have q : v = .bl true := q
    subst q
    obtain rfl : u = Value.bool true := rv
    refine ⟨rfl, OldK.of_keep fun b o e => ?_, os, bare⟩
    cases hb : H b with
    | none => exact un.keep b o e hb (fun z => nomatch z) (fun z => nomatch z)
    | some u =>
      obtain ⟨_, rfl⟩ := lone b u hb
      have o1 : s₁.heap.get? b = some _ := (good b _ hb).1
      have o2 : sE.heap.get? b = some _ := (ok2 b _ (un.frzs b _ _ hb)).1
      rw [e] at o1
      rw [o2, ← o1]
theorem walk_ofG {l : PySem.W.OpenLaw} {n k : Nat} {q : Program} {loose : List Str} {XP : (Str → Option Value) → Heap → Prop} {YP : World → Heap → Prop} {d : DefRec} {K : Params → PySem.W.Frag} {f : Fn} {x : Str}
    (most : l.most = some n) (small : n ≤ sizeLine) (plain : d.params.defaults = []) (room : RoomG k callerA) (part : ∀ (w : World) (h : Heap), YP w h → (K w.params).In h)
    (F : ∀ (w : World) (mg : Str → Option Value) (fa : Addr) (h : Heap), (K w.params).In h → h.Ns mainGlobals mg → mg d.name = some (.ref fa) →
      ∃ fd : FuncData, (∀ (s : Shared) (u : Value), BindsTo s fd ⟨[u], []⟩ [(x, u)]) ∧ ∀ base : Heap, (K w.params).In base → base.Ns mainGlobals mg → FnG l.prog w (K w.params) mg base k fa fd [x] (spF (K w.params) w 1 f))
    (law : ∀ ns : List Int, ns.length ≤ n → ∃ bs', f [.val (.list (ns.map PyData.int))] = some (.val (.bool true), bs')) :
    PySem.W.WalkO q loose XP YP l.row.toRowW d [] (fun g vs => PySem.call g vs) :=
  Att.attach_call most plain fun w s₀ s₁ mg mb fa o pm cd doc a vs ns ground Y ho hd hcd hmg hobj hints hlen hg => by
    have inK := part w _ Y
    obtain ⟨fd, binds, fn⟩ := F w mg fa _ inK ground.T.g hmg
    exact law_callG inK ground.T.g ground.T.b ground.T.builtins ground.T.nolimit hg hobj hints (Nat.le_trans hlen small) room fn binds (law ns hlen)
end ML

/-! ML18: isinstance(x, T), repr(x). -/
namespace ML
open PySem PySem.Spec PyProof.Rows L2
section
variable {X : Cx} {F : Fr} {pos p q : Pos} {e : Expr}
theorem pe_tyName {T : String} {x : Str} (hg : Gl X x) (hm : X.mg x = none) (hv : bootBuiltins x = some (.type T)) (hn : x ≠ "__name__" := by decide) (hdb : (x == ("__debug__" : Str)) = false := by decide) : PE X (.Name x pos) (tC (.ty T)) :=
  ⟨fun pins s σ H Q I h => ld_blt I hg hm hv ⟨.ty T, H, I, rfl, h⟩ hn hdb⟩
def tyD : D → String
  | .none => "NoneType"
  | .bool _ => "bool"
  | .int _ => "int"
  | .str _ => "str"
  | .list _ => "list"
  | .tuple _ => "tuple"
  | .dict _ => "dict"
def tyO : Option B → Option String
  | some (.val d) => some (tyD d)
  | some (.mu (.lst _)) => some "list"
  | some (.lk (.lst _)) => some "list"
  | some (.mu (.dK _)) => some "dict"
  | some (.lk (.dK _)) => some "dict"
  | _ => none
theorem dp_ty {K : PySem.W.Frag} {H : Hp} {v : V} {d : D} (h : Dp K H v d) : TyX K H v (.type (tyD d)) := by
  cases h with
  | non => exact .base .non
  | bl b => exact .base (.bl b)
  | int i => exact .base (.int i)
  | str x => exact .base (.str x)
  | lst hs _ =>
    rcases hs with (h | ⟨o, h⟩) | ⟨o, its, n, h1, h2, _⟩
    · exact .base (.lst h)
    · exact .base (.frz h)
    · exact .kList h1 h2
  | tup hs _ =>
    rcases hs with (h | ⟨o, h⟩) | ⟨o, its, n, h1, h2, _⟩
    · exact .base (.tup h)
    · exact .fTuple h
    · exact .kTuple h1 h2
def eIsi (T : String) (f : FE) : FE := fun env => (f env).bind fun p => (tyO (p.1.obj p.2)).bind fun t => (kitB t T).map fun b => (.val (.bool b), p.2)
theorem me_isi {T : String} {x : Str} {f : FE} (hK : X.K = F.K) (hg : Gl X "isinstance") (hm : X.mg "isinstance" = none) (hgT : Gl X x) (hmT : X.mg x = none) (hv : bootBuiltins x = some (.type T)) (he : PE X e (tE F f)) (hn : x ≠ "__name__" := by decide) (hdb : (x == ("__debug__" : Str)) = false := by decide)
    (hs : starEach [e, .Name x q] X.env = (false, eval e X.env) :: starEach [.Name x q] X.env := by rfl) (hs2 : starEach [.Name x q] X.env = (false, eval (.Name x q) X.env) :: starEach [] X.env := by rfl) (hpl : (backTo pos (starEach [.Name x q] X.env)).any (·.1) = false := by rfl) :
    PE X (.Call (.Name "isinstance" p) [e, .Name x q] [] pos) (tE F (eIsi T f)) :=
  (pe_callB call_isi hg hm PyProof.Rows.boot_isinstance (pa_cons he (pa_cons (pe_tyName hgT hmT hv hn hdb) pa_nil hs2) hs) (by decide) (by decide) hs hpl).wk fun σ H Q ⟨env, ops, G, r, env', I, e, k⟩ => by
    obtain ⟨⟨ra, e1⟩, h1, e⟩ := bind_some e
    obtain ⟨t, h2, e⟩ := bind_some e
    obtain ⟨b, h3, h4⟩ := omap_some e
    cases h4
    refine ⟨env, ops, G, ra, _, I, h1, fun v G1 H1 s1 I1 => ?_⟩
    have hm : (v, ra) ∈ ops ++ [(v, ra)] := by simp
    have ty : TyX X.K H1 v (.type t) := by
      rw [hK]
      cases ho : ra.obj e1 with
      | none => rw [ho] at h2; cases h2
      | some bb =>
        rw [ho] at h2
        obtain ⟨g1, g2⟩ := I1.obj hm ho
        cases bb with
        | val d => cases h2; exact dp_ty (dp_mono I1.same _ _ (g1 d rfl))
        | mu o =>
          cases o with
          | lst ds => cases h2; obtain ⟨a, rfl, ⟨vs, q1, _⟩, _⟩ := g2 _ rfl; exact .base (.lst q1)
          | dK kvs => cases h2; obtain ⟨a, rfl, ⟨vs, q1, _⟩, _⟩ := g2 _ rfl; exact .base (.dK q1)
          | sI ns => cases h2
        | lk o =>
          cases o with
          | lst ds => cases h2; obtain ⟨a, rfl, ⟨vs, q1, _⟩, _⟩ := g2 _ rfl; exact .base (.lst q1)
          | dK kvs => cases h2; obtain ⟨a, rfl, ⟨vs, q1, _⟩, _⟩ := g2 _ rfl; exact .base (.dK q1)
          | sI ns => cases h2
    exact ⟨v, .ty T, .type t, .type T, b, rfl, .ty T, ty, kit_ty h3, k _ G1 H1 s1 (I1.pop.pushV (.bl b))⟩
/-! ### repr -/
def reprOk (d : D) : Bool := PyData.layable0 d && PyData.intsShort 13 d && PyData.showable d
def rReprD (K : PySem.W.Frag) : List V → Hp → VK → Prop := fun xs H Q => ∃ v d, xs = [v] ∧ Dp K H v d ∧ reprOk d = true ∧ Q (.str d.shown) H
theorem call_reprD (hg : X.A.guards = some []) (hu : X.A.units + 65 < cLine) : CallR X (.builtin "repr") (rReprD X.K) := by
  intro pins s σ H xs us Q I r h
  obtain ⟨v, d, rfl, hd, ok, k⟩ := h
  obtain ⟨u, rfl, rv⟩ := vals1 r
  unfold reprOk at ok
  rw [Bool.and_eq_true, Bool.and_eq_true] at ok
  obtain ⟨⟨ok1, ok2⟩, ok3⟩ := ok
  have short : d.shown.length ≤ sizeLine := Nat.le_trans (shown_le13 ok1 ok2) (by decide)
  obtain ⟨as, rd⟩ := Dp.reads I d v u hd rv
  have ref : ∀ a, u = .ref a → wpAny (model X.prog X.w) X.A (call (.builtin "repr") [u]) (EP X pins σ Q) X.xe s := fun a ea => by
    subst ea
    exact repr_of_reads' rd ok3 (PyData.noDict_hsm (PyData.hasDict_of_layable ok1)) hg (room_of_layable ok1 hu) (fun _ _ z => z) (fun h' t tk hk => ⟨.str d.shown, H, I.kept hk, ⟨_, rfl⟩, k⟩) short
  cases hd with
  | non =>
    obtain rfl : u = Value.none := rv
    exact PySem.P.repr_of_none ⟨.str _, H, I.tok _, ⟨_, rfl⟩, k⟩
  | bl b =>
    obtain rfl : u = Value.bool b := rv
    exact PySem.P.repr_of_bool ⟨.str _, H, I.tok _, ⟨_, rfl⟩, k⟩
  | int i =>
    obtain ⟨t, rfl⟩ := (show ∃ t, u = Value.int i t from rv)
    exact PySem.P.repr_of_int (of_decide_eq_true (by simpa [PyData.showable] using ok3)) ⟨.str _, H, I.tok _, ⟨_, rfl⟩, k⟩
  | str x =>
    obtain ⟨t, rfl⟩ := (show ∃ t, u = Value.str x t from rv)
    exact PySem.P.repr_of_str ⟨.str _, H, I.tok _, ⟨_, rfl⟩, k⟩ short
  | lst hs _ => exact ref _ rv
  | tup hs _ => exact ref _ rv
end
section
variable {F : Fr}
def gRepr : GN := n1 fun r env => (r.dat env).bind fun d => if reprOk d = true then some (.val (.str d.shown), env) else none
theorem s_repr : SN F (rReprD F.K) gRepr := sn1 fun env ops x ra G σ H r env' Q I e k => by
  obtain ⟨d, h1, e⟩ := bind_some e
  split at e
  case isFalse => cases e
  rename_i ok
  cases e
  exact ⟨x, d, rfl, I.dat (r := ra) (v := x) (by simp) h1, ok, I.retV k (.str _)⟩
end
/-! what they say of what is plainly there -/
theorem v_sorted_b {i : Nat} {env : En} {ds : List D} (h : env[i]?.join = some (.mu (.lst ds))) : gSorted [.bor i] env = (intsOf ds).map fun ns => (.new (.lst ((isort ns).map .int)), env) := by
  have e1 : R.ownO (.bor i) env = some (.lst ds) := by unfold R.ownO; rw [v_obj_bor, h]; rfl
  have e2 : R.lst (.bor i) env = some ds := by rw [v_lst, v_dat_bor, h]; rfl
  show (match R.ownO (.bor i) env with
    | some (.sI ns) => if ns.length < 64 then some (R.new (.lst ((usort ns).map PyData.int)), env) else none
    | some (.dK kvs) => (keyInts kvs).bind fun ks => if ks.length < 64 then some (.new (.lst ((isort ks).map .int)), env) else none
    | _ => (R.lst (.bor i) env).bind fun ds => (intsOf ds).map fun ns => (.new (.lst ((isort ns).map .int)), env)) = _
  rw [e1, e2]
  rfl
theorem v_eIsi {T : String} {f : FE} {env : En} : eIsi T f env = bnd (fun p => bnd (fun t => (kitB t T).map fun b => (.val (.bool b), p.2)) (tyO (p.1.obj p.2))) (f env) := rfl
theorem v_tyO_val {d : D} : tyO (some (.val d)) = some (tyD d) := rfl
theorem v_gRepr {r : R} {env : En} : gRepr [r] env = bnd (fun d => if reprOk d = true then some (.val (.str d.shown), env) else none) (r.dat env) := rfl
theorem kit_same (T : String) : kitB T T = some true := by simp [kitB]
/-! ### == of texts, whatever signs they have -/
def rEqA (K : PySem.W.Frag) : R2 := fun x y H Q => rEq x y H Q ∨ rEqD K x y H Q
def rNeA (K : PySem.W.Frag) : R2 := fun x y H Q => rNe x y H Q ∨ rNeD K x y H Q
theorem op_eqA {X : Cx} (hu : X.A.units + 64 < cLine) : OpR X (compareOp .Eq) (rEqA X.K) := op_eq.or (op_eqD hu)
theorem op_neA {X : Cx} (hu : X.A.units + 64 < cLine) : OpR X (compareOp .NotEq) (rNeA X.K) := op_ne.or (op_neD hu)
theorem dec_txt (x y : Str) : decide (V.str x = V.str y) = (x == y) := by
  rw [Bool.eq_iff_iff]
  simp
section
variable {F : Fr}
theorem s_eqA : S2 F (rEqA F.K) (gEqA false) := by
  intro env ops G σ H x y ra rb r env' Q I h k
  unfold gEqA at h
  split at h
  · rename_i a b h1 h2
    cases h
    obtain rfl := dp_str (I.dat (r := ra) (v := x) (by simp) h1)
    obtain rfl := dp_str (I.dat (r := rb) (v := y) (by simp) h2)
    exact .inl ⟨rfl, by rw [dec_txt]; exact I.retV k (.bl _)⟩
  · exact .inr (s_eq env ops G σ H x y ra rb r env' Q I h k)
theorem s_neA : S2 F (rNeA F.K) (gEqA true) := by
  intro env ops G σ H x y ra rb r env' Q I h k
  unfold gEqA at h
  split at h
  · rename_i a b h1 h2
    cases h
    obtain rfl := dp_str (I.dat (r := ra) (v := x) (by simp) h1)
    obtain rfl := dp_str (I.dat (r := rb) (v := y) (by simp) h2)
    exact .inl ⟨rfl, by rw [dec_txt]; exact I.retV k (.bl _)⟩
  · exact .inr (s_ne env ops G σ H x y ra rb r env' Q I h k)
end
theorem boot_repr : bootBuiltins "repr" = some (.builtin "repr") := by decide +kernel
end ML

/-! ML19: t[::-1], enumerate(t), at the library's level. -/
namespace HT
open PySem PySem.Spec PyProof.Rows L2
open PySem.Sem (wp)
section
variable {prog : Program} {w : World} {A : Around} {E : Value → Shared → Prop} {s : Shared}
theorem sliceApplied_rev {sl : Addr} {n : Nat} {vs : Value} {Q : Int × Int × Nat → Shared → Prop} (hs : s.heap.IsSliceOf sl .none .none vs) (ps : IsPart vs (some (-1)))
    (h : Q ((n : Int) - 1, -1, n) s) : wpAny (model prog w) A (Builtin.Slice.sliceApplied (.ref sl) (pure (n : Int))) Q E s := by
  obtain ⟨os, hos, hcs, hds⟩ := id hs
  unfold Builtin.Slice.sliceApplied Builtin.Slice.sliceFields
  refine wpAny_bind (wpAny_bind (wpAny_field hos hds (x := .none) rfl (wpAny_bind (wpAny_field hos hds (x := .none) rfl (wpAny_bind (wpAny_field hos hds (x := vs) rfl (wpAny_pure ?_)))))))
  refine wpAny_bind (slicePart_ ps ?_)
  show wpAny _ _ (if ((-1 : Int) == 0) = true then _ else _) _ _ s
  rw [if_neg (by decide)]
  refine wpAny_bind (slicePart_none (wpAny_bind (slicePart_none (wpAny_bind (wpAny_pure ?_)))))
  show wpAny _ _ (match Builtin.Slice.sliceAdjust none none (-1) (n : Int) with | (lo, hi) => pure (lo, (-1 : Int), Builtin.Slice.slicePlaces lo hi (-1))) _ _ s
  have e1 : Builtin.Slice.sliceAdjust none none (-1) (n : Int) = ((n : Int) - 1, -1) := by
    unfold Builtin.Slice.sliceAdjust
    simp
  rw [e1]
  show wpAny _ _ (pure ((n : Int) - 1, (-1 : Int), Builtin.Slice.slicePlaces ((n : Int) - 1) (-1) (-1))) _ _ s
  have e2 : Builtin.Slice.slicePlaces ((n : Int) - 1) (-1) (-1) = n := by
    unfold Builtin.Slice.slicePlaces
    have h1 : ¬ ((-1 : Int) > 0) := by decide
    simp only [h1, if_false]
    rw [show (- -1 : Int) = 1 by decide, Int.ediv_one]
    split <;> omega
  rw [e2]
  exact wpAny_pure h
theorem fm_congr {α β : Type} {f g : α → Option β} : ∀ {l : List α}, (∀ x ∈ l, f x = g x) → l.filterMap f = l.filterMap g
  | [], _ => rfl
  | x :: l, h => by
    rw [List.filterMap_cons, List.filterMap_cons, h x (List.mem_cons_self ..), fm_congr fun y hy => h y (List.mem_cons_of_mem _ hy)]
theorem pick_rev (xs : Array Value) : ((List.range xs.size).filterMap fun (m : Nat) => xs[(((xs.size : Int) - 1) + (m : Int) * (-1)).toNat]?).toArray = xs.toList.reverse.toArray := by
  have e : (List.range xs.size).filterMap (fun (m : Nat) => xs[(((xs.size : Int) - 1) + (m : Int) * (-1)).toNat]?) = ((List.range xs.size).map fun k => xs.size - 1 - k).filterMap (xs[·]?) := by
    rw [List.filterMap_map]
    refine fm_congr fun m hm => ?_
    have := List.mem_range.mp hm
    have e : (((xs.size : Int) - 1) + (m : Int) * (-1)).toNat = xs.size - 1 - m := by omega
    rw [e]; rfl
  rw [e, PySem.W.krv_range, List.filterMap_reverse, PySem.W.krv_all]
theorem getItem_tuple_rev {t sl : Addr} {items : Array Value} {vs : Value} {Q : Value → Shared → Prop} (ht : IsTup s.heap t items) (hs : s.heap.IsSliceOf sl .none .none vs) (ps : IsPart vs (some (-1)))
    (h : Q (.ref s.heap.objs.size) { s with heap := s.heap.push { cls := .type "tuple", data := .seq items.toList.reverse.toArray } })
    (hsz : items.size ≤ sizeLine) : wpAny (model prog w) A (getItem (.ref t) (.ref sl)) Q E s := by
  have htake : sizeOk (.seq items.toList.reverse.toArray) := by
    show items.toList.reverse.toArray.size ≤ sizeLine
    rw [List.size_toArray, List.length_reverse, Array.length_toList]
    exact hsz
  obtain ⟨os, hos, hcs, hds⟩ := id hs
  have hTs : s.TypeIs (.ref sl) "slice" := ⟨os, hos, hcs⟩
  unfold getItem
  try with_reducible refine wpAny_holding ?_
  first | refine wpAny_bind (wpAny_pure ?_) | skip
  refine wpAny_bind (wpAny_sequenceKey ht.typeIs (by decide) ?_)
  refine wpAny_bind (wpAny_callSpecial?_slot (name := Str.ofString "__getitem__") ht.typeIs PyProof.Rows.slot_tuple_getitem
    (wpAny_call_entry PyProof.Rows.slot_tuple_getitem ht.typeIs entry_tuple_getitem ?_ (args_tuple_getitem _ _)))
  show wpAny _ _ (Builtin.Tuple.tupleItemsOf (.ref t) >>= _) _ _ s
  refine wpAny_bind (tupleItemsOf_ ht ?_)
  refine wpAny_bind (wpAny_typeOf hTs ?_)
  rw [if_pos (by decide)]
  refine wpAny_bind (sliceApplied_rev hs ps ?_)
  have hno : ¬ ((((items.size : Int) - 1) == 0 && (-1 : Int) == 1 && items.size == items.size) = true) := by
    intro q
    rw [Bool.and_eq_true, Bool.and_eq_true] at q
    exact absurd q.1.2 (by decide)
  show wpAny _ _ (if (((items.size : Int) - 1) == 0 && (-1 : Int) == 1 && items.size == items.size) = true then _ else _) _ _ s
  rw [if_neg hno, pick_rev]
  first
    | exact wpAny_bind (m := Builtin.Tuple.tupleExact _) (wpAny_newObj_type (wpAny_pure ⟨_, rfl, wpAny_pure h⟩) htake)
    | exact wpAny_bind (m := Builtin.Tuple.tupleExact _) (wpAny_newObj_type (wpAny_bind (wpAny_pure (wpAny_pure ⟨_, rfl, wpAny_pure h⟩))) htake)
    | exact wpAny_bind (wpAny_bind (m := Builtin.Tuple.tupleExact _) (wpAny_newObj_type (wpAny_pure (wpAny_pure ⟨_, rfl, wpAny_pure h⟩)) htake))
    | exact wpAny_bind (wpAny_bind (m := Builtin.Tuple.tupleExact _) (wpAny_newObj_type (wpAny_pure ⟨_, rfl, wpAny_pure h⟩) htake))
/-! ### enumerate(t) -/
theorem meets_enumerate_newT (l : Addr) (items : Array Value) (n : Nat) (dct : Option Addr) (sl : Array (Option Value)) :
    Meets (Builtin.«enumerate.__new__» ⟨[.type "enumerate", .ref l], []⟩) (fun _ R s => s.heap.get? l = some { cls := .type "tuple", dict := dct, data := .seq items n, slots := sl } ∧
      R (.ok (.ret (.ref (s.heap.push { cls := .type "tuple_iterator", data := .fields #[.ref l, .int 0 0] }).objs.size)))
        { s with heap := (s.heap.push { cls := .type "tuple_iterator", data := .fields #[.ref l, .int 0 0] }).push { cls := .type "enumerate", data := .fields #[.none, .bool false, .ref s.heap.objs.size, rawInt 0, .none, .none] } }) :=
  .of_wp fun prog w A R s h => by
    obtain ⟨hp, g, d, tk, os⟩ := s; obtain ⟨hl, h⟩ := h
    have hsub := sub_enumerate
    have hL : Heap.IsTuple (Shared.heap ⟨hp, g, d, tk, os⟩) l items := ⟨_, hl, rfl, n, rfl⟩
    wp_walk using AutoSeq1.wpAny_loadPart' hl
    refine wpAny_stack_any fun st => wpAny_pure ?_
    split
    · rename_i c _ _ _ _ _
      cases (c == Value.type "enumerate")
      · wp_walk using AutoSeq1.wpAny_loadPart' hl, wpAny_pyIter_tuple hL
        exact ⟨_, rfl, h⟩
      · wp_walk using AutoSeq1.wpAny_loadPart' hl, wpAny_pyIter_tuple hL
        exact ⟨_, rfl, h⟩
    · wp_walk using AutoSeq1.wpAny_loadPart' hl, wpAny_pyIter_tuple hL
      exact ⟨_, rfl, h⟩
theorem call_enumerate_tuple {l : Addr} {items : Array Value} {Q : Value → Shared → Prop} (hL : s.heap.IsTuple l items)
    (h : ∀ h', IsEnum h' (s.heap.objs.size + 1) s.heap.objs.size 0 .none → h'.IsTupleIter s.heap.objs.size l 0 → h'.objs.size = s.heap.objs.size + 2 →
      (∀ b o, s.heap.get? b = some o → h'.get? b = some o) → Q (.ref (s.heap.objs.size + 1)) { s with heap := h' }) :
    wpAny (model prog w) A (call (.type "enumerate") [.ref l]) Q E s := by
  obtain ⟨⟨c, dct, dt, sl⟩, hl, hc, n, hd⟩ := hL
  replace hc : c = .type "tuple" := hc
  replace hd : dt = .seq items n := hd
  subst hc hd
  refine callType_new F.called_enumerate (by decide) (F.typeCall_enumerate_1 _) (F.newCall_enumerate_1 _) (fun obj => F.args_object_init_2 obj _) F.entry_enumerate_new
    (meets_enumerate_newT l items n dct sl) ⟨hl, ?_⟩
  have hz : (s.heap.push { cls := .type "tuple_iterator", data := .fields #[.ref l, .int 0 0] }).objs.size = s.heap.objs.size + 1 := Heap.size_push ..
  show _ ∧ _
  rw [hz]
  have he : IsEnum ((s.heap.push { cls := .type "tuple_iterator", data := .fields #[.ref l, .int 0 0] }).push
      { cls := .type "enumerate", data := .fields #[.none, .bool false, .ref s.heap.objs.size, rawInt 0, .none, .none] }) (s.heap.objs.size + 1) s.heap.objs.size 0 .none := by
    have := Heap.get?_push_size (s.heap.push { cls := .type "tuple_iterator", data := .fields #[.ref l, .int 0 0] })
      (o := { cls := .type "enumerate", data := .fields #[.none, .bool false, .ref s.heap.objs.size, rawInt 0, .none, .none] }) rfl
    rw [hz] at this; exact this
  refine ⟨⟨_, he, rfl⟩, h _ he ⟨_, Heap.get?_push_of_some _ (Heap.get?_push_size _ rfl), rfl, rfl⟩ (by rw [Heap.size_push, hz]) fun b o x => Heap.get?_push_of_some _ (Heap.get?_push_of_some _ x)⟩
end
theorem Draws.tuple {prog : Program} {w : World} {A : Around} (hh : A.handled = none) (it l : Addr) (hne : l ≠ it) (items : Array Value) :
    Draws prog w A it [it, l] items.size (fun i v => items[i]? = some v) (fun i h => h.IsTupleIter it l i ∧ h.IsTuple l items) where
  live := fun _ _ st => let ⟨o, ho, _⟩ := st.1; ⟨o, ho⟩
  frame := fun _ _ _ st hk => ⟨st.1.at fun o e => hk it (by simp) o e, st.2.at fun o e => hk l (by simp) o e⟩
  item := fun i s Q E hi st hQ => by
    refine RZ.nextOf_tuple_item st.1 st.2 (x := items[i]) (by simp [hi]) fun h' hit' hs' => ?_
    exact hQ _ h' s.toks (by simp [hi]) ⟨hit', st.2.at fun o q => (hs'.2 l hne).trans q⟩ hs'
  done := fun s Q E st hE => RZ.nextOf_tuple_end hh st.1 st.2 (by simp) hE
end HT
namespace L2
open PySem PySem.Spec PyProof.Rows
/-! ### enumerate, zip: of lists, of tuples; the pairs are bare -/
section
variable (K : PySem.W.Frag) (b : Bool)
/-- the sequence at a: a tuple (b), a list -/
def SqB (H : Hp) (a : Addr) (xs : List V) : Prop := cond b (SqT K H a xs) (SqL K H a xs)
def ItrB (h : Heap) (it a : Addr) (i : Nat) : Prop := cond b (h.IsTupleIter it a i) (h.IsListIter it a i)
def IsB (h : Heap) (a : Addr) (items : Array Value) : Prop := cond b (h.IsTuple a items) (h.IsList a items)
def pairQ (H : Hp) (v : V) (x y : V) (H' : Hp) : Prop := ∃ T q, v = .ref T ∧ q.dict = none ∧ H T = none ∧ H' = upd H T (.frz q (.tup [x, y]))
def IeF (a : Addr) : It :=
  ⟨fun i H => ∃ (xs : List V) (x : V), SqB K b H a xs ∧ xs[i]? = some x, fun i H v H' => ∃ x, pairQ H v (.int (i : Nat)) x H' ∧ ∀ xs, SqB K b H a xs → xs[i]? = some x, fun i H => ∃ xs : List V, SqB K b H a xs ∧ xs.length ≤ i⟩
def IzF (a c : Addr) : It :=
  ⟨fun i H => ∃ (xs ys : List V) (x y : V), SqB K b H a xs ∧ SqB K b H c ys ∧ xs[i]? = some x ∧ ys[i]? = some y,
    fun i H v H' => ∃ x y, pairQ H v x y H' ∧ (∀ xs, SqB K b H a xs → xs[i]? = some x) ∧ ∀ ys, SqB K b H c ys → ys[i]? = some y,
    fun i H => ∃ xs ys : List V, SqB K b H a xs ∧ SqB K b H c ys ∧ (xs.length ≤ i ∨ ys.length ≤ i)⟩
end
section
variable {b : Bool} {h h' : Heap} {a it : Addr} {i : Nat}
theorem ItrB.at (st : ItrB b h it a i) (k : ∀ o, h.get? it = some o → h'.get? it = some o) : ItrB b h' it a i := by
  cases b with
  | true => exact Heap.IsTupleIter.at st k
  | false => exact Heap.IsListIter.at st k
theorem ItrB.obj (st : ItrB b h it a i) : ∃ o, h.get? it = some o ∧ ∀ v, o.data ≠ .cell v := by
  cases b with
  | true => obtain ⟨o, e, _, d⟩ := st; exact ⟨o, e, fun v q => by rw [d] at q; cases q⟩
  | false => obtain ⟨o, e, _, d⟩ := st; exact ⟨o, e, fun v q => by rw [d] at q; cases q⟩
variable {X : Cx} {pins : List (Addr × Obj)} {σ : St} {H : Hp} {s : Shared}
theorem Inv.seqB (I : Inv X pins σ H s) {xs : List V} (q : SqB X.K b H a xs) : ∃ its : List Value, Vals xs its ∧ IsB b s.heap a its.toArray ∧ xs.length ≤ sizeLine ∧ a < s.heap.objs.size := by
  cases b with
  | true => obtain ⟨its, r, p, z⟩ := I.tuple q; exact ⟨its, r, p, z, by obtain ⟨_, e, _⟩ := p; exact Heap.lt_size e⟩
  | false => obtain ⟨its, r, p, z⟩ := I.list q; exact ⟨its, r, p.isList, z, p.lt⟩
theorem Inv.seqB_inj (I : Inv X pins σ H s) {xs ys : List V} (q : SqB X.K b H a xs) (q' : SqB X.K b H a ys) : xs = ys := by
  cases b with
  | true => exact I.tuple_inj q q'
  | false => exact I.list_inj q q'
/-- a new pair laid while iterators turn -/
theorem Inv.pairNew {ch : List Addr} {tk : Nat} {x y : V} {u w : Value} (I : Inv X pins σ H s) (k : ∀ b o, b ∉ ch → s.heap.get? b = some o → h'.get? b = some o) (hf : ∀ b ∈ ch, FpOk X pins H b)
    (hT : h'.get? s.heap.objs.size = some { cls := .type "tuple", data := .seq #[u, w] }) (r1 : RelV x u) (r2 : RelV y w) :
    Inv X pins σ (upd H s.heap.objs.size (.frz (bareT [u, w]) (.tup [x, y]))) { s with heap := h', toks := tk } ∧ pairQ H (.ref s.heap.objs.size) x y (upd H s.heap.objs.size (.frz (bareT [u, w]) (.tup [x, y]))) :=
  ⟨I.turnedNew (t' := tk) (ch := ch) k hf (Nat.le_refl _) ⟨hT, by show 2 ≤ sizeLine; decide, [u, w], .cons r1 (.cons r2 .nil), ⟨_, hT, rfl, _, rfl⟩⟩, _, _, rfl, rfl, I.hok.fresh (Nat.le_refl _), rfl⟩
/-- what draws -/
theorem drawsB {prog : Program} {w : World} {A : Around} (hh : A.handled = none) (it a : Addr) (hne : a ≠ it) (items : Array Value) :
    Draws prog w A it [it, a] items.size (fun i v => items[i]? = some v) (fun i h => ItrB b h it a i ∧ IsB b h a items) := by
  cases b with
  | true => exact HT.Draws.tuple hh it a hne items
  | false => exact Draws.list hh it a hne items
theorem turn_enumF {P : Program} {w : World} {K : PySem.W.Frag} {elts : List Expr} {kk : Nat} {tpos : Pos} (a e it : Addr) :
    Turn P w K (.Tuple elts kk tpos) (IeF K b a) [e, it] e (fun i h => (∃ old, IsEnum h e it ((i : Nat) : Int) old) ∧ ItrB b h it a i ∧ e ≠ it ∧ e ≠ a ∧ a ≠ it) where
  mem := by simp
  obj := fun i h st c hc => by
    obtain ⟨⟨old, he⟩, hi, _⟩ := st
    rcases (show c = e ∨ c = it by simpa using hc) with z | z
    · rw [z]; exact ⟨_, he, fun v q => nomatch q⟩
    · rw [z]; exact hi.obj
  keep := fun i h h' st k => let ⟨⟨old, he⟩, hi, hne⟩ := st; ⟨⟨old, k e (by simp) _ he⟩, hi.at fun o q => k it (by simp) o q, hne⟩
  item := by
    intro X hP hw hK hc i pins s σ H E I hf st hg
    subst hP hw hK
    obtain ⟨⟨old, he⟩, hit, hne, hea, hai⟩ := st
    obtain ⟨xs, x, hq, hx⟩ := hg
    obtain ⟨its, rv, p, hz, hal⟩ := I.seqB hq
    obtain ⟨u, hu, ru⟩ := rv.get hx
    have hel : e < s.heap.objs.size := Heap.lt_size he
    have hil : it < s.heap.objs.size := by obtain ⟨o, q, _⟩ := hit.obj; exact Heap.lt_size q
    have hu' : its.toArray[i]? = some u := by simpa using hu
    have hlt : i < its.toArray.size := by
      have := (List.getElem?_eq_some_iff.mp hu).1
      simpa using this
    refine wpAny_pyNext_enum_itemD (drawsB (b := b) (A := X.A.in1) (show X.A.in1.handled = none from I.ok.hd hc) it a hai its.toArray) he ⟨hit, p⟩ hlt hne (by simp [hne, hea]) fun x' h' tk hx' ho hst' hT hsz hk => ?_
    obtain ⟨hit', _⟩ := hst'
    have ex : x' = u := by rw [hu'] at hx'; exact (Option.some.inj hx').symm
    subst ex
    refine ⟨_, rfl, wpAny_letOwnedTupleGo_enum (s := { s with heap := h', toks := tk + 1 }) ho fun h'' he' sb => ?_⟩
    obtain ⟨I1, py⟩ := I.pairNew (tk := tk + 1) (h' := h'') (x := .int (i : Nat)) (ch := [e, it]) (fun c ob hb q => (sb.2 c (fun z => hb (by simp [z]))).trans (hk c ob (fun z => hb (by simp [z])) (fun z => hb (by simp [z])) q)) hf ((sb.2 _ (Nat.ne_of_gt hel)).trans hT) ⟨_, rfl⟩ ru
    refine ⟨.ref s.heap.objs.size, _, I1, rfl, ⟨x, py, fun ys hy => by rw [I.seqB_inj hy hq]; exact hx⟩, ⟨⟨x', ?_⟩, hit'.at fun o q => (sb.2 it (Ne.symm hne)).trans q, hne, hea, hai⟩, fun c hb => ?_⟩
    · have e1 : ((i + 1 : Nat) : Int) = (i : Int) + 1 := by omega
      rw [e1]; exact he'
    · have hb' : c < s.heap.objs.size := by
        rcases (show c = e ∨ c = it by simpa using hb) with z | z
        · rw [z]; exact hel
        · rw [z]; exact hil
      rw [upd_ne (Nat.ne_of_lt hb')]
      exact (hf c hb).1
  done := by
    intro X hP hw hK hc i pins s σ H E I hf st hg
    subst hP hw hK
    obtain ⟨⟨old, he⟩, hit, hne, hea, hai⟩ := st
    obtain ⟨xs, hq, hx⟩ := hg
    obtain ⟨its, rv, p, hz, _⟩ := I.seqB hq
    obtain ⟨f0, f1, f2, f3, f4, f5⟩ := hf it (by simp)
    have hl := rv.length
    have hend : ∀ {Q E}, (∀ h' e, Heap.ExtBut it s.heap h' → (∃ o, h'.get? e = some o ∧ o.cls = .type "StopIteration") → E (.ref e) { s with heap := h' }) →
        wpAny (model X.prog X.w) X.A.in1 (Builtin.SmallTypes.nextOf (.ref it)) Q E s := fun {Q E} hE => by
      cases b with
      | true => exact RZ.nextOf_tuple_end (I.ok.hd hc) hit p (by simp; omega) hE
      | false => exact wpAny_nextOf_list_end (I.ok.hd hc) hit p (by simp; omega) hE
    have hT : s.TypeIs (.ref e) "enumerate" := ⟨_, he, rfl⟩
    unfold pyNext
    refine wpAny_bind (wpAny_attempt (wpAny_callSpecial?_slot (name := Str.ofString "__next__") hT F.slot_enumerate_next
      (wpAny_call_entry F.slot_enumerate_next hT F.entry_enumerate_next ?_ (F.args_enumerate_next_1 _))))
    show wpAny _ _ (field (.ref e) 2 >>= _) _ _ _
    refine wpAny_bind (wpAny_field he rfl (x := .ref it) rfl ?_)
    refine wpAny_bind (hend fun h' x he' hx' => ?_)
    obtain ⟨o, ho, hc⟩ := hx'
    refine wpAny_bind (wpAny_isInstance (T := "StopIteration") (b := true) ⟨o, ho, hc⟩ isSubtype_stop ?_)
    exact wpAny_pure ⟨rfl, I.turned (t' := s.toks) (fun b o hb q => he' b o hb q) f0 f1 f3 f4 f5⟩
  self := fun A i s Q E st h => let ⟨⟨_, he⟩, _⟩ := st; wpAny_pyIter_enum he h
theorem turn_zipF {P : Program} {w : World} {K : PySem.W.Frag} {elts : List Expr} {kk : Nat} {tpos : Pos} {a c z TI TO i1 i2 : Addr} (D : ZipApart z TI TO i1 i2 a c) :
    Turn P w K (.Tuple elts kk tpos) (IzF K b a c) [z, TI, TO, i1, i2] z (fun i h => IsZip h z TI TO .none ∧ IsPair h TI (.ref i1) (.ref i2) ∧ (∃ x y, IsPair h TO x y) ∧ ItrB b h i1 a i ∧ ItrB b h i2 c i) where
  mem := by simp
  obj := fun i h st d hd => by
    obtain ⟨hz, hTI, ⟨x, y, hTO⟩, h1, h2⟩ := st
    rcases (show d = z ∨ d = TI ∨ d = TO ∨ d = i1 ∨ d = i2 by simpa using hd) with q | q | q | q | q
    · rw [q]; exact ⟨_, hz, fun v q => nomatch q⟩
    · rw [q]; exact ⟨_, hTI, fun v q => nomatch q⟩
    · rw [q]; exact ⟨_, hTO, fun v q => nomatch q⟩
    · rw [q]; exact h1.obj
    · rw [q]; exact h2.obj
  keep := fun i h h' st k => by
    obtain ⟨hz, hTI, ⟨x, y, hTO⟩, h1, h2⟩ := st
    exact ⟨k z (by simp) _ hz, k TI (by simp) _ hTI, ⟨x, y, k TO (by simp) _ hTO⟩, h1.at fun o q => k i1 (by simp) o q, h2.at fun o q => k i2 (by simp) o q⟩
  item := by
    intro X hP hw hK hc i pins s σ H E I hf st hg
    subst hP hw hK
    obtain ⟨hz, hTI, ⟨x0, y0, hTO⟩, h1, h2⟩ := st
    obtain ⟨xs, ys, x, y, hqx, hqy, hx, hy⟩ := hg
    obtain ⟨its, rv, p, _, _⟩ := I.seqB hqx
    obtain ⟨its2, rv2, p2, _, _⟩ := I.seqB hqy
    obtain ⟨u, hu, ru⟩ := rv.get hx
    obtain ⟨u2, hu2, ru2⟩ := rv2.get hy
    have hzl : z < s.heap.objs.size := Heap.lt_size hz
    have key : ∀ {Q E}, (∀ h', IsZip h' z TI TO (rawInt s.heap.objs.size) → IsPair h' TO u u2 → ItrB b h' i1 a (i + 1) → ItrB b h' i2 c (i + 1) → IsPair h' s.heap.objs.size u u2 →
        (∀ d o, d ≠ z → d ≠ TO → d ≠ i1 → d ≠ i2 → s.heap.get? d = some o → h'.get? d = some o) → Q (some (.ref s.heap.objs.size)) { s with heap := h' }) → wpAny (model X.prog X.w) X.A (pyNext (.ref z)) Q E s := fun {Q E} k => by
      cases b with
      | true => exact RZ.pyNext_zipT_item D hz hTI hTO h1 h2 p p2 (by simpa using hu) (by simpa using hu2) fun h' a1 a2 a3 a4 a5 _ a6 => k h' a1 a2 a3 a4 a5 a6
      | false => exact wpAny_pyNext_zip_item D hz hTI hTO h1 h2 p p2 (by simpa using hu) (by simpa using hu2) fun h' a1 a2 a3 a4 a5 _ a6 => k h' a1 a2 a3 a4 a5 a6
    refine key fun h' z' TO' h1' h2' hT hk => ?_
    refine ⟨_, rfl, wpAny_letOwnedTupleGo_zip (s := { s with heap := h' }) z' fun h'' z'' sb => ?_⟩
    obtain ⟨I1, py⟩ := I.pairNew (tk := s.toks) (h' := h'') (ch := [z, TI, TO, i1, i2]) (fun d o hb q => (sb.2 d (fun q' => hb (by simp [q']))).trans (hk d o (fun q' => hb (by simp [q'])) (fun q' => hb (by simp [q'])) (fun q' => hb (by simp [q'])) (fun q' => hb (by simp [q'])) q)) hf ((sb.2 _ (Nat.ne_of_gt hzl)).trans hT) ru ru2
    refine ⟨.ref s.heap.objs.size, _, I1, rfl, ⟨x, y, py, fun l hl => by rw [I.seqB_inj hl hqx]; exact hx, fun l hl => by rw [I.seqB_inj hl hqy]; exact hy⟩, ⟨z'', ?_, ⟨u, u2, ?_⟩, ?_, ?_⟩, fun d hdm => ?_⟩
    · exact (sb.2 _ D.TIz).trans (hk _ _ D.TIz D.TITO D.TIi1 D.TIi2 hTI)
    · exact (sb.2 _ D.TOz).trans TO'
    · exact h1'.at fun o q => (sb.2 _ D.i1z).trans q
    · exact h2'.at fun o q => (sb.2 _ D.i2z).trans q
    · have hlt : d < s.heap.objs.size := by
        rcases (show d = z ∨ d = TI ∨ d = TO ∨ d = i1 ∨ d = i2 by simpa using hdm) with q | q | q | q | q
        · rw [q]; exact hzl
        · rw [q]; exact Heap.lt_size hTI
        · rw [q]; exact Heap.lt_size hTO
        · rw [q]; obtain ⟨_, e1, _⟩ := h1.obj; exact Heap.lt_size e1
        · rw [q]; obtain ⟨_, e2, _⟩ := h2.obj; exact Heap.lt_size e2
      rw [upd_ne (Nat.ne_of_lt hlt)]
      exact (hf d hdm).1
  done := by
    intro X hP hw hK hc i pins s σ H E I hf st hg
    subst hP hw hK
    obtain ⟨hz, hTI, ⟨x0, y0, hTO⟩, h1, h2⟩ := st
    obtain ⟨xs, ys, hqx, hqy, hend⟩ := hg
    obtain ⟨its, rv, p, _, _⟩ := I.seqB hqx
    obtain ⟨its2, rv2, p2, _, _⟩ := I.seqB hqy
    have l1 := rv.length
    have l2 := rv2.length
    have he : its.toArray[i]? = none ∨ its2.toArray[i]? = none := by
      rcases hend with q | q
      · exact .inl (by simp; omega)
      · exact .inr (by simp; omega)
    have key : ∀ {Q E}, (∀ h', (∀ d o, d ≠ z → d ≠ TO → d ≠ i1 → d ≠ i2 → s.heap.get? d = some o → h'.get? d = some o) → Q none { s with heap := h' }) → wpAny (model X.prog X.w) X.A (pyNext (.ref z)) Q E s := fun {Q E} k => by
      cases b with
      | true => exact RZ.pyNext_zipT_end (I.ok.hd hc) D hz hTI hTO h1 h2 p p2 he k
      | false => exact wpAny_pyNext_zip_end (I.ok.hd hc) D hz hTI hTO h1 h2 p p2 he k
    exact key fun h' hk => ⟨rfl, I.turnedL (t' := s.toks) (ch := [z, TI, TO, i1, i2]) (fun d o hb q =>
      hk d o (fun q' => hb (by simp [q'])) (fun q' => hb (by simp [q'])) (fun q' => hb (by simp [q'])) (fun q' => hb (by simp [q'])) q) hf⟩
  self := fun A i s Q E st h => wpAny_pyIter_zip st.1 h
end
def iEnumF (K : PySem.W.Frag) (ta : TA) : TI := fun σ H R => ta σ H fun vs H1 => ∃ a b xs, vs = [.ref a] ∧ SqB K b H1 a xs ∧ R (IeF K b a) H1
theorem pi_enumF {X : Cx} {e : Expr} {ta : TA} {p pos tpos : Pos} {elts : List Expr} {kk : Nat} (hg : Gl X "enumerate") (hm : X.mg "enumerate" = none) (ha : PA X [e] ta) (hs : starEach [e] X.env = [(false, eval e X.env)] := by rfl) :
    PI X (.Tuple elts kk tpos) (.Call (.Name "enumerate" p) [e] [] pos) (iEnumF X.K ta) := by
  refine ⟨fun pins s σ H R I h => ?_⟩
  refine Call_ (ld_blt I hg hm boot_enumerate (PyProof.Rows.callWith_type1 (thn (ha.run pos pins s σ H _ I h) fun us s1 ⟨vs, H1, I1, r1, q1⟩ => ?_) hs rfl))
  obtain ⟨a, b, xs, ex, hq, q⟩ := q1
  subst ex
  obtain ⟨u, rfl, r⟩ := vals1 r1
  cases r
  obtain ⟨its, rv, p', hz, ha⟩ := I1.seqB hq
  have key : ∀ {Q E}, (∀ h', IsEnum h' (s1.heap.objs.size + 1) s1.heap.objs.size 0 .none → ItrB b h' s1.heap.objs.size a 0 → (∀ b o, s1.heap.get? b = some o → h'.get? b = some o) → Q (.ref (s1.heap.objs.size + 1)) { s1 with heap := h' }) →
      wpAny (model X.prog X.w) X.A (call (.type "enumerate") [.ref a]) Q E s1 := fun {Q E} k => by
    cases b with
    | true => exact HT.call_enumerate_tuple p' fun h' a1 a2 _ a3 => k h' a1 a2 a3
    | false => exact call_enumerate_list p' fun h' a1 a2 _ a3 => k h' a1 a2 a3
  refine key fun h' he hit hk => wpAny_pyIter_enum he ?_
  have I2 : Inv X pins σ H1 { s1 with heap := h' } := I1.kept (t' := s1.toks) hk
  refine ⟨s1.heap.objs.size + 1, [s1.heap.objs.size + 1, s1.heap.objs.size], _, _, H1, rfl, I2, turn_enumF a (s1.heap.objs.size + 1) s1.heap.objs.size, ⟨⟨.none, he⟩, hit, Nat.succ_ne_self _, Ne.symm (Nat.ne_of_lt (Nat.lt_succ_of_lt ha)), Nat.ne_of_lt ha⟩, fun d hd => ?_, q⟩
  have hle : s1.heap.objs.size ≤ d := by
    rcases (show d = s1.heap.objs.size + 1 ∨ d = s1.heap.objs.size by simpa using hd) with z | z
    · rw [z]; exact Nat.le_add_right _ _
    · rw [z]; exact Nat.le_refl _
  exact I1.fpOk hle (I1.hok.fresh hle)
def iZipF (K : PySem.W.Frag) (ta : TA) : TI := fun σ H R => ta σ H fun vs H1 => ∃ a c b xs ys, vs = [.ref a, .ref c] ∧ SqB K b H1 a xs ∧ SqB K b H1 c ys ∧ R (IzF K b a c) H1
theorem pi_zipF {X : Cx} {e e2 : Expr} {ta : TA} {p pos tpos : Pos} {elts : List Expr} {kk : Nat} (hg : Gl X "zip") (hm : X.mg "zip" = none) (ha : PA X [e, e2] ta)
    (hs : starEach [e, e2] X.env = (false, eval e X.env) :: starEach [e2] X.env := by rfl) (hpl : (backTo pos (starEach [e2] X.env)).any (·.1) = false := by rfl) :
    PI X (.Tuple elts kk tpos) (.Call (.Name "zip" p) [e, e2] [] pos) (iZipF X.K ta) := by
  refine ⟨fun pins s σ H R I h => ?_⟩
  refine Call_ (ld_blt I hg hm PyProof.Rows.boot_zip (PyProof.Rows.callWith_type1 (thn (ha.run pos pins s σ H _ I h) fun us s1 ⟨vs, H1, I1, r1, q1⟩ => ?_) hs hpl))
  obtain ⟨a, c, b, xs, ys, ex, hqx, hqy, q⟩ := q1
  subst ex
  cases r1 with
  | cons r rr =>
    obtain ⟨u, rfl, r'⟩ := vals1 rr
    cases r
    cases r'
    obtain ⟨its, rv, p1, _, la⟩ := I1.seqB hqx
    obtain ⟨its2, rv2, p2, _, lc⟩ := I1.seqB hqy
    have key : ∀ {Q E}, (∀ h', IsZip h' (s1.heap.objs.size + 4) (s1.heap.objs.size + 2) (s1.heap.objs.size + 3) .none → IsPair h' (s1.heap.objs.size + 2) (.ref s1.heap.objs.size) (.ref (s1.heap.objs.size + 1)) →
        IsPair h' (s1.heap.objs.size + 3) .none .none → ItrB b h' s1.heap.objs.size a 0 → ItrB b h' (s1.heap.objs.size + 1) c 0 → (∀ c o, s1.heap.get? c = some o → h'.get? c = some o) → Q (.ref (s1.heap.objs.size + 4)) { s1 with heap := h' }) →
        wpAny (model X.prog X.w) X.A (call (.type "zip") [.ref a, .ref c]) Q E s1 := fun {Q E} k => by
      cases b with
      | true => exact RZ.call_zipT p1 p2 fun h' a1 a2 a3 a4 a5 _ a6 => k h' a1 a2 a3 a4 a5 a6
      | false => exact call_zip_2 p1 p2 fun h' a1 a2 a3 a4 a5 _ a6 => k h' a1 a2 a3 a4 a5 a6
    refine key fun h' hz hTI hTO h1 h2 hk => wpAny_pyIter_zip hz ?_
    have I2 : Inv X pins σ H1 { s1 with heap := h' } := I1.kept (t' := s1.toks) hk
    refine ⟨s1.heap.objs.size + 4, [s1.heap.objs.size + 4, s1.heap.objs.size + 2, s1.heap.objs.size + 3, s1.heap.objs.size, s1.heap.objs.size + 1], _, _, H1, rfl, I2, turn_zipF (PySem.W.ktu_apart s1.heap.objs.size a c la lc), ⟨hz, hTI, ⟨_, _, hTO⟩, h1, h2⟩, fun d hd => ?_, q⟩
    have hle : s1.heap.objs.size ≤ d := by
      rcases (show d = s1.heap.objs.size + 4 ∨ d = s1.heap.objs.size + 2 ∨ d = s1.heap.objs.size + 3 ∨ d = s1.heap.objs.size ∨ d = s1.heap.objs.size + 1 by simpa using hd) with z | z | z | z | z
      · rw [z]; exact Nat.le_add_right _ _
      · rw [z]; exact Nat.le_add_right _ _
      · rw [z]; exact Nat.le_add_right _ _
      · rw [z]; exact Nat.le_refl _
      · rw [z]; exact Nat.le_add_right _ _
    exact I1.fpOk hle (I1.hok.fresh hle)
/-! ### t[::-1] -/
def tRevT (K : PySem.W.Frag) (te : TE) : TE := fun σ H Q => te σ H fun x H1 => ∃ a xs, x = .ref a ∧ SqT K H1 a xs ∧ tupQ H1 Q xs.reverse
theorem pe_revT {X : Cx} {e : Expr} {te : TE} {k : Nat} {p1 p2 p3 pos : Pos} (he : PE X e te) : PE X (.Subscript e (.Slice none none (some (.UnaryOp .USub (.Constant (.int 1) k p1) p2)) p3) pos) (tRevT X.K te) := by
  refine ⟨fun pins s σ H Q I h => ?_⟩
  refine Subscript_ (thn (he.run pins s σ H _ I h) fun v s1 ⟨x, H1, I1, r1, q1⟩ => ?_)
  obtain ⟨a, xs, ex, hx, q⟩ := q1
  subst ex
  cases r1
  have hst : PO X (some (.UnaryOp .USub (.Constant (.int 1) k p1) p2)) (tPart (tUn (rU fun i => .int (-i)) (tC (.int 1)))) := po_some (pe_un un_neg pe_int)
  refine wpAny_Slice (thn (po_none.run pins s1 σ H1 (fun o H2 => o = none ∧ H2 = H1) I1 ⟨rfl, rfl⟩) fun vl s2 ⟨l, H2, I2, pl, el, e2⟩ => ?_)
  subst el e2
  refine thn (po_none.run pins s2 σ H2 (fun o H3 => o = none ∧ H3 = H2) I2 ⟨rfl, rfl⟩) fun vu s3 ⟨u, H3, I3, pu, eu, e3⟩ => ?_
  subst eu e3
  refine thn (hst.run pins s3 σ H3 (fun o H4 => o = some (-1) ∧ H4 = H3) I3 ⟨1, rfl, -1, rfl, rfl, rfl⟩) fun vs s4 ⟨o, H4, I4, ps, eo, e4⟩ => ?_
  subst eo e4
  have I5 : Inv X pins σ H4 { s4 with heap := s4.heap.push { cls := .type "slice", data := .fields #[vl, vu, vs] } } := I4.kept (t' := s4.toks) fun b ob q => Heap.get?_push_of_some _ q
  obtain ⟨its, r, ht, hz⟩ := I5.tuple hx
  have hlen := r.length
  cases pl
  cases pu
  show wpAny (model X.prog X.w) X.A (subscriptTail e (.Slice none none (some (.UnaryOp .USub (.Constant (.int 1) k p1) p2)) p3) (.ref a) (.ref s4.heap.objs.size)) (EP X pins σ Q) X.xe { s4 with heap := s4.heap.push { cls := .type "slice", data := .fields #[.none, .none, vs] } }
  refine tail_any (ops := [.ref a, .ref s4.heap.objs.size]) ht.typeIs (PyProof.Rows.slot_tuple_getitem.lookup) ?_ (by with_unfolding_all rfl)
  refine HT.getItem_tuple_rev ht (Heap.IsSliceOf.new _ .none .none vs) ps ?_ (by rw [List.size_toArray]; omega)
  exact ⟨.ref _, _, I5.laidF r.reverse (by rw [List.length_reverse]; exact hz), rfl, q.at I5 _⟩
end L2

/-! ML20: x[::-1], enumerate, zip, a < b < c, n += e. -/
namespace ML
open PySem PySem.Spec PyProof.Rows L2
theorem _root_.L2.PE.or {X : Cx} {e : Expr} {t t' : TE} (h : PE X e t) (h' : PE X e t') : PE X e (fun σ H Q => t σ H Q ∨ t' σ H Q) := ⟨fun pins s σ H Q I q => q.elim (h.run pins s σ H Q I) (h'.run pins s σ H Q I)⟩
section
variable {X : Cx} {F : Fr} {pos : Pos} {e : Expr} {es : List Expr} {st : Stmt} {rest : List Stmt}
/-! ### x[::-1] -/
def revD (env : En) : Option D → Option (R × En)
  | some (.list ds) => some (.new (.lst ds.reverse), env)
  | some (.tuple ds) => some (.val (.tuple ds.reverse), env)
  | _ => none
def eRev (f : FE) : FE := fun env => (f env).bind fun p => revD p.2 (p.1.dat p.2)
theorem me_rev {a : Expr} {k : Nat} {p1 p2 p3 : Pos} {f : FE} (hK : X.K = F.K) (ha : PE X a (tE F f)) : PE X (.Subscript a (.Slice none none (some (.UnaryOp .USub (.Constant (.int 1) k p1) p2)) p3) pos) (tE F (eRev f)) :=
  ((pe_revL ha).or (pe_revT ha)).wk fun σ H Q ⟨env, ops, G, r, env', I, e, q⟩ => by
    obtain ⟨⟨ra, ea⟩, h1, e⟩ := bind_some e
    have e : revD ea (ra.dat ea) = some (r, env') := e
    unfold revD at e
    split at e
    · rename_i ds hd
      cases e
      refine .inl ⟨env, ops, G, ra, _, I, h1, fun v G1 H1 s1 I1 => ?_⟩
      obtain ⟨a, vs, rfl, q1, q2⟩ := I1.lst (r := ra) (v := v) (by simp) (ds := ds) (by unfold R.lst; rw [hd])
      exact ⟨a, vs, rfl, by rw [hK]; exact q1, I1.retL (fun v G' H' s4 I4 => q v G' H' (s1.trans s4) I4) (dpAll_rev q2)⟩
    · rename_i ds hd
      cases e
      refine .inr ⟨env, ops, G, ra, _, I, h1, fun v G1 H1 s1 I1 => ?_⟩
      obtain ⟨a, vs, rfl, q1, q2⟩ := I1.tup (r := ra) (v := v) (by simp) (ds := ds) (by unfold R.tup; rw [hd])
      exact ⟨a, vs, rfl, by rw [hK]; exact q1, I1.retT (fun v G' H' s4 I4 => q v G' H' (s1.trans s4) I4) (dpAll_rev q2)⟩
    · cases e
/-! ### enumerate -/
def enumD (ds : List D) : List D := ds.zipIdx.map fun p => .tuple [.int (p.2 : Nat), p.1]
theorem enumD_get {ds : List D} {i : Nat} {d : D} (h : (enumD ds)[i]? = some d) : ∃ z, ds[i]? = some z ∧ d = .tuple [.int (i : Nat), z] := by
  unfold enumD at h
  rw [List.getElem?_map, List.getElem?_zipIdx] at h
  cases e : ds[i]? with
  | none => rw [e] at h; cases h
  | some z => rw [e] at h; simp at h; exact ⟨z, rfl, h.symm⟩
theorem enumD_len (ds : List D) : (enumD ds).length = ds.length := by simp [enumD]
def seqT : D → Option (List D)
  | .list ds => some ds
  | .tuple ds => some ds
  | _ => none
def iEnu (f : FE) : FI := fun env => (f env).bind fun p => (keep p.1 p.2).bind fun q => (seqT q.1).map fun ds => ((enumD ds, none), q.2)
def sqOf (b : Bool) (ds : List D) : D := cond b (.tuple ds) (.list ds)
theorem RepS.sqB {env : En} {ops : Ops} {G H : Hp} {σ : St} {v : V} {b : Bool} {ds : List D} {r : R} (I : RepS F env ops G σ H) (hk : (v, r) ∈ ops) (hr : r = .val (sqOf b ds)) : ∃ a vs, v = .ref a ∧ SqB F.K b H a vs ∧ DpAll F.K G vs ds := by
  subst hr
  cases b with
  | true => exact I.tup hk rfl
  | false => exact I.lst hk rfl
theorem RepS.pair {env : En} {ops : Ops} {G H H' : Hp} {σ : St} {v x y : V} {c d : D} (I : RepS F env ops G σ H) (h : pairQ H v x y H') (h1 : Dp F.K G x c) (h2 : Dp F.K G y d) :
    ∃ G', Same G G' ∧ RepS F env (ops ++ [(v, .val (.tuple [c, d]))]) G' σ H' := by
  obtain ⟨T, q, rfl, hq, hT, rfl⟩ := h
  exact I.pushT hq hT (.cons h1 (.cons h2 .nil))
theorem seqT_some {d : D} {ds : List D} (h : seqT d = some ds) : ∃ b, d = sqOf b ds := by
  cases d with
  | list => cases h; exact ⟨false, rfl⟩
  | tuple => cases h; exact ⟨true, rfl⟩
  | none => cases h
  | bool => cases h
  | int => cases h
  | str => cases h
  | dict => cases h
theorem isIt_enum {K : PySem.W.Frag} (hK : K = F.K) {a : Addr} {b : Bool} {ds : List D} {ops ps : Ops} (h : ∀ env G σ H, RepS F env (ops ++ ps) G σ H → ∃ vs, SqB F.K b H a vs ∧ DpAll F.K G vs ds) : IsIt F (IeF K b a) (enumD ds) ops ps := by
  subst hK
  intro more env G σ H i I
  obtain ⟨vs, q1, q2⟩ := h env G σ H I.pop
  refine ⟨fun d hd => ?_, fun hl => ⟨vs, q1, by rw [dpAll_len q2, ← enumD_len]; exact hl⟩⟩
  obtain ⟨z, hz, rfl⟩ := enumD_get hd
  obtain ⟨v, e1, e2⟩ := dpAll_get q2 hz
  refine ⟨⟨vs, v, q1, e1⟩, fun x H' hy => ?_⟩
  obtain ⟨x', hp, hy⟩ := hy
  have := hy vs q1
  rw [e1] at this
  cases this
  exact I.pair hp (.int _) e2
theorem mi_enum {a : Expr} {p tpos : Pos} {elts : List Expr} {kk : Nat} {f : FE} (hK : X.K = F.K) (hg : Gl X "enumerate") (hm : X.mg "enumerate" = none) (ha : PE X a (tE F f)) (hs : starEach [a] X.env = [(false, eval a X.env)] := by rfl) :
    PI X (.Tuple elts kk tpos) (.Call (.Name "enumerate" p) [a] [] pos) (tI F (iEnu f)) :=
  (pi_enumF hg hm (ma_cons ha ma_nil hs) hs).wk fun σ H Q ⟨env, ops, G, xs, src, env', I, e, q⟩ => by
    obtain ⟨⟨r, e1⟩, h1, e⟩ := bind_some e
    obtain ⟨⟨d, e2⟩, h2, e⟩ := bind_some e
    obtain ⟨ds, h3, e⟩ := omap_some e
    cases e
    have ag : aCons f aNil env = some ([r], e1) := show aCons f aNil env = _ by simp [aCons, aNil, h1]
    obtain ⟨b, rfl⟩ := seqT_some h3
    refine ⟨env, ops, G, [r], e1, I, ag, fun ps G1 H1 hp s1 I1 => ?_⟩
    obtain ⟨v, rfl⟩ := map1 hp
    obtain ⟨G2, s2, I2⟩ := RepS.keep (o1 := ops) (o2 := []) I1 h2
    obtain ⟨a, vs, rfl, q1, q2⟩ := I2.sqB (r := .val (sqOf b ds)) (v := v) (by simp) rfl
    refine ⟨a, b, vs, rfl, by rw [hK]; exact q1, q [(.ref a, .val (sqOf b ds))] G2 H1 _ (s1.trans s2) (by simpa using I2) (fun v i hm => by simp at hm) trivial (isIt_enum hK fun env G σ H J => ?_)⟩
    obtain ⟨a', vs', e', q1', q2'⟩ := J.sqB (r := .val (sqOf b ds)) (v := .ref a) (by simp) rfl
    cases e'
    exact ⟨vs', q1', q2'⟩
/-! ### zip -/
def zipD (xs ys : List D) : List D := List.zipWith (fun x y => .tuple [x, y]) xs ys
theorem zipD_get {xs ys : List D} {i : Nat} {d : D} (h : (zipD xs ys)[i]? = some d) : ∃ x y, xs[i]? = some x ∧ ys[i]? = some y ∧ d = .tuple [x, y] := by
  unfold zipD at h
  rw [List.getElem?_zipWith] at h
  split at h
  · rename_i x y h1 h2
    exact ⟨x, y, h1, h2, (Option.some.inj h).symm⟩
  · cases h
def zipT : List D → Option (List D)
  | [.list xs, .list ys] => some (zipD xs ys)
  | [.tuple xs, .tuple ys] => some (zipD xs ys)
  | _ => none
theorem zipT_some {dd ds : List D} (h : zipT dd = some ds) : ∃ b as bs, dd = [sqOf b as, sqOf b bs] ∧ ds = zipD as bs := by
  unfold zipT at h
  split at h
  · exact ⟨false, _, _, rfl, (Option.some.inj h).symm⟩
  · exact ⟨true, _, _, rfl, (Option.some.inj h).symm⟩
  · cases h
theorem dp2 {K : PySem.W.Frag} {G : Hp} {vs : List V} {a b : D} (h : DpAll K G vs [a, b]) : ∃ v u, vs = [v, u] ∧ Dp K G v a ∧ Dp K G u b := by
  cases h with
  | cons h1 h2 =>
    cases h2 with
    | cons h2 h3 =>
      cases h3
      exact ⟨_, _, rfl, h1, h2⟩
def iZip (f : FA) : FI := fun env => (f env).bind fun p => (keepAll p.1 p.2).bind fun q => (zipT q.1).map fun ds => ((ds, none), q.2)
theorem isIt_zip {K : PySem.W.Frag} (hK : K = F.K) {a b : Addr} {k : Bool} {ds es : List D} {ops ps : Ops} (h : ∀ env G σ H, RepS F env (ops ++ ps) G σ H → (∃ vs, SqB F.K k H a vs ∧ DpAll F.K G vs ds) ∧ ∃ vs, SqB F.K k H b vs ∧ DpAll F.K G vs es) : IsIt F (IzF K k a b) (zipD ds es) ops ps := by
  subst hK
  intro more env G σ H i I
  obtain ⟨⟨vs, q1, q2⟩, us, u1, u2⟩ := h env G σ H I.pop
  refine ⟨fun d hd => ?_, fun hl => ⟨vs, us, q1, u1, ?_⟩⟩
  · obtain ⟨x, y, hx, hy, rfl⟩ := zipD_get hd
    obtain ⟨v, e1, e2⟩ := dpAll_get q2 hx
    obtain ⟨u, g1, g2⟩ := dpAll_get u2 hy
    refine ⟨⟨vs, us, v, u, q1, u1, e1, g1⟩, fun x H' hy => ?_⟩
    obtain ⟨x', y', hp, hx', hy'⟩ := hy
    have t1 := hx' vs q1
    rw [e1] at t1
    cases t1
    have t2 := hy' us u1
    rw [g1] at t2
    cases t2
    exact I.pair hp e2 g2
  · have := dpAll_len q2
    have := dpAll_len u2
    simp [zipD] at hl
    omega
theorem mi_zip {a b : Expr} {p tpos : Pos} {elts : List Expr} {kk : Nat} {f g : FE} (hK : X.K = F.K) (hg : Gl X "zip") (hm : X.mg "zip" = none) (ha : PE X a (tE F f)) (hb : PE X b (tE F g)) (hs2 : starEach [b] X.env = [(false, eval b X.env)] := by rfl)
    (hs : starEach [a, b] X.env = (false, eval a X.env) :: starEach [b] X.env := by rfl) (hpl : (backTo pos (starEach [b] X.env)).any (·.1) = false := by rfl) :
    PI X (.Tuple elts kk tpos) (.Call (.Name "zip" p) [a, b] [] pos) (tI F (iZip (aCons f (aCons g aNil)))) :=
  (pi_zipF hg hm (ma_cons ha (ma_cons hb ma_nil hs2) hs) hs hpl).wk fun σ H Q ⟨env, ops, G, xs, src, env', I, e, q⟩ => by
    obtain ⟨⟨rs, e1⟩, h1, e⟩ := bind_some e
    obtain ⟨⟨dd, e2⟩, h2, e⟩ := bind_some e
    obtain ⟨ds, h3, e⟩ := omap_some e
    have h2 : keepAll rs e1 = some (dd, e2) := h2
    obtain ⟨rfl, rfl, rfl⟩ : ds = xs ∧ none = src ∧ e2 = env' := by cases e; exact ⟨rfl, rfl, rfl⟩
    refine ⟨env, ops, G, rs, e1, I, h1, fun ps G1 H1 hp s1 I1 => ?_⟩
    subst hp
    obtain ⟨G2, s2, I2, hd⟩ := RepS.keeps0 I1 h2
    obtain ⟨k, as, bs, rfl, rfl⟩ := zipT_some h3
    obtain ⟨v, u, ev, d1, d2⟩ := dp2 hd
    rw [ev]
    have I3 := (I2.pushV d1).pushV d2
    have I3 : RepS F e2 (ops ++ [(v, .val (sqOf k as)), (u, .val (sqOf k bs))]) G2 σ H1 := by simpa using I3
    obtain ⟨a, vs, rfl, q1, q2⟩ := I3.sqB (r := .val (sqOf k as)) (v := v) (by simp) rfl
    obtain ⟨b, us, rfl, u1, u2⟩ := I3.sqB (r := .val (sqOf k bs)) (v := u) (by simp) rfl
    refine ⟨a, b, k, vs, us, rfl, by rw [hK]; exact q1, by rw [hK]; exact u1, q _ G2 H1 _ (s1.trans s2) I3 (fun v i hm => by simp at hm) trivial (isIt_zip hK fun env G σ H J => ?_)⟩
    obtain ⟨a', vs', e', q1', q2'⟩ := J.sqB (r := .val (sqOf k as)) (v := .ref a) (by simp) rfl
    cases e'
    obtain ⟨b', us', e', u1', u2'⟩ := J.sqB (r := .val (sqOf k bs)) (v := .ref b) (by simp) rfl
    cases e'
    exact ⟨⟨vs', q1', q2'⟩, us', u1', u2'⟩
/-! ### a < b < c -/
def eChain (g g' : G2) (fa fb fc : FE) : FE := fun env => (fa env).bind fun p => (fb p.2).bind fun q => match q.1 with
  | .val d => (g p.1 (.val d) q.2).bind fun s => s.1.bl.bind fun k => if k = true then (fc s.2).bind fun t => g' (.val d) t.1 t.2 else some (.val (.bool false), s.2)
  | _ => none
theorem tE_chain {r r' : R2} {g g' : G2} {fa fb fc : FE} (hg : S2 F r g) (hg' : S2 F r' g') (σ : St) (H : Hp) (Q : VK) (h : tE F (eChain g g' fa fb fc) σ H Q) : tChain r r' (tE F fa) (tE F fb) (tE F fc) σ H Q := by
  obtain ⟨env, ops, G, re, env', I, e, q⟩ := h
  obtain ⟨⟨ra, e1⟩, h1, e⟩ := bind_some e
  obtain ⟨⟨rb, e2⟩, h2, e⟩ := bind_some e
  cases rb with
  | val d =>
    obtain ⟨⟨rk, e3⟩, h3, e⟩ := bind_some e
    obtain ⟨k, h4, e⟩ := bind_some e
    obtain rfl := R.bl_eq h4
    refine ⟨env, ops, G, ra, e1, I, h1, fun x G1 H1 s1 I1 => ?_⟩
    refine ⟨e1, _, G1, _, e2, I1, h2, fun y G2 H2 s2 I2 => ?_⟩
    have I2 : RepS F e2 (ops ++ [(x, ra), (y, .val d)]) G2 σ H2 := by simpa using I2
    have hy : Dp F.K G2 y d := by
      obtain ⟨w, w1, w2⟩ := I2.rep.val (.inr (ops.length + 1)) d (by simp [ix, R.toB])
      simp [ixv] at w1
      subst w1; exact w2
    refine hg e2 ops G2 σ H2 x y ra (.val d) (.val (.bool k)) e3 _ I2 h3 fun z G3 H3 s3 I3 => ?_
    have ez : z = .bl k := I3.vbl (by simp)
    refine ⟨k, ez, ?_⟩
    cases k with
    | true =>
      simp only [↓reduceIte] at e ⊢
      obtain ⟨⟨rc, e4⟩, h5, e⟩ := bind_some e
      have I4 : RepS F e3 (ops ++ [(y, .val d)]) G3 σ H3 := (I3.pop).pushV (dp_mono s3 _ _ hy)
      refine ⟨e3, _, G3, rc, e4, I4, h5, fun w G4 H4 s4 I5 => ?_⟩
      exact hg' e4 ops G4 σ H4 y w (.val d) rc re env' _ (by simpa using I5) e fun v G' H' s5 I6 => q v G' H' ((((s1.trans s2).trans s3).trans s4).trans s5) I6
    | false =>
      simp only [Bool.false_eq_true, ↓reduceIte] at e ⊢
      cases e
      exact q _ G3 H3 ((s1.trans s2).trans s3) ((I3.pop).pushV (.bl false))
  | new _ => cases e
  | bor _ => cases e
  | lkd _ _ => cases e
theorem me_chain {a b c : Expr} {op op' : CmpOp} {r r' : R2} {g g' : G2} {fa fb fc : FE} (ho : OpR X (compareOp op) r) (hg : S2 F r g) (ho' : OpR X (compareOp op') r') (hg' : S2 F r' g') (ha : PE X a (tE F fa)) (hb : PE X b (tE F fb)) (hc : PE X c (tE F fc))
    (hm : ∀ ta tb tc, PE X a ta → PE X b tb → PE X c tc → PE X (.Compare a [op, op'] [b, c] pos) (tChain r r' ta tb tc)) : PE X (.Compare a [op, op'] [b, c] pos) (tE F (eChain g g' fa fb fc)) :=
  (hm _ _ _ ha hb hc).wk (tE_chain hg hg')
/-! ### n += e -/
def sAugN (np i : Nat) (f : Int → Int → Int) (fe : FE) : FS := fun env => match env[i]?.join with
  | some (.val (.int a)) => (fe env).bind fun s => s.1.int.bind fun b => (put np i (.val (.int (f a b))) s.2).map fun e => (.nx, e)
  | _ => none
theorem ms_augN {np i : Nat} {x : Str} {p : Pos} {op : Operator} {f : Int → Int → Int} {fe : FE} (hnp : F.args.length = np) (hN : X.N.Nodup) (hi : X.N[i]? = some x) (hx : Loc X.env.scope x) (hp : PIp X op (ipI f)) (he : PE X e (tE F fe))
    (hps : ∀ te ti, PE X e te → PIp X op ti → PS X (.AugAssign (.Name x p) op e pos) (tAug i te ti)) : PS X (.AugAssign (.Name x p) op e pos) (tS F (sAugN np i f fe)) :=
  (hps _ _ he hp).wk fun D σ H ⟨env, ops, G, fl, env', nb, I, e, k⟩ => by
    unfold sAugN at e
    split at e
    · rename_i a ha
      obtain ⟨⟨rb, e1⟩, h1, e⟩ := bind_some e
      obtain ⟨b, h2, e⟩ := bind_some e
      obtain ⟨e3, h3, h4⟩ := omap_some e
      cases h4
      obtain rfl := R.int_eq h2
      obtain ⟨w, w1, w2⟩ := I.rep.val (.inl i) (.int a) (by simp [ix, ha])
      obtain rfl := dp_int w2
      have w1 : σ[i]?.join = some (.int a) := by simpa [ixv] using w1
      have w3 : σ[i]? = some (some (.int a)) := by
        cases hh : σ[i]? with
        | none => rw [hh] at w1; cases w1
        | some o => rw [hh] at w1; exact congrArg some w1
      refine ⟨.int a, w3, env, ops, G, _, e1, I, h1, fun y G1 H1 s1 I1 => ?_⟩
      have ey : y = .int b := I1.vint (by simp)
      refine ⟨a, b, rfl, ey, ?_⟩
      have I2 := (I1.pop).pushV (v := .int (f a b)) (d := .int (f a b)) (.int _)
      exact k _ G1 H1 s1 (RepS.put I2 hnp (fun w => nb w i) h3)
    · cases e
end
/-! ### what they say -/
section
variable {env : En} {i : Nat} {d : D} {ds : List D} {r : R} {n : Int}
theorem v_eRev {f : FE} : eRev f env = bnd (fun p => revD p.2 (p.1.dat p.2)) (f env) := rfl
theorem v_revD_l : revD env (some (.list ds)) = some (.new (.lst ds.reverse), env) := rfl
theorem v_revD_t : revD env (some (.tuple ds)) = some (.val (.tuple ds.reverse), env) := rfl
theorem v_iEnu {f : FE} : iEnu f env = bnd (fun p => bnd (fun q => (seqT q.1).map fun ds => ((enumD ds, none), q.2)) (keep p.1 p.2)) (f env) := rfl
theorem v_seqT_l : seqT (.list ds) = some ds := rfl
theorem v_seqT_t : seqT (.tuple ds) = some ds := rfl
theorem v_iZip {f : FA} : iZip f env = bnd (fun p => bnd (fun q => (zipT q.1).map fun ds => ((ds, none), q.2)) (keepAll p.1 p.2)) (f env) := rfl
theorem v_zipT_l {xs ys : List D} : zipT [.list xs, .list ys] = some (zipD xs ys) := rfl
theorem v_zipT_t {xs ys : List D} : zipT [.tuple xs, .tuple ys] = some (zipD xs ys) := rfl
def chK (g g' : G2) (fc : FE) (ra : R) (env : En) : R → Option (R × En)
  | .val d => bnd (fun s => bnd (fun k => if k = true then bnd (fun t => g' (.val d) t.1 t.2) (fc s.2) else some (.val (.bool false), s.2)) s.1.bl) (g ra (.val d) env)
  | _ => none
theorem v_eChain {g g' : G2} {fa fb fc : FE} : eChain g g' fa fb fc env = bnd (fun p => bnd (fun q => chK g g' fc p.1 q.2 q.1) (fb p.2)) (fa env) := by
  unfold eChain
  congr 1
theorem v_chK {g g' : G2} {fc : FE} {ra : R} : chK g g' fc ra env (.val d) = bnd (fun s => bnd (fun k => if k = true then bnd (fun t => g' (.val d) t.1 t.2) (fc s.2) else some (.val (.bool false), s.2)) s.1.bl) (g ra (.val d) env) := rfl
def augNO (np i : Nat) (f : Int → Int → Int) (fe : FE) (env : En) : Option B → Option (Fl × En)
  | some (.val (.int a)) => bnd (fun s => bnd (fun b => (put np i (.val (.int (f a b))) s.2).map fun e => (.nx, e)) s.1.int) (fe env)
  | _ => none
theorem v_sAugN {np : Nat} {f : Int → Int → Int} {fe : FE} : sAugN np i f fe env = augNO np i f fe env env[i]?.join := by
  unfold sAugN augNO
  split <;> rfl
theorem v_augNO {np : Nat} {f : Int → Int → Int} {fe : FE} : augNO np i f fe env (some (.val (.int n))) = bnd (fun s => bnd (fun b => (put np i (.val (.int (f n b))) s.2).map fun e => (.nx, e)) s.1.int) (fe env) := rfl
end
section
variable {env : En} {i : Nat} {ds : List D} {kvs : List (Key × D)} {ns : List Int}
/-- sorted of what stands in a slot -/
def srtB (env : En) (b : Option B) : Option (R × En) := match b.bind B.own with
  | some (.sI ns) => if ns.length < 64 then some (.new (.lst ((usort ns).map .int)), env) else none
  | some (.dK kvs) => (keyInts kvs).bind fun ks => if ks.length < 64 then some (.new (.lst ((isort ks).map .int)), env) else none
  | _ => (lstD (datO b)).bind fun ds => (intsOf ds).map fun ns => (.new (.lst ((isort ns).map .int)), env)
theorem v_srt : gSorted [.bor i] env = srtB env env[i]?.join := by
  have e2 : R.lst (.bor i) env = lstD (datO env[i]?.join) := by rw [v_lst, v_dat_bor]
  show (match R.ownO (.bor i) env with
    | some (.sI ns) => if ns.length < 64 then some (R.new (.lst ((usort ns).map PyData.int)), env) else none
    | some (.dK kvs) => (keyInts kvs).bind fun ks => if ks.length < 64 then some (.new (.lst ((isort ks).map .int)), env) else none
    | _ => (R.lst (.bor i) env).bind fun ds => (intsOf ds).map fun ns => (.new (.lst ((isort ns).map .int)), env)) = _
  rw [e2]
  rfl
theorem v_srt_s : srtB env (some (.mu (.sI ns))) = if ns.length < 64 then some (.new (.lst ((usort ns).map .int)), env) else none := rfl
theorem v_srt_d : srtB env (some (.mu (.dK kvs))) = bnd (fun ks => if ks.length < 64 then some (.new (.lst ((isort ks).map .int)), env) else none) (keyInts kvs) := rfl
theorem v_srt_l : srtB env (some (.mu (.lst ds))) = (intsOf ds).map fun ns => (.new (.lst ((isort ns).map .int)), env) := rfl
theorem v_srt_v : srtB env (some (.val (.list ds))) = (intsOf ds).map fun ns => (.new (.lst ((isort ns).map .int)), env) := rfl
end
/-! ### x is True, x is None -/
section
variable {X : Cx} {F : Fr}
def isDb (b : Bool) : D → Bool
  | .bool c => c == b
  | _ => false
theorem dp_isB {K : PySem.W.Frag} {H : Hp} {x : V} {d : D} (b : Bool) (h : Dp K H x d) : decide (x = .bl b) = isDb b d := by
  cases h with
  | non => rfl
  | bl c => cases c <;> cases b <;> rfl
  | int i => rfl
  | str i => rfl
  | lst _ _ => rfl
  | tup _ _ => rfl
def rIsBD (K : PySem.W.Frag) (neg : Bool) : R2 := fun x y H Q => ∃ b d, y = .bl b ∧ Dp K H x d ∧ Q (.bl (bneg neg (isDb b d))) H
theorem op_isBD : OpR X (compareOp .Is) (rIsBD X.K false) := by
  intro pins s σ H x y v u Q I rx ry h
  obtain ⟨b, d, rfl, hd, q⟩ := h
  cases (show u = Value.bool b from ry)
  cases hd with
  | bl c =>
    cases (show v = Value.bool c from rx)
    by_cases e : c = b
    · subst e
      exact wpAny_is_self rfl ⟨.bl true, H, I, rfl, by simpa [isDb, bneg] using q⟩
    · exact wpAny_is_other rfl (fun z => e (Value.bool.inj z)) ⟨.bl false, H, I, rfl, by rw [show isDb b (.bool c) = false from beq_eq_false_iff_ne.mpr e] at q; exact q⟩
  | non => cases rx; exact wpAny_is_other rfl (fun z => nomatch z) ⟨.bl false, H, I, rfl, q⟩
  | int i => obtain ⟨t, rfl⟩ := rx; exact wpAny_is_other rfl (fun z => nomatch z) ⟨.bl false, H, I, rfl, q⟩
  | str i => obtain ⟨t, rfl⟩ := rx; exact wpAny_is_other rfl (fun z => nomatch z) ⟨.bl false, H, I, rfl, q⟩
  | lst _ _ => cases rx; exact wpAny_is_other rfl (fun z => nomatch z) ⟨.bl false, H, I, rfl, q⟩
  | tup _ _ => cases rx; exact wpAny_is_other rfl (fun z => nomatch z) ⟨.bl false, H, I, rfl, q⟩
theorem op_notBD : OpR X (compareOp .IsNot) (rIsBD X.K true) := by
  intro pins s σ H x y v u Q I rx ry h
  obtain ⟨b, d, rfl, hd, q⟩ := h
  cases (show u = Value.bool b from ry)
  cases hd with
  | bl c =>
    cases (show v = Value.bool c from rx)
    by_cases e : c = b
    · subst e
      exact wpAny_isNot_self rfl ⟨.bl false, H, I, rfl, by simpa [isDb, bneg] using q⟩
    · exact wpAny_isNot_other rfl (fun z => e (Value.bool.inj z)) ⟨.bl true, H, I, rfl, by rw [show isDb b (.bool c) = false from beq_eq_false_iff_ne.mpr e] at q; exact q⟩
  | non => cases rx; exact wpAny_isNot_other rfl (fun z => nomatch z) ⟨.bl true, H, I, rfl, q⟩
  | int i => obtain ⟨t, rfl⟩ := rx; exact wpAny_isNot_other rfl (fun z => nomatch z) ⟨.bl true, H, I, rfl, q⟩
  | str i => obtain ⟨t, rfl⟩ := rx; exact wpAny_isNot_other rfl (fun z => nomatch z) ⟨.bl true, H, I, rfl, q⟩
  | lst _ _ => cases rx; exact wpAny_isNot_other rfl (fun z => nomatch z) ⟨.bl true, H, I, rfl, q⟩
  | tup _ _ => cases rx; exact wpAny_isNot_other rfl (fun z => nomatch z) ⟨.bl true, H, I, rfl, q⟩
def isNo : D → Bool
  | .none => true
  | _ => false
def isA (neg : Bool) (env : En) : Option D → Option D → Option (R × En)
  | some d, some .none => some (.val (.bool (bneg neg (isNo d))), env)
  | some d, some (.bool b) => some (.val (.bool (bneg neg (isDb b d))), env)
  | _, _ => none
def gIsA (neg : Bool) : G2 := fun ra rb env => isA neg env (ra.dat env) (rb.dat env)
def rIsA (K : PySem.W.Frag) : R2 := fun x y H Q => (y = .non ∧ Q (.bl (decide (x = .non))) H) ∨ rIsBD K false x y H Q
def rNotA (K : PySem.W.Frag) : R2 := fun x y H Q => (y = .non ∧ Q (.bl (!decide (x = .non))) H) ∨ rIsBD K true x y H Q
theorem op_isA : OpR X (compareOp .Is) (rIsA X.K) := op_isN.or op_isBD
theorem op_notA : OpR X (compareOp .IsNot) (rNotA X.K) := op_notN.or op_notBD
theorem s_isA : S2 F (rIsA F.K) (gIsA false) := by
  intro env ops G σ H x y ra rb r env' Q I h k
  unfold gIsA isA at h
  split at h
  · rename_i d h1 h2
    cases h
    have q1 := I.dat (r := ra) (v := x) (by simp) h1
    have q2 := I.dat (r := rb) (v := y) (by simp) h2
    cases q2
    refine .inl ⟨rfl, ?_⟩
    cases q1 <;> exact I.retV k (.bl _)
  · rename_i d b h1 h2
    cases h
    have q1 := I.dat (r := ra) (v := x) (by simp) h1
    have q2 := I.dat (r := rb) (v := y) (by simp) h2
    cases q2
    exact .inr ⟨b, d, rfl, q1, I.retV k (.bl _)⟩
  · cases h
theorem s_notA : S2 F (rNotA F.K) (gIsA true) := by
  intro env ops G σ H x y ra rb r env' Q I h k
  unfold gIsA isA at h
  split at h
  · rename_i d h1 h2
    cases h
    have q1 := I.dat (r := ra) (v := x) (by simp) h1
    have q2 := I.dat (r := rb) (v := y) (by simp) h2
    cases q2
    refine .inl ⟨rfl, ?_⟩
    cases q1 <;> exact I.retV k (.bl _)
  · rename_i d b h1 h2
    cases h
    have q1 := I.dat (r := ra) (v := x) (by simp) h1
    have q2 := I.dat (r := rb) (v := y) (by simp) h2
    cases q2
    exact .inr ⟨b, d, rfl, q1, I.retV k (.bl _)⟩
  · cases h
theorem v_gIsA {neg : Bool} {ra rb : R} {env : En} : gIsA neg ra rb env = isA neg env (ra.dat env) (rb.dat env) := rfl
theorem v_isA_n {neg : Bool} {env : En} {d : D} : isA neg env (some d) (some .none) = some (.val (.bool (bneg neg (isNo d))), env) := rfl
theorem v_isA_b {neg : Bool} {env : En} {d : D} {b : Bool} : isA neg env (some d) (some (.bool b)) = some (.val (.bool (bneg neg (isDb b d))), env) := rfl
end
theorem v_tt : (true == true) = true := rfl
theorem v_tf : (true == false) = false := rfl
theorem v_ft : (false == true) = false := rfl
theorem v_ff : (false == false) = true := rfl
end ML
local macro_rules
  | `(tactic| simp_arith! [$ls,*]) => `(tactic| simp_arith [ML.v_eRev, ML.v_revD_l, ML.v_revD_t, ML.v_iEnu, ML.v_seqT_l, ML.v_seqT_t, ML.v_iZip, ML.v_zipT_l, ML.v_zipT_t, ML.v_eChain, ML.v_chK, ML.v_sAugN, ML.v_augNO, ML.v_eIsi, ML.v_tyO_val, ML.v_gRepr, ML.v_srt, ML.v_srt_s, ML.v_srt_d, ML.v_srt_l, ML.v_srt_v, ML.v_gIsA, ML.v_isA_n, ML.v_isA_b, ML.isNo, ML.isDb, ML.v_tt, ML.v_tf, ML.v_ft, ML.v_ff, beq_self_eq_true, $ls,*])
namespace ML
open PySem PySem.Spec PyProof.Rows L2

end ML

/-! ML21: the plain side: comprehensions whose elements change what stands around; loops over a list. -/
namespace ML
open PySem PySem.Spec PyProof.Rows L2
theorem lcL_step {np : Nat} {own : List Nat} {t : Tg} {tst : FT} {elt : FE} {d : D} {ds : List D} {env env2 : En} {o : Option D} (h : lcS np own t tst elt env d = some (o, env2)) :
    lcL np own t tst elt (d :: ds) env = (lcL np own t tst elt ds env2).map fun u => (o.toList ++ u.1, u.2) := by
  unfold lcS at h
  obtain ⟨e1, q1, h1⟩ := bind_some h
  obtain ⟨⟨b, e2⟩, q2, h1⟩ := bind_some h1
  rw [lcL, q1]
  simp only [Option.bind_some, q2]
  cases b with
  | true =>
    obtain ⟨⟨r, e3⟩, q3, h1⟩ := bind_some (show (elt e2).bind _ = _ from h1)
    obtain ⟨⟨v, e4⟩, q4, h1⟩ := bind_some h1
    have h1 : (some v, wipeE e4 own) = (o, env2) := Option.some.inj h1
    obtain ⟨rfl, rfl⟩ := Prod.mk.inj h1
    simp only [↓reduceIte, q3, q4, Option.bind_some]
    rfl
  | false =>
    have h1 : (none, wipeE e2 own) = (o, env2) := Option.some.inj h1
    obtain ⟨rfl, rfl⟩ := Prod.mk.inj h1
    simp only [Bool.false_eq_true, ↓reduceIte]
    cases lcL np own t tst elt ds (wipeE e2 own) <;> rfl
theorem lcL_inv {np : Nat} {own : List Nat} {t : Tg} {tst : FT} {elt : FE} (P : List D → List D → En → Prop)
    (h : ∀ d ds acc env, P (d :: ds) acc env → ∃ o env', lcS np own t tst elt env d = some (o, env') ∧ P ds (acc ++ o.toList) env') :
    ∀ {ds acc : List D} {env : En}, P ds acc env → ∃ out env', lcL np own t tst elt ds env = some (out, env') ∧ P [] (acc ++ out) env'
  | [], acc, env, p => ⟨[], env, rfl, by simpa using p⟩
  | d :: ds, acc, env, p => by
    obtain ⟨o, e1, q1, q2⟩ := h d ds acc env p
    obtain ⟨out, e2, q3, q4⟩ := lcL_inv P h q2
    exact ⟨o.toList ++ out, e2, by rw [lcL_step q1, q3]; rfl, by simpa using q4⟩
theorem eLc_inv {np : Nat} {own : List Nat} {fi : FI} {t : Tg} {tst : FT} {elt : FE} {env env1 : En} {ds : List D} {src : Option Nat} (P : List D → List D → En → Prop) (hi : fi env = some ((ds, src), env1)) (ok : lcOk own t env1 = true)
    (p : P ds [] (wipeE env1 own)) (h : ∀ d ds acc env, P (d :: ds) acc env → ∃ o env', lcS np own t tst elt env d = some (o, env') ∧ P ds (acc ++ o.toList) env') (hl : ds.length ≤ 1000000) :
    ∃ out env', eLc np own fi t tst elt env = some (.new (.lst out), unlock src (restE env1 env' own)) ∧ P [] out env' := by
  obtain ⟨out, e2, q1, q2⟩ := lcL_inv P h p
  have hn : ∀ (ds out : List D) (env e2 : En), lcL np own t tst elt ds env = some (out, e2) → out.length ≤ ds.length := by
    intro ds
    induction ds with
    | nil => intro out env e2 h; cases h; simp
    | cons d ds ih =>
      intro out env e2 h
      rw [lcL] at h
      obtain ⟨e1, g1, h⟩ := bind_some h
      obtain ⟨b, g2, h⟩ := bind_some h
      split at h
      · obtain ⟨r, g3, h⟩ := bind_some h
        obtain ⟨s, g4, h⟩ := bind_some h
        obtain ⟨u, g5, h⟩ := omap_some h
        cases h
        have := ih _ _ _ g5
        simp
        omega
      · have := ih _ _ _ h
        simp
        omega
  have hl2 : out.length ≤ sizeLine := sl_le (Nat.le_trans (hn _ _ _ _ q1) hl)
  refine ⟨out, e2, ?_, by simpa using q2⟩
  unfold eLc
  rw [hi]
  simp only [Option.bind_some, ok, ↓reduceIte, q1, hl2]
/-- a loop over a list of things that are data by k; what stands is told by what is left -/
theorem sFor_list {np : Nat} {fi : FI} {t : Tg} {body : FS} {env env1 : En} {src : Option Nat} {α : Type} (xs : List α) (k : α → D) (P : List α → En → Prop) (hi : fi env = some ((xs.map k, src), env1)) (p : P xs env1)
    (h : ∀ x l env, P (x :: l) env → ∃ e1 env', setT np t (k x) env = some e1 ∧ body e1 = some (.nx, env') ∧ P l env') : ∃ env', sFor np fi t body env = some (.nx, unlock src env') ∧ P [] env' := by
  obtain ⟨env', q1, l, e, q2⟩ := sFor_inv (fun ds env => ∃ l : List α, ds = l.map k ∧ P l env) hi ⟨xs, rfl, p⟩ fun d ds env ⟨l, e, q⟩ => by
    cases l with
    | nil => simp at e
    | cons x l =>
      rw [List.map_cons] at e
      obtain ⟨rfl, rfl⟩ := List.cons.inj e
      obtain ⟨e1, e2, q1, q2, q3⟩ := h x l env q
      exact ⟨e1, e2, q1, q2, l, rfl, q3⟩
  have : l = [] := by cases l with | nil => rfl | cons _ _ => simp at e
  subst this
  exact ⟨env', q1, q2⟩
theorem v_rest_nil {e1 e2 : En} : restE e1 e2 [] = e2 := rfl
theorem v_rest_cons {e1 e2 : En} {v : Nat} {vs : List Nat} : restE e1 e2 (v :: vs) = (restE e1 e2 vs).set v e1[v]?.join := rfl
end ML

/-! ML22: texts and data in order: <, sorted, slices, *, in, dict(..), min, max, int, ord, index. -/
namespace L2
open PySem PySem.Spec PyProof.Rows
section
variable {X : Cx}
/-! ### a < b of data -/
def okCmp (d e : PyData) : Bool := PySem.W.alike d e && (match d with | .none => false | _ => true) && decide (PyData.depth d ≤ 64)
theorem okCmp_of {d e : PyData} (h : okCmp d e = true) : PySem.W.alike d e = true ∧ d ≠ .none ∧ PyData.depth d ≤ 64 := by
  unfold okCmp at h
  rw [Bool.and_eq_true, Bool.and_eq_true] at h
  refine ⟨h.1.1, ?_, of_decide_eq_true h.2⟩
  rintro rfl
  exact absurd h.1.2 (by simp)
def rCmpD (K : PySem.W.Frag) (f : PyData → PyData → Bool) : R2 := fun x y H Q => ∃ d e, Dp K H x d ∧ Dp K H y e ∧ okCmp d e = true ∧ Q (.bl (f d e)) H
theorem op_ltD (hu : X.A.units + 64 < cLine) : OpR X (compareOp .Lt) (rCmpD X.K PySem.W.dataLt) := by
  intro pins s σ H x y v u Q I rx ry h
  obtain ⟨d, e, hd, he, ok, q⟩ := h
  obtain ⟨h1, h2, h3⟩ := okCmp_of ok
  obtain ⟨as, r1⟩ := Dp.reads I d x v hd rx
  obtain ⟨bs, r2⟩ := Dp.reads I e y u he ry
  exact PySem.W.lt_data r1 r2 h1 h2 (by omega) ⟨.bl _, H, I, rfl, q⟩
theorem op_gtD (hu : X.A.units + 64 < cLine) : OpR X (compareOp .Gt) (rCmpD X.K fun d e => PySem.W.dataLt e d) := by
  intro pins s σ H x y v u Q I rx ry h
  obtain ⟨d, e, hd, he, ok, q⟩ := h
  obtain ⟨h1, h2, h3⟩ := okCmp_of ok
  obtain ⟨as, r1⟩ := Dp.reads I d x v hd rx
  obtain ⟨bs, r2⟩ := Dp.reads I e y u he ry
  exact PySem.W.gt_data r1 r2 h1 h2 (by omega) ⟨.bl _, H, I, rfl, q⟩
theorem op_leD (hu : X.A.units + 64 < cLine) : OpR X (compareOp .LtE) (rCmpD X.K fun d e => !PySem.W.dataLt e d) := by
  intro pins s σ H x y v u Q I rx ry h
  obtain ⟨d, e, hd, he, ok, q⟩ := h
  obtain ⟨h1, h2, h3⟩ := okCmp_of ok
  obtain ⟨as, r1⟩ := Dp.reads I d x v hd rx
  obtain ⟨bs, r2⟩ := Dp.reads I e y u he ry
  exact PySem.W.le_data r1 r2 h1 h2 (by omega) ⟨.bl _, H, I, rfl, q⟩
/-! ### sorted of data -/
def isTup1 : PyData → Bool
  | .tuple (_ :: _) => true
  | _ => false
def noTup : PyData → Bool
  | .none => false
  | .tuple _ => false
  | _ => true
def sortOk (ds : List PyData) : Bool := (ds.all fun d => ds.all fun e => PySem.W.alike d e) && (ds.all isTup1 || ds.all noTup) && (ds.all fun d => decide (PyData.depth d ≤ 60)) && decide (ds.length ≤ sizeLine)
def sortD (ds : List PyData) : List PyData := ds.mergeSort (PySem.W.dataLe false id)
theorem sortOk_of {ds : List PyData} (h : sortOk ds = true) : PySem.W.AllAlike ds ∧ PySem.W.Sortable ds ∧ (∀ d ∈ ds, PyData.depth d ≤ 60) ∧ ds.length ≤ sizeLine := by
  unfold sortOk at h
  rw [Bool.and_eq_true, Bool.and_eq_true, Bool.and_eq_true, Bool.or_eq_true, List.all_eq_true, List.all_eq_true, List.all_eq_true, List.all_eq_true] at h
  obtain ⟨⟨⟨h1, h2⟩, h3⟩, h4⟩ := h
  refine ⟨fun d hd e he => List.all_eq_true.mp (h1 d hd) e he, ?_, fun d hd => of_decide_eq_true (h3 d hd), of_decide_eq_true h4⟩
  rcases h2 with h2 | h2
  · refine .inl fun d hd => ?_
    have := h2 d hd
    unfold isTup1 at this
    split at this
    · exact ⟨_, _, rfl⟩
    · cases this
  · refine .inr fun d hd => ?_
    have := h2 d hd
    unfold noTup at this
    split at this
    · cases this
    · cases this
    · rename_i a b
      exact ⟨a, b⟩
def sortV (ys : List V) (ds : List PyData) : List V := ((ys.zip ds).mergeSort (PySem.W.dataLe false fun p : V × PyData => p.2)).map (·.1)
def rSortedD (K : PySem.W.Frag) : List V → Hp → VK → Prop := fun vs H Q => ∃ (a : Addr) (ys : List V) (ds : List PyData), vs = [V.ref a] ∧ SqL K H a ys ∧ DpAll K H ys ds ∧ sortOk ds = true ∧ ∀ (p : Addr), H p = none → Q (.ref p) (upd H p (.lst (sortV ys ds)))
theorem dpAll_zip {K : PySem.W.Frag} {H : Hp} : ∀ {xs : List V} {ds : List PyData}, DpAll K H xs ds → (xs.zip ds).map (·.1) = xs ∧ (xs.zip ds).map (·.2) = ds ∧ ∀ p ∈ xs.zip ds, Dp K H p.1 p.2
  | _, _, .nil => ⟨rfl, rfl, fun p hp => by simp at hp⟩
  | _, _, .cons a b => by
    obtain ⟨h1, h2, h3⟩ := dpAll_zip b
    refine ⟨by simp [h1], by simp [h2], fun p hp => ?_⟩
    rcases List.mem_cons.mp hp with z | z
    · subst z; exact a
    · exact h3 p z
theorem dpAll_of_pairs {K : PySem.W.Frag} {H : Hp} : ∀ {ps : List (V × PyData)}, (∀ p ∈ ps, Dp K H p.1 p.2) → DpAll K H (ps.map (·.1)) (ps.map (·.2))
  | [], _ => .nil
  | p :: ps, h => .cons (h p (List.mem_cons_self ..)) (dpAll_of_pairs fun q hq => h q (List.mem_cons_of_mem _ hq))
theorem each_vals : ∀ {ps : List (V × PyData)} {us : List Value}, Vals (ps.map (·.1)) us → PySem.W.EachIs (fun u (p : V × PyData) => RelV p.1 u) us ps
  | [], _, h => by cases h; exact .nil
  | p :: ps, _, h => by
    rw [List.map_cons] at h
    cases h with
    | cons a b => exact .cons a (each_vals b)
theorem vals_each : ∀ {ps : List (V × PyData)} {us : List Value}, PySem.W.EachIs (fun u (p : V × PyData) => RelV p.1 u) us ps → Vals (ps.map (·.1)) us
  | [], _, h => by cases h; exact .nil
  | p :: ps, _, h => by
    cases h with
    | cons a b => exact .cons a (vals_each b)
theorem sortV_dp {K : PySem.W.Frag} {H : Hp} {ys : List V} {ds : List PyData} (h : DpAll K H ys ds) : DpAll K H (sortV ys ds) (sortD ds) := by
  obtain ⟨z1, z2, z3⟩ := dpAll_zip h
  have hs2 : sortD ds = ((ys.zip ds).mergeSort (PySem.W.dataLe false fun p : V × PyData => p.2)).map (·.2) := by
    have e := PySem.W.sort_maps (r := PySem.W.dataLe false fun p : V × PyData => p.2) (s := PySem.W.dataLe false id) (fun p : V × PyData => p.2) (l := ys.zip ds) (fun _ _ _ _ => rfl)
    rw [z2] at e
    unfold sortD
    exact e.symm
  rw [hs2]
  exact dpAll_of_pairs fun p hp => z3 p ((List.mergeSort_perm _ _).mem_iff.mp hp)
theorem cr_sortedD (hu : X.A.units + 65 < cLine) : CallR X (.builtin "sorted") (rSortedD X.K) := by
  intro pins s σ H xs us Q I r h
  obtain ⟨a, ys, ds, rfl, hs, ha, ok, q⟩ := h
  obtain ⟨h1, h2, h3, h4⟩ := sortOk_of ok
  rw [Vals.ref1 r]
  obtain ⟨its, rv, hl, hz⟩ := I.list hs
  obtain ⟨z1, z2, z3⟩ := dpAll_zip ha
  rw [← z1] at rv
  have eV := each_vals rv
  have er : PySem.W.EachIs (fun v (p : V × PyData) => ∃ as, Reads s.heap v p.2 as) its (ys.zip ds) := by
    clear q h1 h2 h3 h4 ok z1 z2 hz hl rv
    revert eV
    generalize ys.zip ds = ps at z3
    clear ha hs
    induction ps generalizing its with
    | nil => intro e; cases e; exact .nil
    | cons p ps ih =>
      intro e
      cases e with
      | cons e1 e2 => exact .cons (Dp.reads I p.2 p.1 _ (z3 p (List.mem_cons_self ..)) e1) (ih _ (fun q hq => z3 q (List.mem_cons_of_mem _ hq)) e2)
  refine PySem.W.sorted_data (enc := fun p : V × PyData => p.2) (R := fun u (p : V × PyData) => RelV p.1 u) hl.isList eV er (by rw [z2]; exact h1) (by rw [z2]; exact h2) ?_ (fun p hp => ?_) fun out ho eo => ?_
  · have := congrArg List.length z2
    rw [List.length_map] at this
    omega
  · have : p.2 ∈ ds := by rw [← z2]; exact List.mem_map_of_mem hp
    have := h3 _ this
    show X.A.units + 2 + PyData.depth p.2 < cLine
    omega
  · have vo := vals_each eo
    obtain ⟨ep, he'⟩ := PyProof.Rows.sortedAll_at s.heap its out.toArray
    have hlen : (sortV ys ds).length ≤ sizeLine := by
      have := congrArg List.length z2
      rw [List.length_map] at this
      unfold sortV
      rw [List.length_map, List.length_mergeSort, this]
      exact h4
    exact ⟨.ref _, upd H (s.heap.objs.size + 1) (.lst (sortV ys ds)), I.laid (t' := s.toks) (fun _ _ => PyProof.Rows.sortedAll_old) (Nat.le_succ _) ⟨hlen, out, ep, vo, he'⟩, rfl, q _ (I.hok.fresh (Nat.le_succ _))⟩
end
end L2

/-! ML23: dict(pairs), sorted, min, max, int, ord, index; text * int; data in order. -/
namespace L2
open PySem PySem.Spec PyProof.Rows
section
variable {X : Cx}
/-! ### dict(t), t a bare tuple of pairs -/
def KBare (K : PySem.W.Frag) : Prop := ∀ a o, K.lookup a = some o → o.cls = .type "tuple" → o.dict = none
def kBareB (K : PySem.W.Frag) : Bool := K.all fun p => p.2.dict.isNone || !(p.2.cls == .type "tuple")
theorem lookup_mem' {α : Type} {β : Type} [BEq α] [LawfulBEq α] : ∀ {l : List (α × β)} {a : α} {b : β}, l.lookup a = some b → (a, b) ∈ l
  | [], a, b, h => by cases h
  | (c, d) :: l, a, b, h => by
    rw [List.lookup_cons] at h
    split at h
    · rename_i e
      have := eq_of_beq e
      subst this
      cases h
      exact List.mem_cons_self ..
    · exact List.mem_cons_of_mem _ (lookup_mem' h)
theorem kBare_of {K : PySem.W.Frag} (h : kBareB K = true) : KBare K := fun a o e c => by
  have := List.all_eq_true.mp h _ (lookup_mem' e)
  rw [Bool.or_eq_true] at this
  rcases this with z | z
  · simpa using z
  · simp [c] at z
def BrT (K : PySem.W.Frag) (H : Hp) (a : Addr) (xs : List V) : Prop := SqT K H a xs ∧ ((∃ q, q.dict = none ∧ H a = some (.frz q (.tup xs))) ∨ ∃ o, K.lookup a = some o ∧ o.cls = .type "tuple" ∧ o.dict = none)
theorem Inv.bareT {pins : List (Addr × Obj)} {σ : St} {H : Hp} {s : Shared} (I : Inv X pins σ H s) {a : Addr} {xs : List V} (h : BrT X.K H a xs) : ∃ its : List Value, Vals xs its ∧ PlainSeq "tuple" s.heap a its.toArray ∧ xs.length ≤ sizeLine := by
  obtain ⟨h0, h⟩ := h
  obtain ⟨its, r, ⟨o, e, c, n, d⟩, z⟩ := I.tuple h0
  refine ⟨its, r, ⟨o, n, e, c, ?_, d⟩, z⟩
  rcases h with ⟨q, hq, hH⟩ | ⟨o', hk, _, hd⟩
  · obtain ⟨e', _⟩ := I.hok a _ hH
    rw [e] at e'; cases e'
    exact hq
  · have e' := I.kIn a o' hk
    rw [e] at e'; cases e'
    exact hd
def rDictT (K : PySem.W.Frag) : List V → Hp → VK → Prop := fun xs H Q => ∃ (a : Addr) (ps : List Addr) (kvs : List (Key × V)), xs = [.ref a] ∧ BrT K H a (ps.map V.ref) ∧ Paired (fun p kv => SqT K H p [kV kv.1, kv.2]) ps kvs ∧
    ∀ p, H p = none → Q (.ref p) (upd H p (.dK (mergeK [] kvs)))
theorem call_dictT (hcalm : X.calm = true) : CallR X (.type "dict") (rDictT X.K) := by
  intro pins s σ H xs us Q I r q
  obtain ⟨a, ps, kvs, ex, hq, hp, q⟩ := q
  subst ex
  rw [Vals.ref1 r]
  obtain ⟨its, rv, pl, hz⟩ := I.bareT hq
  have ei := refs_at rv
  subst ei
  rw [List.length_map] at hz
  obtain ⟨prs, rel, hl, hpr⟩ := pairs_of I hp
  -- the keys as values
  have hkeys : ∀ j : Nat, ∃ u : Value, ∀ q, prs[j]? = some q → ∃ b, ps[j]? = some b ∧ IsTup s.heap b #[u, q.2] ∧ keyIs q.1 u = true := fun j => by
    cases e : prs[j]? with
    | none => exact ⟨.none, fun q h => nomatch h⟩
    | some q0 =>
      obtain ⟨b, u, e1, e2, e3⟩ := hpr j q0 e
      exact ⟨u, fun q h => by cases h; exact ⟨b, e1, e2, e3⟩⟩
  obtain ⟨K0, hK0⟩ := Classical.axiomOfChoice hkeys
  let vps : List (Value × Value) := (List.range prs.length).map fun j => (K0 j, (prs[j]?.map (·.2)).getD .none)
  have vlen : vps.length = prs.length := by simp [vps]
  have vget : ∀ (j : Nat) (x : Value × Value), vps[j]? = some x → ∃ q, prs[j]? = some q ∧ x = (K0 j, q.2) := fun j x h => by
    have hj : j < prs.length := by have := (List.getElem?_eq_some_iff.mp h).1; omega
    obtain ⟨q, hq⟩ : ∃ q, prs[j]? = some q := ⟨_, List.getElem?_eq_getElem hj⟩
    refine ⟨q, hq, ?_⟩
    simp only [vps, List.getElem?_map, List.getElem?_range hj, Option.map_some, Option.some.injEq] at h
    rw [← h, hq]; rfl
  have P := PairArg.tuple (prog := X.prog) (w := X.w) a (ps.map Value.ref).toArray (fun j => (ps[j]?).getD 0) vps
  refine PySem.call_dict_pairs (knd := mixKind X.prog X.w) (kvs := prs) P (I.ok.hd hcalm) ⟨pl, ?_, fun j k v e => ?_⟩ ⟨vlen.symm, fun i key v e => ?_⟩ (by rw [vlen, hl]; exact hz) fun h' tk hd' k => ?_
  · simp [vlen, hl]
  · obtain ⟨q, e1, e2⟩ := vget j _ e
    obtain ⟨b, b1, b2, b3⟩ := hK0 j q e1
    cases e2
    refine ⟨by simp [b1], ?_⟩
    show PairAt s.heap ((ps[j]?).getD 0) (K0 j) q.2
    rw [b1]
    exact .inl b2
  · obtain ⟨q, e1, e2⟩ := vget i _ e
    cases e2
    obtain ⟨b, b1, b2, b3⟩ := hK0 i q e1
    exact ⟨q.1, e1, b3⟩
  · have hm : (s.heap.objs.size == sysModules) = false := beq_eq_false_iff_ne.mpr (Nat.ne_of_gt I.big)
    have hlen : (mergeK [] kvs).length ≤ sizeLine := by
      refine Nat.le_trans (length_mergeK kvs []) ?_
      rw [List.length_nil, Nat.zero_add, rel.length, hl]
      exact hz
    exact ⟨.ref s.heap.objs.size, upd H s.heap.objs.size (.dK (mergeK [] kvs)), I.laid (t' := tk) (fun b o e => k b o (by simp) e) (Nat.le_refl _) (show ObjOk X.prog X.w _ _ _ (.dK (mergeK [] kvs)) from ⟨hlen, hm, merged [] prs, KV.merge rel .nil, hd'⟩), rfl, q _ (I.hok.fresh (Nat.le_refl _))⟩
/-! ### text * int -/
def repS (x : Str) (n : Int) : Str := if n < 1 then Str.empty else if (n == 1 || x.length == 0) = true then x else ⟨(List.replicate n.toNat x.cps).foldl (· ++ ·) #[]⟩
def repOk (x : Str) (n : Int) : Bool := decide (x.length ≤ 1000 ∧ -1000000 ≤ n ∧ n ≤ 1000)
theorem fold_size (c : Array Nat) : ∀ (k : Nat) (acc : Array Nat), ((List.replicate k c).foldl (· ++ ·) acc).size = acc.size + k * c.size
  | 0, acc => by simp
  | k + 1, acc => by
    rw [List.replicate_succ, List.foldl_cons, fold_size c k, Array.size_append, Nat.succ_mul]; omega
theorem op_mulS : OpR X (binaryOp .Mult) (fun x y H Q => ∃ z n, x = .str z ∧ y = .int n ∧ repOk z n = true ∧ Q (.str (repS z n)) H) := by
  intro pins s σ H x y v u Q I rx ry h
  obtain ⟨z, n, rfl, rfl, ok, q⟩ := h
  obtain ⟨t, rfl⟩ := rx
  obtain ⟨t', rfl⟩ := ry
  have ok : z.length ≤ 1000 ∧ -1000000 ≤ n ∧ n ≤ 1000 := of_decide_eq_true ok
  have hmul : z.length * n.toNat ≤ 1000 * 1000 := Nat.mul_le_mul ok.1 (by omega)
  refine PySem.P.mul_str ?_ (fun h1 h2 h3 => ?_) (fun h1 h2 => ?_) ?_
  · simp; omega
  · have : (1000 : Int) ≤ (2 ^ 63 - 1) / n := Int.le_ediv_of_mul_le (by omega) (by omega)
    omega
  · unfold PySem.Builtin.Str.tooLong
    simp [sizeLine_eq]; omega
  · unfold repS at q
    by_cases h1 : n < 1
    · rw [if_pos h1] at q ⊢
      exact ⟨by decide, .str _, H, I.tok _, ⟨_, rfl⟩, q⟩
    · rw [if_neg h1] at q ⊢
      by_cases h2 : (n == 1 || z.length == 0) = true
      · rw [if_pos h2] at q ⊢
        exact ⟨.str _, H, I, ⟨_, rfl⟩, q⟩
      · rw [if_neg h2] at q ⊢
        refine ⟨?_, .str _, H, I.tok _, ⟨_, rfl⟩, q⟩
        show ((List.replicate n.toNat z.cps).foldl (· ++ ·) #[]).size ≤ sizeLine
        have e : z.cps.size = z.length := rfl
        rw [fold_size, sizeLine_eq, e, Nat.mul_comm]
        simp; omega
/-! ### s.index(t) -/
theorem mt_sIndex : MtR X "str.index" (fun x xs H Q => ∃ (a b : Str) (k : Nat), x = .str a ∧ xs = [.str b] ∧ Txt.index0 a b = some k ∧ Q (.int (k : Nat)) H) := by
  intro pins s σ H x xs v us Q I rx rs h
  obtain ⟨a, b, k, rfl, rfl, hk, hq⟩ := h
  obtain ⟨t, rfl⟩ := rx
  cases rs with
  | cons r1 rs =>
    cases rs
    obtain ⟨u, rfl⟩ := r1
    cases q : Builtin.Str.occurrences a b 0 a.length 1 with
    | nil => unfold Txt.index0 at hk; rw [q] at hk; cases hk
    | cons k' rest =>
      unfold Txt.index0 at hk; rw [q] at hk
      cases hk
      exact PySem.SC.index q ⟨.int (k : Nat), H, I.tok _, ⟨_, rfl⟩, hq⟩
end
end L2
namespace ML
open PySem PySem.Spec PyProof.Rows L2
section
variable {F : Fr}
/-! ### dict(x) -/
def gDictA : GN := n1 fun r env => match r.dat env with
  | some (.list ds) => (pairsOf ds).map fun kvs => (.new (.dK (mergeD [] kvs)), env)
  | some (.tuple ds) => (pairsOf ds).map fun kvs => (.new (.dK (mergeD [] kvs)), env)
  | _ => none
def rDictA (K : PySem.W.Frag) : List V → Hp → VK → Prop := fun xs H Q => (∃ (a : Addr) (ps : List Addr) (kvs : List (Key × V)), xs = [.ref a] ∧ SqL K H a (ps.map V.ref) ∧ Paired (fun p kv => SqT K H p [kV kv.1, kv.2]) ps kvs ∧
    ∀ p, H p = none → Q (.ref p) (upd H p (.dK (mergeK [] kvs)))) ∨ rDictT K xs H Q
theorem call_dictA {X : Cx} (hc : X.calm = true) : CallR X (.type "dict") (rDictA X.K) := (call_dictP hc).or (call_dictT hc)
theorem RepS.bare {env : En} {ops : Ops} {G H : Hp} {σ : St} {v : V} {r : R} {ds : List D} (kb : KBare F.K) (I : RepS F env ops G σ H) (hk : (v, r) ∈ ops) (e : r.dat env = some (.tuple ds)) : ∃ a vs, v = .ref a ∧ BrT F.K H a vs ∧ DpAll F.K G vs ds := by
  have hd : Dp F.K G v (.tuple ds) := by
    unfold R.dat at e
    cases hb : r.obj env with
    | none => rw [hb] at e; cases e
    | some b =>
      rw [hb] at e
      cases b with
      | val d => cases e; exact (I.obj hk hb).1 _ rfl
      | mu o => cases o <;> cases e
      | lk o => cases o <;> cases e
  obtain ⟨a, vs, rfl, q1, q2⟩ := dp_tup hd
  refine ⟨a, vs, rfl, ⟨same_sqT I.same q1, ?_⟩, q2⟩
  rcases q1 with (z | ⟨o, z⟩) | ⟨o, its, n, h1, h2, _⟩
  · exact absurd z (I.rep.gp.tup a vs)
  · exact .inl ⟨o, I.rep.gp.dic _ _ _ z, I.same _ _ z⟩
  · exact .inr ⟨o, h1, h2, kb a o h1 h2⟩
theorem s_dictA (kb : KBare F.K) : SN F (rDictA F.K) gDictA := sn1 fun env ops x ra G σ H r env' Q I e k => by
  split at e
  · rename_i ds h1
    obtain ⟨kvs, h2, h3⟩ := omap_some e
    cases h3
    obtain ⟨a, vs, rfl, q1, q2⟩ := I.lst (v := x) (r := ra) (by simp) (show R.lst ra env = some ds by unfold R.lst; rw [h1])
    obtain ⟨ps, ws, rfl, g1, g2⟩ := pairsOf_dp q2 h2
    exact .inl ⟨a, ps, ws, rfl, q1, paired_mono I.same g1, fun p hp => I.retN k hp ⟨_, upd_same, kvr_merge g2 .nil⟩⟩
  · rename_i ds h1
    obtain ⟨kvs, h2, h3⟩ := omap_some e
    cases h3
    obtain ⟨a, vs, rfl, q1, q2⟩ := RepS.bare kb I (v := x) (r := ra) (by simp) h1
    obtain ⟨ps, ws, rfl, g1, g2⟩ := pairsOf_dp q2 h2
    exact .inr ⟨a, ps, ws, rfl, q1, paired_mono I.same g1, fun p hp => I.retN k hp ⟨_, upd_same, kvr_merge g2 .nil⟩⟩
  · cases e
/-! ### sorted(x) -/
def gSortedA : GN := n1 fun r env => match r.ownO env with
  | some (.sI ns) => if ns.length < 64 then some (.new (.lst ((usort ns).map .int)), env) else none
  | some (.dK kvs) => (keyInts kvs).bind fun ks => if ks.length < 64 then some (.new (.lst ((isort ks).map .int)), env) else none
  | _ => (r.dat env).bind fun d => match d with
    | .list ds => match intsOf ds with
      | some ns => some (.new (.lst ((isort ns).map .int)), env)
      | none => if sortOk ds = true then some (.new (.lst (sortD ds)), env) else none
    | _ => none
def rSortedB (K : PySem.W.Frag) (w : World) : List V → Hp → VK → Prop := fun xs H Q => rSortedA K w xs H Q ∨ rSortedD K xs H Q
theorem call_sortedB {X : Cx} (hc : X.calm = true) (hu : X.A.units + 65 < cLine) : CallR X (.builtin "sorted") (rSortedB X.K X.w) := (call_sortedA hc).or (cr_sortedD hu)
theorem s_sortedA : SN F (rSortedB F.K F.w) gSortedA := sn1 fun env ops x ra G σ H r env' Q I e k => by
  split at e
  · rename_i ns h
    split at e
    · rename_i hl
      cases e
      obtain ⟨a, rfl, ⟨q1, q2⟩, _⟩ := I.ownO (r := ra) (v := x) (by simp) h
      refine .inl (.inl (.inr ⟨a, _, _, rfl, q1, hl, fun ms p h1 h2 h3 hp => ?_⟩))
      have e : ms = usort ns := usort_of h1 fun z => by rw [h2]; simp
      subst e
      exact I.retL k (dpAll_of_ints _) p hp
    · cases e
  · rename_i kvs h
    obtain ⟨ks, h1, e⟩ := bind_some e
    split at e
    · rename_i hl
      cases e
      obtain ⟨a, rfl, ⟨ws, q1, q2⟩, _⟩ := I.ownO (r := ra) (v := x) (by simp) h
      refine .inl (.inr ⟨a, ws, ks, rfl, .inl q1, by rw [kvr_keys q2]; exact keyInts_eq h1, hl, fun ms p h1 h2 hp => ?_⟩)
      obtain rfl := isort_of h1 h2
      exact I.retL k (dpAll_of_ints _) p hp
    · cases e
  · obtain ⟨d, h1, e⟩ := bind_some e
    split at e
    · rename_i ds
      split at e
      · rename_i ns h2
        cases e
        obtain ⟨a, vs, rfl, q1, q2⟩ := I.lst (r := ra) (v := x) (by simp) (show R.lst ra env = some ds by unfold R.lst; rw [h1])
        rw [intsOf_eq h2] at q2
        rw [dpAll_ints q2] at q1
        refine .inl (.inl (.inl ⟨a, ns, rfl, q1, fun ms p h1 h2 hp => ?_⟩))
        obtain rfl := isort_of h1 h2
        exact I.retL k (dpAll_of_ints _) p hp
      · split at e
        · rename_i hok
          cases e
          obtain ⟨a, vs, rfl, q1, q2⟩ := I.lst (r := ra) (v := x) (by simp) (show R.lst ra env = some ds by unfold R.lst; rw [h1])
          refine .inr ⟨a, vs, ds, rfl, q1, dpAll_mono I.same _ _ q2, hok, fun p hp => I.retL k (sortV_dp q2) p hp⟩
        · cases e
    · cases e
/-! ### min, max of ints -/
def minI : List Int → Option Int
  | [] => none
  | n :: ns => some (ns.foldl (fun a b => if b < a then b else a) n)
def maxI : List Int → Option Int
  | [] => none
  | n :: ns => some (ns.foldl (fun a b => if a < b then b else a) n)
theorem foldl_min (ns : List Int) : ∀ n : Int, (ns.foldl (fun a b => if b < a then b else a) n) ∈ n :: ns ∧ ∀ y ∈ n :: ns, (ns.foldl (fun a b => if b < a then b else a) n) ≤ y := by
  induction ns with
  | nil => intro n; simp
  | cons m ns ih =>
    intro n
    rw [List.foldl_cons]
    obtain ⟨h1, h2⟩ := ih (if m < n then m else n)
    refine ⟨?_, fun y hy => ?_⟩
    · rcases List.mem_cons.mp h1 with z | z
      · rw [z]; split <;> simp
      · simp [z]
    · have h0 := h2 _ (List.mem_cons_self ..)
      rcases List.mem_cons.mp hy with z | z
      · subst z; refine Int.le_trans h0 ?_; split <;> omega
      · rcases List.mem_cons.mp z with z | z
        · subst z; refine Int.le_trans h0 ?_; split <;> omega
        · exact h2 y (List.mem_cons_of_mem _ z)
theorem foldl_max (ns : List Int) : ∀ n : Int, (ns.foldl (fun a b => if a < b then b else a) n) ∈ n :: ns ∧ ∀ y ∈ n :: ns, y ≤ (ns.foldl (fun a b => if a < b then b else a) n) := by
  induction ns with
  | nil => intro n; simp
  | cons m ns ih =>
    intro n
    rw [List.foldl_cons]
    obtain ⟨h1, h2⟩ := ih (if n < m then m else n)
    refine ⟨?_, fun y hy => ?_⟩
    · rcases List.mem_cons.mp h1 with z | z
      · rw [z]; split <;> simp
      · simp [z]
    · have h0 := h2 _ (List.mem_cons_self ..)
      rcases List.mem_cons.mp hy with z | z
      · subst z; refine Int.le_trans ?_ h0; split <;> omega
      · rcases List.mem_cons.mp z with z | z
        · subst z; refine Int.le_trans ?_ h0; split <;> omega
        · exact h2 y (List.mem_cons_of_mem _ z)
theorem minI_spec {ns : List Int} {m : Int} (h : minI ns = some m) : m ∈ ns ∧ ∀ y ∈ ns, m ≤ y := by
  cases ns with
  | nil => cases h
  | cons n ns => cases h; exact foldl_min ns n
theorem maxI_spec {ns : List Int} {m : Int} (h : maxI ns = some m) : m ∈ ns ∧ ∀ y ∈ ns, y ≤ m := by
  cases ns with
  | nil => cases h
  | cons n ns => cases h; exact foldl_max ns n
theorem minI_some {ns : List Int} (h : ns ≠ []) : ∃ m, minI ns = some m := by
  cases ns with
  | nil => exact absurd rfl h
  | cons n ns => exact ⟨_, rfl⟩
theorem maxI_some {ns : List Int} (h : ns ≠ []) : ∃ m, maxI ns = some m := by
  cases ns with
  | nil => exact absurd rfl h
  | cons n ns => exact ⟨_, rfl⟩
def gMin : GN := n1 fun r env => (r.dat env).bind fun d => match d with
  | .list ds => (intsOf ds).bind fun ns => (minI ns).map fun m => (.val (.int m), env)
  | _ => none
def gMax : GN := n1 fun r env => (r.dat env).bind fun d => match d with
  | .list ds => (intsOf ds).bind fun ns => (maxI ns).map fun m => (.val (.int m), env)
  | _ => none
theorem s_min : SN F (L2.rMin F.K) gMin := sn1 fun env ops x ra G σ H r env' Q I e k => by
  obtain ⟨d, h1, e⟩ := bind_some e
  split at e
  · rename_i ds
    obtain ⟨ns, h2, e⟩ := bind_some e
    obtain ⟨m, h3, h4⟩ := omap_some e
    cases h4
    obtain ⟨a, vs, rfl, q1, q2⟩ := I.lst (r := ra) (v := x) (by simp) (show R.lst ra env = some ds by unfold R.lst; rw [h1])
    rw [intsOf_eq h2] at q2
    rw [dpAll_ints q2] at q1
    obtain ⟨m1, m2⟩ := minI_spec h3
    refine ⟨a, ns, rfl, q1, List.length_pos_of_mem m1, fun m' k1 k2 => ?_⟩
    have : m' = m := Int.le_antisymm (k2 m m1) (m2 m' k1)
    subst this
    exact I.retV k (.int _)
  · cases e
theorem s_max : SN F (L2.rMax F.K) gMax := sn1 fun env ops x ra G σ H r env' Q I e k => by
  obtain ⟨d, h1, e⟩ := bind_some e
  split at e
  · rename_i ds
    obtain ⟨ns, h2, e⟩ := bind_some e
    obtain ⟨m, h3, h4⟩ := omap_some e
    cases h4
    obtain ⟨a, vs, rfl, q1, q2⟩ := I.lst (r := ra) (v := x) (by simp) (show R.lst ra env = some ds by unfold R.lst; rw [h1])
    rw [intsOf_eq h2] at q2
    rw [dpAll_ints q2] at q1
    obtain ⟨m1, m2⟩ := maxI_spec h3
    refine ⟨a, ns, rfl, q1, List.length_pos_of_mem m1, fun m' k1 k2 => ?_⟩
    have : m' = m := Int.le_antisymm (m2 m' k1) (k2 m m1)
    subst this
    exact I.retV k (.int _)
  · cases e
def gMin2 : GN := n2 fun ra rb env => ra.int.bind fun i => rb.int.map fun j => (.val (.int (if j < i then j else i)), env)
def gMax2 : GN := n2 fun ra rb env => ra.int.bind fun i => rb.int.map fun j => (.val (.int (if j > i then j else i)), env)
theorem s_min2 : SN F (fun xs H Q => ∃ i j, xs = [.int i, .int j] ∧ Q (.int (if j < i then j else i)) H) gMin2 := sn2 fun env ops x y ra rb G σ H r env' Q I e k => by
  obtain ⟨i, h1, e⟩ := bind_some e
  obtain ⟨j, h2, h3⟩ := omap_some e
  cases h3
  obtain rfl := R.int_eq h1
  obtain rfl := R.int_eq h2
  exact ⟨i, j, by rw [I.vint (v := x) (i := i) (by simp), I.vint (v := y) (i := j) (by simp)], I.retV k (.int _)⟩
theorem s_max2 : SN F (fun xs H Q => ∃ i j, xs = [.int i, .int j] ∧ Q (.int (if j > i then j else i)) H) gMax2 := sn2 fun env ops x y ra rb G σ H r env' Q I e k => by
  obtain ⟨i, h1, e⟩ := bind_some e
  obtain ⟨j, h2, h3⟩ := omap_some e
  cases h3
  obtain rfl := R.int_eq h1
  obtain rfl := R.int_eq h2
  exact ⟨i, j, by rw [I.vint (v := x) (i := i) (by simp), I.vint (v := y) (i := j) (by simp)], I.retV k (.int _)⟩
/-! ### int(x), ord(x) -/
def intD (env : En) : Option D → Option (R × En)
  | some (.int i) => some (.val (.int i), env)
  | some (.bool b) => some (.val (.int (if b = true then 1 else 0)), env)
  | _ => none
def gInt : GN := n1 fun r env => intD env (r.dat env)
theorem s_int : SN F (fun xs H Q => (∃ i, xs = [.int i] ∧ Q (.int i) H) ∨ ∃ k, xs = [.bl k] ∧ Q (.int (if k then 1 else 0)) H) gInt := sn1 fun env ops x ra G σ H r env' Q I e k => by
  unfold intD at e
  split at e
  · rename_i i h1
    cases e
    exact .inl ⟨i, by rw [dp_int (I.dat (r := ra) (v := x) (by simp) h1)], I.retV k (.int _)⟩
  · rename_i b h1
    cases e
    have := I.dat (r := ra) (v := x) (by simp) h1
    cases this
    exact .inr ⟨b, rfl, I.retV k (.int _)⟩
  · cases e
def gOrd : GN := n1 fun r env => r.str.bind fun x => if x.length = 1 then some (.val (.int (x.cps.getD 0 0 : Nat)), env) else none
theorem s_ord : SN F (fun xs H Q => ∃ x, xs = [.str x] ∧ x.length = 1 ∧ Q (.int (x.cps.getD 0 0 : Nat)) H) gOrd := sn1 fun env ops x ra G σ H r env' Q I e k => by
  obtain ⟨z, h1, e⟩ := bind_some e
  split at e
  · rename_i hl
    cases e
    obtain rfl := R.str_eq h1
    exact ⟨z, by rw [I.vstr (v := x) (i := z) (by simp)], hl, I.retV k (.int _)⟩
  · cases e
/-! ### s.index(t), t * n -/
def gSIndex : GL := fun r rs env => match rs with
  | [q] => r.str.bind fun a => q.str.bind fun b => (Txt.index0 a b).map fun k => (.val (.int (k : Nat)), env)
  | _ => none
theorem s_sIndex : SM F (fun x xs H Q => ∃ (a b : Str) (k : Nat), x = .str a ∧ xs = [.str b] ∧ Txt.index0 a b = some k ∧ Q (.int (k : Nat)) H) gSIndex := by
  intro env ops x ra ps G σ H r env' Q I e k
  unfold gSIndex at e
  split at e
  · rename_i q hps
    obtain ⟨y, rfl⟩ := map1 hps
    obtain ⟨a, h1, e⟩ := bind_some e
    obtain ⟨b, h2, e⟩ := bind_some e
    obtain ⟨n, h3, h4⟩ := omap_some e
    cases h4
    obtain rfl := R.str_eq h1
    obtain rfl := R.str_eq h2
    exact ⟨a, b, n, I.vstr (by simp), by rw [List.map_cons, List.map_nil, I.vstr (v := y) (i := b) (by simp)], h3, I.retV k (.int _)⟩
  · cases e
def gMulS : G2 := fun ra rb env => ra.str.bind fun x => rb.int.bind fun n => if repOk x n = true then some (.val (.str (repS x n)), env) else none
theorem s_mulS : S2 F (fun x y H Q => ∃ z n, x = .str z ∧ y = .int n ∧ repOk z n = true ∧ Q (.str (repS z n)) H) gMulS := by
  intro env ops G σ H x y ra rb r env' Q I h k
  obtain ⟨z, h1, h⟩ := bind_some h
  obtain ⟨n, h2, h⟩ := bind_some h
  split at h
  · rename_i hok
    cases h
    obtain rfl := R.str_eq h1
    obtain rfl := R.int_eq h2
    exact ⟨z, n, I.vstr (by simp), I.vint (by simp), hok, I.retV k (.str _)⟩
  · cases h
end
section
variable {X : Cx} {F : Fr} {pos : Pos}
/-! ### a, b = x, y by way of a tuple -/
theorem ms_par2U {np i j : Nat} {x y : Str} {a b : Expr} {px py pt : Pos} {kt k2 pt2} {f : FA} (hnp : F.args.length = np) (hK : X.K = F.K) (hc : X.calm = true) (hN : X.N.Nodup) (hi : X.N[i]? = some x) (hj : X.N[j]? = some y) (hij : i ≠ j)
    (hx : Loc X.env.scope x) (hy : Loc X.env.scope y) (hfx : X.fn x = true ∨ X.env.scope.names.lookup x = some .local) (hfy : X.fn y = true ∨ X.env.scope.names.lookup y = some .local) (ha : PA X [a, b] (tA F f))
    (hw : swappedStores [.Tuple [.Name x px, .Name y py] kt pt] (.Tuple [a, b] k2 pt2) X.env = pure none := by rfl)
    (hs : swapsWithSole [.Tuple [.Name x px, .Name y py] kt pt] (.Tuple [a, b] k2 pt2) pos.line X.env = pure false := by rfl) :
    PS X (.Assign [.Tuple [.Name x px, .Name y py] kt pt] (.Tuple [a, b] k2 pt2) pos) (tS F (sPar2 np i j f)) :=
  (ps_asg (pe_tup ha) (pg_tup (n := 2) hc (pgs_cons (pg_name hN hi hx hfx) (pgs_cons (pg_name hN hj hy hfy) pgs_nil rfl) rfl) rfl rfl) hs hw rfl).wk fun D σ H ⟨env, ops, G, fl, env', nb, I, e, k⟩ => by
    obtain ⟨⟨rs, e1⟩, h1, e⟩ := bind_some e
    obtain ⟨⟨rs', e2⟩, h2, e⟩ := bind_some e
    split at e
    · rename_i r s hrs
      have hrs : rs' = [r, s] := hrs
      subst hrs
      obtain ⟨e3, h3, e⟩ := bind_some e
      obtain ⟨e4, h4, h5⟩ := omap_some e
      cases h5
      refine ⟨env, ops, G, rs, e1, I, h1, fun ps G1 H1 hp s1 I1 => ?_⟩
      subst hp
      obtain ⟨G2, ps', s2, I2, m1, m2, n2⟩ := RepS.norms I1 h2 nb
      obtain ⟨v, w, rfl⟩ := map2 m2
      rw [← m1]
      refine ⟨by show 2 ≤ sizeLine; decide, fun p hp => ?_⟩
      have I2' : RepS F e2 ((ops ++ [(v, r)]) ++ [(w, s)]) G2 σ H1 := by simpa using I2
      have n2' : NoBor ((ops ++ [(v, r)]) ++ [(w, s)]) := by simpa using n2
      have I3 := I2'.put hnp (fun u => nobor_left n2' u j) h3
      have I4 := I3.put hnp (fun u => nb u i) h4
      rw [List.set_comm _ _ (Ne.symm hij)] at I4
      have I5 : RepS F env' ops G2 ((σ.set i (some v)).set j (some w)) (upd H1 p (.tup [v, w])) := ⟨I4.rep.heap hp, I4.opr, I4.len⟩
      exact ⟨p, [v, w], rfl, .inl (.inl upd_same), rfl, v, [w], rfl, w, [], rfl, rfl, k _ G2 _ (s1.trans s2) I5⟩
    · cases e
theorem ms_par3U {np i j l : Nat} {x y z : Str} {a b c : Expr} {px py pz pt : Pos} {kt k2 pt2} {f : FA} (hnp : F.args.length = np) (hK : X.K = F.K) (hc : X.calm = true) (hN : X.N.Nodup) (hi : X.N[i]? = some x) (hj : X.N[j]? = some y) (hl : X.N[l]? = some z) (hij : i ≠ j) (hil : i ≠ l) (hjl : j ≠ l)
    (hx : Loc X.env.scope x) (hy : Loc X.env.scope y) (hz : Loc X.env.scope z) (hfx : X.fn x = true ∨ X.env.scope.names.lookup x = some .local) (hfy : X.fn y = true ∨ X.env.scope.names.lookup y = some .local) (hfz : X.fn z = true ∨ X.env.scope.names.lookup z = some .local) (ha : PA X [a, b, c] (tA F f))
    (hw : swappedStores [.Tuple [.Name x px, .Name y py, .Name z pz] kt pt] (.Tuple [a, b, c] k2 pt2) X.env = pure none := by rfl)
    (hs : swapsWithSole [.Tuple [.Name x px, .Name y py, .Name z pz] kt pt] (.Tuple [a, b, c] k2 pt2) pos.line X.env = pure false := by rfl) :
    PS X (.Assign [.Tuple [.Name x px, .Name y py, .Name z pz] kt pt] (.Tuple [a, b, c] k2 pt2) pos) (tS F (sPar3 np i j l f)) :=
  (ps_asg (pe_tup ha) (pg_tup (n := 3) hc (pgs_cons (pg_name hN hi hx hfx) (pgs_cons (pg_name hN hj hy hfy) (pgs_cons (pg_name hN hl hz hfz) pgs_nil rfl) rfl) rfl) rfl rfl) hs hw rfl).wk fun D σ H ⟨env, ops, G, fl, env', nb, I, e, k⟩ => by
    obtain ⟨⟨rs, e1⟩, h1, e⟩ := bind_some e
    obtain ⟨⟨rs', e2⟩, h2, e⟩ := bind_some e
    split at e
    · rename_i r s t hrs
      have hrs : rs' = [r, s, t] := hrs
      subst hrs
      obtain ⟨e3, h3, e⟩ := bind_some e
      obtain ⟨e4, h4, e⟩ := bind_some e
      obtain ⟨e5, h5, h6⟩ := omap_some e
      cases h6
      refine ⟨env, ops, G, rs, e1, I, h1, fun ps G1 H1 hp s1 I1 => ?_⟩
      subst hp
      obtain ⟨G2, ps', s2, I2, m1, m2, n2⟩ := RepS.norms I1 h2 nb
      obtain ⟨u, v, w, rfl⟩ := map3 m2
      rw [← m1]
      refine ⟨by show 3 ≤ sizeLine; decide, fun p hp => ?_⟩
      have I2' : RepS F e2 ((ops ++ [(u, r), (v, s)]) ++ [(w, t)]) G2 σ H1 := by simpa using I2
      have n2' : NoBor ((ops ++ [(u, r), (v, s)]) ++ [(w, t)]) := by simpa using n2
      have I3 := I2'.put hnp (fun z => nobor_left n2' z l) h3
      have n3 : NoBor ((ops ++ [(u, r)]) ++ [(v, s)]) := by simpa using nobor_left n2'
      have I3' : RepS F e3 ((ops ++ [(u, r)]) ++ [(v, s)]) G2 (σ.set l (some w)) H1 := by simpa using I3
      have I4 := I3'.put hnp (fun z => nobor_left n3 z j) h4
      have I5 := I4.put hnp (fun z => nb z i) h5
      have e1 : (((σ.set l (some w)).set j (some v)).set i (some u)) = (((σ.set i (some u)).set j (some v)).set l (some w)) := by
        rw [List.set_comm _ _ (Ne.symm hij), List.set_comm (some w) (some u) (Ne.symm hil), List.set_comm (some w) (some v) (Ne.symm hjl)]
      rw [e1] at I5
      have I6 : RepS F env' ops G2 (((σ.set i (some u)).set j (some v)).set l (some w)) (upd H1 p (.tup [u, v, w])) := ⟨I5.rep.heap hp, I5.opr, I5.len⟩
      exact ⟨p, [u, v, w], rfl, .inl (.inl upd_same), rfl, u, [v, w], rfl, v, [w], rfl, w, [], rfl, rfl, k _ G2 _ (s1.trans s2) I6⟩
    · cases e
end
end ML

/-! ML24: what the words of ML22, ML23 say. -/
namespace ML
open PySem PySem.Spec PyProof.Rows L2
section
variable {env : En} {i : Nat} {d : D} {ds : List D} {r : R} {n : Int} {kvs : List (Key × D)} {ns : List Int} {x y : Str}
theorem v_lenD_s : lenD r env (some (.str x)) = if x.length ≤ sizeLine then some (.val (.int x.length), env) else none := rfl
theorem v_rstr : R.str (.val (.str x)) = some x := rfl
theorem v_chkS : chkS r env = r.str.isSome := rfl
def dctD (env : En) : Option D → Option (R × En)
  | some (.list ds) => (pairsOf ds).map fun kvs => (.new (.dK (mergeD [] kvs)), env)
  | some (.tuple ds) => (pairsOf ds).map fun kvs => (.new (.dK (mergeD [] kvs)), env)
  | _ => none
theorem v_gDictA : gDictA [r] env = dctD env (r.dat env) := rfl
theorem v_dctD_l : dctD env (some (.list ds)) = (pairsOf ds).map fun kvs => (.new (.dK (mergeD [] kvs)), env) := rfl
theorem v_dctD_t : dctD env (some (.tuple ds)) = (pairsOf ds).map fun kvs => (.new (.dK (mergeD [] kvs)), env) := rfl
/-- sorted of a list of data -/
def sortL (env : En) (ds : List D) : Option (R × En) := match intsOf ds with
  | some ns => some (.new (.lst ((isort ns).map .int)), env)
  | none => if sortOk ds = true then some (.new (.lst (sortD ds)), env) else none
def srtC (env : En) (b : Option B) : Option (R × En) := match b.bind B.own with
  | some (.sI ns) => if ns.length < 64 then some (.new (.lst ((usort ns).map .int)), env) else none
  | some (.dK kvs) => (keyInts kvs).bind fun ks => if ks.length < 64 then some (.new (.lst ((isort ks).map .int)), env) else none
  | _ => (datO b).bind fun d => match d with
    | .list ds => sortL env ds
    | _ => none
theorem v_srtA : gSortedA [.bor i] env = srtC env env[i]?.join := by
  show (match R.ownO (.bor i) env with
    | some (.sI ns) => if ns.length < 64 then some (R.new (.lst ((usort ns).map PyData.int)), env) else none
    | some (.dK kvs) => (keyInts kvs).bind fun ks => if ks.length < 64 then some (.new (.lst ((isort ks).map .int)), env) else none
    | _ => (R.dat (.bor i) env).bind fun d => match d with
      | .list ds => match intsOf ds with
        | some ns => some (.new (.lst ((isort ns).map .int)), env)
        | none => if sortOk ds = true then some (.new (.lst (sortD ds)), env) else none
      | _ => none) = _
  rw [v_dat_bor]
  rfl
theorem v_srtC_s : srtC env (some (.mu (.sI ns))) = if ns.length < 64 then some (.new (.lst ((usort ns).map .int)), env) else none := rfl
theorem v_srtC_d : srtC env (some (.mu (.dK kvs))) = bnd (fun ks => if ks.length < 64 then some (.new (.lst ((isort ks).map .int)), env) else none) (keyInts kvs) := rfl
theorem v_srtC_l : srtC env (some (.mu (.lst ds))) = sortL env ds := rfl
theorem v_srtC_v : srtC env (some (.val (.list ds))) = sortL env ds := rfl
theorem v_srtA_n : gSortedA [.new (.lst ds)] env = sortL env ds := rfl
theorem v_srtA_s : gSortedA [.new (.sI ns)] env = if ns.length < 64 then some (.new (.lst ((usort ns).map .int)), env) else none := rfl
theorem v_srtA_v : gSortedA [.val (.list ds)] env = sortL env ds := rfl
def mmD (f : List Int → Option Int) (env : En) : Option D → Option (R × En)
  | some (.list ds) => (intsOf ds).bind fun ns => (f ns).map fun m => (.val (.int m), env)
  | _ => none
theorem v_gMin : gMin [r] env = mmD minI env (r.dat env) := by
  show (r.dat env).bind _ = _
  cases r.dat env with
  | none => rfl
  | some d => cases d <;> rfl
theorem v_gMax : gMax [r] env = mmD maxI env (r.dat env) := by
  show (r.dat env).bind _ = _
  cases r.dat env with
  | none => rfl
  | some d => cases d <;> rfl
theorem v_mmD {f : List Int → Option Int} : mmD f env (some (.list ds)) = bnd (fun ns => (f ns).map fun m => (.val (.int m), env)) (intsOf ds) := rfl
theorem v_gMin2 {a b : R} : gMin2 [a, b] env = bnd (fun i => b.int.map fun j => (.val (.int (if j < i then j else i)), env)) a.int := rfl
theorem v_gMax2 {a b : R} : gMax2 [a, b] env = bnd (fun i => b.int.map fun j => (.val (.int (if j > i then j else i)), env)) a.int := rfl
theorem v_gInt : gInt [r] env = intD env (r.dat env) := rfl
theorem v_intD_i : intD env (some (.int n)) = some (.val (.int n), env) := rfl
theorem v_intD_b {b : Bool} : intD env (some (.bool b)) = some (.val (.int (if b = true then 1 else 0)), env) := rfl
theorem v_gOrd : gOrd [r] env = bnd (fun x => if x.length = 1 then some (.val (.int (x.cps.getD 0 0 : Nat)), env) else none) r.str := rfl
theorem v_gSIndex {q : R} : gSIndex r [q] env = bnd (fun a => bnd (fun b => (Txt.index0 a b).map fun k => (.val (.int (k : Nat)), env)) q.str) r.str := rfl
theorem v_gMulS {ra rb : R} : gMulS ra rb env = bnd (fun x => bnd (fun n => if repOk x n = true then some (.val (.str (repS x n)), env) else none) rb.int) ra.str := rfl
def popA (i : Nat) (n : Int) (env : En) : Option B → Option (R × En)
  | some (.mu (.lst ds)) => if -(2 ^ 63) ≤ n ∧ n < 2 ^ 63 then (seqIndex? n ds.length).bind fun j => (ds[j]?).map fun d => (.val d, env.set i (some (.mu (.lst (ds.eraseIdx j))))) else none
  | _ => none
theorem v_gPopAt : gPopAt (.bor i) [.val (.int n)] env = popA i n env env[i]?.join := rfl
theorem v_popA {j : Nat} (h1 : -(2 ^ 63) ≤ n ∧ n < 2 ^ 63) (h2 : seqIndex? n ds.length = some j) (h3 : ds[j]? = some d) : popA i n env (some (.mu (.lst ds))) = some (.val d, env.set i (some (.mu (.lst (ds.eraseIdx j))))) := by
  show (if -(2 ^ 63) ≤ n ∧ n < 2 ^ 63 then (seqIndex? n ds.length).bind fun j => (ds[j]?).map fun d => (R.val d, env.set i (some (.mu (.lst (ds.eraseIdx j))))) else none) = _
  rw [if_pos h1, h2]
  simp only [Option.bind_some, h3, Option.map_some]
end
end ML
local macro_rules
  | `(tactic| simp_all_arith [$ls,*]) => `(tactic| simp_arith! [ML.v_lenD_s, ML.v_gPopAt, ML.v_rstr, ML.v_chkS, ML.v_gDictA, ML.v_dctD_l, ML.v_dctD_t, ML.v_srtA, ML.v_srtC_s, ML.v_srtC_d, ML.v_srtC_l, ML.v_srtC_v, ML.v_srtA_n, ML.v_srtA_s, ML.v_srtA_v, ML.v_gMin, ML.v_gMax, ML.v_mmD, ML.v_gMin2, ML.v_gMax2, ML.v_gInt, ML.v_intD_i, ML.v_intD_b, ML.v_gOrd, ML.v_gSIndex, ML.v_gMulS, ML.v_slD_s, ML.v_ixD_s, ML.v_add_s, Option.isSome_some, $ls,*])
namespace ML
open PySem PySem.Spec PyProof.Rows L2

end ML

/-! ML25: a module's constants; a text walked; a sign in a text; a < b of data; repr of what bears great numbers. -/
namespace ML
open PySem PySem.Spec PyProof.Rows L2
section
variable {X : Cx} {F : Fr} {pos : Pos} {e : Expr}
/-! ### constants of the module -/
theorem me_gstr {x y : Str} (hm : ∃ t, X.mg x = some (.str y t)) (hg : Gl X x) (hd : (x == ("__debug__" : Str)) = false := by decide) : PE X (.Name x pos) (tE F (eK (.str y))) := by
  obtain ⟨t, hm⟩ := hm
  exact me_k (pe_glob hg hm (show RelV (.str y) (.str y t) from ⟨t, rfl⟩) hd) fun _ => .str y
theorem me_gint {x : Str} {n : Int} (hm : ∃ t, X.mg x = some (.int n t)) (hg : Gl X x) (hd : (x == ("__debug__" : Str)) = false := by decide) : PE X (.Name x pos) (tE F (eK (.int n))) := by
  obtain ⟨t, hm⟩ := hm
  exact me_k (pe_glob hg hm (show RelV (.int n) (.int n t) from ⟨t, rfl⟩) hd) fun _ => .int n
/-! ### a text walked -/
def signs (x : Str) : List D := x.cps.toList.map fun c => .str ⟨#[c]⟩
def lockA (r : R) (env : En) : Option ((List D × Option Nat) × En) := match r with
  | .val (.str x) => some ((signs x, none), env)
  | r => lockR r env
def iAny (f : FE) : FI := fun env => (f env).bind fun p => lockA p.1 p.2
theorem isIt_text {x : Str} {ops ps : Ops} : IsIt F (Its x) (signs x) ops ps := by
  intro more env G σ H i I
  refine ⟨fun d hd => ?_, fun hl => ?_⟩
  · unfold signs at hd
    rw [List.getElem?_map] at hd
    obtain ⟨c, hc, rfl⟩ := omap_some hd
    have hi : i < x.cps.size := by
      have := (List.getElem?_eq_some_iff.mp hc).1
      simpa using this
    refine ⟨hi, fun v H' hy => ?_⟩
    obtain ⟨rfl, c', hc', rfl⟩ := hy
    rw [Array.getElem?_toList] at hc
    rw [hc] at hc'
    cases hc'
    exact ⟨G, Same.refl _, I.pushV (.str _)⟩
  · show x.cps.size ≤ i
    simpa [signs] using hl
theorem mi_any {tg l : Expr} {f : FE} (hK : X.K = F.K) (hl : PE X l (tE F f)) : PI X tg l (tI F (iAny f)) :=
  ((mi_seq hK hl).or (pi_str hl)).wk fun σ H Q ⟨env, ops, G, xs, src, env', I, e, q⟩ => by
    obtain ⟨⟨r, e1⟩, h1, h2⟩ := bind_some e
    have h2 : lockA r e1 = some ((xs, src), env') := h2
    unfold lockA at h2
    split at h2
    · rename_i x _
      cases h2
      refine .inr ⟨env, ops, G, _, _, I, h1, fun v G1 H1 s1 I1 => ?_⟩
      exact ⟨x, I1.vstr (by simp), q [] G1 H1 (Its x) s1 (by simpa using I1.pop) (fun v i hm => by simp at hm) trivial isIt_text⟩
    · exact .inl ⟨env, ops, G, xs, src, env', I, show (f env).bind _ = _ by rw [h1]; exact h2, q⟩
/-! ### a sign in a text -/
def oneS (x : Str) : Option Nat := if x.cps.size = 1 then x.cps[0]? else none
theorem oneS_of {x : Str} {c : Nat} (h : oneS x = some c) : x = ⟨#[c]⟩ := by
  unfold oneS at h
  split at h
  · rename_i hs
    obtain ⟨a⟩ := x
    have hs : a.size = 1 := hs
    have h : a[0]? = some c := h
    congr
    apply Array.ext
    · simpa using hs
    · intro i h1 h2
      have : i = 0 := by omega
      subst this
      rw [Array.getElem?_eq_getElem (by omega)] at h
      simpa using h
  · cases h
def gInT (neg : Bool) : G2 := fun ra rb env => match rb.str with
  | some z => ra.str.bind fun x => (oneS x).map fun c => (.val (.bool (bneg neg (decide (c ∈ z.cps.toList)))), env)
  | none => gIn neg ra rb env
theorem s_inT : S2 F (fun x y H Q => (∃ (c : Nat) (z : Str), x = .str ⟨#[c]⟩ ∧ y = .str z ∧ Q (.bl (decide (c ∈ z.cps.toList))) H) ∨ rInA F.K x y H Q) (gInT false) := by
  intro env ops G σ H x y ra rb r env' Q I h k
  unfold gInT at h
  split at h
  · rename_i z hz
    obtain ⟨w, h1, h⟩ := bind_some h
    obtain ⟨c, h2, h3⟩ := omap_some h
    cases h3
    obtain rfl := R.str_eq hz
    obtain rfl := R.str_eq h1
    obtain rfl := oneS_of h2
    exact .inl ⟨c, z, I.vstr (by simp), I.vstr (by simp), I.retV k (.bl _)⟩
  · exact .inr (s_in env ops G σ H x y ra rb r env' Q I h k)
theorem op_inT (hu : X.A.units + 65 < cLine) : OpR X (compareOp .In) (fun x y H Q => (∃ (c : Nat) (z : Str), x = .str ⟨#[c]⟩ ∧ y = .str z ∧ Q (.bl (decide (c ∈ z.cps.toList))) H) ∨ rInA X.K x y H Q) := op_in_sign.or (op_inA hu)
/-! ### a < b -/
def ltD (env : En) : Option D → Option D → Option (R × En)
  | some (.int i), some (.int j) => some (.val (.bool (decide (i < j))), env)
  | some d, some e => if okCmp d e = true then some (.val (.bool (PySem.W.dataLt d e)), env) else none
  | _, _ => none
def gLtA : G2 := fun ra rb env => ltD env (ra.dat env) (rb.dat env)
theorem s_ltA : S2 F (fun x y H Q => rI0 (fun i j => .bl (decide (i < j))) x y H Q ∨ rCmpD F.K PySem.W.dataLt x y H Q) gLtA := by
  intro env ops G σ H x y ra rb r env' Q I h k
  unfold gLtA ltD at h
  split at h
  · rename_i i j h1 h2
    cases h
    exact .inl ⟨i, j, dp_int (I.dat (r := ra) (v := x) (by simp) h1), dp_int (I.dat (r := rb) (v := y) (by simp) h2), I.retV k (.bl _)⟩
  · rename_i d e _ h1 h2
    split at h
    · rename_i hok
      cases h
      exact .inr ⟨d, e, I.dat (r := ra) (v := x) (by simp) h1, I.dat (r := rb) (v := y) (by simp) h2, hok, I.retV k (.bl _)⟩
    · cases h
  · cases h
theorem op_ltA (hu : X.A.units + 64 < cLine) : OpR X (compareOp .Lt) (fun x y H Q => rI0 (fun i j => .bl (decide (i < j))) x y H Q ∨ rCmpD X.K PySem.W.dataLt x y H Q) := op_lt.or (op_ltD hu)
/-! ### repr, great numbers within -/
def reprOkB (d : D) : Bool := PyData.layable0 d && PyData.intsShort 300 d && PyData.showable d && decide (PyData.weight d ≤ 50000)
theorem reprOkB_of {d : D} (h : reprOkB d = true) : PyData.layable0 d = true ∧ PyData.showable d = true ∧ d.shown.length ≤ sizeLine := by
  unfold reprOkB at h
  rw [Bool.and_eq_true, Bool.and_eq_true, Bool.and_eq_true] at h
  obtain ⟨⟨⟨h1, h2⟩, h3⟩, h4⟩ := h
  have h4 := of_decide_eq_true h4
  have hc : PyData.canLay0 d = true := by
    unfold PyData.layable0 at h1
    rw [Bool.and_eq_true, Bool.and_eq_true] at h1
    exact h1.1.1
  have := PyData.shown_le 300 (by decide) d (PyData.leavesShort_of_canLay0 300 d hc h2)
  refine ⟨h1, h3, ?_⟩
  have h5 : (300 + 2) * d.weight ≤ 302 * 50000 := Nat.mul_le_mul (by decide) h4
  rw [sizeLine_eq]
  omega
def rReprB (K : PySem.W.Frag) : List V → Hp → VK → Prop := fun xs H Q => ∃ v d, xs = [v] ∧ Dp K H v d ∧ reprOkB d = true ∧ Q (.str d.shown) H
theorem call_reprB (hg : X.A.guards = some []) (hu : X.A.units + 65 < cLine) : CallR X (.builtin "repr") (rReprB X.K) := by
  intro pins s σ H xs us Q I r h
  obtain ⟨v, d, rfl, hd, ok, k⟩ := h
  obtain ⟨u, rfl, rv⟩ := vals1 r
  obtain ⟨ok1, ok3, short⟩ := reprOkB_of ok
  obtain ⟨as, rd⟩ := Dp.reads I d v u hd rv
  have ref : ∀ a, u = .ref a → wpAny (model X.prog X.w) X.A (call (.builtin "repr") [u]) (EP X pins σ Q) X.xe s := fun a ea => by
    subst ea
    exact repr_of_reads' rd ok3 (PyData.noDict_hsm (PyData.hasDict_of_layable ok1)) hg (room_of_layable ok1 hu) (fun _ _ z => z) (fun h' t tk hk => ⟨.str d.shown, H, I.kept hk, ⟨_, rfl⟩, k⟩) short
  cases hd with
  | non =>
    obtain rfl : u = Value.none := rv
    exact PySem.P.repr_of_none ⟨.str _, H, I.tok _, ⟨_, rfl⟩, k⟩
  | bl b =>
    obtain rfl : u = Value.bool b := rv
    exact PySem.P.repr_of_bool ⟨.str _, H, I.tok _, ⟨_, rfl⟩, k⟩
  | int i =>
    obtain ⟨t, rfl⟩ := (show ∃ t, u = Value.int i t from rv)
    exact PySem.P.repr_of_int (of_decide_eq_true (by simpa [PyData.showable] using ok3)) ⟨.str _, H, I.tok _, ⟨_, rfl⟩, k⟩
  | str x =>
    obtain ⟨t, rfl⟩ := (show ∃ t, u = Value.str x t from rv)
    exact PySem.P.repr_of_str ⟨.str _, H, I.tok _, ⟨_, rfl⟩, k⟩ short
  | lst hs _ => exact ref _ rv
  | tup hs _ => exact ref _ rv
def gReprA : GN := n1 fun r env => (r.dat env).bind fun d => if (reprOk d || reprOkB d) = true then some (.val (.str d.shown), env) else none
theorem s_reprA : SN F (fun xs H Q => rReprD F.K xs H Q ∨ rReprB F.K xs H Q) gReprA := sn1 fun env ops x ra G σ H r env' Q I e k => by
  obtain ⟨d, h1, e⟩ := bind_some e
  split at e
  case isFalse => cases e
  rename_i ok
  cases e
  rw [Bool.or_eq_true] at ok
  have hd := I.dat (r := ra) (v := x) (by simp) h1
  exact ok.imp (fun ok => ⟨x, d, rfl, hd, ok, I.retV k (.str _)⟩) fun ok => ⟨x, d, rfl, hd, ok, I.retV k (.str _)⟩
theorem call_reprA (hg : X.A.guards = some []) (hu : X.A.units + 65 < cLine) : CallR X (.builtin "repr") (fun xs H Q => rReprD X.K xs H Q ∨ rReprB X.K xs H Q) := (call_reprD hg hu).or (call_reprB hg hu)
end
/-- what promises nothing -/
theorem fnG_none {P : Program} {w : World} {K : PySem.W.Frag} {mg : Str → Option Value} {base : Heap} {k n : Nat} {f : Addr} {fd : FuncData} {ps : List Str} : FnG P w K mg base k f fd ps (spF K w n fun _ => none) :=
  ⟨fun vs H Q h => (by obtain ⟨_, _, _, _, _, _, _, _, h, _⟩ := h; cases h), fun A below s H given us vs Q room env bind rel h => (by obtain ⟨_, _, _, _, _, _, _, _, h, _⟩ := h; cases h)⟩
section
variable {X : Cx} {F : Fr} {pos : Pos}
/-- a < b < c as a test -/
theorem mt_chain {a b c : Expr} {op op' : CmpOp} {r r' : R2} {g g' : G2} {fa fb fc : FE} (ho : OpR X (compareOp op) r) (hg : S2 F r g) (ho' : OpR X (compareOp op') r') (hg' : S2 F r' g') (ha : PE X a (tE F fa)) (hb : PE X b (tE F fb)) (hc : PE X c (tE F fc))
    (hm : lastMarks [op, op'] [b, c] = false := by with_unfolding_all rfl) : PT X (.Compare a [op, op'] [b, c] pos) (tT F (rB (eChain g g' fa fb fc))) :=
  (pt_chain ho ho' ha hb hc hm).wk fun σ H Q h => tE_test (tE_chain hg hg') σ H Q h
end
end ML

/-! ML26: len(set(t)), t a tuple of texts. -/
namespace HT
open PySem PySem.Spec PyProof.Rows L2
/-- the j-th is met for the first time -/
def newAt (xs : List Str) (j : Nat) : Bool := match xs[j]? with
  | some x => decide (x ∉ xs.take j)
  | none => false
def dcount (xs : List Str) (i : Nat) : Nat := ((List.range i).filter (newAt xs)).length
theorem dcount_succ (xs : List Str) (i : Nat) : dcount xs (i + 1) = dcount xs i + if newAt xs i = true then 1 else 0 := by
  unfold dcount
  rw [List.range_succ, List.filter_append, List.length_append]
  by_cases h : newAt xs i = true
  · simp [h]
  · simp [h]
theorem dcount_le (xs : List Str) (i : Nat) : dcount xs i ≤ i := by
  unfold dcount
  exact Nat.le_trans (List.length_filter_le ..) (by simp)
section
variable {prog : Program} {w : World} {A : Around} {R : Result → Shared → Prop} {I : Addr} {fp wr : List Addr} {G : Array GenState → Array GenState → Prop} {n : Nat} {P : Nat → Value → Prop} {St : Nat → Shared → Prop}
theorem loop_texts (W : WalksS prog w A.in1 I fp wr G n P St) (S : Addr) (hSf : S ∉ fp) (xs : List Str) (hsz : xs.length = n) (hn : n < 4000)
    (hval : ∀ i v, P i v → ∃ x t, xs[i]? = some x ∧ v = .str x t) (k i : Nat) (s : Shared) (hk : n - i = k) (hi : i ≤ n) (hst : St i s)
    (hS : s.heap.SetOf (strKind prog w) S (fun y => decide (y ∈ xs.take i)) (dcount xs i))
    (hR : ∀ s', Moved (S :: wr) G s s' → s'.heap.SetOf (strKind prog w) S (fun y => decide (y ∈ xs.take n)) (dcount xs n) → R (.ok (.ret .none)) s') :
    codeAny (model prog w) A (.builtin "set.update.loop" ⟨[.ref S, .ref I], []⟩) R s := by
  have hSw : S ∉ wr := fun h => hSf (W.sub _ h)
  have hsub : ∀ b ∈ wr, b ∈ S :: wr := fun b hb => List.mem_cons_of_mem _ hb
  induction k generalizing i s with
  | zero =>
    have hin : i = n := by omega
    subst hin
    refine codeAny_builtin PyProof.Rows.F.entry_set_update_loop ?_
    rw [Around.under_plainId PyProof.Rows.F.plain_set_update_loop _]
    show wpAny _ A.in1 (pyNext (.ref I) >>= _) _ _ s
    refine wpAny_bind (W.done s _ _ hst fun s' hm => ?_)
    show wpAny _ A.in1 (ret Value.none) _ _ s'
    exact wpAny_pure (hR s' (hm.mono hsub) (by
      obtain ⟨o, es, ep, t, ho, rest⟩ := hS
      exact ⟨o, es, ep, t, hm.heap S _ hSw ho, rest⟩))
  | succ k ih =>
    have hlt : i < n := by omega
    refine codeAny_builtin PyProof.Rows.F.entry_set_update_loop ?_
    rw [Around.under_plainId PyProof.Rows.F.plain_set_update_loop _]
    show wpAny _ A.in1 (pyNext (.ref I) >>= _) _ _ s
    refine wpAny_bind (W.item i s _ _ hlt hst fun v s' hP hst' hm => ?_)
    obtain ⟨x, t, hx, rfl⟩ := hval i v hP
    have hS' : s'.heap.SetOf (strKind prog w) S (fun y => decide (y ∈ xs.take i)) (dcount xs i) := by
      obtain ⟨o, es, ep, tb, ho, rest⟩ := hS
      exact ⟨o, es, ep, tb, hm.heap S _ hSw ho, rest⟩
    show wpAny _ A.in1 (holding [Value.str x t] (setAdd S (.str x t)) >>= _) _ _ s'
    refine wpAny_bind (wpAny_holding ?_)
    unfold setAdd
    refine wpAny_holding ?_
    refine wpAny_bind ((strKind prog w).pyHash (k := x) (strKind_is _ _ _ _) ?_)
    have hle := dcount_le xs i
    refine wpAny_setAddHashed_of (knd := strKind prog w) (s := { s' with toks := s'.toks + 1 }) (strKind_is _ _ _ _) rfl hS' (by unfold scanBound; omega) fun h' hsb hS2 => ?_
    have et : xs.take (i + 1) = xs.take i ++ [x] := by rw [List.take_succ, hx]; rfl
    have hSi : h'.SetOf (strKind prog w) S (fun y => decide (y ∈ xs.take (i + 1))) (dcount xs (i + 1)) := by
      refine SetOf_congr hS2 (fun y => ?_) ?_
      · rw [et]
        by_cases e : y = x <;> simp [e]
      · rw [dcount_succ]
        have : newAt xs i = !decide (x ∈ xs.take i) := by unfold newAt; rw [hx]; simp
        rw [this]
        by_cases e : x ∈ xs.take i <;> simp [e]
    refine wpAny_pure ⟨plainId_quiet PyProof.Rows.F.plain_set_update_loop _, ih (i + 1) _ (by omega) hlt (W.frame _ s' _ _ hst' (Nat.le_succ _) fun b hb o e => ?_) hSi fun s'' hm'' hS'' => ?_⟩
    · rw [hsb.2 b (fun h : b = S => hSf (by rw [← h]; exact hb))]; exact e
    · refine hR s'' (Moved.trans W.gtrans ((hm.mono hsub).then_heap (Nat.le_succ _) fun b o hb e => ?_) hm'') hS''
      rw [hsb.2 b (fun h : b = S => hb (by rw [h]; exact List.mem_cons_self))]; exact e
end
section
variable {P : Program} {w : World} {A : Around} {E : Value → Shared → Prop} {s : Shared}
set_option maxHeartbeats 3200000 in
theorem setOfTexts {l : Addr} {its : Array Value} (xs : List Str) {Q : Value → Shared → Prop} (hh : A.handled = none) (hl : s.heap.IsTuple l its) (hit : StrsAre its.toList xs) (hb : xs.length < 4000)
    (h : ∀ (h' : Heap) (tk : Nat), h'.SetOf (strKind P w) s.heap.objs.size (fun y => decide (y ∈ xs)) (dcount xs xs.length) → (∀ b o, s.heap.get? b = some o → h'.get? b = some o) → Q (.ref s.heap.objs.size) { s with heap := h', toks := tk }) :
    wpAny (model P w) A (call (.type "set") [.ref l]) Q E s := by
  have size : its.size = xs.length := by rw [← StrsAre.len_eq hit, Array.length_toList]
  obtain ⟨c0, tl, hmro⟩ := PySem.F.called_set.mro
  have hmade := PySem.F.called_set.made; have hsub := PySem.F.called_set.sub
  refine wpAny_call (codeAny_of_tree (show wpAny _ _ (callAny (.type "set") _) _ _ _ from ?_))
  refine wpAny_pure (And.intro (Code.quiet_builtin _ (by decide +kernel)) (codeAny_builtin PySem.F.entry_type_call ?_))
  rw [Around.under_plain (weight_type_call_type "set" [Value.ref l] ([] : List (Str × Value))) rfl]
  have h1 := PySem.F.called_set.notType; have h2 := PySem.F.called_set.canCreate; have hct := PySem.F.typeCall_set_1 (.ref l)
  repeat (any_goals (first | assumption | wp_step))
  refine codeAny_mono (code_set_led1 (.ref l) (E := E) (Q₁ := fun ob s₁ => ob = .ref s.heap.objs.size ∧ s₁ = { s with heap := s.heap.push (ML.emptySet w) }) (And.intro rfl rfl)) fun r s₁ hr => ?_
  cases r with
  | error e => exact hr
  | ok fl =>
    cases fl with
    | ret ob =>
      obtain ⟨rfl, rfl⟩ := hr
      have hS : (s.heap.push (ML.emptySet w)).get? s.heap.objs.size = some (ML.emptySet w) := Heap.get?_push_size _ rfl
      have hT : Shared.TypeIs { s with heap := s.heap.push (ML.emptySet w) } (.ref s.heap.objs.size) "set" := ⟨_, hS, rfl⟩
      have hli := PySem.F.called_set.init.lookup; have hbi := PySem.F.called_set.init.bind (.ref s.heap.objs.size)
      repeat (any_goals (first | assumption | wp_step))
      refine codeAny_mono (codeAny_call_builtin (R := wants (fun r s₂ => r = .none ∧ ∃ h' tk, s₂ = { s with heap := h', toks := tk } ∧ h'.SetOf (strKind P w) s.heap.objs.size (fun y => decide (y ∈ xs)) (dcount xs xs.length) ∧ ∀ b o, s.heap.get? b = some o → h'.get? b = some o) E)
        PySem.F.called_set.init.plain PySem.F.entry_set_init (check_set_init_1 hT ?_)) fun r₂ s₂ hr₂ => ?_
      · obtain ⟨ol, hol, hcl, nl, hdl⟩ := hl
        obtain ⟨ocls, odict, odata, oslots⟩ := ol
        simp only at hcl hdl
        subst hcl hdl
        have hol' : (s.heap.push (ML.emptySet w)).get? l = some { cls := .type "tuple", dict := odict, data := .seq its nl, slots := oslots } := Heap.get?_push_of_some _ hol
        have hsls := PySem.F.sub_tuple_set; have hslf := PySem.F.sub_tuple_frozenset
        have hne : (Value.type "tuple" == Value.type "dict") = false := by decide
        have hl1 : (s.heap.push (ML.emptySet w)).IsTuple l its := ⟨_, hol', rfl, nl, rfl⟩
        unfold Builtin.«set.__init__» noKeywords Builtin.Frozenset.updateFrom
        generalize hPI : pyIter = PI
        wp_walk
        subst hPI
        refine wpAny_pyIter_tuple hl1 (wpAny_bind (wpAny_runValue ?_))
        have hlS : l < s.heap.objs.size := Heap.lt_size hol
        have zz : (s.heap.push (ML.emptySet w)).objs.size = s.heap.objs.size + 1 := Heap.size_push ..
        have hneI : l ≠ (s.heap.push (ML.emptySet w)).objs.size := zz ▸ Nat.ne_of_lt (Nat.lt_succ_of_lt hlS)
        have hSf : s.heap.objs.size ∉ [(s.heap.push (ML.emptySet w)).objs.size, l] := fun z => by
          rcases List.mem_cons.mp z with z | z
          · rw [zz] at z; exact Nat.ne_of_lt (Nat.lt_succ_self _) z
          · exact Nat.ne_of_gt hlS (List.mem_singleton.mp z)
        have hval : ∀ (i : Nat) (v : Value), its[i]? = some v → ∃ x t, xs[i]? = some x ∧ v = .str x t := fun i v hv => by
          obtain ⟨t, e⟩ := SS.strs_at hit i v (by rw [Array.getElem?_toList]; exact hv)
          have hi : i < xs.length := size ▸ (Array.getElem?_eq_some_iff.mp hv).1
          exact ⟨xs[i], t, by simp [hi], by rw [e]; simp [hi]⟩
        have hh3 : A.in1.in1.in1.handled = none := by simp [hh]
        refine loop_texts ((Walks.tuple hh3 _ l hneI its).toS) s.heap.objs.size hSf xs size.symm (by omega) hval (its.size - 0) 0 _ (by omega) (Nat.zero_le _) ⟨⟨_, Heap.get?_push_size _ rfl, rfl, rfl⟩, (hl1.push _)⟩ ?_ ?_
        · exact SetOf_congr ((setObjOf_fresh (knd := strKind P w) (!w.params.followText "set-order")).setOf (Heap.get?_push_of_some _ hS) (by unfold scanBound; omega)) (fun _ => by simp) rfl
        · intro s' hm hS'
          obtain ⟨h', g2, d', tk', os'⟩ := s'
          obtain rfl : g2 = s.gens := hm.gens
          obtain rfl : d' = s.drawn := hm.drawn
          obtain rfl : os' = s.os := hm.os
          refine (show wpAny _ _ _ _ _ _ from wpAny_pure (show wpAny _ _ (ret Value.none) _ _ _ from wpAny_pure ⟨rfl, h', tk', rfl, ?_, fun b o e => ?_⟩))
          · rw [size, List.take_of_length_le (Nat.le_refl _)] at hS'
            exact hS'
          · have hb0 : b < s.heap.objs.size := Heap.lt_size e
            exact hm.heap b o (fun z => by
              rcases List.mem_cons.mp z with z | z
              · exact Nat.ne_of_lt hb0 z
              · have z := List.mem_singleton.mp z
                rw [zz] at z
                exact Nat.ne_of_lt (Nat.lt_succ_of_lt hb0) z) (Heap.get?_push_of_some _ (Heap.get?_push_of_some _ e))
      · cases r₂ with
        | error e => exact hr₂
        | ok fl₂ =>
          cases fl₂ with
          | ret r =>
            obtain ⟨rfl, h', tk, rfl, hS', hk'⟩ := hr₂
            repeat (any_goals (first | assumption | wp_step))
            exact h _ _ hS' hk'
          | _ => exact hr₂.elim
    | _ => exact hr.elim
end
end HT
namespace ML
open PySem PySem.Spec PyProof.Rows L2
/-! ### len(set(t)) -/
def strsOf : List D → Option (List Str)
  | [] => some []
  | .str x :: r => (strsOf r).map (x :: ·)
  | _ => none
theorem strsOf_eq : ∀ {ds : List D} {xs : List Str}, strsOf ds = some xs → ds = xs.map PyData.str
  | [], xs, h => by cases h; rfl
  | .str x :: r, xs, h => by
    obtain ⟨ys, h1, h2⟩ := omap_some (show (strsOf r).map (x :: ·) = some xs from h)
    subst h2
    rw [strsOf_eq h1]; rfl
  | .none :: r, xs, h => by cases h
  | .bool _ :: r, xs, h => by cases h
  | .int _ :: r, xs, h => by cases h
  | .list _ :: r, xs, h => by cases h
  | .tuple _ :: r, xs, h => by cases h
  | .dict _ :: r, xs, h => by cases h
def lenSetD (env : En) : Option D → Option (R × En)
  | some (.tuple ds) => (strsOf ds).bind fun xs => if xs.length < 4000 then some (.val (.int (HT.dcount xs xs.length : Nat)), env) else none
  | _ => none
def eLenSet (f : FE) : FE := fun env => (f env).bind fun p => lenSetD p.2 (p.1.dat p.2)
def tLenSetT (K : PySem.W.Frag) (ta : TE) : TE := fun σ H Q => ta σ H fun x H1 => ∃ (l : Addr) (xs : List Str), x = .ref l ∧ SqT K H1 l (xs.map V.str) ∧ xs.length < 4000 ∧ Q (.int (HT.dcount xs xs.length : Nat)) H1
section
variable {X : Cx} {F : Fr}
theorem pe_lenSetT {a : Expr} {ta : TE} {p p2 q pos : Pos} (hc : X.calm = true) (hg : Gl X "len") (hm : X.mg "len" = none) (hg2 : Gl X "set") (hm2 : X.mg "set" = none) (ha : PE X a ta)
    (na : starEach [a] X.env = (false, eval a X.env) :: starEach [] X.env := by rfl) : PE X (.Call (.Name "len" p) [.Call (.Name "set" p2) [a] [] q] [] pos) (tLenSetT X.K ta) := by
  refine ⟨fun pins s σ H Q I h => ?_⟩
  refine Call_ (ld_blt I hg hm boot_len ?_)
  refine PyProof.Rows.callWith_builtin1 (PyProof.Rows.args_cons ?_ rfl) rfl rfl
  refine Call_ (ld_blt I hg2 hm2 PyProof.Rows.boot_set ?_)
  refine PyProof.Rows.callWith_type1 (PyProof.Rows.args_cons (thn (ha.run pins s σ H _ I h) fun v s1 ⟨x, H1, I1, r1, q1⟩ => PyProof.Rows.args_nil ?_) na) na rfl
  obtain ⟨l, xs, rfl, hq, h1, q1⟩ := q1
  cases r1
  obtain ⟨its, r, pl, hz⟩ := I1.tuple hq
  refine HT.setOfTexts xs (I1.ok.hd hc) pl (by simpa using strsAre_of r) h1 fun h' tk hS hk => ?_
  refine PyProof.Rows.args_nil ?_
  have hle := HT.dcount_le xs xs.length
  obtain ⟨o, es, ep, t, ho, hex, hd, _, _, _, hf, hn⟩ := hS
  have I2 : Inv X pins σ H1 { s1 with heap := h', toks := tk } := I1.kept fun b o e => hk b o e
  exact call_len_set ho hex hd hf (by rw [hn] <;> omega) ⟨.int (HT.dcount xs xs.length : Nat), H1, I2.tok _, ⟨_, by rw [hn]⟩, q1⟩
theorem dpAll_strs' {K : PySem.W.Frag} {G : Hp} {xs : List Str} {vs : List V} (h : DpAll K G vs (xs.map PyData.str)) : vs = xs.map V.str := dpAll_strs h
theorem me_lenSet {a : Expr} {f : FE} {p p2 q pos : Pos} (hK : X.K = F.K) (hc : X.calm = true) (hg : Gl X "len") (hm : X.mg "len" = none) (hg2 : Gl X "set") (hm2 : X.mg "set" = none) (ha : PE X a (tE F f))
    (na : starEach [a] X.env = (false, eval a X.env) :: starEach [] X.env := by rfl) : PE X (.Call (.Name "len" p) [.Call (.Name "set" p2) [a] [] q] [] pos) (tE F (eLenSet f)) :=
  (pe_lenSetT hc hg hm hg2 hm2 ha na).wk fun σ H Q ⟨env, ops, G, r, env', I, e, k⟩ => by
    obtain ⟨⟨ra, e1⟩, h1, e⟩ := bind_some e
    have e : lenSetD e1 (ra.dat e1) = some (r, env') := e
    unfold lenSetD at e
    split at e
    · rename_i ds hd
      obtain ⟨xs, h2, e⟩ := bind_some e
      split at e
      · rename_i hl
        cases e
        refine ⟨env, ops, G, ra, _, I, h1, fun v G1 H1 s1 I1 => ?_⟩
        obtain ⟨a, vs, rfl, q1, q2⟩ := I1.tup (r := ra) (v := v) (by simp) (ds := ds) (by unfold R.tup; rw [hd])
        rw [strsOf_eq h2] at q2
        rw [dpAll_strs q2] at q1
        rw [hK]
        exact ⟨a, xs, rfl, q1, hl, k _ G1 H1 s1 (I1.pop.pushV (.int _))⟩
      · cases e
    · cases e
end
end ML

/-! ML27: i in range(n); t.index(x); list * int; what the words of ML25, ML26 say. -/
namespace L2
open PySem PySem.Spec PyProof.Rows
section
variable {prog : Program} {w : World} {A : Around} {E : Value → Shared → Prop} {s : Shared}
theorem place_one (n i : Int) : (Builtin.Range.rangePlace? 0 n 1 i).isSome = decide (0 ≤ i ∧ i < n) := by
  unfold Builtin.Range.rangePlace?
  have h1 : (1 : Int) > 0 := by decide
  have h2 : (i - 0) % 1 = 0 := by omega
  simp only [h1, if_true, h2]
  by_cases h : 0 ≤ i ∧ i < n
  · simp [h]
  · rw [decide_eq_false h]
    by_cases h3 : 0 ≤ i
    · have h4 : ¬ i < n := fun z => h ⟨h3, z⟩
      simp [h3, h4]
    · simp [h3]
theorem range_contains {r : Addr} {n i : Int} {t u v ti : Tok} {Q : Value → Shared → Prop} (hr : IsRange s.heap r 0 n 1 t u v) (h : Q (.bool (decide (0 ≤ i ∧ i < n))) s) :
    wpAny (model prog w) A (call (.builtin "range.__contains__") [.ref r, .int i ti]) Q E s := by
  have hT : s.TypeIs (.ref r) "range" := ⟨_, hr, rfl⟩
  refine wpAny_call_entry PySem.F.slot_range_contains hT PySem.F.entry_range_contains ?_ (PySem.F.args_range_contains_2 _ _)
  unfold Builtin.«range.__contains__»
  refine wpAny_bind (wpAny_of_eq (a := ((Value.ref r : Value), [Value.int i ti])) (by first | rfl | (simp only [slotArgs]; rfl)) ?_)
  show wpAny _ _ (do rule "range.contains.reckoned"; let (a, b, c) ← Builtin.Range.rangeFields (.ref r); ret (.bool (Builtin.Range.rangePlace? a b c i).isSome)) _ _ s
  refine wpAny_bind (wpAny_rule ?_)
  refine wpAny_bind (wpAny_rangeFields hr ?_)
  show wpAny _ _ (ret (.bool (Builtin.Range.rangePlace? 0 n 1 i).isSome)) _ _ s
  rw [place_one]
  exact wpAny_pure ⟨_, rfl, h⟩
end
section
variable {X : Cx}
def tInRg (neg : Bool) (ta : TE) (tr : St → Hp → (Int → Int → Hp → Prop) → Prop) : TE := fun σ H Q => ta σ H fun x H1 => tr σ H1 fun a b H2 => ∃ i, x = .int i ∧ a = 0 ∧ Q (.bl (if neg = true then !decide (0 ≤ i ∧ i < b) else decide (0 ≤ i ∧ i < b))) H2
theorem pe_notInRg {a b : Expr} {ta : TE} {tr : St → Hp → (Int → Int → Hp → Prop) → Prop} {pos : Pos} (ha : PE X a ta) (hb : PRg X b tr) (hm : behindInMarks .NotIn b = false) : PE X (.Compare a [.NotIn] [b] pos) (tInRg true ta tr) := by
  refine ⟨fun pins s σ H Q I h => ?_⟩
  refine wpAny_Compare1 (thn (ha.run pins s σ H _ I h) fun x s1 ⟨v, H1, I1, r1, q1⟩ => thn (hb pins s1 σ H1 _ I1 q1) fun y s2 ⟨r, lo, hi, t, u, v', H2, ey, hr, I2, q2⟩ => ?_) hm
  obtain ⟨i, rfl, rfl, q⟩ := q2
  subst ey
  obtain ⟨ti, rfl⟩ := r1
  exact NotIn_slot ⟨_, hr, rfl⟩ PySem.F.slot_range_contains (range_contains hr (wpAny_truthy_bool ⟨.bl _, H2, I2, rfl, q⟩))
end
end L2
namespace ML
open PySem PySem.Spec PyProof.Rows L2
section
variable {X : Cx} {F : Fr} {pos : Pos}
/-! ### x not in range(n) -/
def eNotInRg (fa fn : FE) : FE := fun env => (fa env).bind fun p => (fn p.2).bind fun q => p.1.int.bind fun i => q.1.int.map fun n => (.val (.bool (!decide (0 ≤ i ∧ i < n))), q.2)
theorem me_notInRg {a n : Expr} {p q : Pos} {fa fn : FE} (hg : Gl X "range") (hmr : X.mg "range" = none) (ha : PE X a (tE F fa)) (hn : PE X n (tE F fn)) (hm : behindInMarks .NotIn (.Call (.Name "range" p) [n] [] q) = false)
    (na : starEach [n] X.env = (false, eval n X.env) :: starEach [] X.env := by rfl) : PE X (.Compare a [.NotIn] [.Call (.Name "range" p) [n] [] q] pos) (tE F (eNotInRg fa fn)) :=
  (pe_notInRg ha (prg_1 hg hmr hn na) hm).wk fun σ H Q ⟨env, ops, G, r, env', I, e, k⟩ => by
    obtain ⟨⟨ra, e1⟩, h1, e⟩ := bind_some e
    obtain ⟨⟨rn, e2⟩, h2, e⟩ := bind_some e
    obtain ⟨i, h3, e⟩ := bind_some e
    obtain ⟨m, h4, h5⟩ := omap_some e
    cases h5
    obtain rfl := R.int_eq h3
    obtain rfl := R.int_eq h4
    refine ⟨env, ops, G, _, _, I, h1, fun v G1 H1 s1 I1 => ?_⟩
    refine ⟨e1, _, G1, _, _, I1, h2, fun u G2 H2 s2 I2 => ?_⟩
    have I2 : RepS F e2 (ops ++ [(v, .val (.int i)), (u, .val (.int m))]) G2 σ H2 := by simpa using I2
    have ev : v = .int i := I2.vint (by simp)
    have eu : u = .int m := I2.vint (by simp)
    exact ⟨m, eu, i, ev, rfl, k _ G2 H2 (s1.trans s2) (I2.pop.pushV (.bl _))⟩
/-! ### t.index(x), t a tuple of texts -/
def chkT (r : R) (env : En) : Bool := (r.tup env).isSome
def gTIndex : GL := fun r rs env => match rs with
  | [q] => (r.tup env).bind fun ds => (strsOf ds).bind fun xs => q.str.bind fun z => (xs.findIdx? (· == z)).map fun j => (.val (.int (j : Nat)), env)
  | _ => none
theorem s_tIndex : SM F (fun x xs H Q => ∃ p, ∃ ys : List Str, ∃ z j, x = .ref p ∧ xs = [.str z] ∧ SqT F.K H p (ys.map V.str) ∧ ys[j]? = some z ∧ (∀ m, m < j → ys[m]? ≠ some z) ∧ Q (.int (j : Nat)) H) gTIndex := by
  intro env ops x ra ps G σ H r env' Q I e k
  unfold gTIndex at e
  split at e
  · rename_i q hps
    obtain ⟨y, rfl⟩ := map1 hps
    obtain ⟨ds, h1, e⟩ := bind_some e
    obtain ⟨xs, h2, e⟩ := bind_some e
    obtain ⟨z, h3, e⟩ := bind_some e
    obtain ⟨j, h4, h5⟩ := omap_some e
    cases h5
    obtain rfl := R.str_eq h3
    obtain ⟨a, vs, rfl, q1, q2⟩ := I.tup (r := ra) (v := x) (by simp) h1
    rw [strsOf_eq h2] at q2
    rw [dpAll_strs q2] at q1
    obtain ⟨hj, hp, hno⟩ := List.findIdx?_eq_some_iff_getElem.mp h4
    refine ⟨a, xs, z, j, rfl, by rw [List.map_cons, List.map_nil, I.vstr (v := y) (i := z) (by simp)], q1, ?_, fun m hm hz => ?_, I.retV k (.int _)⟩
    · rw [List.getElem?_eq_getElem hj]
      exact congrArg some (by simpa using hp)
    · obtain ⟨hm2, e2⟩ := List.getElem?_eq_some_iff.mp hz
      have := hno m hm
      simp [e2] at this
  · cases e
/-- a method of a bare tuple -/
def tBMT (K : PySem.W.Frag) (r : V → List V → Hp → VK → Prop) (to : TE) (t : TA) : TE := fun σ H Q => to σ H fun x H1 => (∃ a xs, x = .ref a ∧ BrT K H1 a xs) ∧ t σ H1 fun xs H2 => r x xs H2 Q
theorem pe_bmT {o e : Expr} {es : List Expr} {to : TE} {t : TA} {name : Str} {apos cpos : Pos} {id : String} {r : V → List V → Hp → VK → Prop} (pa : PlainAttrs "tuple") (slot : Slot "tuple" name id) (hty : typeOf (.builtin id) = pure (.type "method_descriptor")) (hm : MtR X id r) (ho : PE X o to) (ha : PA X (e :: es) t)
    (hbase : attributeBase o name X.env (eval o X.env) = eval o X.env := by rfl)
    (hfew : ((backTo cpos (starEach (e :: es) X.env)).all (fun x => !x.1) && (backToKw cpos (keywordEach [] X.env)).all (fun x => x.1.isSome)
      && decide ((e :: es).length + ([] : List Keyword).length + (if ([] : List Keyword).isEmpty then 0 else 1) < 30)) = true := by rfl)
    (hline : (apos.endLine == cpos.line) = true := by rfl) (hs : starEach (e :: es) X.env = (false, eval e X.env) :: starEach es X.env := by rfl) (hplain : (backTo cpos (starEach es X.env)).any (·.1) = false := by rfl) :
    PE X (.Call (.Attribute o name apos) (e :: es) [] cpos) (tBMT X.K r to t) := by
  refine ⟨fun pins s σ H Q I h => ?_⟩
  refine wpAny_Call_method_late hbase hfew hline rfl (thn (ho.run pins s σ H _ I h) fun v s1 ⟨x, H1, I1, r1, ty, q1⟩ => ?_)
  obtain ⟨a, ys, rfl, hb⟩ := ty
  have hv : v = Value.ref a := r1
  obtain ⟨its, _, ⟨ob, n, e1, e2, e3, _⟩, _⟩ := I1.bareT hb
  refine ⟨"tuple", id, pa, slot, hty, by rw [hv]; exact ⟨ob, e1, e2⟩, fun b eb => ?_, ?_⟩
  · rw [hv] at eb
    cases eb
    exact ⟨ob, e1, e3⟩
  have hA := ha.run cpos pins s1 σ H1 _ I1 q1
  rw [hs] at hA ⊢
  refine Calls.callWith_builtin (by show (false || (backTo cpos (starEach es X.env)).any (·.1)) = false; rw [hplain] <;> rfl) (Calls.evalArgs_plain ?_)
  exact thn hA fun us s2 ⟨vs, H2, I2, r2, q2⟩ => hm pins s2 σ H2 _ vs v us Q I2 r1 r2 q2
theorem me_bmT {o e : Expr} {es : List Expr} {name : Str} {apos cpos : Pos} {id : String} {rm : V → List V → Hp → VK → Prop} {g : GL} {fo : FE} {f : FA} (kb : KBare F.K) (hK : X.K = F.K) (pa : PlainAttrs "tuple") (slot : Slot "tuple" name id) (hty : typeOf (.builtin id) = pure (.type "method_descriptor")) (hm : MtR X id rm) (hg : SM F rm g) (ho : PE X o (tE F fo)) (ha : PA X (e :: es) (tA F f))
    (hbase : attributeBase o name X.env (eval o X.env) = eval o X.env := by rfl)
    (hfew : ((backTo cpos (starEach (e :: es) X.env)).all (fun x => !x.1) && (backToKw cpos (keywordEach [] X.env)).all (fun x => x.1.isSome)
      && decide ((e :: es).length + ([] : List Keyword).length + (if ([] : List Keyword).isEmpty then 0 else 1) < 30)) = true := by rfl)
    (hline : (apos.endLine == cpos.line) = true := by rfl) (hs : starEach (e :: es) X.env = (false, eval e X.env) :: starEach es X.env := by rfl) (hplain : (backTo cpos (starEach es X.env)).any (·.1) = false := by rfl) :
    PE X (.Call (.Attribute o name apos) (e :: es) [] cpos) (tE F (eM chkT g fo f)) :=
  (pe_bmT pa slot hty hm ho ha hbase hfew hline hs hplain).wk fun σ H Q ⟨env, ops, G, r, env', I, e, q⟩ => by
    obtain ⟨⟨ro, e1⟩, h1, e⟩ := bind_some e
    split at e
    · rename_i hc
      obtain ⟨⟨rs, e2⟩, h2, h3⟩ := bind_some e
      refine ⟨env, ops, G, ro, e1, I, h1, fun x G1 H1 s1 I1 => ?_⟩
      refine ⟨?_, ?_⟩
      · obtain ⟨ds, hd⟩ := Option.isSome_iff_exists.mp hc
        have hd' : ro.dat e1 = some (.tuple ds) := by unfold R.tup at hd; split at hd <;> first | (cases hd; assumption) | cases hd
        obtain ⟨a, vs, e3, e4, _⟩ := RepS.bare kb I1 (v := x) (r := ro) (by simp) hd'
        exact ⟨a, vs, e3, by rw [hK]; exact e4⟩
      · refine ⟨e1, _, G1, rs, e2, I1, h2, fun ps G2 H2 hp s2 I2 => ?_⟩
        subst hp
        exact hg e2 ops x ro ps G2 σ H2 r env' Q (by simpa using I2) h3 fun v G' H' s3 I3 => q v G' H' ((s1.trans s2).trans s3) I3
    · cases e
/-! ### list * int -/
def gRep : G2 := fun ra rb env => (ra.ownO env).bind fun o => match o with
  | .lst ds => rb.int.bind fun n => if -1000000 ≤ n ∧ n ≤ 1000 ∧ ds.length ≤ 1000 then some (.new (.lst (List.replicate n.toNat ds).flatten), env) else none
  | _ => none
theorem dpAll_rep {K : PySem.W.Frag} {G : Hp} {ds : List D} {vs : List V} (h : DpAll K G vs ds) : ∀ n, DpAll K G (List.replicate n vs).flatten (List.replicate n ds).flatten
  | 0 => .nil
  | n + 1 => by
    rw [List.replicate_succ, List.replicate_succ, List.flatten_cons, List.flatten_cons]
    exact dpAll_app h (dpAll_rep h n)
theorem s_rep : S2 F rRep gRep := by
  intro env ops G σ H x y ra rb r env' Q I h k
  obtain ⟨o, h1, h⟩ := bind_some h
  split at h
  · rename_i ds
    obtain ⟨n, h2, h⟩ := bind_some h
    split at h
    · rename_i hn
      cases h
      obtain rfl := R.int_eq h2
      obtain ⟨a, rfl, ⟨vs, q1, q2⟩, _⟩ := I.ownO (r := ra) (v := x) (by simp) h1
      have hl := dpAll_len q2
      have : vs.length * n.toNat ≤ 1000 * 1000 := Nat.mul_le_mul (by omega) (by omega)
      refine ⟨a, n, vs, rfl, I.vint (by simp), q1, by omega, by omega, by rw [sizeLine_eq]; omega, fun p hp => I.retL k (dpAll_rep q2 n.toNat) p hp⟩
    · cases h
  · cases h
end
section
variable {env : En} {r ra rb : R} {d e : D} {ds : List D} {n i : Int} {x z : Str}
theorem v_iAny {f : FE} : iAny f env = bnd (fun p => lockA p.1 p.2) (f env) := rfl
theorem v_lockA_s : lockA (.val (.str x)) env = some ((signs x, none), env) := rfl
theorem v_lockA_l : lockA (.val (.list ds)) env = some ((ds, none), env) := rfl
theorem v_lockA_t : lockA (.val (.tuple ds)) env = some ((ds, none), env) := rfl
def inT (neg : Bool) (ra rb : R) (env : En) : Option Str → Option (R × En)
  | some z => ra.str.bind fun x => (oneS x).map fun c => (.val (.bool (bneg neg (decide (c ∈ z.cps.toList)))), env)
  | none => gIn neg ra rb env
theorem v_gInT {neg : Bool} : gInT neg ra rb env = inT neg ra rb env rb.str := by
  unfold gInT inT
  cases rb.str <;> rfl
theorem v_inT_s {neg : Bool} : inT neg ra rb env (some z) = bnd (fun x => (oneS x).map fun c => (.val (.bool (bneg neg (decide (c ∈ z.cps.toList)))), env)) ra.str := rfl
theorem v_gLtA : gLtA ra rb env = ltD env (ra.dat env) (rb.dat env) := rfl
theorem v_ltD_i : ltD env (some (.int i)) (some (.int n)) = some (.val (.bool (decide (i < n))), env) := rfl
theorem v_ltD_s : ltD env (some (.str x)) (some (.str z)) = if okCmp (.str x) (.str z) = true then some (.val (.bool (PySem.W.dataLt (.str x) (.str z))), env) else none := rfl
theorem v_gReprA : gReprA [r] env = bnd (fun d => if (reprOk d || reprOkB d) = true then some (.val (.str d.shown), env) else none) (r.dat env) := rfl
theorem v_eLenSet {f : FE} : eLenSet f env = bnd (fun p => lenSetD p.2 (p.1.dat p.2)) (f env) := rfl
theorem v_lenSetD : lenSetD env (some (.tuple ds)) = bnd (fun xs => if xs.length < 4000 then some (.val (.int (HT.dcount xs xs.length : Nat)), env) else none) (strsOf ds) := rfl
theorem v_eNotInRg {fa fn : FE} : eNotInRg fa fn env = bnd (fun p => bnd (fun q => bnd (fun i => q.1.int.map fun n => (.val (.bool (!decide (0 ≤ i ∧ i < n))), q.2)) p.1.int) (fn p.2)) (fa env) := rfl
theorem v_chkT : chkT r env = (r.tup env).isSome := rfl
theorem v_tup_val : R.tup (.val (.tuple ds)) env = some ds := rfl
theorem v_gTIndex {q : R} : gTIndex r [q] env = bnd (fun ds => bnd (fun xs => bnd (fun z => (xs.findIdx? (· == z)).map fun j => (.val (.int (j : Nat)), env)) q.str) (strsOf ds)) (r.tup env) := rfl
theorem v_gRep_n : gRep (.new (.lst ds)) (.val (.int n)) env = if -1000000 ≤ n ∧ n ≤ 1000 ∧ ds.length ≤ 1000 then some (.new (.lst (List.replicate n.toNat ds).flatten), env) else none := rfl
end
end ML
local macro_rules
  | `(tactic| simp_all_arith! [$ls,*]) => `(tactic| simp_all_arith [ML.v_iAny, ML.v_lockA_s, ML.v_lockA_l, ML.v_lockA_t, ML.v_gInT, ML.v_inT_s, ML.v_gLtA, ML.v_ltD_i, ML.v_ltD_s, ML.v_gReprA, ML.v_eLenSet, ML.v_lenSetD, ML.v_eNotInRg, ML.v_chkT, ML.v_tup_val, ML.v_gTIndex, ML.v_gRep_n, $ls,*])
namespace ML
open PySem PySem.Spec PyProof.Rows L2

end ML

/-! ML28: a truth among numbers: b + 1, b - 1, -b -/
namespace ML
open PySem PySem.Spec PyProof.Rows L2
def b01 (b : Bool) : Int := if b = true then 1 else 0
section
variable {X : Cx} {F : Fr}
def rBI (g : Int → Int → Int) : R2 := fun x y H Q => ∃ (b : Bool) (i : Int), x = .bl b ∧ y = .int i ∧ Q (.int (g (b01 b) i)) H
theorem op_add_bi : OpR X (binaryOp .Add) (rBI fun i j => i + j) := by
  intro pins s σ H x y v u Q I rx ry h
  obtain ⟨b, i, rfl, rfl, q⟩ := h
  cases rx
  obtain ⟨t, rfl⟩ := ry
  exact PySem.IntBool.add_bool_int ⟨.int (b01 b + i), H, I.tok _, ⟨_, rfl⟩, q⟩
theorem op_sub_bi : OpR X (binaryOp .Sub) (rBI fun i j => i - j) := by
  intro pins s σ H x y v u Q I rx ry h
  obtain ⟨b, i, rfl, rfl, q⟩ := h
  cases rx
  obtain ⟨t, rfl⟩ := ry
  exact PySem.IntBool.sub_bool_int ⟨.int (b01 b - i), H, I.tok _, ⟨_, rfl⟩, q⟩
theorem gives_neg_bool (a : Bool) : Gives (Builtin.«int.__neg__» ⟨[.bool a], []⟩) (.int (-(if a = true then (1 : Int) else 0))) :=
  .of_wp fun M A E s Q h => by obtain ⟨hp, g, d, tk, os⟩ := s; wp_walk; exact ⟨_, rfl, h⟩
def rUB (g : Int → Int) : V → Hp → VK → Prop := fun x H Q => (∃ i, x = .int i ∧ Q (.int (g i)) H) ∨ ∃ b, x = .bl b ∧ Q (.int (g (b01 b))) H
theorem un_neg_b : UnR X (unaryOp .USub) (rUB fun i => -i) := by
  intro pins s σ H x v Q I rx h
  rcases h with h | ⟨b, rfl, q⟩
  · exact un_neg pins s σ H x v Q I rx h
  · cases rx
    exact unaryOp_gives (op := .USub) (PyProof.Rows.typeIs_bool' s b) rfl F.slot_bool_neg F.entry_int_neg (F.args_int_neg_1 _) (gives_neg_bool b) ⟨.int (-(b01 b)), H, I.tok _, ⟨_, rfl⟩, q⟩
def gAddB : G2 := fun ra rb env => match ra.bl, rb.int with
  | some b, some i => some (.val (.int (b01 b + i)), env)
  | _, _ => gAdd ra rb env
theorem s_addB : S2 F (fun x y H Q => rBI (fun i j => i + j) x y H Q ∨ rAddA F.K x y H Q) gAddB := by
  intro env ops G σ H x y ra rb r env' Q I h k
  unfold gAddB at h
  split at h
  · rename_i b i h1 h2
    cases h
    obtain rfl := R.bl_eq h1
    obtain rfl := R.int_eq h2
    exact .inl ⟨b, i, I.vbl (by simp), I.vint (by simp), I.retV k (.int _)⟩
  · exact .inr (s_add env ops G σ H x y ra rb r env' Q I h k)
theorem op_addB : OpR X (binaryOp .Add) (fun x y H Q => rBI (fun i j => i + j) x y H Q ∨ rAddA X.K x y H Q) := op_add_bi.or op_addA
def gSubB : G2 := fun ra rb env => match ra.bl, rb.int with
  | some b, some i => some (.val (.int (b01 b - i)), env)
  | _, _ => gSub ra rb env
theorem s_subB : S2 F (fun x y H Q => rBI (fun i j => i - j) x y H Q ∨ rI0 (fun i j => .int (i - j)) x y H Q) gSubB := by
  intro env ops G σ H x y ra rb r env' Q I h k
  unfold gSubB at h
  split at h
  · rename_i b i h1 h2
    cases h
    obtain rfl := R.bl_eq h1
    obtain rfl := R.int_eq h2
    exact .inl ⟨b, i, I.vbl (by simp), I.vint (by simp), I.retV k (.int _)⟩
  · exact .inr (s_sub env ops G σ H x y ra rb r env' Q I h k)
theorem op_subB : OpR X (binaryOp .Sub) (fun x y H Q => rBI (fun i j => i - j) x y H Q ∨ rI0 (fun i j => .int (i - j)) x y H Q) := op_sub_bi.or op_sub
def gNegB : G1 := fun ra env => match ra.bl with
  | some b => some (.val (.int (-(b01 b))), env)
  | none => gNeg ra env
theorem s_negB : S1 F (rUB fun i => -i) gNegB := by
  intro env ops G σ H x ra r env' Q I h k
  unfold gNegB at h
  split at h
  · rename_i b h1
    cases h
    obtain rfl := R.bl_eq h1
    exact .inr ⟨b, I.vbl (by simp), I.retV k (.int _)⟩
  · exact .inl (s_neg env ops G σ H x ra r env' Q I h k)
end
section
variable {env : En} {i : Int} {b : Bool} {x y : Str}
theorem v_addB_b : gAddB (.val (.bool b)) (.val (.int i)) env = some (.val (.int (b01 b + i)), env) := rfl
theorem v_addB_i {n : Int} : gAddB (.val (.int n)) (.val (.int i)) env = some (.val (.int (n + i)), env) := rfl
theorem v_subB_b : gSubB (.val (.bool b)) (.val (.int i)) env = some (.val (.int (b01 b - i)), env) := rfl
theorem v_subB_i {n : Int} : gSubB (.val (.int n)) (.val (.int i)) env = some (.val (.int (n - i)), env) := rfl
theorem v_negB_b : gNegB (.val (.bool b)) env = some (.val (.int (-(b01 b))), env) := rfl
theorem v_negB_i : gNegB (.val (.int i)) env = some (.val (.int (-i)), env) := rfl
end
end ML

/-! ML29: sorted(set(xs)), xs texts. -/
namespace HT
open PySem PySem.Spec PyProof.Rows L2
def txOf (z : Int × Value) : Str := match z.2 with
  | .str y _ => y
  | _ => ⟨#[]⟩
def TxE (prog : Program) (w : World) (z : Int × Value) : Prop := ∃ y tk, z.2 = Value.str y tk ∧ z.1 = (strKind prog w).hash y
/-- a set of texts whose order can be told -/
def TxS (prog : Program) (w : World) (hp : Heap) (S : Addr) (M : Str → Bool) (n : Nat) : Prop :=
  ∃ ob zs ep tb, hp.get? S = some ob ∧ ob.ExactSet ∧ ob.data = .set zs ep tb ∧ (∀ z ∈ zs.toList, TxE prog w z) ∧ (zs.toList.map txOf).Nodup ∧ (∀ y, M y = true ↔ y ∈ zs.toList.map txOf) ∧
    zs.size < scanBound ∧ tb.fits zs.size = true ∧ zs.size = n ∧ Ris tb.place.toList ∧ (w.params.followText "set-order" = true ∨ tb.led = true)
section
variable {prog : Program} {w : World} {hp hp' : Heap} {S : Addr} {M : Str → Bool} {n : Nat}
theorem TxS.keep (T : TxS prog w hp S M n) (k : ∀ ob, hp.get? S = some ob → hp'.get? S = some ob) : TxS prog w hp' S M n := by
  obtain ⟨ob, zs, ep, tb, hob, T⟩ := T
  exact ⟨ob, zs, ep, tb, k ob hob, T⟩
theorem tx_elems {l : List (Int × Value)} (g : ∀ z ∈ l, TxE prog w z) : ElemsOf (strKind prog w) l := fun z hz => by
  obtain ⟨y, tk, h1, h2⟩ := g z hz
  refine ⟨⟨y, by rw [h1]; exact strKind_is _ _ y tk, h2⟩, ?_⟩
  rw [h1] <;> rfl
theorem tx_is {z : Int × Value} (g : TxE prog w z) (y : Str) : (strKind prog w).is y z.2 = true ↔ txOf z = y := by
  obtain ⟨y0, tk, h1, _⟩ := g
  unfold txOf
  rw [h1]
  show ((y0 == y) = true) ↔ y0 = y
  exact beq_iff_eq
theorem tx_mem {l : List (Int × Value)} (g : ∀ z ∈ l, TxE prog w z) (y : Str) : y ∈ l.map txOf ↔ ∃ z ∈ l, (strKind prog w).is y z.2 = true := by
  rw [List.mem_map]
  exact ⟨fun ⟨z, hz, q⟩ => ⟨z, hz, (tx_is (g z hz) y).2 q⟩, fun ⟨z, hz, q⟩ => ⟨z, hz, (tx_is (g z hz) y).1 q⟩⟩
theorem TxS.setOf (T : TxS prog w hp S M n) : hp.SetOf (strKind prog w) S M n := by
  obtain ⟨ob, zs, ep, tb, hob, hx, hd, g, _, hm, hb, hf, hn, _⟩ := T
  exact ⟨ob, zs, ep, tb, hob, hx, hd, tx_elems g, fun y => (hm y).trans (tx_mem g y), hb, hf, hn⟩
end
section
variable {prog : Program} {w : World} {A : Around} {E : Value → Shared → Prop} {s : Shared} {S : Addr} {M : Str → Bool} {n : Nat}
theorem tx_store {gv : Bool → Sem Unit} (hgv : ∀ (b : Bool) (s1 : Shared) (Q1 : Unit → Shared → Prop), Q1 () s1 → wpAny (model prog w) A (gv b) Q1 E s1)
    {ob : Obj} {zs : Array (Int × Value)} {ep : Nat} {tb : SetTable} (hob : s.heap.get? S = some ob) (hx : ob.ExactSet) (hd : ob.data = .set zs ep tb)
    {ys : Array (Int × Value)} {t2 : SetTable} {M' : Str → Bool} (g1 : ∀ z ∈ ys.toList, TxE prog w z) (nd1 : (ys.toList.map txOf).Nodup) (m1 : ∀ y, M' y = true ↔ y ∈ ys.toList.map txOf)
    (b1 : ys.size < scanBound) (f2 : t2.fits ys.size = true) (r2 : Ris t2.place.toList) (l2 : w.params.followText "set-order" = true ∨ t2.led = true) {dm : Bool} {R : Option Bool → Shared → Prop}
    (hR : ∀ h', Heap.SameBut S s.heap h' → TxS prog w h' S M' ys.size → R (some true) { s with heap := h' }) :
    wpAny (model prog w) A (storeSet S ys t2 >>= fun _ => if (!dm && t2.tooFull) = true then
        gv (relayAll t2 ys (SetTable.grown ys.size)).2.2 >>= fun _ => storeSet S (relayAll t2 ys (SetTable.grown ys.size)).1 (relayAll t2 ys (SetTable.grown ys.size)).2.1 >>= fun _ => pure (some true)
      else pure (some true)) R E s := by
  refine wpAny_bind (wpAny_storeSet_of hob hd ?_ (fits_of_scanBound b1))
  have o1 := store_at (es' := ys) (t' := t2) hob hd
  have u1 := Heap.SameBut.update s.heap S (Obj.putSet ys t2)
  split
  · have pm := relayAll_perm t2 ys (SetTable.grown ys.size)
    have f3 := relayAll_fits t2 ys (SetTable.grown ys.size)
    have r3 := relayAll_ris t2 ys (SetTable.grown ys.size)
    have l3 := relayAll_led t2 ys (SetTable.grown ys.size)
    generalize relayAll t2 ys (SetTable.grown ys.size) = Z at pm f3 r3 l3 ⊢
    obtain ⟨xs2, t3, gave⟩ := Z
    dsimp only at pm f3 r3 l3 ⊢
    have z2 : xs2.size = ys.size := by rw [← Array.length_toList, pm.length_eq, Array.length_toList]
    have b2 : xs2.size < scanBound := by omega
    refine wpAny_bind (hgv _ _ _ ?_)
    refine wpAny_bind (wpAny_storeSet_of o1 rfl ?_ (fits_of_scanBound b2))
    have o2 := store_at (es' := xs2) (t' := t3) o1 rfl
    exact wpAny_pure (hR _ (u1.trans (Heap.SameBut.update _ S _)) ⟨_, xs2, _, t3, o2, hx, rfl, fun z hz => g1 z (pm.mem_iff.mp hz), (pm.map txOf).nodup_iff.mpr nd1, fun y => (m1 y).trans (pm.map txOf).mem_iff.symm, b2, f3, z2, r3,
      l2.imp id fun z => by rw [l3]; exact z⟩)
  · exact wpAny_pure (hR _ u1 ⟨_, ys, _, t2, o1, hx, rfl, g1, nd1, m1, b1, f2, rfl, r2, l2⟩)
theorem tx_add {y : Str} {tk : Tok} {Q : Bool → Shared → Prop} (T : TxS prog w s.heap S M n) (room : n + 1 < scanBound)
    (hQ : ∀ h' b, Heap.SameBut S s.heap h' → TxS prog w h' S (fun z => M z || decide (z = y)) (if M y = true then n else n + 1) → Q b { s with heap := h' }) :
    wpAny (model prog w) A (setAddHashed S (.str y tk) ((strKind prog w).hash y)) Q E s := by
  obtain ⟨ob, zs, ep, tb, hob, hx, hd, g, nd, hm, hb, hf, hn, hr, hl⟩ := T
  have isy : (strKind prog w).is y (.str y tk) = true := strKind_is prog w y tk
  have sc : (Value.str y tk).scannable = true := rfl
  have els : ElemsOf (strKind prog w) zs.toList := tx_elems g
  unfold setAddHashed setAddHashedIn
  refine wpAny_holding (wpAny_bind (wpAny_setState_of hob hd hf ?_))
  dsimp only
  rw [byScan_of sc hb els]
  simp only [↓reduceIte]
  unfold setAddByScan
  refine wpAny_bind (wpAny_bind (wpAny_rule ?_))
  refine wpAny_bind (wpAny_setScan_of isy hob hd hf els ?_)
  cases hfi : List.findIdx? (fun z => (strKind prog w).is y z.2) zs.toList with
  | some j =>
    dsimp only
    obtain ⟨hj, pj, _⟩ := List.findIdx?_eq_some_iff_getElem.mp hfi
    have there : M y = true := (hm y).2 ((tx_mem g y).2 ⟨zs.toList[j], List.getElem_mem hj, pj⟩)
    refine wpAny_pure (wpAny_pure (hQ s.heap _ (Heap.SameBut.refl S s.heap) ⟨ob, zs, ep, tb, hob, hx, hd, g, nd, fun z => ?_, hb, hf, by rw [if_pos there]; exact hn, hr, hl⟩))
    rw [Bool.or_eq_true, decide_eq_true_eq, ← hm z]
    exact ⟨fun q => q.elim id (fun e => e ▸ there), .inl⟩
  | none =>
    dsimp only
    have away : y ∉ zs.toList.map txOf := fun q => by
      obtain ⟨z, hz, q⟩ := (tx_mem g y).1 q
      have c := List.findIdx?_eq_none_iff.mp hfi z hz
      rw [q] at c
      exact absurd c (by simp)
    have notM : M y = false := by
      cases q : M y with
      | false => rfl
      | true => exact absurd ((hm y).1 q) away
    have gw : ∀ (b : Bool) {s1 : Shared} {Q1 : Unit → Shared → Prop}, Q1 () s1 → wpAny (model prog w) A (match b with | true => rule "set.scan.the-table-gave-way" | false => pure ()) Q1 E s1 := fun b s1 Q1 q => by
      cases b
      · exact wpAny_pure q
      · exact wpAny_rule q
    have pm := layNew_perm tb zs ((strKind prog w).hash y) (.str y tk)
    have f1 := layNew_fits tb zs ((strKind prog w).hash y) (.str y tk)
    have r1 := layNew_ris tb zs ((strKind prog w).hash y) (.str y tk) hr
    have l1 := layNew_led tb zs ((strKind prog w).hash y) (.str y tk)
    generalize layNew tb zs ((strKind prog w).hash y) (.str y tk) = Z at pm f1 r1 l1 ⊢
    obtain ⟨ys, t1, dm, gave⟩ := Z
    dsimp only at pm f1 r1 l1 ⊢
    rw [Array.toList_push] at pm
    have pc : ys.toList.Perm (((strKind prog w).hash y, Value.str y tk) :: zs.toList) := pm.trans (List.perm_append_singleton _ _)
    have pk : (ys.toList.map txOf).Perm (y :: zs.toList.map txOf) := pc.map txOf
    have g1 : ∀ z ∈ ys.toList, TxE prog w z := fun z hz => (List.mem_cons.mp (pc.mem_iff.mp hz)).elim (fun q => by rw [q]; exact ⟨y, tk, rfl, rfl⟩) (g z)
    have nd1 : (ys.toList.map txOf).Nodup := pk.nodup_iff.mpr (List.nodup_cons.mpr ⟨away, nd⟩)
    have m1 : ∀ z, (M z || decide (z = y)) = true ↔ z ∈ ys.toList.map txOf := fun z => by
      rw [Bool.or_eq_true, decide_eq_true_eq, hm z, pk.mem_iff, List.mem_cons]
      exact Or.comm
    have sz : ys.size = n + 1 := by rw [← Array.length_toList, pc.length_eq, List.length_cons, Array.length_toList, hn]
    have b1 : ys.size < scanBound := by omega
    have l2 : w.params.followText "set-order" = true ∨ t1.led = true := hl.imp id fun z => by rw [l1]; exact z
    have fin : ∀ h', Heap.SameBut S s.heap h' → TxS prog w h' S (fun z => M z || decide (z = y)) ys.size → Q true { s with heap := h' } := fun h' sb r => hQ h' true sb (by
      rw [sz] at r
      rw [notM]
      exact r)
    refine wpAny_bind (gw _ ?_)
    split
    · refine wpAny_bind ?_
      rw [hashByValue_scannable 8 sc]
      refine wpAny_pure (tx_store (fun b s1 Q1 q => ?_) hob hx hd g1 nd1 m1 b1 ?_ ?_ ?_ fun h' sb r => ?_)
      · cases b
        · first | exact wpAny_pure q | exact wpAny_rule q
        · first | exact wpAny_pure q | exact wpAny_rule q
      · first | (split <;> first | exact f1 | exact SetTable.fits_plain_off f1) | exact f1
      · first | (split <;> exact r1) | exact r1
      · first | (split <;> exact l2) | exact l2
      · dsimp only
        exact wpAny_pure (fin h' sb r)
    · refine wpAny_bind (wpAny_pure ?_)
      simp only [↓reduceIte]
      refine tx_store (fun b s1 Q1 q => ?_) hob hx hd g1 nd1 m1 b1 f1 r1 l2 fun h' sb r => ?_
      · cases b
        · first | exact wpAny_pure q | exact wpAny_rule q
        · first | exact wpAny_pure q | exact wpAny_rule q
      · dsimp only
        exact wpAny_pure (fin h' sb r)
end
/-! ### the loop of set(xs) -/
section
variable {prog : Program} {w : World} {A : Around} {R : Result → Shared → Prop} {I : Addr} {fp wr : List Addr} {G : Array GenState → Array GenState → Prop} {n : Nat} {P : Nat → Value → Prop} {St : Nat → Shared → Prop}
theorem tx_fresh {hp : Heap} : TxS prog w (hp.push (ML.emptySet w)) hp.objs.size (fun _ => false) 0 := by
  refine ⟨ML.emptySet w, #[], 0, _, Heap.get?_push_size _ rfl, ⟨rfl, rfl, rfl⟩, rfl, (fun z hz => by simp at hz), (by simp), (fun y => by simp), (by decide), (by rfl), rfl, List.Pairwise.nil, ?_⟩
  show _ ∨ (!w.params.followText "set-order") = true
  cases w.params.followText "set-order"
  · exact .inr rfl
  · exact .inl rfl
theorem tx_loop (W : WalksS prog w A.in1 I fp wr G n P St) (S : Addr) (hSf : S ∉ fp) (xs : List Str) (hsz : xs.length = n) (hn : n < 4000)
    (hval : ∀ i v, P i v → ∃ x t, xs[i]? = some x ∧ v = .str x t) (k i : Nat) (s : Shared) (hk : n - i = k) (hi : i ≤ n) (hst : St i s)
    (hS : TxS prog w s.heap S (fun y => decide (y ∈ xs.take i)) (dcount xs i))
    (hR : ∀ s', Moved (S :: wr) G s s' → TxS prog w s'.heap S (fun y => decide (y ∈ xs.take n)) (dcount xs n) → R (.ok (.ret .none)) s') :
    codeAny (model prog w) A (.builtin "set.update.loop" ⟨[.ref S, .ref I], []⟩) R s := by
  have hSw : S ∉ wr := fun h => hSf (W.sub _ h)
  have hsub : ∀ b ∈ wr, b ∈ S :: wr := fun b hb => List.mem_cons_of_mem _ hb
  induction k generalizing i s with
  | zero =>
    have hin : i = n := by omega
    subst hin
    refine codeAny_builtin PyProof.Rows.F.entry_set_update_loop ?_
    rw [Around.under_plainId PyProof.Rows.F.plain_set_update_loop _]
    show wpAny _ A.in1 (pyNext (.ref I) >>= _) _ _ s
    refine wpAny_bind (W.done s _ _ hst fun s' hm => ?_)
    show wpAny _ A.in1 (ret Value.none) _ _ s'
    exact wpAny_pure (hR s' (hm.mono hsub) (hS.keep fun o e => hm.heap S _ hSw e))
  | succ k ih =>
    have hlt : i < n := by omega
    refine codeAny_builtin PyProof.Rows.F.entry_set_update_loop ?_
    rw [Around.under_plainId PyProof.Rows.F.plain_set_update_loop _]
    show wpAny _ A.in1 (pyNext (.ref I) >>= _) _ _ s
    refine wpAny_bind (W.item i s _ _ hlt hst fun v s' hP hst' hm => ?_)
    obtain ⟨x, t, hx, rfl⟩ := hval i v hP
    have hS' : TxS prog w s'.heap S (fun y => decide (y ∈ xs.take i)) (dcount xs i) := hS.keep fun o e => hm.heap S _ hSw e
    show wpAny _ A.in1 (holding [Value.str x t] (setAdd S (.str x t)) >>= _) _ _ s'
    refine wpAny_bind (wpAny_holding ?_)
    unfold setAdd
    refine wpAny_holding ?_
    refine wpAny_bind ((strKind prog w).pyHash (k := x) (strKind_is _ _ _ _) ?_)
    have hle := dcount_le xs i
    refine tx_add (s := { s' with toks := s'.toks + 1 }) hS' (by unfold scanBound; omega) fun h' b0 hsb hS2 => ?_
    have et : xs.take (i + 1) = xs.take i ++ [x] := by rw [List.take_succ, hx]; rfl
    have e1 : (fun z => decide (z ∈ xs.take i) || decide (z = x)) = fun z => decide (z ∈ xs.take (i + 1)) := by
      funext z
      rw [et]
      by_cases e : z = x <;> simp [e]
    have e2 : (if decide (x ∈ xs.take i) = true then dcount xs i else dcount xs i + 1) = dcount xs (i + 1) := by
      rw [dcount_succ]
      have : newAt xs i = !decide (x ∈ xs.take i) := by unfold newAt; rw [hx]; simp
      rw [this]
      by_cases e : x ∈ xs.take i <;> simp [e]
    rw [e1, e2] at hS2
    refine wpAny_pure ⟨plainId_quiet PyProof.Rows.F.plain_set_update_loop _, ih (i + 1) _ (by omega) hlt (W.frame _ s' _ _ hst' (Nat.le_succ _) fun b hb o e => ?_) hS2 fun s'' hm'' hS'' => ?_⟩
    · rw [hsb.2 b (fun h : b = S => hSf (by rw [← h]; exact hb))]; exact e
    · refine hR s'' (Moved.trans W.gtrans ((hm.mono hsub).then_heap (Nat.le_succ _) fun b o hb e => ?_) hm'') hS''
      rw [hsb.2 b (fun h : b = S => hb (by rw [h]; exact List.mem_cons_self))]; exact e
end
/-! ### the texts of a list, each once, in order -/
def leT (a b : Str) : Bool := decide (a.cps.toList ≤ b.cps.toList)
def uniqT : List Str → List Str
  | [] => []
  | x :: l => if x ∈ l then uniqT l else x :: uniqT l
theorem uniqT_mem : ∀ {xs : List Str} {y : Str}, y ∈ uniqT xs ↔ y ∈ xs
  | [], y => by simp [uniqT]
  | x :: l, y => by
    have ih := uniqT_mem (xs := l) (y := y)
    unfold uniqT
    by_cases h : x ∈ l
    · rw [if_pos h, ih, List.mem_cons]
      exact ⟨.inr, fun z => z.elim (fun e => e ▸ h) id⟩
    · rw [if_neg h, List.mem_cons, List.mem_cons, ih]
theorem uniqT_nodup : ∀ {xs : List Str}, (uniqT xs).Nodup
  | [] => List.Pairwise.nil
  | x :: l => by
    unfold uniqT
    by_cases h : x ∈ l
    · rw [if_pos h]; exact uniqT_nodup
    · rw [if_neg h]
      exact List.nodup_cons.mpr ⟨fun z => h (uniqT_mem.mp z), uniqT_nodup⟩
def usortT (xs : List Str) : List Str := (uniqT xs).mergeSort leT
theorem str_ext {a b : Str} (h : a.cps.toList = b.cps.toList) : a = b := by
  cases a; cases b
  simp only [Str.mk.injEq]
  exact Array.toList_inj.mp h
theorem leT_total (a b : Str) : (leT a b || leT b a) = true := by
  unfold leT
  rw [Bool.or_eq_true, decide_eq_true_eq, decide_eq_true_eq]
  exact List.le_total ..
theorem leT_trans (a b c : Str) (h1 : leT a b = true) (h2 : leT b c = true) : leT a c = true := by
  unfold leT at *
  rw [decide_eq_true_eq] at *
  exact List.le_trans h1 h2
theorem leT_anti (a b : Str) (h1 : leT a b = true) (h2 : leT b a = true) : a = b := by
  unfold leT at *
  rw [decide_eq_true_eq] at *
  exact str_ext (List.le_antisymm h1 h2)
theorem sort_perm {as bs : List Str} (h : as.Perm bs) : as.mergeSort leT = bs.mergeSort leT :=
  (((List.mergeSort_perm as leT).trans h).trans (List.mergeSort_perm bs leT).symm).eq_of_pairwise (fun x y _ _ h1 h2 => leT_anti x y h1 h2) (List.pairwise_mergeSort leT_trans leT_total as) (List.pairwise_mergeSort leT_trans leT_total bs)
theorem usort_of {xs ys : List Str} (nd : ys.Nodup) (h : ∀ y, y ∈ ys ↔ y ∈ xs) : ys.mergeSort leT = usortT xs :=
  sort_perm ((List.perm_ext_iff_of_nodup nd uniqT_nodup).mpr fun y => by rw [h, uniqT_mem])
section
variable {prog : Program} {w : World} {A : Around} {E : Value → Shared → Prop} {s : Shared}
def isT (u : Value) (x : Str) : Prop := ∃ t, u = Value.str x t
theorem each_txs : ∀ (zs : List Value), (∀ v ∈ zs, ∃ y t, v = Value.str y t) → ∃ ys : List Str, PySem.W.EachIs isT zs ys
  | [], _ => ⟨[], .nil⟩
  | v :: zs, h => by
    obtain ⟨y, t, rfl⟩ := h v (List.mem_cons_self ..)
    obtain ⟨ys, q⟩ := each_txs zs fun u hu => h u (List.mem_cons_of_mem _ hu)
    exact ⟨y :: ys, .cons ⟨t, rfl⟩ q⟩
def txV (v : Value) : Str := match v with
  | .str y _ => y
  | _ => ⟨#[]⟩
theorem each_map_tx : ∀ {zs : List Value} {ys : List Str}, PySem.W.EachIs isT zs ys → ys = zs.map txV
  | _, _, .nil => rfl
  | _, _, .cons ⟨t, e⟩ q => by
    subst e
    rw [each_map_tx q]; rfl
theorem each_reads {h : Heap} {l : Addr} : ∀ {zs : List Value} {ys : List Str}, PySem.W.EachIs isT zs ys → PySem.W.EachIs (fun v b => ∃ as, Reads h v (PyData.str b) as ∧ l ∉ as) zs ys
  | _, _, .nil => .nil
  | _, _, .cons ⟨t, e⟩ q => by
    subst e
    exact .cons ⟨[], .str _ t, by simp⟩ (each_reads q)
theorem vals_txs : ∀ {zs : List Value} {ys : List Str}, PySem.W.EachIs isT zs ys → Vals (ys.map V.str) zs
  | _, _, .nil => .nil
  | _, _, .cons ⟨t, e⟩ q => by
    subst e
    exact .cons ⟨t, rfl⟩ (vals_txs q)
/-- sorted(S), a set of texts -/
theorem sorted_tx {S : Addr} {xs : List Str} {m : Nat} {Q : Value → Shared → Prop} (T : TxS prog w s.heap S (fun y => decide (y ∈ xs)) m) (hh : A.handled = none) (hm : m ≤ 4000) (hu : A.units + 4 < cLine)
    (hQ : ∀ s' p (out : Array Value) (c : Nat), (∀ b o, s.heap.get? b = some o → s'.heap.get? b = some o) → s'.gens = s.gens → s'.os = s.os → s.heap.objs.size ≤ p →
      s'.heap.get? p = some (seqObj "list" out c) → Vals ((usortT xs).map V.str) out.toList → (usortT xs).length ≤ 4000 → Q (.ref p) s') :
    wpAny (model prog w) A (call (.builtin "sorted") [.ref S]) Q E s := by
  obtain ⟨ob, zs, ep, tb, hob, hx, hd, g, nd, hmem, hb, hf, hn, hr, hl⟩ := T
  refine Calls.call_function_entry kind_sorted plain_sorted entry_sorted (args_sorted1 _) ?_
  unfold Builtin.«sorted»
  refine wpAny_bind (m := checkCount "sorted" 1 1 _) (wpAny_pure (wpAny_bind (collect_set (A := A.in1) hh ⟨ob, hob, hx.1, hd⟩ hf hb hr hl fun s1 vs k1 hz g1 o1 pm => ?_)))
  have len : vs.length = m := by rw [pm.length_eq, List.length_map, Array.length_toList]; exact hn
  obtain ⟨ys, hys⟩ := each_txs vs fun v hv => by
    obtain ⟨z, hz, q⟩ := List.mem_map.mp (pm.mem_iff.mp hv)
    obtain ⟨y, tk, h1, _⟩ := g z hz
    exact ⟨y, tk, by rw [← q]; exact h1⟩
  have ey := each_map_tx hys
  have yp : ys.Perm (zs.toList.map txOf) := by
    have q := pm.map txV
    rw [List.map_map, ← ey] at q
    exact q
  have es : ys.mergeSort leT = usortT xs := usort_of (yp.nodup_iff.mpr nd) fun y => by rw [yp.mem_iff, ← hmem y, decide_eq_true_eq]
  have yl : ys.length = m := by rw [ey, List.length_map]; exact len
  refine wpAny_bind (wpAny_newList ?_ (by rw [len, sizeLine_eq]; omega))
  have oL : (s1.heap.push (seqObj "list" vs.toArray 0)).get? s1.heap.objs.size = some (seqObj "list" vs.toArray 0) := Heap.get?_push_size _ rfl
  refine wpAny_bind (wpAny_holding (PySem.W.list_sort_data (enc := fun b : Str => PyData.str b) (R := isT) (s := { s1 with heap := s1.heap.push (seqObj "list" vs.toArray 0) }) oL hys (each_reads hys) ?_ ?_ (by rw [yl, sizeLine_eq]; omega) (fun b hb => ?_) fun out ho eo => ?_))
  · intro d hd d' hd'
    obtain ⟨a, _, rfl⟩ := List.mem_map.mp hd
    obtain ⟨b, _, rfl⟩ := List.mem_map.mp hd'
    simp [PySem.W.alike]
  · refine .inr fun d hd => ?_
    obtain ⟨a, _, rfl⟩ := List.mem_map.mp hd
    exact ⟨fun h => PyData.noConfusion h, fun xs h => PyData.noConfusion h⟩
  · show _ + (PyData.depth (.str b)) < cLine
    have : PyData.depth (.str b) = 0 := by simp [PyData.depth]
    rw [this]
    show A.units + 1 + 1 + 0 < cLine
    omega
  · rw [PySem.W.dataLe_str (fun b : Str => b)] at eo
    have eo : PySem.W.EachIs isT out (ys.mergeSort leT) := eo
    rw [es] at eo
    obtain ⟨c, hc⟩ := sortedHeap_at (vs := vs) (out := out.toArray) oL
    have lu : (usortT xs).length = m := by rw [← es, List.length_mergeSort]; exact yl
    refine wpAny_pure ⟨_, rfl, hQ _ s1.heap.objs.size out.toArray c (fun b u e => ?_) g1 o1 hz hc (by simpa using vals_txs eo) (by omega)⟩
    have q := k1 b u e
    have hlt := Heap.lt_size q
    show (sortedHeap (s1.heap.push (seqObj "list" vs.toArray 0)) s1.heap.objs.size vs out.toArray).get? b = some u
    rw [sortedHeap_old (Nat.ne_of_lt hlt) (by rw [size_push']; exact Nat.lt_succ_of_lt hlt)]
    exact Heap.get?_push_of_some _ q
end
end HT

/-! ML30: sorted(set(xs)), the word. -/
namespace HT
open PySem PySem.Spec PyProof.Rows L2
section
variable {P : Program} {w : World} {A : Around} {E : Value → Shared → Prop} {s : Shared}
set_option maxHeartbeats 3200000 in
theorem setOfTx {l : Addr} {its : Array Value} (xs : List Str) {Q : Value → Shared → Prop} (hh : A.handled = none) (hl : s.heap.IsList l its) (hit : StrsAre its.toList xs) (hb : xs.length < 4000)
    (h : ∀ (h' : Heap) (tk : Nat), TxS P w h' s.heap.objs.size (fun y => decide (y ∈ xs)) (dcount xs xs.length) → (∀ b o, s.heap.get? b = some o → h'.get? b = some o) → Q (.ref s.heap.objs.size) { s with heap := h', toks := tk }) :
    wpAny (model P w) A (call (.type "set") [.ref l]) Q E s := by
  have size : its.size = xs.length := by rw [← StrsAre.len_eq hit, Array.length_toList]
  obtain ⟨c0, tl, hmro⟩ := PySem.F.called_set.mro
  have hmade := PySem.F.called_set.made; have hsub := PySem.F.called_set.sub
  refine wpAny_call (codeAny_of_tree (show wpAny _ _ (callAny (.type "set") _) _ _ _ from ?_))
  refine wpAny_pure (And.intro (Code.quiet_builtin _ (by decide +kernel)) (codeAny_builtin PySem.F.entry_type_call ?_))
  rw [Around.under_plain (weight_type_call_type "set" [Value.ref l] ([] : List (Str × Value))) rfl]
  have h1 := PySem.F.called_set.notType; have h2 := PySem.F.called_set.canCreate; have hct := PySem.F.typeCall_set_1 (.ref l)
  repeat (any_goals (first | assumption | wp_step))
  refine codeAny_mono (code_set_led1 (.ref l) (E := E) (Q₁ := fun ob s₁ => ob = .ref s.heap.objs.size ∧ s₁ = { s with heap := s.heap.push (ML.emptySet w) }) (And.intro rfl rfl)) fun r s₁ hr => ?_
  cases r with
  | error e => exact hr
  | ok fl =>
    cases fl with
    | ret ob =>
      obtain ⟨rfl, rfl⟩ := hr
      have hS : (s.heap.push (ML.emptySet w)).get? s.heap.objs.size = some (ML.emptySet w) := Heap.get?_push_size _ rfl
      have hT : Shared.TypeIs { s with heap := s.heap.push (ML.emptySet w) } (.ref s.heap.objs.size) "set" := ⟨_, hS, rfl⟩
      have hli := PySem.F.called_set.init.lookup; have hbi := PySem.F.called_set.init.bind (.ref s.heap.objs.size)
      repeat (any_goals (first | assumption | wp_step))
      refine codeAny_mono (codeAny_call_builtin (R := wants (fun r s₂ => r = .none ∧ ∃ h' tk, s₂ = { s with heap := h', toks := tk } ∧ TxS P w h' s.heap.objs.size (fun y => decide (y ∈ xs)) (dcount xs xs.length) ∧ ∀ b o, s.heap.get? b = some o → h'.get? b = some o) E)
        PySem.F.called_set.init.plain PySem.F.entry_set_init (check_set_init_1 hT ?_)) fun r₂ s₂ hr₂ => ?_
      · obtain ⟨ol, hol, hcl, nl, hdl⟩ := hl
        obtain ⟨ocls, odict, odata, oslots⟩ := ol
        simp only at hcl hdl
        subst hcl hdl
        have hol' : (s.heap.push (ML.emptySet w)).get? l = some { cls := .type "list", dict := odict, data := .seq its nl, slots := oslots } := Heap.get?_push_of_some _ hol
        have hsls := PySem.F.sub_list_set; have hslf := PySem.F.sub_list_frozenset
        have hne : (Value.type "list" == Value.type "dict") = false := by decide
        have hl1 : (s.heap.push (ML.emptySet w)).IsList l its := ⟨_, hol', rfl, nl, rfl⟩
        unfold Builtin.«set.__init__» noKeywords Builtin.Frozenset.updateFrom
        generalize hPI : pyIter = PI
        wp_walk
        subst hPI
        refine wpAny_pyIter_list hl1 (wpAny_bind (wpAny_runValue ?_))
        have hlS : l < s.heap.objs.size := Heap.lt_size hol
        have zz : (s.heap.push (ML.emptySet w)).objs.size = s.heap.objs.size + 1 := Heap.size_push ..
        have hneI : l ≠ (s.heap.push (ML.emptySet w)).objs.size := zz ▸ Nat.ne_of_lt (Nat.lt_succ_of_lt hlS)
        have hSf : s.heap.objs.size ∉ [(s.heap.push (ML.emptySet w)).objs.size, l] := fun z => by
          rcases List.mem_cons.mp z with z | z
          · rw [zz] at z; exact Nat.ne_of_lt (Nat.lt_succ_self _) z
          · exact Nat.ne_of_gt hlS (List.mem_singleton.mp z)
        have hval : ∀ (i : Nat) (v : Value), its[i]? = some v → ∃ x t, xs[i]? = some x ∧ v = .str x t := fun i v hv => by
          obtain ⟨t, e⟩ := SS.strs_at hit i v (by rw [Array.getElem?_toList]; exact hv)
          have hi : i < xs.length := size ▸ (Array.getElem?_eq_some_iff.mp hv).1
          exact ⟨xs[i], t, by simp [hi], by rw [e]; simp [hi]⟩
        have hh3 : A.in1.in1.in1.handled = none := by simp [hh]
        refine tx_loop ((Walks.list hh3 _ l hneI its).toS) s.heap.objs.size hSf xs size.symm (by omega) hval (its.size - 0) 0 _ (by omega) (Nat.zero_le _) ⟨⟨_, Heap.get?_push_size _ rfl, rfl, rfl⟩, (hl1.push _)⟩ ?_ ?_
        · have e0 : (fun y => decide (y ∈ xs.take 0)) = fun _ => false := by funext y; simp
          show TxS P w _ _ (fun y => decide (y ∈ xs.take 0)) 0
          rw [e0]
          exact (tx_fresh (prog := P) (w := w) (hp := s.heap)).keep fun o e => Heap.get?_push_of_some _ e
        · intro s' hm hS'
          obtain ⟨h', g2, d', tk', os'⟩ := s'
          obtain rfl : g2 = s.gens := hm.gens
          obtain rfl : d' = s.drawn := hm.drawn
          obtain rfl : os' = s.os := hm.os
          refine (show wpAny _ _ _ _ _ _ from wpAny_pure (show wpAny _ _ (ret Value.none) _ _ _ from wpAny_pure ⟨rfl, h', tk', rfl, ?_, fun b o e => ?_⟩))
          · rw [size, List.take_of_length_le (Nat.le_refl _)] at hS'
            exact hS'
          · have hb0 : b < s.heap.objs.size := Heap.lt_size e
            exact hm.heap b o (fun z => by
              rcases List.mem_cons.mp z with z | z
              · exact Nat.ne_of_lt hb0 z
              · have z := List.mem_singleton.mp z
                rw [zz] at z
                exact Nat.ne_of_lt (Nat.lt_succ_of_lt hb0) z) (Heap.get?_push_of_some _ (Heap.get?_push_of_some _ e))
      · cases r₂ with
        | error e => exact hr₂
        | ok fl₂ =>
          cases fl₂ with
          | ret r =>
            obtain ⟨rfl, h', tk, rfl, hS', hk'⟩ := hr₂
            repeat (any_goals (first | assumption | wp_step))
            exact h _ _ hS' hk'
          | _ => exact hr₂.elim
    | _ => exact hr.elim
end
end HT
namespace ML
open PySem PySem.Spec PyProof.Rows L2
def sortSetD (env : En) : Option D → Option (R × En)
  | some (.list ds) => (strsOf ds).bind fun xs => if xs.length < 4000 then some (.new (.lst ((HT.usortT xs).map .str)), env) else none
  | _ => none
def eSortSet (f : FE) : FE := fun env => (f env).bind fun p => sortSetD p.2 (p.1.dat p.2)
def tSortSet (K : PySem.W.Frag) (ta : TE) : TE := fun σ H Q => ta σ H fun x H1 => ∃ (l : Addr) (xs : List Str), x = .ref l ∧ SqL K H1 l (xs.map V.str) ∧ xs.length < 4000 ∧ ∀ p, H1 p = none → Q (.ref p) (upd H1 p (.lst ((HT.usortT xs).map V.str)))
section
variable {X : Cx} {F : Fr}
theorem pe_sortSet {a : Expr} {ta : TE} {p p2 q pos : Pos} (hu : X.A.units + 65 < cLine) (hc : X.calm = true) (hg : Gl X "sorted") (hm : X.mg "sorted" = none) (hg2 : Gl X "set") (hm2 : X.mg "set" = none) (ha : PE X a ta)
    (na : starEach [a] X.env = (false, eval a X.env) :: starEach [] X.env := by rfl) : PE X (.Call (.Name "sorted" p) [.Call (.Name "set" p2) [a] [] q] [] pos) (tSortSet X.K ta) := by
  refine ⟨fun pins s σ H Q I h => ?_⟩
  refine Call_ (ld_blt I hg hm PyProof.Rows.boot_sorted ?_)
  refine PyProof.Rows.callWith_builtin1 (PyProof.Rows.args_cons ?_ rfl) rfl rfl
  refine Call_ (ld_blt I hg2 hm2 PyProof.Rows.boot_set ?_)
  refine PyProof.Rows.callWith_type1 (PyProof.Rows.args_cons (thn (ha.run pins s σ H _ I h) fun v s1 ⟨x, H1, I1, r1, q1⟩ => PyProof.Rows.args_nil ?_) na) na rfl
  obtain ⟨l, xs, rfl, hq, h1, q1⟩ := q1
  cases r1
  obtain ⟨its, r, pl, hz⟩ := I1.list hq
  refine HT.setOfTx xs (I1.ok.hd hc) pl.isList (by simpa using strsAre_of r) h1 fun h' tk hS hk => ?_
  refine PyProof.Rows.args_nil ?_
  have hle := HT.dcount_le xs xs.length
  have I2 : Inv X pins σ H1 { s1 with heap := h', toks := tk } := I1.kept fun b o e => hk b o e
  refine HT.sorted_tx (s := { s1 with heap := h', toks := tk }) hS (I1.ok.hd hc) (by omega) (by omega) fun s' p out c k g o hp hpp hv hlen => ?_
  have hn : H1 p = none := I2.hok.fresh hp
  have J : Inv X pins σ (upd H1 p (.lst ((HT.usortT xs).map V.str))) { { s1 with heap := h', toks := tk } with heap := s'.heap, gens := s'.gens, drawn := s'.drawn, toks := s'.toks } :=
    I2.call (ch := []) (Un.laid k hp hn) (I2.hok.laid k hp ⟨by rw [List.length_map, sizeLine_eq]; omega, out.toList, c, hv, hpp⟩) (by rw [g]; exact I2.bare) (fun _ z => nomatch z)
  have e : s' = { { s1 with heap := h', toks := tk } with heap := s'.heap, gens := s'.gens, drawn := s'.drawn, toks := s'.toks } := by
    cases s'
    cases s1
    cases o
    rfl
  rw [e]
  exact ⟨.ref p, _, J, rfl, q1 p hn⟩
theorem dpAll_txs {K : PySem.W.Frag} {G : Hp} : ∀ (xs : List Str), DpAll K G (xs.map V.str) (xs.map PyData.str)
  | [] => .nil
  | x :: xs => .cons (.str x) (dpAll_txs xs)
theorem me_sortSet {a : Expr} {f : FE} {p p2 q pos : Pos} (hK : X.K = F.K) (hu : X.A.units + 65 < cLine) (hc : X.calm = true) (hg : Gl X "sorted") (hm : X.mg "sorted" = none) (hg2 : Gl X "set") (hm2 : X.mg "set" = none) (ha : PE X a (tE F f))
    (na : starEach [a] X.env = (false, eval a X.env) :: starEach [] X.env := by rfl) : PE X (.Call (.Name "sorted" p) [.Call (.Name "set" p2) [a] [] q] [] pos) (tE F (eSortSet f)) :=
  (pe_sortSet hu hc hg hm hg2 hm2 ha na).wk fun σ H Q ⟨env, ops, G, r, env', I, e, k⟩ => by
    obtain ⟨⟨ra, e1⟩, h1, e⟩ := bind_some e
    have e : sortSetD e1 (ra.dat e1) = some (r, env') := e
    unfold sortSetD at e
    split at e
    · rename_i ds hd
      obtain ⟨xs, h2, e⟩ := bind_some e
      split at e
      · rename_i hl
        cases e
        refine ⟨env, ops, G, ra, _, I, h1, fun v G1 H1 s1 I1 => ?_⟩
        obtain ⟨a, vs, rfl, q1, q2⟩ := I1.lst (r := ra) (v := v) (by simp) (ds := ds) (by unfold R.lst; rw [hd])
        rw [strsOf_eq h2] at q2
        rw [dpAll_strs q2] at q1
        rw [hK]
        exact ⟨a, xs, rfl, q1, hl, I1.retL (fun v G' H' s4 I4 => k v G' H' (s1.trans s4) I4) (dpAll_txs _)⟩
      · cases e
    · cases e
end
section
variable {env : En} {r : R} {ds : List D}
theorem v_eSortSet {f : FE} : eSortSet f env = bnd (fun p => sortSetD p.2 (p.1.dat p.2)) (f env) := rfl
theorem v_sortSetD : sortSetD env (some (.list ds)) = bnd (fun xs => if xs.length < 4000 then some (.new (.lst ((HT.usortT xs).map .str)), env) else none) (strsOf ds) := rfl
end
end ML

/-! what some defs do: printed by gen.py -/
namespace Dm
open PySem PySem.Spec PyProof.Rows L2 ML 
def BF_blocks_of_1 : FS := (sIf (rB (e2 (gEqA false) (eV 2) (eV 1))) (sRet 2 (eV 3)) sNil)
def LF_blocks_of_2 : FS := (sFor 2 (iSeq (e2 gIx (eV 0) (eK (.int 1)))) (.tp [(.nm 2), (.nm 3)]) BF_blocks_of_1)
def F_blocks_of : Fn := fnBody 2 4
    (sSeq LF_blocks_of_2
    sNever)
def F_nexts : Fn := fnBody 3 5
    (sSeq (sSet 3 3 (e2 gIx (e2 gIx (eCall 2 F_blocks_of [] (aCons (eV 0) (aCons (eV 1) aNil))) (eV 2)) (eK (.int 1))))
    (sSeq (sSet 3 4 (eDisp [((eK (.str "go")), (eSl (eV 3) (oSome (eK (.int 1))) oNone)), ((eK (.str "if")), (eSl (eV 3) (oSome (eK (.int 2))) oNone)), ((eK (.str "back")), (eTup aNil))]))
    (sRet 3 (eN gTuple (aCons (eN gSorted (aCons (eN gSet (aCons (e2 gIx (eV 4) (e2 gIx (eV 3) (eK (.int 0)))) aNil)) aNil)) aNil)))))
def LC_befores_1 : FE := (eLc 3 [3] (iRng1 (eN gLen (aCons (eCall 2 F_blocks_of [] (aCons (eV 0) (aCons (eV 1) aNil))) aNil))) (.nm 3) (rB (e2 (gIn false) (eV 2) (eCall 3 F_nexts [] (aCons (eV 0) (aCons (eV 1) (aCons (eC 3) aNil)))))) (eC 3))
def F_befores : Fn := fnBody 3 4
    (sRet 3 (eN gTuple (aCons LC_befores_1 aNil)))
def LC_without_1 : FE := (eLc 3 [6] (iSeq (eTup (aCons (eK (.int 0)) aNil))) (.nm 6) (rB (e2 (gEqA true) (eC 6) (eV 2))) (eC 6))
def LC_without_2 : FE := (eLc 3 [6] (iSeq (eV 4)) (.nm 6) tTrue (eTup (aCons (eC 6) (aCons (eK .none) aNil))))
def BF_without_3 : FS := (sIf (fAnd (rB (e2 (gEqA true) (eC 6) (eV 2))) (rB (e2 (gIn true) (eC 6) (eV 3)))) (sSeq (sSetIx (eV 5) (eV 3) (eC 6))
    (sExpr (eM chkL gAppend (eV 4) (aCons (eC 6) aNil)))) sNil)
def LF_without_4 : FS := (sFor 3 (iSeq (eCall 3 F_nexts [] (aCons (eV 0) (aCons (eV 1) (aCons (eV 5) aNil))))) (.nm 6) BF_without_3)
def BW_without_5 : FS := (sSeq (sSet 3 5 (eM chkL gPop (eV 4) aNil))
    LF_without_4)
def TW_without_6 : FT := (rB (e2 (gEqA true) (eV 4) (eLst aNil)))
def LW_without_7 : FS := (whileL TW_without_6 BW_without_5 4096)
def F_without : Fn := fnBody 3 7
    (sSeq (sSet 3 3 eNewD)
    (sSeq (sSet 3 4 LC_without_1)
    (sSeq (sExpr (eM chkD gUpdate (eV 3) (aCons LC_without_2 aNil)))
    (sSeq LW_without_7
    (sRet 3 (eV 3))))))
def F_reached : Fn := fnBody 2 2
    (sRet 2 (eN gTuple (aCons (eN gSorted (aCons (eCall 3 F_without [] (aCons (eV 0) (aCons (eV 1) (aCons (eK .none) aNil)))) aNil)) aNil)))
def LC_tables_over_1 : FE := (eLc 2 [5] (iSeq (eV 2)) (.nm 5) tTrue (eTup (aCons (eC 5) (aCons (eV 2) aNil))))
def LC_tables_over_2 : FE := (eLc 2 [9] (iSeq (eCall 3 F_befores [] (aCons (eV 0) (aCons (eV 1) (aCons (eC 5) aNil))))) (.nm 9) (rB (e2 (gIn false) (eC 9) (eV 3))) (e2 gIx (eV 3) (eC 9)))
def LC_tables_over_3 : FE := (eLc 2 [10] (iSeq (eV 6)) (.nm 10) tTrue (e2 (gIn false) (eC 9) (eC 10)))
def LC_tables_over_4 : FE := (eLc 2 [9] (iSeq (e2 gIx (eV 6) (eK (.int 0)))) (.nm 9) (rB (eN gAll (aCons LC_tables_over_3 aNil))) (eC 9))
def BF_tables_over_5 : FS := (sSeq (sSet 2 6 LC_tables_over_2)
    (sSeq (sSet 2 7 LC_tables_over_4)
    (sSeq (sSet 2 8 (eN gTuple (aCons (eN gSorted (aCons (eN gSet (aCons (e2 gAdd (eV 7) (eLst (aCons (eC 5) aNil))) aNil)) aNil)) aNil)))
    (sSeq (sSet 2 4 (eOr (eV 4) (e2 (gEqA true) (eV 8) (e2 gIx (eV 3) (eC 5)))))
    (sSetIx (eV 8) (eV 3) (eC 5))))))
def LF_tables_over_6 : FS := (sFor 2 (iSeq (eSl (eV 2) (oSome (eK (.int 1))) oNone)) (.nm 5) BF_tables_over_5)
def BW_tables_over_7 : FS := (sSeq (sSet 2 4 (eK (.bool false)))
    LF_tables_over_6)
def TW_tables_over_8 : FT := (rB (eV 4))
def LW_tables_over_9 : FS := (whileL TW_tables_over_8 BW_tables_over_7 4096)
def F_tables_over : Fn := fnBody 2 11
    (sSeq (sSet 2 2 (eCall 2 F_reached [] (aCons (eV 0) (aCons (eV 1) aNil))))
    (sSeq (sSet 2 3 (eN gDict (aCons LC_tables_over_1 aNil)))
    (sSeq (sSetIx (eTup (aCons (eK (.int 0)) aNil)) (eV 3) (eK (.int 0)))
    (sSeq (sSet 2 4 (eK (.bool true)))
    (sSeq LW_tables_over_9
    (sRet 2 (eV 3)))))))
def F_dominators : Fn := fnBody 3 4
    (sSeq (sSet 3 3 (eTupRg1 (eN gLen (aCons (eCall 2 F_blocks_of [] (aCons (eV 0) (aCons (eV 1) aNil))) aNil))))
    (sRet 3 (eGet2 (eCall 2 F_tables_over [] (aCons (eV 0) (aCons (eV 1) aNil))) (eV 2) (eV 3))))
def F_dominates : Fn := fnBody 4 4
    (sRet 4 (e2 (gIn false) (eV 2) (eCall 3 F_dominators [] (aCons (eV 0) (aCons (eV 1) (aCons (eV 3) aNil))))))
def F__law_feed : Fn := fnBody 1 1
    (sRet 1 (eLst (aCons (eSl (eV 0) oNone (oSome (eK (.int 63)))) (aCons (eK (.int 0)) (aCons (eK (.int 0)) (aCons (eK (.int 0)) aNil))))))
def F__law_draw : Fn := fnBody 2 6
    (sSeq (sAugIx (fun i j => i + j) (eV 0) (eK (.int 3)) (eK (.int 1)))
    (sSeq (sIf (rB (e2 gGt (e2 gIx (eV 0) (eK (.int 2))) (eK (.int 0)))) (sSeq (sSet 2 2 (e2 gMod (e2 gIx (eV 0) (eK (.int 2))) (eV 1)))
    (sSeq (sSetIx (e2 gDiv (e2 gIx (eV 0) (eK (.int 2))) (eV 1)) (eV 0) (eK (.int 2)))
    (sRet 2 (eV 2)))) sNil)
    (sSeq (sSet 2 3 (eIf (rB (e2 (gEqA false) (e2 gIx (eV 0) (eK (.int 0))) (eLst aNil))) (eK (.int 7)) (e2 gIx (e2 gIx (eV 0) (eK (.int 0))) (e2 gMod (e2 gIx (eV 0) (eK (.int 1))) (eN gLen (aCons (e2 gIx (eV 0) (eK (.int 0))) aNil))))))
    (sSeq (sAugIx (fun i j => i + j) (eV 0) (eK (.int 1)) (eK (.int 1)))
    (sSeq (sIf (fAnd (rB (e2 gGe (eV 3) (e2 gPow (eK (.int 10)) (eK (.int 18))))) (rB (e2 gLe (e2 gIx (eV 0) (eK (.int 1))) (eN gLen (aCons (e2 gIx (eV 0) (eK (.int 0))) aNil))))) (sSeq (sSetIx (e2 gDiv (eV 3) (eV 1)) (eV 0) (eK (.int 2)))
    (sRet 2 (e2 gMod (eV 3) (eV 1)))) sNil)
    (sSeq (sSet 2 4 (e2 gIx (eV 0) (eK (.int 3))))
    (sSeq (sSet 2 5 (e2 gMod (e2 gAdd (e2 gAdd (e2 gMod (eV 3) (eK (.int 2147483629))) (e2 gMul (e2 gMul (eK (.int 69621)) (eV 4)) (eV 4))) (e2 gMul (eK (.int 7)) (eV 4))) (eK (.int 2147483629))))
    (sSeq (sSet 2 5 (e2 gMod (e2 gAdd (e2 gMul (eV 5) (eV 5)) (e2 gMul (eK (.int 48271)) (eV 4))) (eK (.int 2147483647))))
    (sSeq (sSet 2 5 (e2 gMod (e2 gAdd (e2 gMul (eV 5) (eV 5)) (e2 gMul (eK (.int 16807)) (eV 4))) (eK (.int 2147483587))))
    (sRet 2 (e2 gMod (e2 gDiv (e2 gMod (e2 gAdd (e2 gMul (eV 5) (eV 5)) (eV 4)) (eK (.int 2147483629))) (eK (.int 131))) (eV 1))))))))))))
def BF__law_graph_1 : FS := (sSeq (sPar3 2 6 7 8 (aCons (eCall 2 F__law_draw [] (aCons (eV 0) (aCons (eV 2) aNil))) (aCons (eCall 2 F__law_draw [] (aCons (eV 0) (aCons (eV 2) aNil))) (aCons (e2 gMod (e2 gAdd (eV 4) (eK (.int 1))) (eV 2)) aNil))))
    (sSeq (sSet 2 5 (eLst (aCons (eTup (aCons (eK (.str "go")) (aCons (eV 6) aNil))) (aCons (eTup (aCons (eK (.str "go")) (aCons (eV 8) aNil))) (aCons (eTup (aCons (eK (.str "if")) (aCons (eK (.str "i")) (aCons (eV 6) (aCons (eV 7) aNil))))) (aCons (eTup (aCons (eK (.str "if")) (aCons (eK (.str "i")) (aCons (eV 8) (aCons (eV 6) aNil))))) (aCons (eTup (aCons (eK (.str "back")) aNil)) aNil)))))))
    (sExpr (eM chkL gAppend (eV 3) (aCons (eTup (aCons (eTup aNil) (aCons (e2 gIx (eV 5) (eCall 2 F__law_draw [] (aCons (eV 0) (aCons (eK (.int 5)) aNil)))) aNil))) aNil)))))
def LF__law_graph_2 : FS := (sFor 2 (iRng1 (eV 2)) (.nm 4) BF__law_graph_1)
def F__law_graph : Fn := fnBody 2 9
    (sSeq (sSet 2 2 (e2 gAdd (eK (.int 1)) (eCall 2 F__law_draw [] (aCons (eV 0) (aCons (eV 1) aNil)))))
    (sSeq (sSet 2 3 (eLst aNil))
    (sSeq LF__law_graph_2
    (sRet 2 (eTup (aCons (eTup (aCons (eTup (aCons (eK (.str "a")) (aCons (eK (.int 1)) aNil))) aNil)) (aCons (eTup (aCons (eTup (aCons (eK (.str "main")) (aCons (eN gTuple (aCons (eV 3) aNil)) aNil))) aNil)) aNil)))))))
def LC__law_arrows_1 : FE := (eLc 1 [4] (iSeq (eV 3)) (.nm 4) (rB (eIsi "int" (eC 4))) (eC 4))
def BF__law_arrows_2 : FS := (sExpr (eM chkL gAppend (eV 1) (aCons LC__law_arrows_1 aNil)))
def LF__law_arrows_3 : FS := (sFor 1 (iSeq (e2 gIx (e2 gIx (e2 gIx (eV 0) (eK (.int 1))) (eK (.int 0))) (eK (.int 1)))) (.tp [(.nm 2), (.nm 3)]) BF__law_arrows_2)
def F__law_arrows : Fn := fnBody 1 5
    (sSeq (sSet 1 1 (eLst aNil))
    (sSeq LF__law_arrows_3
    (sRet 1 (eV 1))))
def LC__law_comes_1 : FE := (eLc 2 [5] (iSeq (eV 2)) (.nm 5) (rB (e2 (gIn false) (eV 4) (e2 gIx (eV 0) (eC 5)))) (eC 5))
def BF__law_comes_2 : FS := (sIf (fAnd (rB (e2 (gEqA true) (eV 4) (eV 1))) (fAnd (rB (e2 (gIn true) (eV 4) (eV 2))) (rB (e2 (gEqA true) LC__law_comes_1 (eLst aNil))))) (sExpr (eM chkL gAppend (eV 2) (aCons (eV 4) aNil))) sNil)
def LF__law_comes_3 : FS := (sFor 2 (iRng1 (eN gLen (aCons (eV 0) aNil))) (.nm 4) BF__law_comes_2)
def BF__law_comes_4 : FS := LF__law_comes_3
def LF__law_comes_5 : FS := (sFor 2 (iRng1 (eN gLen (aCons (eV 0) aNil))) (.nm 3) BF__law_comes_4)
def F__law_comes : Fn := fnBody 2 6
    (sSeq (sSet 2 2 (eIf (rB (e2 (gEqA true) (eV 1) (eK (.int 0)))) (eLst (aCons (eK (.int 0)) aNil)) (eLst aNil)))
    (sSeq LF__law_comes_5
    (sRet 2 (eN gSorted (aCons (eV 2) aNil)))))
def F__law_over : Fn := fnBody 3 3
    (sRet 3 (e2 (gIn true) (eV 2) (eCall 2 F__law_comes [] (aCons (eV 0) (aCons (eV 1) aNil)))))
def F__law_beside : Fn := fnBody 1 1
    (sRet 1 (eTup (aCons (e2 gIx (eV 0) (eK (.int 0))) (aCons (eTup (aCons (eTup (aCons (eK (.str "main")) (aCons (eTup (aCons (eTup (aCons (eTup aNil) (aCons (eTup (aCons (eK (.str "back")) aNil)) aNil))) aNil)) aNil))) (aCons (eTup (aCons (eK (.str "sub")) (aCons (e2 gIx (e2 gIx (e2 gIx (eV 0) (eK (.int 1))) (eK (.int 0))) (eK (.int 1))) aNil))) aNil))) aNil))))
def F_is_number : Fn := fnBody 1 1
    (sRet 1 (eAnd (eIsi "int" (eV 0)) (eNot (eIsi "bool" (eV 0)))))
def F_is_count : Fn := fnBody 1 1
    (sRet 1 (eAnd (eCall 1 F_is_number [] (aCons (eV 0) aNil)) (e2 gGe (eV 0) (eK (.int 0)))))
def BW_around_1 : FS := (sExpr (eM chkL gAppend (eV 5) (aCons (e2 gIx (eV 4) (e2 gIx (eV 5) (e1 gNeg (eK (.int 1))))) aNil)))
def TW_around_2 : FT := (rB (e2 (gEqA true) (e2 gIx (eV 5) (e1 gNeg (eK (.int 1)))) (eK (.int 0))))
def LW_around_3 : FS := (whileL TW_around_2 BW_around_1 4096)
def F_around : Fn := fnBody 4 6
    (sSeq (sSet 4 4 (eCall 3 F_without [] (aCons (eV 0) (aCons (eV 1) (aCons (eV 2) aNil)))))
    (sSeq (sIf (rB (e2 (gIn true) (eV 3) (eV 4))) (sRet 4 (eK .none)) sNil)
    (sSeq (sSet 4 5 (eLst (aCons (eV 3) aNil)))
    (sSeq LW_around_3
    (sRet 4 (eN gTuple (aCons (eRev (eV 5)) aNil)))))))
def F_fence : Fn := fnBody 4 5
    (sSeq (sSet 4 4 (eCall 3 F_without [] (aCons (eV 0) (aCons (eV 1) (aCons (eV 2) aNil)))))
    (sRet 4 (eIf (rB (e2 (gIn false) (eV 3) (eV 4))) (eK .none) (eN gTuple (aCons (eN gSorted (aCons (eV 4) aNil)) aNil)))))
def LC_are_blocks_1 : FE := (eLc 2 [2] (iSeq (eV 1)) (.nm 2) tTrue (eAnd (eCall 1 F_is_count [] (aCons (eC 2) aNil)) (e2 gLt (eC 2) (eV 0))))
def LC_are_blocks_2 : FE := (eLc 2 [3, 4] (iZip (aCons (eV 1) (aCons (eSl (eV 1) (oSome (eK (.int 1))) oNone) aNil))) (.tp [(.nm 3), (.nm 4)]) tTrue (e2 gLt (eC 3) (eC 4)))
def F_are_blocks : Fn := fnBody 2 5
    (sSeq (sIf (fOr (fNot (rB (eIsi "tuple" (eV 1)))) (fNot (rB (eN gAll (aCons LC_are_blocks_1 aNil))))) (sRet 2 (eK (.bool false))) sNil)
    (sRet 2 (eN gAll (aCons LC_are_blocks_2 aNil))))
end Dm

/-! what some defs do: printed by gen.py -/
namespace Cg
open PySem PySem.Spec PyProof.Rows L2 ML Dm
def BW__law_after_1 : FS := (sAugN 1 2 (fun i j => i - j) (eK (.int 1)))
def TW__law_after_2 : FT := (fAnd (rB (e2 gGt (eV 2) (eK (.int 0)))) (rB (e2 (gEqA false) (e2 gIx (eV 0) (eV 2)) (eK (.str "z")))))
def LW__law_after_3 : FS := (whileL TW__law_after_2 BW__law_after_1 4096)
def F__law_after : Fn := fnBody 1 4
    (sSeq (sSet 1 1 (eK (.str "abcdefghijklmnopqrstuvwxyz")))
    (sSeq (sIf (rB (e2 gLt (eN gLen (aCons (eV 0) aNil)) (eK (.int 8)))) (sRet 1 (e2 gAdd (eV 0) (eK (.str "a")))) sNil)
    (sSeq (sSet 1 2 (eK (.int 7)))
    (sSeq LW__law_after_3
    (sSeq (sSet 1 3 (e2 gIx (eV 1) (e2 gMod (e2 gAdd (eM chkS gSIndex (eV 1) (aCons (e2 gIx (eV 0) (eV 2)) aNil)) (eK (.int 1))) (eK (.int 26)))))
    (sRet 1 (e2 gAdd (e2 gAdd (eSl (eV 0) oNone (oSome (eV 2))) (eV 3)) (e2 gMulS (eK (.str "a")) (e2 gSub (eK (.int 7)) (eV 2))))))))))
def BF__law_word_1 : FS := (sSet 2 4 (e2 gAdd (eV 4) (e2 gIx (eV 2) (eCall 2 F__law_draw [] (aCons (eV 0) (aCons (eK (.int 26)) aNil))))))
def LF__law_word_2 : FS := (sFor 2 (iRng1 (eCall 2 F__law_draw [] (aCons (eV 0) (aCons (eK (.int 8)) aNil)))) (.nm 5) BF__law_word_1)
def BF__law_word_3 : FS := (sSeq (sIf (rB (e2 (gIn true) (eV 4) (eV 1))) sBk sNil)
    (sSet 2 4 (eCall 1 F__law_after [] (aCons (eV 4) aNil))))
def LF__law_word_4 : FS := (sFor 2 (iRng1 (eK (.int 60))) (.nm 5) BF__law_word_3)
def F__law_word : Fn := fnBody 2 7
    (sSeq (sSet 2 2 (eK (.str "abcdefghijklmnopqrstuvwxyz")))
    (sSeq (sSet 2 3 (eCall 2 F__law_draw [] (aCons (eV 0) (aCons (eK (.int 5)) aNil))))
    (sSeq (sSet 2 4 (e2 gIx (eV 2) (eCall 2 F__law_draw [] (aCons (eV 0) (aCons (eK (.int 26)) aNil)))))
    (sSeq (sIf (fOr (rB (e2 gGt (eV 3) (eK (.int 1)))) (rB (e2 (gEqA false) (eV 1) (eLst aNil)))) LF__law_word_2 (sSeq (sSet 2 6 (e2 gIx (eV 1) (eCall 2 F__law_draw [] (aCons (eV 0) (aCons (eN gLen (aCons (eV 1) aNil)) aNil)))))
    (sSet 2 4 (eIf (rB (e2 (gEqA false) (eV 3) (eK (.int 0)))) (eSl (eV 6) oNone (oSome (e2 gAdd (eK (.int 1)) (eCall 2 F__law_draw [] (aCons (eV 0) (aCons (eN gLen (aCons (eV 6) aNil)) aNil)))))) (e2 gAdd (eSl (eV 6) oNone (oSome (eK (.int 7)))) (e2 gIx (eV 2) (eCall 2 F__law_draw [] (aCons (eV 0) (aCons (eK (.int 26)) aNil)))))))))
    (sSeq LF__law_word_4
    (sRet 2 (eV 4)))))))
def BF__law_objects_1 : FS := (sExpr (eM chkL gAppend (eV 1) (aCons (eCall 2 F__law_word [] (aCons (eV 0) (aCons (eV 1) aNil))) aNil)))
def LF__law_objects_2 : FS := (sFor 1 (iRng1 (e2 gAdd (eK (.int 1)) (eCall 2 F__law_draw [] (aCons (eV 0) (aCons (eK (.int 4)) aNil))))) (.nm 2) BF__law_objects_1)
def LC__law_objects_3 : FE := (eLc 1 [3] (iSeq (eN gSortedA (aCons (eV 1) aNil))) (.nm 3) tTrue (eTup (aCons (eC 3) (aCons (e2 gAdd (eK (.int 1)) (eCall 2 F__law_draw [] (aCons (eV 0) (aCons (eK (.int 4)) aNil)))) aNil))))
def F__law_objects : Fn := fnBody 1 4
    (sSeq (sSet 1 1 (eLst aNil))
    (sSeq LF__law_objects_2
    (sRet 1 (eN gTuple (aCons LC__law_objects_3 aNil)))))
def F__law_operand : Fn := fnBody 1 2
    (sSeq (sSet 1 1 (e2 gIx (eTup (aCons (e2 gSub (eCall 2 F__law_draw [] (aCons (eV 0) (aCons (eK (.int 5)) aNil))) (eK (.int 1))) (aCons (e2 gSub (e2 gPow (eK (.int 10)) (eK (.int 6))) (eCall 2 F__law_draw [] (aCons (eV 0) (aCons (eK (.int 2)) aNil)))) (aCons (e1 gNeg (e2 gPow (eK (.int 10)) (eK (.int 6)))) aNil)))) (eCall 2 F__law_draw [] (aCons (eV 0) (aCons (eK (.int 3)) aNil)))))
    (sRet 1 (e2 gIx (eTup (aCons (eV 1) (aCons (eV 1) (aCons (eK (.str "i")) (aCons (eK (.str "j")) (aCons (eK (.str "ij")) (aCons (eK (.str "n")) aNil))))))) (eCall 2 F__law_draw [] (aCons (eV 0) (aCons (eK (.int 6)) aNil))))))
def LC__law_address_1 : FE := (eLc 2 [8, 9] (iSeq (eV 1)) (.tp [(.nm 8), (.nm 9)]) tTrue (eC 8))
def BF__law_address_2 : FS := (sExpr (eM chkL gAppend (eV 3) (aCons (eM chkL gPopAt (eV 2) (aCons (eCall 2 F__law_draw [] (aCons (eV 0) (aCons (eN gLen (aCons (eV 2) aNil)) aNil))) aNil)) aNil)))
def LF__law_address_3 : FS := (sFor 2 (iRng1 (e2 gAdd (eK (.int 1)) (eCall 2 F__law_draw [] (aCons (eV 0) (aCons (eN gLen (aCons (eV 1) aNil)) aNil))))) (.nm 4) BF__law_address_2)
def LC__law_address_4 : FE := (eLc 2 [8] (iSeq (eV 3)) (.nm 8) tTrue (e2 gIx (eN gDictA (aCons (eV 1) aNil)) (eC 8)))
def F__law_address : Fn := fnBody 2 10
    (sSeq (sPar2 2 2 3 (aCons LC__law_address_1 (aCons (eLst aNil) aNil)))
    (sSeq LF__law_address_3
    (sSeq (sSet 2 5 (eN gMin (aCons LC__law_address_4 aNil)))
    (sSeq (sSet 2 6 (e2 gIx (eTup (aCons (eCall 2 F__law_draw [] (aCons (eV 0) (aCons (eN gLen (aCons (eV 3) aNil)) aNil))) (aCons (e2 gIx (eTup (aCons (eK (.str "i")) (aCons (eK (.str "p")) aNil))) (eCall 2 F__law_draw [] (aCons (eV 0) (aCons (eK (.int 2)) aNil)))) aNil))) (eCall 2 F__law_draw [] (aCons (eV 0) (aCons (eK (.int 2)) aNil)))))
    (sSeq (sSet 2 7 (e2 gIx (eTup (aCons (eCall 2 F__law_draw [] (aCons (eV 0) (aCons (eV 5) aNil))) (aCons (e2 gIx (eTup (aCons (eK (.str "i")) (aCons (eK (.str "j")) aNil))) (eCall 2 F__law_draw [] (aCons (eV 0) (aCons (eK (.int 2)) aNil)))) aNil))) (eCall 2 F__law_draw [] (aCons (eV 0) (aCons (eK (.int 2)) aNil)))))
    (sRet 2 (eTup (aCons (eN gTuple (aCons (eV 3) aNil)) (aCons (eV 6) (aCons (eV 7) aNil))))))))))
def F__law_row : Fn := fnBody 3 9
    (sSeq (sSet 3 3 (e2 gIx (eTup (aCons (eK (.str "load")) (aCons (eK (.str "store")) (aCons (eK (.str "touch")) (aCons (eK (.str "set")) (aCons (eK (.str "tell")) (aCons (eK (.str "need")) (aCons (eK (.str "call")) aNil)))))))) (eCall 2 F__law_draw [] (aCons (eV 0) (aCons (e2 gAdd (eK (.int 6)) (eN gInt (aCons (e2 (gEqA true) (eV 2) (eLst aNil)) aNil))) aNil)))))
    (sSeq (sPar3 3 4 5 6 (aCons (e2 gIx (eTup (aCons (eK (.str "i")) (aCons (eK (.str "j")) (aCons (eK (.str "n")) aNil)))) (eCall 2 F__law_draw [] (aCons (eV 0) (aCons (eK (.int 3)) aNil)))) (aCons (eCall 2 F__law_address [] (aCons (eV 0) (aCons (eV 1) aNil))) (aCons (eCall 1 F__law_operand [] (aCons (eV 0) aNil)) aNil))))
    (sSeq (sPar2 3 7 8 (aCons (e2 gIx (eTup (aCons (eK (.str "+")) (aCons (eK (.str "-")) (aCons (eK (.str "*")) (aCons (eK (.str "<")) aNil))))) (eCall 2 F__law_draw [] (aCons (eV 0) (aCons (eK (.int 4)) aNil)))) (aCons (eCall 1 F__law_operand [] (aCons (eV 0) aNil)) aNil)))
    (sSeq (sIf (rB (e2 (gEqA false) (eV 3) (eK (.str "load")))) (sRet 3 (eTup (aCons (eV 3) (aCons (eV 4) (aCons (eV 5) aNil))))) sNil)
    (sSeq (sIf (rB (e2 (gEqA false) (eV 3) (eK (.str "store")))) (sRet 3 (eTup (aCons (eV 3) (aCons (eV 5) (aCons (eV 6) aNil))))) sNil)
    (sSeq (sIf (rB (e2 (gEqA false) (eV 3) (eK (.str "touch")))) (sRet 3 (eTup (aCons (eV 3) (aCons (eV 5) aNil)))) sNil)
    (sSeq (sIf (rB (e2 (gEqA false) (eV 3) (eK (.str "set")))) (sRet 3 (eTup (aCons (eV 3) (aCons (eV 4) (aCons (eV 7) (aCons (eV 6) (aCons (eV 8) aNil))))))) sNil)
    (sRet 3 (eIf (rB (e2 (gEqA false) (eV 3) (eK (.str "call")))) (eTup (aCons (eV 3) (aCons (e2 gIx (eV 2) (eCall 2 F__law_draw [] (aCons (eV 0) (aCons (eN gLen (aCons (eV 2) aNil)) aNil)))) aNil))) (eTup (aCons (eV 3) (aCons (eV 6) aNil))))))))))))
def F__law_end : Fn := fnBody 2 6
    (sSeq (sPar3 2 2 3 4 (aCons (eCall 2 F__law_draw [] (aCons (eV 0) (aCons (eV 1) aNil))) (aCons (eCall 2 F__law_draw [] (aCons (eV 0) (aCons (eV 1) aNil))) (aCons (eCall 1 F__law_operand [] (aCons (eV 0) aNil)) aNil))))
    (sSeq (sSet 2 5 (eLst (aCons (eTup (aCons (eK (.str "go")) (aCons (eV 2) aNil))) (aCons (eTup (aCons (eK (.str "if")) (aCons (eV 4) (aCons (eV 2) (aCons (eV 3) aNil))))) (aCons (eTup (aCons (eK (.str "if")) (aCons (eV 4) (aCons (eV 2) (aCons (eV 3) aNil))))) (aCons (eTup (aCons (eK (.str "back")) aNil)) aNil))))))
    (sRet 2 (e2 gIx (eV 5) (eCall 2 F__law_draw [] (aCons (eV 0) (aCons (eK (.int 4)) aNil)))))))
def BF__law_code_1 : FS := (sExpr (eM chkL gAppend (eV 5) (aCons (eCall 2 F__law_word [] (aCons (eV 0) (aCons (e2 gAdd (eV 5) (eLst (aCons (eK (.str "main")) aNil))) aNil))) aNil)))
def LF__law_code_2 : FS := (sFor 4 (iRng1 (eCall 2 F__law_draw [] (aCons (eV 0) (aCons (eV 1) aNil)))) (.nm 6) BF__law_code_1)
def LC__law_code_3 : FE := (eLc 4 [6] (iRng1 (eCall 2 F__law_draw [] (aCons (eV 0) (aCons (e2 gAdd (eV 3) (eK (.int 1))) aNil)))) (.nm 6) tTrue (eCall 3 F__law_row [] (aCons (eV 0) (aCons (eV 4) (aCons (eV 5) aNil)))))
def BF__law_code_4 : FS := (sSeq (sSet 4 12 LC__law_code_3)
    (sExpr (eM chkL gAppend (eV 10) (aCons (eTup (aCons (eN gTuple (aCons (eV 12) aNil)) (aCons (eCall 2 F__law_end [] (aCons (eV 0) (aCons (eV 9) aNil))) aNil))) aNil))))
def LF__law_code_5 : FS := (sFor 4 (iRng1 (eV 9)) (.nm 11) BF__law_code_4)
def BF__law_code_6 : FS := (sSeq (sSet 4 9 (e2 gAdd (eK (.int 1)) (eCall 2 F__law_draw [] (aCons (eV 0) (aCons (eV 2) aNil)))))
    (sSeq (sSet 4 10 (eLst aNil))
    (sSeq LF__law_code_5
    (sExpr (eM chkL gAppend (eV 7) (aCons (eTup (aCons (eV 8) (aCons (eN gTuple (aCons (eV 10) aNil)) aNil))) aNil))))))
def LF__law_code_7 : FS := (sFor 4 (iSeq (eN gSortedA (aCons (e2 gAdd (eV 5) (eLst (aCons (eK (.str "main")) aNil))) aNil))) (.nm 8) BF__law_code_6)
def F__law_code : Fn := fnBody 4 13
    (sSeq (sPar2 4 4 5 (aCons (eCall 1 F__law_objects [] (aCons (eV 0) aNil)) (aCons (eLst aNil) aNil)))
    (sSeq LF__law_code_2
    (sSeq (sSet 4 7 (eLst aNil))
    (sSeq LF__law_code_7
    (sRet 4 (eTup (aCons (eV 4) (aCons (eN gTuple (aCons (eV 7) aNil)) aNil))))))))
end Cg

/-! the walk of K01: printed by gen.py -/
namespace K01
open PySem PySem.Spec PyProof.Rows L2 ML Cg Dm
theorem hu65 {k : Nat} {A : Around} (r : Room k A) : A.units + 65 < cLine := by have := r.un; omega
theorem all_mem {l : List Nat} {p : Nat → Bool} (h : l.all p = true) : ∀ i ∈ l, p i = true := List.all_eq_true.mp h
theorem all_ge {vs : List V} {np : Nat} {l : List Nat} (hl : vs.length = np) (h : l.all (fun i => decide (np ≤ i)) = true) : ∀ i ∈ l, vs.length ≤ i := fun i hi => by
  have := List.all_eq_true.mp h i hi
  rw [hl]; exact of_decide_eq_true this
/-! ### the text -/
def topS (i : Nat) : Stmt := PySem.Challenge.pw_storeways_k01_kinds.main.body.getD i (.Pass ⟨0, 0, 0, 0⟩)
abbrev st_is_number : Stmt := topS 3
abbrev st_is_count : Stmt := topS 4
abbrev st_is_word : Stmt := topS 5
abbrev st_is_operand : Stmt := topS 6
abbrev st_is_pair : Stmt := topS 7
abbrev st_are_pairs : Stmt := topS 8
abbrev st_is_objects : Stmt := topS 9
abbrev st__law_feed : Stmt := topS 11
abbrev st__law_draw : Stmt := topS 12
abbrev st__law_after : Stmt := topS 13
abbrev st__law_word : Stmt := topS 14
abbrev st__law_bend : Stmt := topS 15
abbrev st__law_odd : Stmt := topS 16
abbrev st__law_number : Stmt := topS 17
abbrev st__law_great : Stmt := topS 18
abbrev st__law_spoilt : Stmt := topS 19
abbrev st__law_worded : Stmt := topS 20
abbrev st__law_operanded : Stmt := topS 21
abbrev st__law_paired : Stmt := topS 22
abbrev st__law_objected : Stmt := topS 23
abbrev st__law_objects : Stmt := topS 24
abbrev st__law_fixed : Stmt := topS 25
abbrev st_law : Stmt := topS 26
theorem sc_is_number : FnScope ["thing"] ["thing"] (defScope st_is_number) := ⟨rfl, rfl, rfl, by decide +kernel, rfl, by decide +kernel, by decide +kernel⟩
theorem sc_is_count : FnScope ["thing"] ["thing"] (defScope st_is_count) := ⟨rfl, rfl, rfl, by decide +kernel, rfl, by decide +kernel, by decide +kernel⟩
theorem sc_is_word : FnScope ["thing", "sign"] ["thing"] (defScope st_is_word) := ⟨rfl, rfl, rfl, by decide +kernel, rfl, by decide +kernel, by decide +kernel⟩
theorem sc_is_operand : FnScope ["thing"] ["thing"] (defScope st_is_operand) := ⟨rfl, rfl, rfl, by decide +kernel, rfl, by decide +kernel, by decide +kernel⟩
theorem sc_is_pair : FnScope ["thing"] ["thing"] (defScope st_is_pair) := ⟨rfl, rfl, rfl, by decide +kernel, rfl, by decide +kernel, by decide +kernel⟩
theorem sc_are_pairs : FnScope ["thing", "pair", "one", "other"] ["thing"] (defScope st_are_pairs) := ⟨rfl, rfl, rfl, by decide +kernel, rfl, by decide +kernel, by decide +kernel⟩
theorem sc_is_objects : FnScope ["thing", "word", "size"] ["thing"] (defScope st_is_objects) := ⟨rfl, rfl, rfl, by decide +kernel, rfl, by decide +kernel, by decide +kernel⟩
theorem sc__law_feed : FnScope ["_law_script"] ["_law_script"] (defScope st__law_feed) := ⟨rfl, rfl, rfl, by decide +kernel, rfl, by decide +kernel, by decide +kernel⟩
theorem sc__law_draw : FnScope ["_law_feed_here", "_law_many", "_law_told", "_law_cell", "_law_turn", "_law_mixed"] ["_law_feed_here", "_law_many"] (defScope st__law_draw) := ⟨rfl, rfl, rfl, by decide +kernel, rfl, by decide +kernel, by decide +kernel⟩
theorem sc__law_after : FnScope ["_law_word_here", "_law_letters", "_law_at", "_law_sign"] ["_law_word_here"] (defScope st__law_after) := ⟨rfl, rfl, rfl, by decide +kernel, rfl, by decide +kernel, by decide +kernel⟩
theorem sc__law_word : FnScope ["_law_feed_here", "_law_found", "_law_letters", "_law_way", "_law_word_here", "_law_k", "_law_own"] ["_law_feed_here", "_law_found"] (defScope st__law_word) := ⟨rfl, rfl, rfl, by decide +kernel, rfl, by decide +kernel, by decide +kernel⟩
theorem sc__law_bend : FnScope ["_law_feed_here", "_law_thing", "_law_odd_here", "_law_at", "_law_way"] ["_law_feed_here", "_law_thing", "_law_odd_here"] (defScope st__law_bend) := ⟨rfl, rfl, rfl, by decide +kernel, rfl, by decide +kernel, by decide +kernel⟩
theorem sc__law_odd : FnScope ["_law_small"] [] (defScope st__law_odd) := ⟨rfl, rfl, rfl, by decide +kernel, rfl, by decide +kernel, by decide +kernel⟩
theorem sc__law_number : FnScope ["_law_thing"] ["_law_thing"] (defScope st__law_number) := ⟨rfl, rfl, rfl, by decide +kernel, rfl, by decide +kernel, by decide +kernel⟩
theorem sc__law_great : FnScope ["_law_feed_here", "_law_told", "_law_k"] ["_law_feed_here"] (defScope st__law_great) := ⟨rfl, rfl, rfl, by decide +kernel, rfl, by decide +kernel, by decide +kernel⟩
theorem sc__law_spoilt : FnScope ["_law_feed_here", "_law_word_here", "_law_signs", "_law_at", "_law_sign", "_law_way"] ["_law_feed_here", "_law_word_here"] (defScope st__law_spoilt) := ⟨rfl, rfl, rfl, by decide +kernel, rfl, by decide +kernel, by decide +kernel⟩
theorem sc__law_worded : FnScope ["_law_thing", "_law_sign"] ["_law_thing"] (defScope st__law_worded) := ⟨rfl, rfl, rfl, by decide +kernel, rfl, by decide +kernel, by decide +kernel⟩
theorem sc__law_operanded : FnScope ["_law_thing"] ["_law_thing"] (defScope st__law_operanded) := ⟨rfl, rfl, rfl, by decide +kernel, rfl, by decide +kernel, by decide +kernel⟩
theorem sc__law_paired : FnScope ["_law_thing", "_law_words", "_law_pair"] ["_law_thing"] (defScope st__law_paired) := ⟨rfl, rfl, rfl, by decide +kernel, rfl, by decide +kernel, by decide +kernel⟩
theorem sc__law_objected : FnScope ["_law_thing", "_law_pair"] ["_law_thing"] (defScope st__law_objected) := ⟨rfl, rfl, rfl, by decide +kernel, rfl, by decide +kernel, by decide +kernel⟩
theorem sc__law_objects : FnScope ["_law_feed_here", "_law_found", "_law_k", "_law_word_here"] ["_law_feed_here"] (defScope st__law_objects) := ⟨rfl, rfl, rfl, by decide +kernel, rfl, by decide +kernel, by decide +kernel⟩
theorem sc__law_fixed : FnScope ["_law_great_here", "_law_found", "_law_many", "_law_sign"] [] (defScope st__law_fixed) := ⟨rfl, rfl, rfl, by decide +kernel, rfl, by decide +kernel, by decide +kernel⟩
theorem sc_law : FnScope ["_law_script", "_law_feed_here", "_law_odd_here", "_law_things", "_law_k", "_law_long", "_law_bent", "_law_word_here", "_law_number_here", "_law_objects_here", "_law_kept", "_law_thing", "_law_told", "_law_due"] ["_law_script"] (defScope st_law) := ⟨rfl, rfl, rfl, by decide +kernel, rfl, by decide +kernel, by decide +kernel⟩
/-! ### what each def does -/
def LC_is_word_1 : FE := (eLc 1 [1] (iAny (eV 0)) (.nm 1) tTrue (e2 (gInT false) (eC 1) (eK (.str "abcdefghijklmnopqrstuvwxyz"))))
def F_is_word : Fn := fnBody 1 2
    (sSeq (sIf (fOr (fNot (rB (eIsi "str" (eV 0)))) (fNot (rB (eChain gLe gLe (eK (.int 1)) (eN gLen (aCons (eV 0) aNil)) (eK (.int 8)))))) (sRet 1 (eK (.bool false))) sNil)
    (sRet 1 (eN gAll (aCons LC_is_word_1 aNil))))
def F_is_operand : Fn := fnBody 1 1
    (sRet 1 (eOr (eCall 1 F_is_number [] (aCons (eV 0) aNil)) (eCall 1 F_is_word [] (aCons (eV 0) aNil))))
def F_is_pair : Fn := fnBody 1 1
    (sRet 1 (eAnd (eIsi "tuple" (eV 0)) (eAnd (e2 (gEqA false) (eN gLen (aCons (eV 0) aNil)) (eK (.int 2))) (eCall 1 F_is_word [] (aCons (e2 gIx (eV 0) (eK (.int 0))) aNil)))))
def LC_are_pairs_1 : FE := (eLc 1 [1] (iSeq (eV 0)) (.nm 1) tTrue (eCall 1 F_is_pair [] (aCons (eC 1) aNil)))
def LC_are_pairs_2 : FE := (eLc 1 [2, 3] (iZip (aCons (eV 0) (aCons (eSl (eV 0) (oSome (eK (.int 1))) oNone) aNil))) (.tp [(.nm 2), (.nm 3)]) tTrue (e2 gLtA (e2 gIx (eC 2) (eK (.int 0))) (e2 gIx (eC 3) (eK (.int 0)))))
def F_are_pairs : Fn := fnBody 1 4
    (sSeq (sIf (fOr (fNot (rB (eIsi "tuple" (eV 0)))) (fOr (rB (e2 (gEqA false) (eN gLen (aCons (eV 0) aNil)) (eK (.int 0)))) (fNot (rB (eN gAll (aCons LC_are_pairs_1 aNil)))))) (sRet 1 (eK (.bool false))) sNil)
    (sRet 1 (eN gAll (aCons LC_are_pairs_2 aNil))))
def LC_is_objects_1 : FE := (eLc 1 [1, 2] (iSeq (eV 0)) (.tp [(.nm 1), (.nm 2)]) tTrue (eAnd (eCall 1 F_is_count [] (aCons (eC 2) aNil)) (e2 gGt (eC 2) (eK (.int 0)))))
def F_is_objects : Fn := fnBody 1 3
    (sRet 1 (eAnd (eCall 1 F_are_pairs [] (aCons (eV 0) aNil)) (eN gAll (aCons LC_is_objects_1 aNil))))
def FB__law_bend (self : Fn) : Fn := fnBody 3 5
    (sSeq (sIf (fAnd (rB (eIsi "tuple" (eV 1))) (fAnd (rB (e2 (gEqA true) (eV 1) (eTup aNil))) (rB (e2 gGt (eCall 2 F__law_draw [] (aCons (eV 0) (aCons (eK (.int 4)) aNil))) (eK (.int 0)))))) (sSeq (sSet 3 3 (eCall 2 F__law_draw [] (aCons (eV 0) (aCons (eN gLen (aCons (eV 1) aNil)) aNil))))
    (sRet 3 (e2 gAdd (e2 gAdd (eSl (eV 1) oNone (oSome (eV 3))) (eTup (aCons (eCall 3 self [] (aCons (eV 0) (aCons (e2 gIx (eV 1) (eV 3)) (aCons (eV 2) aNil)))) aNil))) (eSl (eV 1) (oSome (e2 gAdd (eV 3) (eK (.int 1)))) oNone)))) sNil)
    (sSeq (sSet 3 4 (eCall 2 F__law_draw [] (aCons (eV 0) (aCons (eK (.int 6)) aNil))))
    (sSeq (sIf (fAnd (rB (eIsi "tuple" (eV 1))) (rB (e2 gLt (eV 4) (eK (.int 4))))) (sSeq (sSet 3 3 (eCall 2 F__law_draw [] (aCons (eV 0) (aCons (e2 gAdd (eN gLen (aCons (eV 1) aNil)) (eK (.int 1))) aNil))))
    (sSeq (sIf (rB (e2 (gEqA false) (eV 4) (eK (.int 0)))) (sRet 3 (e2 gAdd (e2 gAdd (eSl (eV 1) oNone (oSome (eV 3))) (eTup (aCons (e2 gIx (eV 2) (eCall 2 F__law_draw [] (aCons (eV 0) (aCons (eN gLen (aCons (eV 2) aNil)) aNil)))) aNil))) (eSl (eV 1) (oSome (eV 3)) oNone))) sNil)
    (sRet 3 (eIf (rB (e2 (gEqA false) (eV 4) (eK (.int 1)))) (e2 gAdd (eSl (eV 1) oNone (oSome (eV 3))) (eSl (eV 1) (oSome (e2 gAdd (eV 3) (eK (.int 1)))) oNone)) (eIf (rB (e2 (gEqA false) (eV 4) (eK (.int 2)))) (eN gList (aCons (eV 1) aNil)) (e2 gAdd (eV 1) (eSl (eV 1) oNone (oSome (eV 3))))))))) sNil)
    (sSeq (sIf (fAnd (rB (eIsi "int" (eV 1))) (rB (e2 gLt (eV 4) (eK (.int 4))))) (sRet 3 (e2 gIx (eTup (aCons (e2 gAddB (eV 1) (eK (.int 1))) (aCons (e2 gSubB (eV 1) (eK (.int 1))) (aCons (e1 gNegB (eV 1)) (aCons (eTup (aCons (eV 1) aNil)) aNil))))) (eV 4))) sNil)
    (sSeq (sIf (fAnd (rB (eIsi "str" (eV 1))) (rB (e2 gLt (eV 4) (eK (.int 3))))) (sRet 3 (e2 gIx (eTup (aCons (e2 gAdd (eV 1) (eK (.str "a"))) (aCons (eSl (eV 1) (oSome (eK (.int 1))) oNone) (aCons (eLst (aCons (eV 1) aNil)) aNil)))) (eV 4))) sNil)
    (sRet 3 (e2 gIx (eV 2) (eCall 2 F__law_draw [] (aCons (eV 0) (aCons (eN gLen (aCons (eV 2) aNil)) aNil))))))))))
def FR__law_bend : Nat → Fn
  | 0 => fun _ => none
  | n + 1 => FB__law_bend (FR__law_bend n)
def F__law_bend : Fn := FR__law_bend 10
def F__law_odd : Fn := fnBody 0 1
    (sSeq (sSet 0 0 (eTup (aCons (eK .none) (aCons (eK (.bool true)) (aCons (eK (.bool false)) (aCons (eK (.str "")) (aCons (eK (.str "a")) (aCons (eK (.str "A")) (aCons (eK (.int 0)) (aCons (eK (.int 1)) (aCons (eK (.int 2)) (aCons (eK (.int 4)) (aCons (e1 gNeg (eK (.int 1))) (aCons (eTup aNil) (aCons (eLst aNil) (aCons (eTup (aCons (eLst (aCons (eK (.int 1)) aNil)) (aCons (eK (.str "a")) aNil))) (aCons (eTup (aCons (eK (.str "a")) (aCons (eK (.int 1)) aNil))) (aCons (eTup (aCons (eK (.str "a")) aNil)) aNil))))))))))))))))))
    (sRet 0 (e2 gAdd (eV 0) (eTup (aCons (e2 gMul (e2 gMul (e2 gMul (e2 gPow (eK (.int 10)) (eK (.int 64))) (e2 gPow (eK (.int 10)) (eK (.int 64)))) (e2 gPow (eK (.int 10)) (eK (.int 64)))) (e2 gPow (eK (.int 10)) (eK (.int 7)))) (aCons (eK (.str "abcdefgh")) (aCons (eK (.str "abcdefghi")) (aCons (eK (.str "a b")) (aCons (eTup (aCons (eK (.int 0)) aNil)) (aCons (eTup (aCons (eK (.int 1)) (aCons (eK (.int 1)) aNil))) aNil))))))))))
def F__law_number : Fn := fnBody 1 1
    (sRet 1 (eAnd (eIsi "int" (eV 0)) (eAnd (e2 (gIsA true) (eV 0) (eK (.bool true))) (e2 (gIsA true) (eV 0) (eK (.bool false))))))
def BF__law_great_1 : FS := (sSet 1 1 (e2 gAdd (e2 gMul (eV 1) (e2 gPow (eK (.int 10)) (eK (.int 6)))) (eCall 2 F__law_draw [] (aCons (eV 0) (aCons (e2 gPow (eK (.int 10)) (eK (.int 6))) aNil)))))
def LF__law_great_2 : FS := (sFor 1 (iRng1 (eIf (rB (e2 (gEqA false) (eCall 2 F__law_draw [] (aCons (eV 0) (aCons (eK (.int 3)) aNil))) (eK (.int 0)))) (eCall 2 F__law_draw [] (aCons (eV 0) (aCons (eK (.int 33)) aNil))) (eK (.int 0)))) (.nm 2) BF__law_great_1)
def F__law_great : Fn := fnBody 1 3
    (sSeq (sSet 1 1 (eCall 2 F__law_draw [] (aCons (eV 0) (aCons (eK (.int 100)) aNil))))
    (sSeq LF__law_great_2
    (sRet 1 (eIf (rB (e2 (gEqA false) (eCall 2 F__law_draw [] (aCons (eV 0) (aCons (eK (.int 2)) aNil))) (eK (.int 0)))) (e1 gNeg (eV 1)) (eV 1)))))
def F__law_spoilt : Fn := fnBody 2 6
    (sSeq (sSet 2 2 (eK (.str " !\"#$&'()*+,-./0123456789:;<=>?@ABCDEFGHIJKLMNOPQRSTUVWXYZ[\\]^_`abcdefghijklmnopqrstuvwxyz{|}~")))
    (sSeq (sSet 2 3 (eCall 2 F__law_draw [] (aCons (eV 0) (aCons (eN gLen (aCons (eV 1) aNil)) aNil))))
    (sSeq (sSet 2 4 (e2 gIx (eV 2) (eCall 2 F__law_draw [] (aCons (eV 0) (aCons (eN gLen (aCons (eV 2) aNil)) aNil)))))
    (sSeq (sSet 2 5 (eCall 2 F__law_draw [] (aCons (eV 0) (aCons (eK (.int 3)) aNil))))
    (sRet 2 (e2 gAdd (e2 gAdd (eSl (eV 1) oNone (oSome (eV 3))) (eIf (rB (e2 (gEqA false) (eV 5) (eK (.int 2)))) (eK (.str "")) (eV 4))) (eSl (eV 1) (oSome (e2 gAdd (eV 3) (eIf (rB (e2 (gEqA false) (eV 5) (eK (.int 1)))) (eK (.int 0)) (eK (.int 1))))) oNone)))))))
def LC__law_worded_1 : FE := (eLc 1 [1] (iAny (eV 0)) (.nm 1) (fOr (rB (e2 gLt (eN gOrd (aCons (eC 1) aNil)) (eK (.int 97)))) (rB (e2 gGt (eN gOrd (aCons (eC 1) aNil)) (eK (.int 122))))) (eC 1))
def F__law_worded : Fn := fnBody 1 2
    (sSeq (sIf (fOr (fNot (rB (eIsi "str" (eV 0)))) (fOr (rB (e2 (gEqA false) (eV 0) (eK (.str "")))) (rB (e2 gGt (eN gLen (aCons (eV 0) aNil)) (eK (.int 8)))))) (sRet 1 (eK (.bool false))) sNil)
    (sRet 1 (e2 (gEqA false) LC__law_worded_1 (eLst aNil))))
def F__law_operanded : Fn := fnBody 1 1
    (sRet 1 (eOr (eCall 1 F__law_worded [] (aCons (eV 0) aNil)) (eCall 1 F__law_number [] (aCons (eV 0) aNil))))
def LC__law_paired_1 : FE := (eLc 1 [2] (iSeq (eV 0)) (.nm 2) (fOr (fNot (rB (eIsi "tuple" (eC 2)))) (fOr (rB (e2 (gEqA true) (eN gLen (aCons (eC 2) aNil)) (eK (.int 2)))) (fNot (rB (eCall 1 F__law_worded [] (aCons (e2 gIx (eC 2) (eK (.int 0))) aNil)))))) (eC 2))
def LC__law_paired_2 : FE := (eLc 1 [2] (iSeq (eV 0)) (.nm 2) tTrue (e2 gIx (eC 2) (eK (.int 0))))
def F__law_paired : Fn := fnBody 1 3
    (sSeq (sIf (fOr (fNot (rB (eIsi "tuple" (eV 0)))) (rB (e2 (gEqA false) (eV 0) (eTup aNil)))) (sRet 1 (eK (.bool false))) sNil)
    (sSeq (sIf (rB (e2 (gEqA true) LC__law_paired_1 (eLst aNil))) (sRet 1 (eK (.bool false))) sNil)
    (sSeq (sSet 1 1 LC__law_paired_2)
    (sRet 1 (e2 (gEqA false) (eSortSet (eV 1)) (eV 1))))))
def LC__law_objected_1 : FE := (eLc 1 [1] (iSeq (eV 0)) (.nm 1) (fOr (fNot (rB (eCall 1 F__law_number [] (aCons (e2 gIx (eC 1) (eK (.int 1))) aNil)))) (rB (e2 gLt (e2 gIx (eC 1) (eK (.int 1))) (eK (.int 1))))) (eC 1))
def F__law_objected : Fn := fnBody 1 2
    (sRet 1 (eAnd (eCall 1 F__law_paired [] (aCons (eV 0) aNil)) (e2 (gEqA false) LC__law_objected_1 (eLst aNil))))
def LC__law_fixed_1 : FE := (eLc 0 [3] (iAny (eTup (aCons (eK (.str "~")) (aCons (eK (.str "!")) (aCons (eK (.str "_")) (aCons (eK (.str "0")) (aCons (eK (.str "Z")) (aCons (eK (.str "a")) (aCons (eK (.str "z")) aNil))))))))) (.nm 3) tTrue (e2 gAdd (eK (.str "a")) (eC 3)))
def LC__law_fixed_2 : FE := (eLc 0 [3] (iAny (eK (.str "abcdefghijklmnopqrstuvwxyz"))) (.nm 3) tTrue (eTup (aCons (e2 gAdd (eK (.str "q")) (eC 3)) (aCons (eK (.int 4)) aNil))))
def F__law_fixed : Fn := fnBody 0 4
    (sSeq (sSet 0 0 (e2 gPow (eK (.int 10)) (eK (.int 60))))
    (sSeq (sSet 0 1 (eLst (aCons (eK (.int 0)) (aCons (eK (.int 1)) (aCons (e1 gNeg (eK (.int 1))) (aCons (eV 0) (aCons (e1 gNeg (eV 0)) (aCons (eK (.bool true)) (aCons (eK (.bool false)) (aCons (eK .none) (aCons (eK (.str "")) (aCons (eK (.str "a")) (aCons (eK (.str "z")) (aCons (eK (.str "abcdefgh")) (aCons (eK (.str "abcdefghi")) (aCons (eK (.str "A")) (aCons (eK (.str "a b")) (aCons (eK (.str "a1")) (aCons (eK (.str "{")) aNil)))))))))))))))))))
    (sSeq (sExpr (eM chkL gExtend (eV 1) (aCons (eLst (aCons (eTup aNil) (aCons (eLst aNil) (aCons (eTup (aCons (eK (.str "a")) aNil)) (aCons (eLst (aCons (eK (.str "a")) aNil)) (aCons (eTup (aCons (eTup (aCons (eK (.str "a")) (aCons (eK (.int 1)) aNil))) aNil)) (aCons (eTup (aCons (eTup (aCons (eK (.str "a")) (aCons (eK (.int 0)) aNil))) aNil)) (aCons (eTup (aCons (eTup (aCons (eK (.str "a")) (aCons (e1 gNeg (eK (.int 1))) aNil))) aNil)) (aCons (eTup (aCons (eTup (aCons (eK (.str "a")) (aCons (eK (.bool true)) aNil))) aNil)) (aCons (eTup (aCons (eK (.str "a")) (aCons (eK (.int 1)) aNil))) aNil)))))))))) aNil)))
    (sSeq (sExpr (eM chkL gAppend (eV 1) (aCons (eTup (aCons (eTup (aCons (eK (.str "a")) (aCons (eK .none) aNil))) aNil)) aNil)))
    (sSeq (sExpr (eM chkL gExtend (eV 1) (aCons (eLst (aCons (eTup (aCons (eTup (aCons (eK (.str "a")) (aCons (eK (.int 1)) aNil))) (aCons (eTup (aCons (eK (.str "b")) (aCons (eK (.int 2)) aNil))) aNil))) (aCons (eTup (aCons (eTup (aCons (eK (.str "b")) (aCons (eK (.int 1)) aNil))) (aCons (eTup (aCons (eK (.str "a")) (aCons (eK (.int 2)) aNil))) aNil))) (aCons (eTup (aCons (eTup (aCons (eK (.str "a")) (aCons (eK (.int 1)) aNil))) (aCons (eTup (aCons (eK (.str "a")) (aCons (eK (.int 2)) aNil))) aNil))) (aCons (eLst (aCons (eTup (aCons (eK (.str "a")) (aCons (eK (.int 1)) aNil))) aNil)) (aCons (eTup (aCons (eLst (aCons (eK (.str "a")) (aCons (eK (.int 1)) aNil))) aNil)) (aCons (eTup (aCons (eTup (aCons (eK (.str "a")) aNil)) aNil)) aNil))))))) aNil)))
    (sSeq (sExpr (eM chkL gExtend (eV 1) (aCons (eLst (aCons (eTup (aCons (eTup (aCons (eK (.str "a")) (aCons (eK (.int 1)) (aCons (eK (.int 1)) aNil)))) aNil)) (aCons (eTup (aCons (eTup (aCons (eK (.str "")) (aCons (eK (.int 1)) aNil))) aNil)) (aCons (eTup (aCons (eTup (aCons (eK (.str "A")) (aCons (eK (.int 1)) aNil))) aNil)) (aCons (eTup (aCons (eTup (aCons (eK (.str "abcdefghi")) (aCons (eK (.int 1)) aNil))) aNil)) (aCons (eTup (aCons (eTup (aCons (eK (.str "a")) (aCons (eV 0) aNil))) aNil)) (aCons (eTup (aCons (eTup (aCons (eK (.str "a")) (aCons (eK (.str "1")) aNil))) aNil)) aNil))))))) aNil)))
    (sSeq (sExpr (eM chkL gAppend (eV 1) (aCons (eTup (aCons (eK .none) aNil)) aNil)))
    (sSeq (sExpr (eM chkL gExtend (eV 1) (aCons (eLst (aCons (eTup (aCons (eTup (aCons (eK (.int 1)) (aCons (eK (.str "a")) aNil))) aNil)) (aCons (eTup (aCons (eTup (aCons (eLst (aCons (eK (.str "a")) aNil)) (aCons (eK (.int 1)) aNil))) aNil)) (aCons (eTup (aCons (eTup (aCons (eK (.str "a")) (aCons (eLst (aCons (eK (.int 1)) aNil)) aNil))) aNil)) (aCons (eTup (aCons (eTup (aCons (eK (.str "a")) (aCons (eK (.int 1)) aNil))) (aCons (eK .none) aNil))) (aCons (eTup (aCons (eTup (aCons (eK (.str "ab")) (aCons (eK (.int 1)) aNil))) (aCons (eTup (aCons (eK (.str "b")) (aCons (eK (.int 1)) aNil))) aNil))) aNil)))))) aNil)))
    (sSeq (sExpr (eM chkL gAppend (eV 1) (aCons (eTup (aCons (eTup (aCons (eK (.str "b")) (aCons (eK (.int 1)) aNil))) (aCons (eTup (aCons (eK (.str "ab")) (aCons (eK (.int 1)) aNil))) aNil))) aNil)))
    (sSeq (sExpr (eM chkL gExtend (eV 1) (aCons LC__law_fixed_1 aNil)))
    (sSeq (sSet 0 2 (eN gTuple (aCons LC__law_fixed_2 aNil)))
    (sRet 0 (e2 gAdd (eV 1) (eLst (aCons (eV 2) (aCons (e2 gAdd (eV 2) (eTup (aCons (eTup (aCons (eK (.str "qz")) (aCons (eK (.int 4)) aNil))) aNil))) (aCons (e2 gAdd (e2 gAdd (eSl (eV 2) oNone (oSome (eK (.int 9)))) (eTup (aCons (eTup (aCons (eK (.str "qj")) (aCons (eK (.int 0)) aNil))) aNil))) (eSl (eV 2) (oSome (eK (.int 10))) oNone)) aNil)))))))))))))))))
def BF_law_1 : FS := (sSeq (sPar3 1 7 8 9 (aCons (eCall 2 F__law_word [] (aCons (eV 1) (aCons (eLst aNil) aNil))) (aCons (eCall 1 F__law_great [] (aCons (eV 1) aNil)) (aCons (eCall 1 F__law_objects [] (aCons (eV 1) aNil)) aNil))))
    (sSeq (sSet 1 5 (eSl (e2 gAdd (eV 7) (eK (.str "abcdefgh"))) oNone (oSome (eK (.int 8)))))
    (sSeq (sSet 1 6 (eCall 3 F__law_bend [] (aCons (eV 1) (aCons (eV 9) (aCons (eV 2) aNil)))))
    (sSeq (sExpr (eM chkL gExtend (eV 3) (aCons (eLst (aCons (eV 7) (aCons (eCall 2 F__law_spoilt [] (aCons (eV 1) (aCons (eV 7) aNil))) (aCons (eV 5) (aCons (e2 gAdd (eV 5) (eK (.str "a"))) (aCons (eV 8) (aCons (e1 gNeg (eV 8)) (aCons (eV 9) (aCons (eV 6) (aCons (eRev (eV 9)) aNil)))))))))) aNil)))
    (sExpr (eM chkL gExtend (eV 3) (aCons (eLst (aCons (eCall 3 F__law_bend [] (aCons (eV 1) (aCons (eV 6) (aCons (eV 2) aNil)))) (aCons (e2 gAdd (eV 9) (eSl (eV 9) oNone (oSome (eK (.int 1))))) (aCons (eN gList (aCons (eV 9) aNil)) aNil)))) aNil)))))))
def LF_law_2 : FS := (sFor 1 (iRng1 (eK (.int 6))) (.nm 4) BF_law_1)
def BF_law_3 : FS := (sSeq (sSet 1 12 (eTup (aCons (eCall 1 F_is_number [] (aCons (eV 11) aNil)) (aCons (eCall 1 F_is_word [] (aCons (eV 11) aNil)) (aCons (eCall 1 F_is_operand [] (aCons (eV 11) aNil)) (aCons (eCall 1 F_is_objects [] (aCons (eV 11) aNil)) aNil))))))
    (sSeq (sSet 1 13 (eTup (aCons (eCall 1 F__law_number [] (aCons (eV 11) aNil)) (aCons (eCall 1 F__law_worded [] (aCons (eV 11) aNil)) (aCons (eCall 1 F__law_operanded [] (aCons (eV 11) aNil)) (aCons (eCall 1 F__law_objected [] (aCons (eV 11) aNil)) aNil))))))
    (sIf (rB (e2 (gEqA true) (eN gReprA (aCons (eV 12) aNil)) (eN gReprA (aCons (eV 13) aNil)))) (sRet 1 (eK (.bool false))) sNil)))
def LF_law_4 : FS := (sFor 1 (iSeq (eV 3)) (.nm 11) BF_law_3)
def F_law : Fn := fnBody 1 14
    (sSeq (sSet 1 1 (eCall 1 F__law_feed [] (aCons (eV 0) aNil)))
    (sSeq (sSet 1 2 (eCall 0 F__law_odd [] aNil))
    (sSeq (sSet 1 3 (eCall 0 F__law_fixed [] aNil))
    (sSeq LF_law_2
    (sSeq (sSet 1 10 (eN gReprA (aCons (eV 3) aNil)))
    (sSeq LF_law_4
    (sRet 1 (e2 (gEqA false) (eN gReprA (aCons (eV 3) aNil)) (eV 10)))))))))
/-! ### that it does so -/
section
variable {P : Program} {w : World} {K : PySem.W.Frag} {mg : Str → Option Value} {base : Heap}
set_option maxHeartbeats 4000000 in
theorem ok_is_number {f_ : Addr} {fd_ : FuncData} (F_ : Fun K "is_number" "is_number" st_is_number f_ fd_) (m_isinstance : mg "isinstance" = none) (m_int : mg "int" = none) (m_bool : mg "bool" = none) : FnG P w K mg base 1 f_ fd_ ["thing"] (spF K w 1 F_is_number) :=
  fn_okG (N := ["thing"]) (n := 1) (c := fun i => false) F_ sc_is_number rfl rfl (by decide) fun cdv A outer s H G vs bor hr hl =>
    (mss_one (ms_ret hl (me_and (me_isi rfl (by rfl) m_isinstance (by rfl) m_int PyProof.Rows.boot_int (me_var (pv 0) rfl)) (me_one (me_not (me_isi rfl (by rfl) m_isinstance (by rfl) m_bool PyProof.Rows.boot_bool (me_var (pv 0) rfl)))))))
set_option maxHeartbeats 4000000 in
theorem ok_is_count {f_ : Addr} {fd_ : FuncData} (F_ : Fun K "is_count" "is_count" st_is_count f_ fd_) {f_is_number : Addr} {fd_is_number : FuncData} (ok_is_number : FnG P w K mg base 1 f_is_number fd_is_number ["thing"] (spF K w 1 F_is_number)) (k_is_number : PySem.W.keepIn K (.ref f_is_number) = true) (b_is_number : Binds K fd_is_number ["thing"] []) (g_is_number : mg "is_number" = some (.ref f_is_number)) : FnG P w K mg base 2 f_ fd_ ["thing"] (spF K w 1 F_is_count) :=
  fn_okG (N := ["thing"]) (n := 1) (c := fun i => false) F_ sc_is_count rfl rfl (by decide) fun cdv A outer s H G vs bor hr hl =>
    (mss_one (ms_ret hl (me_and (me_callGG (ds := []) rfl rfl ok_is_number (hr.less (by decide)) (by rfl) g_is_number k_is_number b_is_number .nil (fun _ => .nil) (ma_cons (me_var (pv 0) rfl) ma_nil)) (me_one (me_cmp op_ge s_ge (me_var (pv 0) rfl) me_int (nomark _))))))
set_option maxHeartbeats 4000000 in
theorem ok_is_word {f_ : Addr} {fd_ : FuncData} (F_ : Fun K "is_word" "is_word" st_is_word f_ fd_) (m_isinstance : mg "isinstance" = none) (m_str : mg "str" = none) (m_len : mg "len" = none) (m_all : mg "all" = none) (c_LONGEST : ∃ t, mg "LONGEST" = some (.int 8 t)) (c_LETTERS : ∃ t, mg "LETTERS" = some (.str "abcdefghijklmnopqrstuvwxyz" t)) : FnG P w K mg base 1 f_ fd_ ["thing"] (spF K w 1 F_is_word) :=
  fn_okG (N := ["thing", "sign"]) (n := 2) (c := fun i => i == 1) F_ sc_is_word rfl rfl (by decide) fun cdv A outer s H G vs bor hr hl =>
    (mss_cons (ms_if ((mw_or (mt_not (mt_val (me_isi rfl (by rfl) m_isinstance (by rfl) m_str PyProof.Rows.boot_str (me_var (pv 0) rfl)))) (mw_or1 (mt_not (mt_chain op_le s_le op_le s_le me_int (me_callB call_lenA s_len (by rfl) m_len boot_len (ma_cons (me_var (pv 0) rfl) ma_nil)) (me_gint c_LONGEST (by rfl))))))).pt (mss_one (ms_ret hl me_bl)) mss_nil)
    (mss_one (ms_ret hl (me_callB (cr_all rfl) s_all (by rfl) m_all PyProof.Rows.boot_all (ma_cons (me_lc (own := [("sign", 1)]) rfl sc_is_word.nd (all_mem rfl) (all_ge hl rfl) (mi_any rfl (me_var (pv 0) rfl)) (blkOk_by (by with_unfolding_all rfl)) (fun s0 H0 C cl fp => (mg_name (i := 1) hl sc_is_word.nd rfl (by first | exact .inl rfl | exact .inr rfl))) (fun s0 H0 C cl fp => mts_nil) (fun s0 H0 C cl fp => (me_cmp (op_inT (hu65 hr.toRoom)) s_inT (me_cvar (pv 1)) (me_gstr c_LETTERS (by rfl)) (by with_unfolding_all rfl)))) ma_nil)))))
set_option maxHeartbeats 4000000 in
theorem ok_is_operand {f_ : Addr} {fd_ : FuncData} (F_ : Fun K "is_operand" "is_operand" st_is_operand f_ fd_) {f_is_number : Addr} {fd_is_number : FuncData} (ok_is_number : FnG P w K mg base 1 f_is_number fd_is_number ["thing"] (spF K w 1 F_is_number)) (k_is_number : PySem.W.keepIn K (.ref f_is_number) = true) (b_is_number : Binds K fd_is_number ["thing"] []) (g_is_number : mg "is_number" = some (.ref f_is_number)) {f_is_word : Addr} {fd_is_word : FuncData} (ok_is_word : FnG P w K mg base 1 f_is_word fd_is_word ["thing"] (spF K w 1 F_is_word)) (k_is_word : PySem.W.keepIn K (.ref f_is_word) = true) (b_is_word : Binds K fd_is_word ["thing"] []) (g_is_word : mg "is_word" = some (.ref f_is_word)) : FnG P w K mg base 2 f_ fd_ ["thing"] (spF K w 1 F_is_operand) :=
  fn_okG (N := ["thing"]) (n := 1) (c := fun i => false) F_ sc_is_operand rfl rfl (by decide) fun cdv A outer s H G vs bor hr hl =>
    (mss_one (ms_ret hl (me_or (me_callGG (ds := []) rfl rfl ok_is_number (hr.less (by decide)) (by rfl) g_is_number k_is_number b_is_number .nil (fun _ => .nil) (ma_cons (me_var (pv 0) rfl) ma_nil)) (me_one (me_callGG (ds := []) rfl rfl ok_is_word (hr.less (by decide)) (by rfl) g_is_word k_is_word b_is_word .nil (fun _ => .nil) (ma_cons (me_var (pv 0) rfl) ma_nil))))))
set_option maxHeartbeats 4000000 in
theorem ok_is_pair {f_ : Addr} {fd_ : FuncData} (F_ : Fun K "is_pair" "is_pair" st_is_pair f_ fd_) {f_is_word : Addr} {fd_is_word : FuncData} (ok_is_word : FnG P w K mg base 1 f_is_word fd_is_word ["thing"] (spF K w 1 F_is_word)) (k_is_word : PySem.W.keepIn K (.ref f_is_word) = true) (b_is_word : Binds K fd_is_word ["thing"] []) (g_is_word : mg "is_word" = some (.ref f_is_word)) (m_isinstance : mg "isinstance" = none) (m_tuple : mg "tuple" = none) (m_len : mg "len" = none) : FnG P w K mg base 2 f_ fd_ ["thing"] (spF K w 1 F_is_pair) :=
  fn_okG (N := ["thing"]) (n := 1) (c := fun i => false) F_ sc_is_pair rfl rfl (by decide) fun cdv A outer s H G vs bor hr hl =>
    (mss_one (ms_ret hl (me_and (me_isi rfl (by rfl) m_isinstance (by rfl) m_tuple PyProof.Rows.boot_tuple (me_var (pv 0) rfl)) (me_and (me_cmp (op_eqA hr.toRoom.units) s_eqA (me_callB call_lenA s_len (by rfl) m_len boot_len (ma_cons (me_var (pv 0) rfl) ma_nil)) me_int (nomark _)) (me_one (me_callGG (ds := []) rfl rfl ok_is_word (hr.less (by decide)) (by rfl) g_is_word k_is_word b_is_word .nil (fun _ => .nil) (ma_cons (me_ix (hu_of hr.toRoom) s_ix (me_var (pv 0) rfl) me_int (fun _ _ => rfl)) ma_nil)))))))
set_option maxHeartbeats 4000000 in
theorem ok_are_pairs {f_ : Addr} {fd_ : FuncData} (F_ : Fun K "are_pairs" "are_pairs" st_are_pairs f_ fd_) {f_is_pair : Addr} {fd_is_pair : FuncData} (ok_is_pair : FnG P w K mg base 2 f_is_pair fd_is_pair ["thing"] (spF K w 1 F_is_pair)) (k_is_pair : PySem.W.keepIn K (.ref f_is_pair) = true) (b_is_pair : Binds K fd_is_pair ["thing"] []) (g_is_pair : mg "is_pair" = some (.ref f_is_pair)) (m_isinstance : mg "isinstance" = none) (m_tuple : mg "tuple" = none) (m_len : mg "len" = none) (m_all : mg "all" = none) (m_zip : mg "zip" = none) : FnG P w K mg base 3 f_ fd_ ["thing"] (spF K w 1 F_are_pairs) :=
  fn_okG (N := ["thing", "pair", "one", "other"]) (n := 4) (c := fun i => i == 1 || i == 2 || i == 3) F_ sc_are_pairs rfl rfl (by decide) fun cdv A outer s H G vs bor hr hl =>
    (mss_cons (ms_if ((mw_or (mt_not (mt_val (me_isi rfl (by rfl) m_isinstance (by rfl) m_tuple PyProof.Rows.boot_tuple (me_var (pv 0) rfl)))) (mw_or (mt_cmp (op_eqA hr.toRoom.units) s_eqA (me_callB call_lenA s_len (by rfl) m_len boot_len (ma_cons (me_var (pv 0) rfl) ma_nil)) me_int (nomark _)) (mw_or1 (mt_not (mt_val (me_callB (cr_all rfl) s_all (by rfl) m_all PyProof.Rows.boot_all (ma_cons (me_lc (own := [("pair", 1)]) rfl sc_are_pairs.nd (all_mem rfl) (all_ge hl rfl) (mi_seq rfl (me_var (pv 0) rfl)) (blkOk_by (by with_unfolding_all rfl)) (fun s0 H0 C cl fp => (mg_name (i := 1) hl sc_are_pairs.nd rfl (by first | exact .inl rfl | exact .inr rfl))) (fun s0 H0 C cl fp => mts_nil) (fun s0 H0 C cl fp => (me_callGG (ds := []) rfl rfl ok_is_pair (hr.less (by decide)) (by rfl) g_is_pair k_is_pair b_is_pair .nil (fun _ => .nil) (ma_cons (me_cvar (pv 1)) ma_nil)))) ma_nil)))))))).pt (mss_one (ms_ret hl me_bl)) mss_nil)
    (mss_one (ms_ret hl (me_callB (cr_all rfl) s_all (by rfl) m_all PyProof.Rows.boot_all (ma_cons (me_lc (own := [("one", 2), ("other", 3)]) rfl sc_are_pairs.nd (all_mem rfl) (all_ge hl rfl) (mi_zip rfl (by rfl) m_zip (me_var (pv 0) rfl) (me_sl rfl (me_var (pv 0) rfl) (mo_some me_int) mo_none)) (blkOk_by (by with_unfolding_all rfl)) (fun s0 H0 C cl fp => (mg_tup rfl rfl (mgs_cons (mg_name (i := 2) hl sc_are_pairs.nd rfl (by first | exact .inl rfl | exact .inr rfl)) (mgs_cons (mg_name (i := 3) hl sc_are_pairs.nd rfl (by first | exact .inl rfl | exact .inr rfl)) mgs_nil)))) (fun s0 H0 C cl fp => mts_nil) (fun s0 H0 C cl fp => (me_cmp (op_ltA hr.toRoom.units) s_ltA (me_ix (hu_of hr.toRoom) s_ix (me_cvar (pv 2)) me_int (fun _ _ => rfl)) (me_ix (hu_of hr.toRoom) s_ix (me_cvar (pv 3)) me_int (fun _ _ => rfl)) (nomark _)))) ma_nil)))))
set_option maxHeartbeats 4000000 in
theorem ok_is_objects {f_ : Addr} {fd_ : FuncData} (F_ : Fun K "is_objects" "is_objects" st_is_objects f_ fd_) {f_are_pairs : Addr} {fd_are_pairs : FuncData} (ok_are_pairs : FnG P w K mg base 3 f_are_pairs fd_are_pairs ["thing"] (spF K w 1 F_are_pairs)) (k_are_pairs : PySem.W.keepIn K (.ref f_are_pairs) = true) (b_are_pairs : Binds K fd_are_pairs ["thing"] []) (g_are_pairs : mg "are_pairs" = some (.ref f_are_pairs)) {f_is_count : Addr} {fd_is_count : FuncData} (ok_is_count : FnG P w K mg base 2 f_is_count fd_is_count ["thing"] (spF K w 1 F_is_count)) (k_is_count : PySem.W.keepIn K (.ref f_is_count) = true) (b_is_count : Binds K fd_is_count ["thing"] []) (g_is_count : mg "is_count" = some (.ref f_is_count)) (m_all : mg "all" = none) : FnG P w K mg base 4 f_ fd_ ["thing"] (spF K w 1 F_is_objects) :=
  fn_okG (N := ["thing", "word", "size"]) (n := 3) (c := fun i => i == 1 || i == 2) F_ sc_is_objects rfl rfl (by decide) fun cdv A outer s H G vs bor hr hl =>
    (mss_one (ms_ret hl (me_and (me_callGG (ds := []) rfl rfl ok_are_pairs (hr.less (by decide)) (by rfl) g_are_pairs k_are_pairs b_are_pairs .nil (fun _ => .nil) (ma_cons (me_var (pv 0) rfl) ma_nil)) (me_one (me_callB (cr_all rfl) s_all (by rfl) m_all PyProof.Rows.boot_all (ma_cons (me_lc (own := [("word", 1), ("size", 2)]) rfl sc_is_objects.nd (all_mem rfl) (all_ge hl rfl) (mi_seq rfl (me_var (pv 0) rfl)) (blkOk_by (by with_unfolding_all rfl)) (fun s0 H0 C cl fp => (mg_tup rfl rfl (mgs_cons (mg_name (i := 1) hl sc_is_objects.nd rfl (by first | exact .inl rfl | exact .inr rfl)) (mgs_cons (mg_name (i := 2) hl sc_is_objects.nd rfl (by first | exact .inl rfl | exact .inr rfl)) mgs_nil)))) (fun s0 H0 C cl fp => mts_nil) (fun s0 H0 C cl fp => (me_and (me_callGG (ds := []) rfl rfl ok_is_count (hr.less (by decide)) (by rfl) g_is_count k_is_count b_is_count .nil (fun _ => .nil) (ma_cons (me_cvar (pv 2)) ma_nil)) (me_one (me_cmp op_gt s_gt (me_cvar (pv 2)) me_int (nomark _)))))) ma_nil))))))
set_option maxHeartbeats 4000000 in
theorem ok__law_feed {f_ : Addr} {fd_ : FuncData} (F_ : Fun K "_law_feed" "_law_feed" st__law_feed f_ fd_) : FnG P w K mg base 1 f_ fd_ ["_law_script"] (spF K w 1 F__law_feed) :=
  fn_okG (N := ["_law_script"]) (n := 1) (c := fun i => false) F_ sc__law_feed rfl rfl (by decide) fun cdv A outer s H G vs bor hr hl =>
    (mss_one (ms_ret hl (me_lst (ma_cons (me_sl rfl (me_var (pv 0) rfl) mo_none (mo_some me_int)) (ma_cons me_int (ma_cons me_int (ma_cons me_int ma_nil)))))))
set_option maxHeartbeats 4000000 in
theorem ok__law_draw {f_ : Addr} {fd_ : FuncData} (F_ : Fun K "_law_draw" "_law_draw" st__law_draw f_ fd_) (m_len : mg "len" = none) : FnG P w K mg base 1 f_ fd_ ["_law_feed_here", "_law_many"] (spF K w 2 F__law_draw) :=
  fn_okG (N := ["_law_feed_here", "_law_many", "_law_told", "_law_cell", "_law_turn", "_law_mixed"]) (n := 6) (c := fun i => false) F_ sc__law_draw rfl rfl (by decide) fun cdv A outer s H G vs bor hr hl =>
    (mss_cons (ms_augIx rfl (hu_of hr.toRoom) ip_add (me_var (pv 0) rfl) me_int me_int)
    (mss_cons (ms_if (mt_cmp op_gt s_gt (me_ix (hu_of hr.toRoom) s_ix (me_var (pv 0) rfl) me_int (fun _ _ => rfl)) me_int (nomark _)) (mss_cons (ms_set (i := 2) hl sc__law_draw.nd rfl (by first | exact .inl rfl | exact .inr rfl) (me_bin op_mod s_mod (me_ix (hu_of hr.toRoom) s_ix (me_var (pv 0) rfl) me_int (fun _ _ => rfl)) (me_var (pv 1) rfl)))
    (mss_cons (ms_setIx (hu_of hr.toRoom) (me_bin op_fdiv s_div (me_ix (hu_of hr.toRoom) s_ix (me_var (pv 0) rfl) me_int (fun _ _ => rfl)) (me_var (pv 1) rfl)) (me_var (pv 0) rfl) me_int)
    (mss_one (ms_ret hl (me_var (pv 2) rfl))))) mss_nil)
    (mss_cons (ms_set (i := 3) hl sc__law_draw.nd rfl (by first | exact .inl rfl | exact .inr rfl) (me_if (mt_cmp (op_eqA hr.toRoom.units) s_eqA (me_ix (hu_of hr.toRoom) s_ix (me_var (pv 0) rfl) me_int (fun _ _ => rfl)) (me_lst ma_nil) (nomark _)) me_int (me_ix (hu_of hr.toRoom) s_ix (me_ix (hu_of hr.toRoom) s_ix (me_var (pv 0) rfl) me_int (fun _ _ => rfl)) (me_bin op_mod s_mod (me_ix (hu_of hr.toRoom) s_ix (me_var (pv 0) rfl) me_int (fun _ _ => rfl)) (me_callB call_lenA s_len (by rfl) m_len boot_len (ma_cons (me_ix (hu_of hr.toRoom) s_ix (me_var (pv 0) rfl) me_int (fun _ _ => rfl)) ma_nil))) (fun _ _ => rfl))))
    (mss_cons (ms_augIx rfl (hu_of hr.toRoom) ip_add (me_var (pv 0) rfl) me_int me_int)
    (mss_cons (ms_if ((mw_and (mt_cmp op_ge s_ge (me_var (pv 3) rfl) (me_bin op_pow s_pow me_int me_int) (nomark _)) (mw_and1 (mt_cmp op_le s_le (me_ix (hu_of hr.toRoom) s_ix (me_var (pv 0) rfl) me_int (fun _ _ => rfl)) (me_callB call_lenA s_len (by rfl) m_len boot_len (ma_cons (me_ix (hu_of hr.toRoom) s_ix (me_var (pv 0) rfl) me_int (fun _ _ => rfl)) ma_nil)) (nomark _))))).pt (mss_cons (ms_setIx (hu_of hr.toRoom) (me_bin op_fdiv s_div (me_var (pv 3) rfl) (me_var (pv 1) rfl)) (me_var (pv 0) rfl) me_int)
    (mss_one (ms_ret hl (me_bin op_mod s_mod (me_var (pv 3) rfl) (me_var (pv 1) rfl))))) mss_nil)
    (mss_cons (ms_set (i := 4) hl sc__law_draw.nd rfl (by first | exact .inl rfl | exact .inr rfl) (me_ix (hu_of hr.toRoom) s_ix (me_var (pv 0) rfl) me_int (fun _ _ => rfl)))
    (mss_cons (ms_set (i := 5) hl sc__law_draw.nd rfl (by first | exact .inl rfl | exact .inr rfl) (me_bin op_mod s_mod (me_bin op_addA s_add (me_bin op_addA s_add (me_bin op_mod s_mod (me_var (pv 3) rfl) me_int) (me_bin op_mulW s_mul (me_bin op_mulW s_mul me_int (me_var (pv 4) rfl)) (me_var (pv 4) rfl))) (me_bin op_mulW s_mul me_int (me_var (pv 4) rfl))) me_int))
    (mss_cons (ms_set (i := 5) hl sc__law_draw.nd rfl (by first | exact .inl rfl | exact .inr rfl) (me_bin op_mod s_mod (me_bin op_addA s_add (me_bin op_mulW s_mul (me_var (pv 5) rfl) (me_var (pv 5) rfl)) (me_bin op_mulW s_mul me_int (me_var (pv 4) rfl))) me_int))
    (mss_cons (ms_set (i := 5) hl sc__law_draw.nd rfl (by first | exact .inl rfl | exact .inr rfl) (me_bin op_mod s_mod (me_bin op_addA s_add (me_bin op_mulW s_mul (me_var (pv 5) rfl) (me_var (pv 5) rfl)) (me_bin op_mulW s_mul me_int (me_var (pv 4) rfl))) me_int))
    (mss_one (ms_ret hl (me_bin op_mod s_mod (me_bin op_fdiv s_div (me_bin op_mod s_mod (me_bin op_addA s_add (me_bin op_mulW s_mul (me_var (pv 5) rfl) (me_var (pv 5) rfl)) (me_var (pv 4) rfl)) me_int) me_int) (me_var (pv 1) rfl)))))))))))))
set_option maxHeartbeats 4000000 in
theorem ok__law_after {f_ : Addr} {fd_ : FuncData} (F_ : Fun K "_law_after" "_law_after" st__law_after f_ fd_) (m_len : mg "len" = none) : FnG P w K mg base 1 f_ fd_ ["_law_word_here"] (spF K w 1 F__law_after) :=
  fn_okG (N := ["_law_word_here", "_law_letters", "_law_at", "_law_sign"]) (n := 4) (c := fun i => false) F_ sc__law_after rfl rfl (by decide) fun cdv A outer s H G vs bor hr hl =>
    (mss_cons (ms_set (i := 1) hl sc__law_after.nd rfl (by first | exact .inl rfl | exact .inr rfl) me_str)
    (mss_cons (ms_if (mt_cmp op_lt s_lt (me_callB call_lenA s_len (by rfl) m_len boot_len (ma_cons (me_var (pv 0) rfl) ma_nil)) me_int (nomark _)) (mss_one (ms_ret hl (me_bin op_addA s_add (me_var (pv 0) rfl) me_str))) mss_nil)
    (mss_cons (ms_set (i := 2) hl sc__law_after.nd rfl (by first | exact .inl rfl | exact .inr rfl) me_int)
    (mss_cons (ms_while PassesOwn.never ((mw_and (mt_cmp op_gt s_gt (me_var (pv 2) rfl) me_int (nomark _)) (mw_and1 (mt_cmp (op_eqA hr.toRoom.units) s_eqA (me_ix (hu_of hr.toRoom) s_ix (me_var (pv 0) rfl) (me_var (pv 2) rfl) (fun _ _ => rfl)) me_str (nomark _))))).pt (mss_one (ms_augN (i := 2) hl sc__law_after.nd rfl (by first | exact .inl rfl | exact .inr rfl) ip_sub me_int (fun _ _ a b => ps_aug (i := 2) sc__law_after.nd rfl (by first | exact .inl rfl | exact .inr rfl) a b))))
    (mss_cons (ms_set (i := 3) hl sc__law_after.nd rfl (by first | exact .inl rfl | exact .inr rfl) (me_ix (hu_of hr.toRoom) s_ix (me_var (pv 1) rfl) (me_bin op_mod s_mod (me_bin op_addA s_add (me_bm rfl PySem.F.plainAttrs_str PySem.F.slot_str_index PySem.F.type_str_index mt_sIndex s_chkS s_sIndex (me_var (pv 1) rfl) (ma_cons (me_ix (hu_of hr.toRoom) s_ix (me_var (pv 0) rfl) (me_var (pv 2) rfl) (fun _ _ => rfl)) ma_nil)) me_int) me_int) (fun _ _ => rfl)))
    (mss_one (ms_ret hl (me_bin op_addA s_add (me_bin op_addA s_add (me_sl rfl (me_var (pv 0) rfl) mo_none (mo_some (me_var (pv 2) rfl))) (me_var (pv 3) rfl)) (me_bin op_mulS s_mulS me_str (me_bin op_sub s_sub me_int (me_var (pv 2) rfl)))))))))))
set_option maxHeartbeats 4000000 in
theorem ok__law_word {f_ : Addr} {fd_ : FuncData} (F_ : Fun K "_law_word" "_law_word" st__law_word f_ fd_) {f__law_draw : Addr} {fd__law_draw : FuncData} (ok__law_draw : FnG P w K mg base 1 f__law_draw fd__law_draw ["_law_feed_here", "_law_many"] (spF K w 2 F__law_draw)) (k__law_draw : PySem.W.keepIn K (.ref f__law_draw) = true) (b__law_draw : Binds K fd__law_draw ["_law_feed_here", "_law_many"] []) (g__law_draw : mg "_law_draw" = some (.ref f__law_draw)) {f__law_after : Addr} {fd__law_after : FuncData} (ok__law_after : FnG P w K mg base 1 f__law_after fd__law_after ["_law_word_here"] (spF K w 1 F__law_after)) (k__law_after : PySem.W.keepIn K (.ref f__law_after) = true) (b__law_after : Binds K fd__law_after ["_law_word_here"] []) (g__law_after : mg "_law_after" = some (.ref f__law_after)) (m_range : mg "range" = none) (m_len : mg "len" = none) : FnG P w K mg base 2 f_ fd_ ["_law_feed_here", "_law_found"] (spF K w 2 F__law_word) :=
  fn_okG (N := ["_law_feed_here", "_law_found", "_law_letters", "_law_way", "_law_word_here", "_law_k", "_law_own"]) (n := 7) (c := fun i => false) F_ sc__law_word rfl rfl (by decide) fun cdv A outer s H G vs bor hr hl =>
    (mss_cons (ms_set (i := 2) hl sc__law_word.nd rfl (by first | exact .inl rfl | exact .inr rfl) me_str)
    (mss_cons (ms_set (i := 3) hl sc__law_word.nd rfl (by first | exact .inl rfl | exact .inr rfl) (me_callGG (ds := []) rfl rfl ok__law_draw (hr.less (by decide)) (by rfl) g__law_draw k__law_draw b__law_draw .nil (fun _ => .nil) (ma_cons (me_var (pv 0) rfl) (ma_cons me_int ma_nil))))
    (mss_cons (ms_set (i := 4) hl sc__law_word.nd rfl (by first | exact .inl rfl | exact .inr rfl) (me_ix (hu_of hr.toRoom) s_ix (me_var (pv 2) rfl) (me_callGG (ds := []) rfl rfl ok__law_draw (hr.less (by decide)) (by rfl) g__law_draw k__law_draw b__law_draw .nil (fun _ => .nil) (ma_cons (me_var (pv 0) rfl) (ma_cons me_int ma_nil))) (fun _ _ => rfl)))
    (mss_cons (ms_if ((mw_or (mt_cmp op_gt s_gt (me_var (pv 3) rfl) me_int (nomark _)) (mw_or1 (mt_cmp (op_eqA hr.toRoom.units) s_eqA (me_var (pv 1) rfl) (me_lst ma_nil) (nomark _))))).pt (mss_one (ms_for PassesOwn.never rfl (mi_range1 (by rfl) m_range (me_callGG (ds := []) rfl rfl ok__law_draw (hr.less (by decide)) (by rfl) g__law_draw k__law_draw b__law_draw .nil (fun _ => .nil) (ma_cons (me_var (pv 0) rfl) (ma_cons me_int ma_nil)))) (mg_name (i := 5) hl sc__law_word.nd rfl (by first | exact .inl rfl | exact .inr rfl)) (mss_one (ms_set (i := 4) hl sc__law_word.nd rfl (by first | exact .inl rfl | exact .inr rfl) (me_bin op_addA s_add (me_var (pv 4) rfl) (me_ix (hu_of hr.toRoom) s_ix (me_var (pv 2) rfl) (me_callGG (ds := []) rfl rfl ok__law_draw (hr.less (by decide)) (by rfl) g__law_draw k__law_draw b__law_draw .nil (fun _ => .nil) (ma_cons (me_var (pv 0) rfl) (ma_cons me_int ma_nil))) (fun _ _ => rfl))))))) (mss_cons (ms_set (i := 6) hl sc__law_word.nd rfl (by first | exact .inl rfl | exact .inr rfl) (me_ix (hu_of hr.toRoom) s_ix (me_var (pv 1) rfl) (me_callGG (ds := []) rfl rfl ok__law_draw (hr.less (by decide)) (by rfl) g__law_draw k__law_draw b__law_draw .nil (fun _ => .nil) (ma_cons (me_var (pv 0) rfl) (ma_cons (me_callB call_lenA s_len (by rfl) m_len boot_len (ma_cons (me_var (pv 1) rfl) ma_nil)) ma_nil))) (fun _ _ => rfl)))
    (mss_one (ms_set (i := 4) hl sc__law_word.nd rfl (by first | exact .inl rfl | exact .inr rfl) (me_if (mt_cmp (op_eqA hr.toRoom.units) s_eqA (me_var (pv 3) rfl) me_int (nomark _)) (me_sl rfl (me_var (pv 6) rfl) mo_none (mo_some (me_bin op_addA s_add me_int (me_callGG (ds := []) rfl rfl ok__law_draw (hr.less (by decide)) (by rfl) g__law_draw k__law_draw b__law_draw .nil (fun _ => .nil) (ma_cons (me_var (pv 0) rfl) (ma_cons (me_callB call_lenA s_len (by rfl) m_len boot_len (ma_cons (me_var (pv 6) rfl) ma_nil)) ma_nil)))))) (me_bin op_addA s_add (me_sl rfl (me_var (pv 6) rfl) mo_none (mo_some me_int)) (me_ix (hu_of hr.toRoom) s_ix (me_var (pv 2) rfl) (me_callGG (ds := []) rfl rfl ok__law_draw (hr.less (by decide)) (by rfl) g__law_draw k__law_draw b__law_draw .nil (fun _ => .nil) (ma_cons (me_var (pv 0) rfl) (ma_cons me_int ma_nil))) (fun _ _ => rfl))))))))
    (mss_cons (ms_for PassesOwn.never rfl (mi_range1 (by rfl) m_range me_int) (mg_name (i := 5) hl sc__law_word.nd rfl (by first | exact .inl rfl | exact .inr rfl)) (mss_cons (ms_if (mt_cmp (op_notInA (hu65 hr.toRoom)) s_notIn (me_var (pv 4) rfl) (me_var (pv 1) rfl) (by with_unfolding_all rfl)) (mss_one ms_break) mss_nil)
    (mss_one (ms_set (i := 4) hl sc__law_word.nd rfl (by first | exact .inl rfl | exact .inr rfl) (me_callGG (ds := []) rfl rfl ok__law_after (hr.less (by decide)) (by rfl) g__law_after k__law_after b__law_after .nil (fun _ => .nil) (ma_cons (me_var (pv 4) rfl) ma_nil))))))
    (mss_one (ms_ret hl (me_var (pv 4) rfl))))))))
set_option maxHeartbeats 4000000 in
theorem okR__law_bend {f_ : Addr} {fd_ : FuncData} (F_ : Fun K "_law_bend" "_law_bend" st__law_bend f_ fd_) {f__law_draw : Addr} {fd__law_draw : FuncData} (ok__law_draw : FnG P w K mg base 1 f__law_draw fd__law_draw ["_law_feed_here", "_law_many"] (spF K w 2 F__law_draw)) (k__law_draw : PySem.W.keepIn K (.ref f__law_draw) = true) (b__law_draw : Binds K fd__law_draw ["_law_feed_here", "_law_many"] []) (g__law_draw : mg "_law_draw" = some (.ref f__law_draw)) (m_isinstance : mg "isinstance" = none) (m_tuple : mg "tuple" = none) (m_len : mg "len" = none) (m_list : mg "list" = none) (m_int : mg "int" = none) (m_str : mg "str" = none) (k_ : PySem.W.keepIn K (.ref f_) = true) (b_ : Binds K fd_ ["_law_feed_here", "_law_thing", "_law_odd_here"] []) (g_ : mg "_law_bend" = some (.ref f_)) : ∀ m : Nat, FnG P w K mg base (1 + m) f_ fd_ ["_law_feed_here", "_law_thing", "_law_odd_here"] (spF K w 3 (FR__law_bend m)) := by
  intro m
  induction m with
  | zero => exact fnG_none
  | succ m ih => exact (fn_okG (k := 1 + m) (N := ["_law_feed_here", "_law_thing", "_law_odd_here", "_law_at", "_law_way"]) (n := 5) (c := fun i => false) F_ sc__law_bend rfl rfl (by decide) fun cdv A outer s H G vs bor hr hl =>
    (mss_cons (ms_if ((mw_and (mt_val (me_isi rfl (by rfl) m_isinstance (by rfl) m_tuple PyProof.Rows.boot_tuple (me_var (pv 1) rfl))) (mw_and (mt_cmp (op_neA hr.toRoom.units) s_neA (me_var (pv 1) rfl) (me_tup ma_nil) (nomark _)) (mw_and1 (mt_cmp op_gt s_gt (me_callGG (ds := []) rfl rfl ok__law_draw (hr.less (by omega)) (by rfl) g__law_draw k__law_draw b__law_draw .nil (fun _ => .nil) (ma_cons (me_var (pv 0) rfl) (ma_cons me_int ma_nil))) me_int (nomark _)))))).pt (mss_cons (ms_set (i := 3) hl sc__law_bend.nd rfl (by first | exact .inl rfl | exact .inr rfl) (me_callGG (ds := []) rfl rfl ok__law_draw (hr.less (by omega)) (by rfl) g__law_draw k__law_draw b__law_draw .nil (fun _ => .nil) (ma_cons (me_var (pv 0) rfl) (ma_cons (me_callB call_lenA s_len (by rfl) m_len boot_len (ma_cons (me_var (pv 1) rfl) ma_nil)) ma_nil))))
    (mss_one (ms_ret hl (me_bin op_addA s_add (me_bin op_addA s_add (me_sl rfl (me_var (pv 1) rfl) mo_none (mo_some (me_var (pv 3) rfl))) (me_tup (ma_cons (me_callGG (ds := []) rfl rfl ih (hr.less (by omega)) (by rfl) g_ k_ b_ .nil (fun _ => .nil) (ma_cons (me_var (pv 0) rfl) (ma_cons (me_ix (hu_of hr.toRoom) s_ix (me_var (pv 1) rfl) (me_var (pv 3) rfl) (fun _ _ => rfl)) (ma_cons (me_var (pv 2) rfl) ma_nil)))) ma_nil))) (me_sl rfl (me_var (pv 1) rfl) (mo_some (me_bin op_addA s_add (me_var (pv 3) rfl) me_int)) mo_none))))) mss_nil)
    (mss_cons (ms_set (i := 4) hl sc__law_bend.nd rfl (by first | exact .inl rfl | exact .inr rfl) (me_callGG (ds := []) rfl rfl ok__law_draw (hr.less (by omega)) (by rfl) g__law_draw k__law_draw b__law_draw .nil (fun _ => .nil) (ma_cons (me_var (pv 0) rfl) (ma_cons me_int ma_nil))))
    (mss_cons (ms_if ((mw_and (mt_val (me_isi rfl (by rfl) m_isinstance (by rfl) m_tuple PyProof.Rows.boot_tuple (me_var (pv 1) rfl))) (mw_and1 (mt_cmp op_lt s_lt (me_var (pv 4) rfl) me_int (nomark _))))).pt (mss_cons (ms_set (i := 3) hl sc__law_bend.nd rfl (by first | exact .inl rfl | exact .inr rfl) (me_callGG (ds := []) rfl rfl ok__law_draw (hr.less (by omega)) (by rfl) g__law_draw k__law_draw b__law_draw .nil (fun _ => .nil) (ma_cons (me_var (pv 0) rfl) (ma_cons (me_bin op_addA s_add (me_callB call_lenA s_len (by rfl) m_len boot_len (ma_cons (me_var (pv 1) rfl) ma_nil)) me_int) ma_nil))))
    (mss_cons (ms_if (mt_cmp (op_eqA hr.toRoom.units) s_eqA (me_var (pv 4) rfl) me_int (nomark _)) (mss_one (ms_ret hl (me_bin op_addA s_add (me_bin op_addA s_add (me_sl rfl (me_var (pv 1) rfl) mo_none (mo_some (me_var (pv 3) rfl))) (me_tup (ma_cons (me_ix (hu_of hr.toRoom) s_ix (me_var (pv 2) rfl) (me_callGG (ds := []) rfl rfl ok__law_draw (hr.less (by omega)) (by rfl) g__law_draw k__law_draw b__law_draw .nil (fun _ => .nil) (ma_cons (me_var (pv 0) rfl) (ma_cons (me_callB call_lenA s_len (by rfl) m_len boot_len (ma_cons (me_var (pv 2) rfl) ma_nil)) ma_nil))) (fun _ _ => rfl)) ma_nil))) (me_sl rfl (me_var (pv 1) rfl) (mo_some (me_var (pv 3) rfl)) mo_none)))) mss_nil)
    (mss_one (ms_ret hl (me_if (mt_cmp (op_eqA hr.toRoom.units) s_eqA (me_var (pv 4) rfl) me_int (nomark _)) (me_bin op_addA s_add (me_sl rfl (me_var (pv 1) rfl) mo_none (mo_some (me_var (pv 3) rfl))) (me_sl rfl (me_var (pv 1) rfl) (mo_some (me_bin op_addA s_add (me_var (pv 3) rfl) me_int)) mo_none)) (me_if (mt_cmp (op_eqA hr.toRoom.units) s_eqA (me_var (pv 4) rfl) me_int (nomark _)) (me_callTy call_list_of s_list (by rfl) m_list PyProof.Rows.boot_list (ma_cons (me_var (pv 1) rfl) ma_nil)) (me_bin op_addA s_add (me_var (pv 1) rfl) (me_sl rfl (me_var (pv 1) rfl) mo_none (mo_some (me_var (pv 3) rfl)))))))))) mss_nil)
    (mss_cons (ms_if ((mw_and (mt_val (me_isi rfl (by rfl) m_isinstance (by rfl) m_int PyProof.Rows.boot_int (me_var (pv 1) rfl))) (mw_and1 (mt_cmp op_lt s_lt (me_var (pv 4) rfl) me_int (nomark _))))).pt (mss_one (ms_ret hl (me_ix (hu_of hr.toRoom) s_ix (me_tup (ma_cons (me_bin op_addB s_addB (me_var (pv 1) rfl) me_int) (ma_cons (me_bin op_subB s_subB (me_var (pv 1) rfl) me_int) (ma_cons (me_un un_neg_b s_negB (me_var (pv 1) rfl)) (ma_cons (me_tup (ma_cons (me_var (pv 1) rfl) ma_nil)) ma_nil))))) (me_var (pv 4) rfl) (fun _ _ => rfl)))) mss_nil)
    (mss_cons (ms_if ((mw_and (mt_val (me_isi rfl (by rfl) m_isinstance (by rfl) m_str PyProof.Rows.boot_str (me_var (pv 1) rfl))) (mw_and1 (mt_cmp op_lt s_lt (me_var (pv 4) rfl) me_int (nomark _))))).pt (mss_one (ms_ret hl (me_ix (hu_of hr.toRoom) s_ix (me_tup (ma_cons (me_bin op_addA s_add (me_var (pv 1) rfl) me_str) (ma_cons (me_sl rfl (me_var (pv 1) rfl) (mo_some me_int) mo_none) (ma_cons (me_lst (ma_cons (me_var (pv 1) rfl) ma_nil)) ma_nil)))) (me_var (pv 4) rfl) (fun _ _ => rfl)))) mss_nil)
    (mss_one (ms_ret hl (me_ix (hu_of hr.toRoom) s_ix (me_var (pv 2) rfl) (me_callGG (ds := []) rfl rfl ok__law_draw (hr.less (by omega)) (by rfl) g__law_draw k__law_draw b__law_draw .nil (fun _ => .nil) (ma_cons (me_var (pv 0) rfl) (ma_cons (me_callB call_lenA s_len (by rfl) m_len boot_len (ma_cons (me_var (pv 2) rfl) ma_nil)) ma_nil))) (fun _ _ => rfl))))))))))
theorem ok__law_bend {f_ : Addr} {fd_ : FuncData} (F_ : Fun K "_law_bend" "_law_bend" st__law_bend f_ fd_) {f__law_draw : Addr} {fd__law_draw : FuncData} (ok__law_draw : FnG P w K mg base 1 f__law_draw fd__law_draw ["_law_feed_here", "_law_many"] (spF K w 2 F__law_draw)) (k__law_draw : PySem.W.keepIn K (.ref f__law_draw) = true) (b__law_draw : Binds K fd__law_draw ["_law_feed_here", "_law_many"] []) (g__law_draw : mg "_law_draw" = some (.ref f__law_draw)) (m_isinstance : mg "isinstance" = none) (m_tuple : mg "tuple" = none) (m_len : mg "len" = none) (m_list : mg "list" = none) (m_int : mg "int" = none) (m_str : mg "str" = none) (k_ : PySem.W.keepIn K (.ref f_) = true) (b_ : Binds K fd_ ["_law_feed_here", "_law_thing", "_law_odd_here"] []) (g_ : mg "_law_bend" = some (.ref f_)) : FnG P w K mg base 11 f_ fd_ ["_law_feed_here", "_law_thing", "_law_odd_here"] (spF K w 3 F__law_bend) := okR__law_bend F_ ok__law_draw k__law_draw b__law_draw g__law_draw m_isinstance m_tuple m_len m_list m_int m_str k_ b_ g_ 10
set_option maxHeartbeats 4000000 in
theorem ok__law_odd {f_ : Addr} {fd_ : FuncData} (F_ : Fun K "_law_odd" "_law_odd" st__law_odd f_ fd_) : FnG P w K mg base 1 f_ fd_ [] (spF K w 0 F__law_odd) :=
  fn_okG (N := ["_law_small"]) (n := 1) (c := fun i => false) F_ sc__law_odd rfl rfl (by decide) fun cdv A outer s H G vs bor hr hl =>
    (mss_cons (ms_set (i := 0) hl sc__law_odd.nd rfl (by first | exact .inl rfl | exact .inr rfl) (me_tup (ma_cons me_non (ma_cons me_bl (ma_cons me_bl (ma_cons me_str (ma_cons me_str (ma_cons me_str (ma_cons me_int (ma_cons me_int (ma_cons me_int (ma_cons me_int (ma_cons (me_un un_neg s_neg me_int) (ma_cons (me_tup ma_nil) (ma_cons (me_lst ma_nil) (ma_cons (me_tup (ma_cons (me_lst (ma_cons me_int ma_nil)) (ma_cons me_str ma_nil))) (ma_cons (me_tup (ma_cons me_str (ma_cons me_int ma_nil))) (ma_cons (me_tup (ma_cons me_str ma_nil)) ma_nil))))))))))))))))))
    (mss_one (ms_ret hl (me_bin op_addA s_add (me_var (pv 0) rfl) (me_tup (ma_cons (me_bin op_mulW s_mul (me_bin op_mulW s_mul (me_bin op_mulW s_mul (me_bin op_pow s_pow me_int me_int) (me_bin op_pow s_pow me_int me_int)) (me_bin op_pow s_pow me_int me_int)) (me_bin op_pow s_pow me_int me_int)) (ma_cons me_str (ma_cons me_str (ma_cons me_str (ma_cons (me_tup (ma_cons me_int ma_nil)) (ma_cons (me_tup (ma_cons me_int (ma_cons me_int ma_nil))) ma_nil)))))))))))
set_option maxHeartbeats 4000000 in
theorem ok__law_number {f_ : Addr} {fd_ : FuncData} (F_ : Fun K "_law_number" "_law_number" st__law_number f_ fd_) (m_isinstance : mg "isinstance" = none) (m_int : mg "int" = none) : FnG P w K mg base 1 f_ fd_ ["_law_thing"] (spF K w 1 F__law_number) :=
  fn_okG (N := ["_law_thing"]) (n := 1) (c := fun i => false) F_ sc__law_number rfl rfl (by decide) fun cdv A outer s H G vs bor hr hl =>
    (mss_one (ms_ret hl (me_and (me_isi rfl (by rfl) m_isinstance (by rfl) m_int PyProof.Rows.boot_int (me_var (pv 0) rfl)) (me_and (me_cmp op_notA s_notA (me_var (pv 0) rfl) me_bl (nomark _)) (me_one (me_cmp op_notA s_notA (me_var (pv 0) rfl) me_bl (nomark _)))))))
set_option maxHeartbeats 4000000 in
theorem ok__law_great {f_ : Addr} {fd_ : FuncData} (F_ : Fun K "_law_great" "_law_great" st__law_great f_ fd_) {f__law_draw : Addr} {fd__law_draw : FuncData} (ok__law_draw : FnG P w K mg base 1 f__law_draw fd__law_draw ["_law_feed_here", "_law_many"] (spF K w 2 F__law_draw)) (k__law_draw : PySem.W.keepIn K (.ref f__law_draw) = true) (b__law_draw : Binds K fd__law_draw ["_law_feed_here", "_law_many"] []) (g__law_draw : mg "_law_draw" = some (.ref f__law_draw)) (m_range : mg "range" = none) : FnG P w K mg base 2 f_ fd_ ["_law_feed_here"] (spF K w 1 F__law_great) :=
  fn_okG (N := ["_law_feed_here", "_law_told", "_law_k"]) (n := 3) (c := fun i => false) F_ sc__law_great rfl rfl (by decide) fun cdv A outer s H G vs bor hr hl =>
    (mss_cons (ms_set (i := 1) hl sc__law_great.nd rfl (by first | exact .inl rfl | exact .inr rfl) (me_callGG (ds := []) rfl rfl ok__law_draw (hr.less (by decide)) (by rfl) g__law_draw k__law_draw b__law_draw .nil (fun _ => .nil) (ma_cons (me_var (pv 0) rfl) (ma_cons me_int ma_nil))))
    (mss_cons (ms_for PassesOwn.never rfl (mi_range1 (by rfl) m_range (me_if (mt_cmp (op_eqA hr.toRoom.units) s_eqA (me_callGG (ds := []) rfl rfl ok__law_draw (hr.less (by decide)) (by rfl) g__law_draw k__law_draw b__law_draw .nil (fun _ => .nil) (ma_cons (me_var (pv 0) rfl) (ma_cons me_int ma_nil))) me_int (nomark _)) (me_callGG (ds := []) rfl rfl ok__law_draw (hr.less (by decide)) (by rfl) g__law_draw k__law_draw b__law_draw .nil (fun _ => .nil) (ma_cons (me_var (pv 0) rfl) (ma_cons me_int ma_nil))) me_int)) (mg_name (i := 2) hl sc__law_great.nd rfl (by first | exact .inl rfl | exact .inr rfl)) (mss_one (ms_set (i := 1) hl sc__law_great.nd rfl (by first | exact .inl rfl | exact .inr rfl) (me_bin op_addA s_add (me_bin op_mulW s_mul (me_var (pv 1) rfl) (me_bin op_pow s_pow me_int me_int)) (me_callGG (ds := []) rfl rfl ok__law_draw (hr.less (by decide)) (by rfl) g__law_draw k__law_draw b__law_draw .nil (fun _ => .nil) (ma_cons (me_var (pv 0) rfl) (ma_cons (me_bin op_pow s_pow me_int me_int) ma_nil)))))))
    (mss_one (ms_ret hl (me_if (mt_cmp (op_eqA hr.toRoom.units) s_eqA (me_callGG (ds := []) rfl rfl ok__law_draw (hr.less (by decide)) (by rfl) g__law_draw k__law_draw b__law_draw .nil (fun _ => .nil) (ma_cons (me_var (pv 0) rfl) (ma_cons me_int ma_nil))) me_int (nomark _)) (me_un un_neg s_neg (me_var (pv 1) rfl)) (me_var (pv 1) rfl))))))
set_option maxHeartbeats 4000000 in
theorem ok__law_spoilt {f_ : Addr} {fd_ : FuncData} (F_ : Fun K "_law_spoilt" "_law_spoilt" st__law_spoilt f_ fd_) {f__law_draw : Addr} {fd__law_draw : FuncData} (ok__law_draw : FnG P w K mg base 1 f__law_draw fd__law_draw ["_law_feed_here", "_law_many"] (spF K w 2 F__law_draw)) (k__law_draw : PySem.W.keepIn K (.ref f__law_draw) = true) (b__law_draw : Binds K fd__law_draw ["_law_feed_here", "_law_many"] []) (g__law_draw : mg "_law_draw" = some (.ref f__law_draw)) (m_len : mg "len" = none) : FnG P w K mg base 2 f_ fd_ ["_law_feed_here", "_law_word_here"] (spF K w 2 F__law_spoilt) :=
  fn_okG (N := ["_law_feed_here", "_law_word_here", "_law_signs", "_law_at", "_law_sign", "_law_way"]) (n := 6) (c := fun i => false) F_ sc__law_spoilt rfl rfl (by decide) fun cdv A outer s H G vs bor hr hl =>
    (mss_cons (ms_set (i := 2) hl sc__law_spoilt.nd rfl (by first | exact .inl rfl | exact .inr rfl) me_str)
    (mss_cons (ms_set (i := 3) hl sc__law_spoilt.nd rfl (by first | exact .inl rfl | exact .inr rfl) (me_callGG (ds := []) rfl rfl ok__law_draw (hr.less (by decide)) (by rfl) g__law_draw k__law_draw b__law_draw .nil (fun _ => .nil) (ma_cons (me_var (pv 0) rfl) (ma_cons (me_callB call_lenA s_len (by rfl) m_len boot_len (ma_cons (me_var (pv 1) rfl) ma_nil)) ma_nil))))
    (mss_cons (ms_set (i := 4) hl sc__law_spoilt.nd rfl (by first | exact .inl rfl | exact .inr rfl) (me_ix (hu_of hr.toRoom) s_ix (me_var (pv 2) rfl) (me_callGG (ds := []) rfl rfl ok__law_draw (hr.less (by decide)) (by rfl) g__law_draw k__law_draw b__law_draw .nil (fun _ => .nil) (ma_cons (me_var (pv 0) rfl) (ma_cons (me_callB call_lenA s_len (by rfl) m_len boot_len (ma_cons (me_var (pv 2) rfl) ma_nil)) ma_nil))) (fun _ _ => rfl)))
    (mss_cons (ms_set (i := 5) hl sc__law_spoilt.nd rfl (by first | exact .inl rfl | exact .inr rfl) (me_callGG (ds := []) rfl rfl ok__law_draw (hr.less (by decide)) (by rfl) g__law_draw k__law_draw b__law_draw .nil (fun _ => .nil) (ma_cons (me_var (pv 0) rfl) (ma_cons me_int ma_nil))))
    (mss_one (ms_ret hl (me_bin op_addA s_add (me_bin op_addA s_add (me_sl rfl (me_var (pv 1) rfl) mo_none (mo_some (me_var (pv 3) rfl))) (me_if (mt_cmp (op_eqA hr.toRoom.units) s_eqA (me_var (pv 5) rfl) me_int (nomark _)) me_str (me_var (pv 4) rfl))) (me_sl rfl (me_var (pv 1) rfl) (mo_some (me_bin op_addA s_add (me_var (pv 3) rfl) (me_if (mt_cmp (op_eqA hr.toRoom.units) s_eqA (me_var (pv 5) rfl) me_int (nomark _)) me_int me_int))) mo_none))))))))
set_option maxHeartbeats 4000000 in
theorem ok__law_worded {f_ : Addr} {fd_ : FuncData} (F_ : Fun K "_law_worded" "_law_worded" st__law_worded f_ fd_) (m_isinstance : mg "isinstance" = none) (m_str : mg "str" = none) (m_len : mg "len" = none) (m_ord : mg "ord" = none) : FnG P w K mg base 1 f_ fd_ ["_law_thing"] (spF K w 1 F__law_worded) :=
  fn_okG (N := ["_law_thing", "_law_sign"]) (n := 2) (c := fun i => i == 1) F_ sc__law_worded rfl rfl (by decide) fun cdv A outer s H G vs bor hr hl =>
    (mss_cons (ms_if ((mw_or (mt_not (mt_val (me_isi rfl (by rfl) m_isinstance (by rfl) m_str PyProof.Rows.boot_str (me_var (pv 0) rfl)))) (mw_or (mt_cmp (op_eqA hr.toRoom.units) s_eqA (me_var (pv 0) rfl) me_str (nomark _)) (mw_or1 (mt_cmp op_gt s_gt (me_callB call_lenA s_len (by rfl) m_len boot_len (ma_cons (me_var (pv 0) rfl) ma_nil)) me_int (nomark _)))))).pt (mss_one (ms_ret hl me_bl)) mss_nil)
    (mss_one (ms_ret hl (me_cmp (op_eqA hr.toRoom.units) s_eqA (me_lc (own := [("_law_sign", 1)]) rfl sc__law_worded.nd (all_mem rfl) (all_ge hl rfl) (mi_any rfl (me_var (pv 0) rfl)) (blkOk_by (by with_unfolding_all rfl)) (fun s0 H0 C cl fp => (mg_name (i := 1) hl sc__law_worded.nd rfl (by first | exact .inl rfl | exact .inr rfl))) (fun s0 H0 C cl fp => (mts_one ((mw_or (mt_cmp op_lt s_lt (me_callB call_ord s_ord (by rfl) m_ord PyProof.Rows.boot_ord (ma_cons (me_cvar (pv 1)) ma_nil)) me_int (nomark _)) (mw_or1 (mt_cmp op_gt s_gt (me_callB call_ord s_ord (by rfl) m_ord PyProof.Rows.boot_ord (ma_cons (me_cvar (pv 1)) ma_nil)) me_int (nomark _))))).pt)) (fun s0 H0 C cl fp => (me_cvar (pv 1)))) (me_lst ma_nil) (nomark _)))))
set_option maxHeartbeats 4000000 in
theorem ok__law_operanded {f_ : Addr} {fd_ : FuncData} (F_ : Fun K "_law_operanded" "_law_operanded" st__law_operanded f_ fd_) {f__law_worded : Addr} {fd__law_worded : FuncData} (ok__law_worded : FnG P w K mg base 1 f__law_worded fd__law_worded ["_law_thing"] (spF K w 1 F__law_worded)) (k__law_worded : PySem.W.keepIn K (.ref f__law_worded) = true) (b__law_worded : Binds K fd__law_worded ["_law_thing"] []) (g__law_worded : mg "_law_worded" = some (.ref f__law_worded)) {f__law_number : Addr} {fd__law_number : FuncData} (ok__law_number : FnG P w K mg base 1 f__law_number fd__law_number ["_law_thing"] (spF K w 1 F__law_number)) (k__law_number : PySem.W.keepIn K (.ref f__law_number) = true) (b__law_number : Binds K fd__law_number ["_law_thing"] []) (g__law_number : mg "_law_number" = some (.ref f__law_number)) : FnG P w K mg base 2 f_ fd_ ["_law_thing"] (spF K w 1 F__law_operanded) :=
  fn_okG (N := ["_law_thing"]) (n := 1) (c := fun i => false) F_ sc__law_operanded rfl rfl (by decide) fun cdv A outer s H G vs bor hr hl =>
    (mss_one (ms_ret hl (me_or (me_callGG (ds := []) rfl rfl ok__law_worded (hr.less (by decide)) (by rfl) g__law_worded k__law_worded b__law_worded .nil (fun _ => .nil) (ma_cons (me_var (pv 0) rfl) ma_nil)) (me_one (me_callGG (ds := []) rfl rfl ok__law_number (hr.less (by decide)) (by rfl) g__law_number k__law_number b__law_number .nil (fun _ => .nil) (ma_cons (me_var (pv 0) rfl) ma_nil))))))
set_option maxHeartbeats 4000000 in
theorem ok__law_paired {f_ : Addr} {fd_ : FuncData} (F_ : Fun K "_law_paired" "_law_paired" st__law_paired f_ fd_) {f__law_worded : Addr} {fd__law_worded : FuncData} (ok__law_worded : FnG P w K mg base 1 f__law_worded fd__law_worded ["_law_thing"] (spF K w 1 F__law_worded)) (k__law_worded : PySem.W.keepIn K (.ref f__law_worded) = true) (b__law_worded : Binds K fd__law_worded ["_law_thing"] []) (g__law_worded : mg "_law_worded" = some (.ref f__law_worded)) (m_isinstance : mg "isinstance" = none) (m_tuple : mg "tuple" = none) (m_len : mg "len" = none) (m_sorted : mg "sorted" = none) (m_set : mg "set" = none) : FnG P w K mg base 2 f_ fd_ ["_law_thing"] (spF K w 1 F__law_paired) :=
  fn_okG (N := ["_law_thing", "_law_words", "_law_pair"]) (n := 3) (c := fun i => i == 2) F_ sc__law_paired rfl rfl (by decide) fun cdv A outer s H G vs bor hr hl =>
    (mss_cons (ms_if ((mw_or (mt_not (mt_val (me_isi rfl (by rfl) m_isinstance (by rfl) m_tuple PyProof.Rows.boot_tuple (me_var (pv 0) rfl)))) (mw_or1 (mt_cmp (op_eqA hr.toRoom.units) s_eqA (me_var (pv 0) rfl) (me_tup ma_nil) (nomark _))))).pt (mss_one (ms_ret hl me_bl)) mss_nil)
    (mss_cons (ms_if (mt_cmp (op_neA hr.toRoom.units) s_neA (me_lc (own := [("_law_pair", 2)]) rfl sc__law_paired.nd (all_mem rfl) (all_ge hl rfl) (mi_seq rfl (me_var (pv 0) rfl)) (blkOk_by (by with_unfolding_all rfl)) (fun s0 H0 C cl fp => (mg_name (i := 2) hl sc__law_paired.nd rfl (by first | exact .inl rfl | exact .inr rfl))) (fun s0 H0 C cl fp => (mts_one ((mw_or (mt_not (mt_val (me_isi rfl (by rfl) m_isinstance (by rfl) m_tuple PyProof.Rows.boot_tuple (me_cvar (pv 2))))) (mw_or (mt_cmp (op_neA hr.toRoom.units) s_neA (me_callB call_lenA s_len (by rfl) m_len boot_len (ma_cons (me_cvar (pv 2)) ma_nil)) me_int (nomark _)) (mw_or1 (mt_not (mt_val (me_callGG (ds := []) rfl rfl ok__law_worded (hr.less (by decide)) (by rfl) g__law_worded k__law_worded b__law_worded .nil (fun _ => .nil) (ma_cons (me_ix (hu_of hr.toRoom) s_ix (me_cvar (pv 2)) me_int (fun _ _ => rfl)) ma_nil)))))))).pt)) (fun s0 H0 C cl fp => (me_cvar (pv 2)))) (me_lst ma_nil) (nomark _)) (mss_one (ms_ret hl me_bl)) mss_nil)
    (mss_cons (ms_setLc (own := [("_law_pair", 2)]) hl rfl sc__law_paired.nd (i := 1) rfl rfl (sw_true rfl rfl rfl rfl) (all_mem rfl) (all_ge hl rfl) (mi_seq rfl (me_var (pv 0) rfl)) (blkOk_by (by with_unfolding_all rfl)) (fun s0 H0 C cl fp => (mg_name (i := 2) hl sc__law_paired.nd rfl (by first | exact .inl rfl | exact .inr rfl))) (fun s0 H0 C cl fp => mts_nil) (fun s0 H0 C cl fp => (me_ix (hu_of hr.toRoom) s_ix (me_cvar (pv 2)) me_int (fun _ _ => rfl))))
    (mss_one (ms_ret hl (me_cmp (op_eqA hr.toRoom.units) s_eqA (me_sortSet rfl (hu65 hr.toRoom) rfl (by rfl) m_sorted (by rfl) m_set (me_var (pv 1) rfl)) (me_var (pv 1) rfl) (nomark _)))))))
set_option maxHeartbeats 4000000 in
theorem ok__law_objected {f_ : Addr} {fd_ : FuncData} (F_ : Fun K "_law_objected" "_law_objected" st__law_objected f_ fd_) {f__law_paired : Addr} {fd__law_paired : FuncData} (ok__law_paired : FnG P w K mg base 2 f__law_paired fd__law_paired ["_law_thing"] (spF K w 1 F__law_paired)) (k__law_paired : PySem.W.keepIn K (.ref f__law_paired) = true) (b__law_paired : Binds K fd__law_paired ["_law_thing"] []) (g__law_paired : mg "_law_paired" = some (.ref f__law_paired)) {f__law_number : Addr} {fd__law_number : FuncData} (ok__law_number : FnG P w K mg base 1 f__law_number fd__law_number ["_law_thing"] (spF K w 1 F__law_number)) (k__law_number : PySem.W.keepIn K (.ref f__law_number) = true) (b__law_number : Binds K fd__law_number ["_law_thing"] []) (g__law_number : mg "_law_number" = some (.ref f__law_number)) : FnG P w K mg base 3 f_ fd_ ["_law_thing"] (spF K w 1 F__law_objected) :=
  fn_okG (N := ["_law_thing", "_law_pair"]) (n := 2) (c := fun i => i == 1) F_ sc__law_objected rfl rfl (by decide) fun cdv A outer s H G vs bor hr hl =>
    (mss_one (ms_ret hl (me_and (me_callGG (ds := []) rfl rfl ok__law_paired (hr.less (by decide)) (by rfl) g__law_paired k__law_paired b__law_paired .nil (fun _ => .nil) (ma_cons (me_var (pv 0) rfl) ma_nil)) (me_one (me_cmp (op_eqA hr.toRoom.units) s_eqA (me_lc (own := [("_law_pair", 1)]) rfl sc__law_objected.nd (all_mem rfl) (all_ge hl rfl) (mi_seq rfl (me_var (pv 0) rfl)) (blkOk_by (by with_unfolding_all rfl)) (fun s0 H0 C cl fp => (mg_name (i := 1) hl sc__law_objected.nd rfl (by first | exact .inl rfl | exact .inr rfl))) (fun s0 H0 C cl fp => (mts_one ((mw_or (mt_not (mt_val (me_callGG (ds := []) rfl rfl ok__law_number (hr.less (by decide)) (by rfl) g__law_number k__law_number b__law_number .nil (fun _ => .nil) (ma_cons (me_ix (hu_of hr.toRoom) s_ix (me_cvar (pv 1)) me_int (fun _ _ => rfl)) ma_nil)))) (mw_or1 (mt_cmp op_lt s_lt (me_ix (hu_of hr.toRoom) s_ix (me_cvar (pv 1)) me_int (fun _ _ => rfl)) me_int (nomark _))))).pt)) (fun s0 H0 C cl fp => (me_cvar (pv 1)))) (me_lst ma_nil) (nomark _))))))
set_option maxHeartbeats 4000000 in
theorem ok__law_objects {f_ : Addr} {fd_ : FuncData} (F_ : Fun K "_law_objects" "_law_objects" st__law_objects f_ fd_) {f__law_draw : Addr} {fd__law_draw : FuncData} (ok__law_draw : FnG P w K mg base 1 f__law_draw fd__law_draw ["_law_feed_here", "_law_many"] (spF K w 2 F__law_draw)) (k__law_draw : PySem.W.keepIn K (.ref f__law_draw) = true) (b__law_draw : Binds K fd__law_draw ["_law_feed_here", "_law_many"] []) (g__law_draw : mg "_law_draw" = some (.ref f__law_draw)) {f__law_word : Addr} {fd__law_word : FuncData} (ok__law_word : FnG P w K mg base 2 f__law_word fd__law_word ["_law_feed_here", "_law_found"] (spF K w 2 F__law_word)) (k__law_word : PySem.W.keepIn K (.ref f__law_word) = true) (b__law_word : Binds K fd__law_word ["_law_feed_here", "_law_found"] []) (g__law_word : mg "_law_word" = some (.ref f__law_word)) (m_range : mg "range" = none) (m_tuple : mg "tuple" = none) (m_sorted : mg "sorted" = none) : FnG P w K mg base 3 f_ fd_ ["_law_feed_here"] (spF K w 1 F__law_objects) :=
  fn_okG (N := ["_law_feed_here", "_law_found", "_law_k", "_law_word_here"]) (n := 4) (c := fun i => i == 3) F_ sc__law_objects rfl rfl (by decide) fun cdv A outer s H G vs bor hr hl =>
    (mss_cons (ms_set (i := 1) hl sc__law_objects.nd rfl (by first | exact .inl rfl | exact .inr rfl) (me_lst ma_nil))
    (mss_cons (ms_for PassesOwn.never rfl (mi_range1 (by rfl) m_range (me_bin op_addA s_add me_int (me_callGG (ds := []) rfl rfl ok__law_draw (hr.less (by decide)) (by rfl) g__law_draw k__law_draw b__law_draw .nil (fun _ => .nil) (ma_cons (me_var (pv 0) rfl) (ma_cons me_int ma_nil))))) (mg_name (i := 2) hl sc__law_objects.nd rfl (by first | exact .inl rfl | exact .inr rfl)) (mss_one (ms_expr (me_bm rfl PySem.F.plainAttrs_list PySem.F.slot_list_append PySem.F.type_list_append mt_append s_chkL s_append (me_var (pv 1) rfl) (ma_cons (me_callGG (ds := []) rfl rfl ok__law_word (hr.less (by decide)) (by rfl) g__law_word k__law_word b__law_word .nil (fun _ => .nil) (ma_cons (me_var (pv 0) rfl) (ma_cons (me_var (pv 1) rfl) ma_nil))) ma_nil)))))
    (mss_one (ms_ret hl (me_callTy L2.call_tupF s_tuple (by rfl) m_tuple PyProof.Rows.boot_tuple (ma_cons (me_lc (own := [("_law_word_here", 3)]) rfl sc__law_objects.nd (all_mem rfl) (all_ge hl rfl) (mi_seq rfl (me_callB (call_sortedB rfl (hu65 hr.toRoom)) s_sortedA (by rfl) m_sorted PyProof.Rows.boot_sorted (ma_cons (me_var (pv 1) rfl) ma_nil))) (blkOk_by (by with_unfolding_all rfl)) (fun s0 H0 C cl fp => (mg_name (i := 3) hl sc__law_objects.nd rfl (by first | exact .inl rfl | exact .inr rfl))) (fun s0 H0 C cl fp => mts_nil) (fun s0 H0 C cl fp => (me_tup (ma_cons (me_cvar (pv 3)) (ma_cons (me_bin op_addA s_add me_int (me_callGG (ds := []) rfl rfl ok__law_draw (hr.less (by decide)) (by rfl) g__law_draw k__law_draw b__law_draw .nil (fun _ => .nil) (ma_cons (me_var (pv 0) rfl) (ma_cons me_int ma_nil)))) ma_nil))))) ma_nil))))))
set_option maxHeartbeats 4000000 in
theorem ok__law_fixed {f_ : Addr} {fd_ : FuncData} (F_ : Fun K "_law_fixed" "_law_fixed" st__law_fixed f_ fd_) (m_tuple : mg "tuple" = none) : FnG P w K mg base 1 f_ fd_ [] (spF K w 0 F__law_fixed) :=
  fn_okG (N := ["_law_great_here", "_law_found", "_law_many", "_law_sign"]) (n := 4) (c := fun i => i == 3) F_ sc__law_fixed rfl rfl (by decide) fun cdv A outer s H G vs bor hr hl =>
    (mss_cons (ms_set (i := 0) hl sc__law_fixed.nd rfl (by first | exact .inl rfl | exact .inr rfl) (me_bin op_pow s_pow me_int me_int))
    (mss_cons (ms_set (i := 1) hl sc__law_fixed.nd rfl (by first | exact .inl rfl | exact .inr rfl) (me_lst (ma_cons me_int (ma_cons me_int (ma_cons (me_un un_neg s_neg me_int) (ma_cons (me_var (pv 0) rfl) (ma_cons (me_un un_neg s_neg (me_var (pv 0) rfl)) (ma_cons me_bl (ma_cons me_bl (ma_cons me_non (ma_cons me_str (ma_cons me_str (ma_cons me_str (ma_cons me_str (ma_cons me_str (ma_cons me_str (ma_cons me_str (ma_cons me_str (ma_cons me_str ma_nil)))))))))))))))))))
    (mss_cons (ms_expr (me_bm rfl PySem.F.plainAttrs_list PySem.F.slot_list_extend PySem.F.type_list_extend mt_extend s_chkL s_extend (me_var (pv 1) rfl) (ma_cons (me_lst (ma_cons (me_tup ma_nil) (ma_cons (me_lst ma_nil) (ma_cons (me_tup (ma_cons me_str ma_nil)) (ma_cons (me_lst (ma_cons me_str ma_nil)) (ma_cons (me_tup (ma_cons (me_tup (ma_cons me_str (ma_cons me_int ma_nil))) ma_nil)) (ma_cons (me_tup (ma_cons (me_tup (ma_cons me_str (ma_cons me_int ma_nil))) ma_nil)) (ma_cons (me_tup (ma_cons (me_tup (ma_cons me_str (ma_cons (me_un un_neg s_neg me_int) ma_nil))) ma_nil)) (ma_cons (me_tup (ma_cons (me_tup (ma_cons me_str (ma_cons me_bl ma_nil))) ma_nil)) (ma_cons (me_tup (ma_cons me_str (ma_cons me_int ma_nil))) ma_nil)))))))))) ma_nil)))
    (mss_cons (ms_expr (me_bm rfl PySem.F.plainAttrs_list PySem.F.slot_list_append PySem.F.type_list_append mt_append s_chkL s_append (me_var (pv 1) rfl) (ma_cons (me_tup (ma_cons (me_tup (ma_cons me_str (ma_cons me_non ma_nil))) ma_nil)) ma_nil)))
    (mss_cons (ms_expr (me_bm rfl PySem.F.plainAttrs_list PySem.F.slot_list_extend PySem.F.type_list_extend mt_extend s_chkL s_extend (me_var (pv 1) rfl) (ma_cons (me_lst (ma_cons (me_tup (ma_cons (me_tup (ma_cons me_str (ma_cons me_int ma_nil))) (ma_cons (me_tup (ma_cons me_str (ma_cons me_int ma_nil))) ma_nil))) (ma_cons (me_tup (ma_cons (me_tup (ma_cons me_str (ma_cons me_int ma_nil))) (ma_cons (me_tup (ma_cons me_str (ma_cons me_int ma_nil))) ma_nil))) (ma_cons (me_tup (ma_cons (me_tup (ma_cons me_str (ma_cons me_int ma_nil))) (ma_cons (me_tup (ma_cons me_str (ma_cons me_int ma_nil))) ma_nil))) (ma_cons (me_lst (ma_cons (me_tup (ma_cons me_str (ma_cons me_int ma_nil))) ma_nil)) (ma_cons (me_tup (ma_cons (me_lst (ma_cons me_str (ma_cons me_int ma_nil))) ma_nil)) (ma_cons (me_tup (ma_cons (me_tup (ma_cons me_str ma_nil)) ma_nil)) ma_nil))))))) ma_nil)))
    (mss_cons (ms_expr (me_bm rfl PySem.F.plainAttrs_list PySem.F.slot_list_extend PySem.F.type_list_extend mt_extend s_chkL s_extend (me_var (pv 1) rfl) (ma_cons (me_lst (ma_cons (me_tup (ma_cons (me_tup (ma_cons me_str (ma_cons me_int (ma_cons me_int ma_nil)))) ma_nil)) (ma_cons (me_tup (ma_cons (me_tup (ma_cons me_str (ma_cons me_int ma_nil))) ma_nil)) (ma_cons (me_tup (ma_cons (me_tup (ma_cons me_str (ma_cons me_int ma_nil))) ma_nil)) (ma_cons (me_tup (ma_cons (me_tup (ma_cons me_str (ma_cons me_int ma_nil))) ma_nil)) (ma_cons (me_tup (ma_cons (me_tup (ma_cons me_str (ma_cons (me_var (pv 0) rfl) ma_nil))) ma_nil)) (ma_cons (me_tup (ma_cons (me_tup (ma_cons me_str (ma_cons me_str ma_nil))) ma_nil)) ma_nil))))))) ma_nil)))
    (mss_cons (ms_expr (me_bm rfl PySem.F.plainAttrs_list PySem.F.slot_list_append PySem.F.type_list_append mt_append s_chkL s_append (me_var (pv 1) rfl) (ma_cons (me_tup (ma_cons me_non ma_nil)) ma_nil)))
    (mss_cons (ms_expr (me_bm rfl PySem.F.plainAttrs_list PySem.F.slot_list_extend PySem.F.type_list_extend mt_extend s_chkL s_extend (me_var (pv 1) rfl) (ma_cons (me_lst (ma_cons (me_tup (ma_cons (me_tup (ma_cons me_int (ma_cons me_str ma_nil))) ma_nil)) (ma_cons (me_tup (ma_cons (me_tup (ma_cons (me_lst (ma_cons me_str ma_nil)) (ma_cons me_int ma_nil))) ma_nil)) (ma_cons (me_tup (ma_cons (me_tup (ma_cons me_str (ma_cons (me_lst (ma_cons me_int ma_nil)) ma_nil))) ma_nil)) (ma_cons (me_tup (ma_cons (me_tup (ma_cons me_str (ma_cons me_int ma_nil))) (ma_cons me_non ma_nil))) (ma_cons (me_tup (ma_cons (me_tup (ma_cons me_str (ma_cons me_int ma_nil))) (ma_cons (me_tup (ma_cons me_str (ma_cons me_int ma_nil))) ma_nil))) ma_nil)))))) ma_nil)))
    (mss_cons (ms_expr (me_bm rfl PySem.F.plainAttrs_list PySem.F.slot_list_append PySem.F.type_list_append mt_append s_chkL s_append (me_var (pv 1) rfl) (ma_cons (me_tup (ma_cons (me_tup (ma_cons me_str (ma_cons me_int ma_nil))) (ma_cons (me_tup (ma_cons me_str (ma_cons me_int ma_nil))) ma_nil))) ma_nil)))
    (mss_cons (ms_expr (me_bm rfl PySem.F.plainAttrs_list PySem.F.slot_list_extend PySem.F.type_list_extend mt_extend s_chkL s_extend (me_var (pv 1) rfl) (ma_cons (me_lc (own := [("_law_sign", 3)]) rfl sc__law_fixed.nd (all_mem rfl) (all_ge hl rfl) (mi_any rfl (me_tup (ma_cons me_str (ma_cons me_str (ma_cons me_str (ma_cons me_str (ma_cons me_str (ma_cons me_str (ma_cons me_str ma_nil))))))))) (blkOk_by (by with_unfolding_all rfl)) (fun s0 H0 C cl fp => (mg_name (i := 3) hl sc__law_fixed.nd rfl (by first | exact .inl rfl | exact .inr rfl))) (fun s0 H0 C cl fp => mts_nil) (fun s0 H0 C cl fp => (me_bin op_addA s_add me_str (me_cvar (pv 3))))) ma_nil)))
    (mss_cons (ms_set (i := 2) hl sc__law_fixed.nd rfl (by first | exact .inl rfl | exact .inr rfl) (me_callTy L2.call_tupF s_tuple (by rfl) m_tuple PyProof.Rows.boot_tuple (ma_cons (me_lc (own := [("_law_sign", 3)]) rfl sc__law_fixed.nd (all_mem rfl) (all_ge hl rfl) (mi_any rfl me_str) (blkOk_by (by with_unfolding_all rfl)) (fun s0 H0 C cl fp => (mg_name (i := 3) hl sc__law_fixed.nd rfl (by first | exact .inl rfl | exact .inr rfl))) (fun s0 H0 C cl fp => mts_nil) (fun s0 H0 C cl fp => (me_tup (ma_cons (me_bin op_addA s_add me_str (me_cvar (pv 3))) (ma_cons me_int ma_nil))))) ma_nil)))
    (mss_one (ms_ret hl (me_bin op_addA s_add (me_var (pv 1) rfl) (me_lst (ma_cons (me_var (pv 2) rfl) (ma_cons (me_bin op_addA s_add (me_var (pv 2) rfl) (me_tup (ma_cons (me_tup (ma_cons me_str (ma_cons me_int ma_nil))) ma_nil))) (ma_cons (me_bin op_addA s_add (me_bin op_addA s_add (me_sl rfl (me_var (pv 2) rfl) mo_none (mo_some me_int)) (me_tup (ma_cons (me_tup (ma_cons me_str (ma_cons me_int ma_nil))) ma_nil))) (me_sl rfl (me_var (pv 2) rfl) (mo_some me_int) mo_none)) ma_nil))))))))))))))))))
set_option maxHeartbeats 4000000 in
theorem ok_law {f_ : Addr} {fd_ : FuncData} (F_ : Fun K "law" "law" st_law f_ fd_) {f__law_feed : Addr} {fd__law_feed : FuncData} (ok__law_feed : FnG P w K mg base 1 f__law_feed fd__law_feed ["_law_script"] (spF K w 1 F__law_feed)) (k__law_feed : PySem.W.keepIn K (.ref f__law_feed) = true) (b__law_feed : Binds K fd__law_feed ["_law_script"] []) (g__law_feed : mg "_law_feed" = some (.ref f__law_feed)) {f__law_odd : Addr} {fd__law_odd : FuncData} (ok__law_odd : FnG P w K mg base 1 f__law_odd fd__law_odd [] (spF K w 0 F__law_odd)) (k__law_odd : PySem.W.keepIn K (.ref f__law_odd) = true) (b__law_odd : Binds K fd__law_odd [] []) (g__law_odd : mg "_law_odd" = some (.ref f__law_odd)) {f__law_fixed : Addr} {fd__law_fixed : FuncData} (ok__law_fixed : FnG P w K mg base 1 f__law_fixed fd__law_fixed [] (spF K w 0 F__law_fixed)) (k__law_fixed : PySem.W.keepIn K (.ref f__law_fixed) = true) (b__law_fixed : Binds K fd__law_fixed [] []) (g__law_fixed : mg "_law_fixed" = some (.ref f__law_fixed)) {f__law_word : Addr} {fd__law_word : FuncData} (ok__law_word : FnG P w K mg base 2 f__law_word fd__law_word ["_law_feed_here", "_law_found"] (spF K w 2 F__law_word)) (k__law_word : PySem.W.keepIn K (.ref f__law_word) = true) (b__law_word : Binds K fd__law_word ["_law_feed_here", "_law_found"] []) (g__law_word : mg "_law_word" = some (.ref f__law_word)) {f__law_great : Addr} {fd__law_great : FuncData} (ok__law_great : FnG P w K mg base 2 f__law_great fd__law_great ["_law_feed_here"] (spF K w 1 F__law_great)) (k__law_great : PySem.W.keepIn K (.ref f__law_great) = true) (b__law_great : Binds K fd__law_great ["_law_feed_here"] []) (g__law_great : mg "_law_great" = some (.ref f__law_great)) {f__law_objects : Addr} {fd__law_objects : FuncData} (ok__law_objects : FnG P w K mg base 3 f__law_objects fd__law_objects ["_law_feed_here"] (spF K w 1 F__law_objects)) (k__law_objects : PySem.W.keepIn K (.ref f__law_objects) = true) (b__law_objects : Binds K fd__law_objects ["_law_feed_here"] []) (g__law_objects : mg "_law_objects" = some (.ref f__law_objects)) {f__law_bend : Addr} {fd__law_bend : FuncData} (ok__law_bend : FnG P w K mg base 11 f__law_bend fd__law_bend ["_law_feed_here", "_law_thing", "_law_odd_here"] (spF K w 3 F__law_bend)) (k__law_bend : PySem.W.keepIn K (.ref f__law_bend) = true) (b__law_bend : Binds K fd__law_bend ["_law_feed_here", "_law_thing", "_law_odd_here"] []) (g__law_bend : mg "_law_bend" = some (.ref f__law_bend)) {f__law_spoilt : Addr} {fd__law_spoilt : FuncData} (ok__law_spoilt : FnG P w K mg base 2 f__law_spoilt fd__law_spoilt ["_law_feed_here", "_law_word_here"] (spF K w 2 F__law_spoilt)) (k__law_spoilt : PySem.W.keepIn K (.ref f__law_spoilt) = true) (b__law_spoilt : Binds K fd__law_spoilt ["_law_feed_here", "_law_word_here"] []) (g__law_spoilt : mg "_law_spoilt" = some (.ref f__law_spoilt)) {f_is_number : Addr} {fd_is_number : FuncData} (ok_is_number : FnG P w K mg base 1 f_is_number fd_is_number ["thing"] (spF K w 1 F_is_number)) (k_is_number : PySem.W.keepIn K (.ref f_is_number) = true) (b_is_number : Binds K fd_is_number ["thing"] []) (g_is_number : mg "is_number" = some (.ref f_is_number)) {f_is_word : Addr} {fd_is_word : FuncData} (ok_is_word : FnG P w K mg base 1 f_is_word fd_is_word ["thing"] (spF K w 1 F_is_word)) (k_is_word : PySem.W.keepIn K (.ref f_is_word) = true) (b_is_word : Binds K fd_is_word ["thing"] []) (g_is_word : mg "is_word" = some (.ref f_is_word)) {f_is_operand : Addr} {fd_is_operand : FuncData} (ok_is_operand : FnG P w K mg base 2 f_is_operand fd_is_operand ["thing"] (spF K w 1 F_is_operand)) (k_is_operand : PySem.W.keepIn K (.ref f_is_operand) = true) (b_is_operand : Binds K fd_is_operand ["thing"] []) (g_is_operand : mg "is_operand" = some (.ref f_is_operand)) {f_is_objects : Addr} {fd_is_objects : FuncData} (ok_is_objects : FnG P w K mg base 4 f_is_objects fd_is_objects ["thing"] (spF K w 1 F_is_objects)) (k_is_objects : PySem.W.keepIn K (.ref f_is_objects) = true) (b_is_objects : Binds K fd_is_objects ["thing"] []) (g_is_objects : mg "is_objects" = some (.ref f_is_objects)) {f__law_number : Addr} {fd__law_number : FuncData} (ok__law_number : FnG P w K mg base 1 f__law_number fd__law_number ["_law_thing"] (spF K w 1 F__law_number)) (k__law_number : PySem.W.keepIn K (.ref f__law_number) = true) (b__law_number : Binds K fd__law_number ["_law_thing"] []) (g__law_number : mg "_law_number" = some (.ref f__law_number)) {f__law_worded : Addr} {fd__law_worded : FuncData} (ok__law_worded : FnG P w K mg base 1 f__law_worded fd__law_worded ["_law_thing"] (spF K w 1 F__law_worded)) (k__law_worded : PySem.W.keepIn K (.ref f__law_worded) = true) (b__law_worded : Binds K fd__law_worded ["_law_thing"] []) (g__law_worded : mg "_law_worded" = some (.ref f__law_worded)) {f__law_operanded : Addr} {fd__law_operanded : FuncData} (ok__law_operanded : FnG P w K mg base 2 f__law_operanded fd__law_operanded ["_law_thing"] (spF K w 1 F__law_operanded)) (k__law_operanded : PySem.W.keepIn K (.ref f__law_operanded) = true) (b__law_operanded : Binds K fd__law_operanded ["_law_thing"] []) (g__law_operanded : mg "_law_operanded" = some (.ref f__law_operanded)) {f__law_objected : Addr} {fd__law_objected : FuncData} (ok__law_objected : FnG P w K mg base 3 f__law_objected fd__law_objected ["_law_thing"] (spF K w 1 F__law_objected)) (k__law_objected : PySem.W.keepIn K (.ref f__law_objected) = true) (b__law_objected : Binds K fd__law_objected ["_law_thing"] []) (g__law_objected : mg "_law_objected" = some (.ref f__law_objected)) (m_range : mg "range" = none) (m_list : mg "list" = none) (m_repr : mg "repr" = none) : FnG P w K mg base 12 f_ fd_ ["_law_script"] (spF K w 1 F_law) :=
  fn_okG (N := ["_law_script", "_law_feed_here", "_law_odd_here", "_law_things", "_law_k", "_law_long", "_law_bent", "_law_word_here", "_law_number_here", "_law_objects_here", "_law_kept", "_law_thing", "_law_told", "_law_due"]) (n := 14) (c := fun i => false) F_ sc_law rfl rfl (by decide) fun cdv A outer s H G vs bor hr hl =>
    (mss_cons (ms_set (i := 1) hl sc_law.nd rfl (by first | exact .inl rfl | exact .inr rfl) (me_callGG (ds := []) rfl rfl ok__law_feed (hr.less (by decide)) (by rfl) g__law_feed k__law_feed b__law_feed .nil (fun _ => .nil) (ma_cons (me_var (pv 0) rfl) ma_nil)))
    (mss_cons (ms_set (i := 2) hl sc_law.nd rfl (by first | exact .inl rfl | exact .inr rfl) (me_call0G rfl rfl ok__law_odd (hr.less (by decide)) (by rfl) g__law_odd k__law_odd b__law_odd))
    (mss_cons (ms_set (i := 3) hl sc_law.nd rfl (by first | exact .inl rfl | exact .inr rfl) (me_call0G rfl rfl ok__law_fixed (hr.less (by decide)) (by rfl) g__law_fixed k__law_fixed b__law_fixed))
    (mss_cons (ms_for PassesOwn.never rfl (mi_range1 (by rfl) m_range me_int) (mg_name (i := 4) hl sc_law.nd rfl (by first | exact .inl rfl | exact .inr rfl)) (mss_cons (ms_par3 (i := 7) (j := 8) (l := 9) hl rfl sc_law.nd rfl rfl rfl (by decide) (by decide) (by decide) rfl rfl rfl (ma_cons (me_callGG (ds := []) rfl rfl ok__law_word (hr.less (by decide)) (by rfl) g__law_word k__law_word b__law_word .nil (fun _ => .nil) (ma_cons (me_var (pv 1) rfl) (ma_cons (me_lst ma_nil) ma_nil))) (ma_cons (me_callGG (ds := []) rfl rfl ok__law_great (hr.less (by decide)) (by rfl) g__law_great k__law_great b__law_great .nil (fun _ => .nil) (ma_cons (me_var (pv 1) rfl) ma_nil)) (ma_cons (me_callGG (ds := []) rfl rfl ok__law_objects (hr.less (by decide)) (by rfl) g__law_objects k__law_objects b__law_objects .nil (fun _ => .nil) (ma_cons (me_var (pv 1) rfl) ma_nil)) ma_nil))) (by rfl))
    (mss_cons (ms_set (i := 5) hl sc_law.nd rfl (by first | exact .inl rfl | exact .inr rfl) (me_sl rfl (me_bin op_addA s_add (me_var (pv 7) rfl) me_str) mo_none (mo_some me_int)))
    (mss_cons (ms_set (i := 6) hl sc_law.nd rfl (by first | exact .inl rfl | exact .inr rfl) (me_callGG (ds := []) rfl rfl ok__law_bend (hr.less (by decide)) (by rfl) g__law_bend k__law_bend b__law_bend .nil (fun _ => .nil) (ma_cons (me_var (pv 1) rfl) (ma_cons (me_var (pv 9) rfl) (ma_cons (me_var (pv 2) rfl) ma_nil)))))
    (mss_cons (ms_expr (me_bm rfl PySem.F.plainAttrs_list PySem.F.slot_list_extend PySem.F.type_list_extend mt_extend s_chkL s_extend (me_var (pv 3) rfl) (ma_cons (me_lst (ma_cons (me_var (pv 7) rfl) (ma_cons (me_callGG (ds := []) rfl rfl ok__law_spoilt (hr.less (by decide)) (by rfl) g__law_spoilt k__law_spoilt b__law_spoilt .nil (fun _ => .nil) (ma_cons (me_var (pv 1) rfl) (ma_cons (me_var (pv 7) rfl) ma_nil))) (ma_cons (me_var (pv 5) rfl) (ma_cons (me_bin op_addA s_add (me_var (pv 5) rfl) me_str) (ma_cons (me_var (pv 8) rfl) (ma_cons (me_un un_neg s_neg (me_var (pv 8) rfl)) (ma_cons (me_var (pv 9) rfl) (ma_cons (me_var (pv 6) rfl) (ma_cons (me_rev rfl (me_var (pv 9) rfl)) ma_nil)))))))))) ma_nil)))
    (mss_one (ms_expr (me_bm rfl PySem.F.plainAttrs_list PySem.F.slot_list_extend PySem.F.type_list_extend mt_extend s_chkL s_extend (me_var (pv 3) rfl) (ma_cons (me_lst (ma_cons (me_callGG (ds := []) rfl rfl ok__law_bend (hr.less (by decide)) (by rfl) g__law_bend k__law_bend b__law_bend .nil (fun _ => .nil) (ma_cons (me_var (pv 1) rfl) (ma_cons (me_var (pv 6) rfl) (ma_cons (me_var (pv 2) rfl) ma_nil)))) (ma_cons (me_bin op_addA s_add (me_var (pv 9) rfl) (me_sl rfl (me_var (pv 9) rfl) mo_none (mo_some me_int))) (ma_cons (me_callTy call_list_of s_list (by rfl) m_list PyProof.Rows.boot_list (ma_cons (me_var (pv 9) rfl) ma_nil)) ma_nil)))) ma_nil)))))))))
    (mss_cons (ms_set (i := 10) hl sc_law.nd rfl (by first | exact .inl rfl | exact .inr rfl) (me_callB (call_reprA hr.gd (hu65 hr.toRoom)) s_reprA (by rfl) m_repr ML.boot_repr (ma_cons (me_var (pv 3) rfl) ma_nil)))
    (mss_cons (ms_for PassesOwn.never rfl (mi_seq rfl (me_var (pv 3) rfl)) (mg_name (i := 11) hl sc_law.nd rfl (by first | exact .inl rfl | exact .inr rfl)) (mss_cons (ms_set (i := 12) hl sc_law.nd rfl (by first | exact .inl rfl | exact .inr rfl) (me_tup (ma_cons (me_callGG (ds := []) rfl rfl ok_is_number (hr.less (by decide)) (by rfl) g_is_number k_is_number b_is_number .nil (fun _ => .nil) (ma_cons (me_var (pv 11) rfl) ma_nil)) (ma_cons (me_callGG (ds := []) rfl rfl ok_is_word (hr.less (by decide)) (by rfl) g_is_word k_is_word b_is_word .nil (fun _ => .nil) (ma_cons (me_var (pv 11) rfl) ma_nil)) (ma_cons (me_callGG (ds := []) rfl rfl ok_is_operand (hr.less (by decide)) (by rfl) g_is_operand k_is_operand b_is_operand .nil (fun _ => .nil) (ma_cons (me_var (pv 11) rfl) ma_nil)) (ma_cons (me_callGG (ds := []) rfl rfl ok_is_objects (hr.less (by decide)) (by rfl) g_is_objects k_is_objects b_is_objects .nil (fun _ => .nil) (ma_cons (me_var (pv 11) rfl) ma_nil)) ma_nil))))))
    (mss_cons (ms_set (i := 13) hl sc_law.nd rfl (by first | exact .inl rfl | exact .inr rfl) (me_tup (ma_cons (me_callGG (ds := []) rfl rfl ok__law_number (hr.less (by decide)) (by rfl) g__law_number k__law_number b__law_number .nil (fun _ => .nil) (ma_cons (me_var (pv 11) rfl) ma_nil)) (ma_cons (me_callGG (ds := []) rfl rfl ok__law_worded (hr.less (by decide)) (by rfl) g__law_worded k__law_worded b__law_worded .nil (fun _ => .nil) (ma_cons (me_var (pv 11) rfl) ma_nil)) (ma_cons (me_callGG (ds := []) rfl rfl ok__law_operanded (hr.less (by decide)) (by rfl) g__law_operanded k__law_operanded b__law_operanded .nil (fun _ => .nil) (ma_cons (me_var (pv 11) rfl) ma_nil)) (ma_cons (me_callGG (ds := []) rfl rfl ok__law_objected (hr.less (by decide)) (by rfl) g__law_objected k__law_objected b__law_objected .nil (fun _ => .nil) (ma_cons (me_var (pv 11) rfl) ma_nil)) ma_nil))))))
    (mss_one (ms_if (mt_cmp (op_neA hr.toRoom.units) s_neA (me_callB (call_reprA hr.gd (hu65 hr.toRoom)) s_reprA (by rfl) m_repr ML.boot_repr (ma_cons (me_var (pv 12) rfl) ma_nil)) (me_callB (call_reprA hr.gd (hu65 hr.toRoom)) s_reprA (by rfl) m_repr ML.boot_repr (ma_cons (me_var (pv 13) rfl) ma_nil)) (nomark _)) (mss_one (ms_ret hl me_bl)) mss_nil)))))
    (mss_one (ms_ret hl (me_cmp (op_eqA hr.toRoom.units) s_eqA (me_callB (call_reprA hr.gd (hu65 hr.toRoom)) s_reprA (by rfl) m_repr ML.boot_repr (ma_cons (me_var (pv 3) rfl) ma_nil)) (me_var (pv 10) rfl) (nomark _))))))))))
end
end K01

namespace Dm
open PySem PySem.Spec PyProof.Rows L2 ML
/-! ### the graph as data -/
inductive Gd where
  | go (a : Int) | iff (op : D) (a b : Int) | back
def Gd.d : Gd → D
  | .go a => .tuple [.str "go", .int a]
  | .iff op a b => .tuple [.str "if", op, .int a, .int b]
  | .back => .tuple [.str "back"]
def Gd.outs : Gd → List Int
  | .go a => [a]
  | .iff _ a b => [a, b]
  | .back => []
/-- a routine's blocks: rows and end each -/
abbrev Gr := List (D × Gd)
def blkD (g : D × Gd) : D := .tuple [g.1, g.2.d]
/-- a routine of a code has these blocks -/
class CodeAt (C nm : outParam D) (gs : Gr) : Prop where
  run : F_blocks_of [.val C, .val nm] = some (.val (.tuple (gs.map blkD)), [.val C, .val nm])
def tupI (ns : List Int) : D := .tuple (ns.map PyData.int)
def E (gs : Gr) (b : Int) : List Int := match gs[b.toNat]? with
  | some g => usort g.2.outs
  | none => []
theorem eqs (x : Str) : PyData.eqv (.str x) (.str x) = true := by simp [PyData.eqv]
theorem intsOf_map (ns : List Int) : intsOf (ns.map PyData.int) = some ns := by
  induction ns with
  | nil => rfl
  | cons n ns ih => simp [intsOf, ih]
theorem outs_len (g : Gd) : g.outs.length ≤ 2 := by cases g <;> simp [Gd.outs]
theorem isort_id {l : List Int} (h : l.Pairwise (· < ·)) : isort l = l := (isort_of (.refl _) (h.imp fun z => Int.le_of_lt z)).symm
theorem disp3 (A B C : D) : mergeD [] [(.inr "go", A), (.inr "if", B), (.inr "back", C)] = [(.inr "go", A), (.inr "if", B), (.inr "back", C)] := by rfl
theorem lk_go (A B C : D) : lkD [(.inr "go", A), (.inr "if", B), (.inr "back", C)] (.inr "go") = some A := by rfl
theorem lk_if (A B C : D) : lkD [(.inr "go", A), (.inr "if", B), (.inr "back", C)] (.inr "if") = some B := by rfl
theorem lk_back (A B C : D) : lkD [(.inr "go", A), (.inr "if", B), (.inr "back", C)] (.inr "back") = some C := by rfl
theorem usort_len (l : List Int) : (usort l).length ≤ l.length := by
  induction l with
  | nil => simp [usort]
  | cons x l ih =>
    have h : ∀ l : List Int, (insU x l).length ≤ l.length + 1 := fun l => by
      induction l with
      | nil => simp [insU]
      | cons y l ih =>
        unfold insU
        split
        · simp
        · split
          · simp
          · simp only [List.length_cons]; omega
    have := h (usort l)
    simp only [usort, List.length_cons]; omega
theorem atI_get {α : Type} {xs : List α} {i : Int} {x : α} (h0 : 0 ≤ i) (h : xs[i.toNat]? = some x) : atI xs i = some x := by
  have h1 : i.toNat < xs.length := (List.getElem?_eq_some_iff.mp h).1
  have h2 : i < (xs.length : Int) := by omega
  simp only [atI, ixN, h0, h2, ↓reduceIte, Option.bind_some, h]
theorem us2 (l : List Int) : usort (usort l) = usort l := (usort_of (usort_sorted l) fun x => Iff.rfl).symm
theorem ushort {l : List Int} (h : l.length ≤ 2) : (usort l).length < 64 := by have := usort_len l; omega
theorem nexts_spec {C nm : D} (gs : Gr) [hC : CodeAt C nm gs] (b : Int) (h0 : 0 ≤ b) (h1 : b < gs.length) :
    F_nexts [.val C, .val nm, .val (.int b)] = some (.val (tupI (E gs b)), [.val C, .val nm, .val (.int b)]) := by
  have blocks_spec := hC.run
  have hj : b.toNat < gs.length := by omega
  have hat : atI (gs.map blkD) b = some (blkD gs[b.toNat]) := atI_get h0 (by simp [hj])
  have hE : E gs b = usort gs[b.toNat].2.outs := by unfold E; simp [hj]
  rw [hE]
  generalize gs[b.toNat] = g at hat
  obtain ⟨rw, g⟩ := g
  unfold tupI
  cases g with
  | go a =>
    have c1 : cutD [PyData.str "go", .int a] (some 1) none = [.int a] := rfl
    have c2 : cutD [PyData.str "go", .int a] (some 2) none = [] := rfl
    simp_arith [F_nexts, blocks_spec, hat, blkD, Gd.d, c1, c2, disp3, lk_go, intsOf, intsOf_map, Gd.outs, us2, ushort (l := [a]) (by simp)]
  | iff op a c =>
    have c1 : cutD [PyData.str "if", op, .int a, .int c] (some 1) none = [op, .int a, .int c] := rfl
    have c2 : cutD [PyData.str "if", op, .int a, .int c] (some 2) none = [.int a, .int c] := rfl
    simp_arith [F_nexts, blocks_spec, hat, blkD, Gd.d, c1, c2, disp3, lk_if, intsOf, intsOf_map, Gd.outs, us2, ushort (l := [a, c]) (by simp)]
  | back =>
    have c1 : cutD [PyData.str "back"] (some 1) none = [] := rfl
    have c2 : cutD [PyData.str "back"] (some 2) none = [] := rfl
    simp_arith [F_nexts, blocks_spec, hat, blkD, Gd.d, c1, c2, disp3, lk_back, intsOf, intsOf_map, Gd.outs, us2, ushort (l := []) (by simp)]
/-! ### befores -/
def nodes (gs : Gr) : List Int := (List.range gs.length).map fun i : Nat => (i : Int)
def pre (gs : Gr) (b : Int) : List Int := (nodes gs).filter fun p => (E gs p).contains b
theorem rangeD_nodes (gs : Gr) : rangeD 0 gs.length = (nodes gs).map PyData.int := by
  simp [rangeD, nodes]
theorem nodes_mem {gs : Gr} {x : Int} : x ∈ nodes gs ↔ 0 ≤ x ∧ x < gs.length := by
  unfold nodes
  rw [List.mem_map]
  constructor
  · rintro ⟨i, hi, rfl⟩
    have := List.mem_range.mp hi
    omega
  · intro ⟨h0, h1⟩
    exact ⟨x.toNat, List.mem_range.mpr (by omega), by omega⟩
theorem any_int (ns : List Int) (b : Int) : ((ns.map PyData.int).any fun z => PyData.eqv z (.int b)) = ns.contains b := by
  induction ns with
  | nil => rfl
  | cons n ns ih =>
    simp only [List.map_cons, List.any_cons, ih, PyData.eqv, List.contains_cons]
    congr 1
    exact Bool.beq_comm ..
theorem flat_ints (ns : List Int) : (ns.map PyData.int).all flatD = true := by
  induction ns with
  | nil => rfl
  | cons n ns ih => simp [flatD, ih]
theorem ite_val (p : Bool) (d : D) (e : En) : (if p = true then some (some d, e) else some (none, e)) = some (if p = true then some d else none, e) := by cases p <;> rfl
theorem nodes_len (gs : Gr) : (nodes gs).length = gs.length := by simp [nodes]
theorem map_id' {α : Type} (l : List α) : l.map id = l := List.map_id l
theorem befores_spec {C nm : D} (gs : Gr) [hC : CodeAt C nm gs] (b : Int) (hn : gs.length ≤ 6) :
    F_befores [.val C, .val nm, .val (.int b)] = some (.val (tupI (pre gs b)), [.val C, .val nm, .val (.int b)]) := by
  have hb := hC.run
  have hlc : LC_befores_1 [some (.val C), some (.val nm), some (.val (.int b)), none] = some (.new (.lst ((pre gs b).map PyData.int)), [some (.val C), some (.val nm), some (.val (.int b)), none]) := by
    have hi := rgI_of (n := (gs.length : Nat)) (by omega) (by omega)
    unfold LC_befores_1
    refine (eLc_of (env1 := [some (.val C), some (.val nm), some (.val (.int b)), none]) (src := none) (nodes gs) PyData.int (fun p => (E gs p).contains b) PyData.int ?_ rfl (fun x hx => ?_) ?_)
    · simp_arith [hb, hi, rangeD_nodes]
    · have hx := nodes_mem.mp hx
      simp_arith [nexts_spec (C := C) (nm := nm) gs x hx.1 hx.2, tupI, flatD, flat_ints, any_int, v_lcS]
      exact ite_val ..
    · rw [nodes_len]; omega
  simp_arith [F_befores, hlc, tupI]
end Dm

namespace Dm
open PySem PySem.Spec PyProof.Rows L2 ML
/-! ### walks -/
structure OkG (gs : Gr) : Prop where
  pos : 0 < gs.length
  six : gs.length ≤ 6
  go : ∀ b c, c ∈ E gs b → 0 ≤ c ∧ c < gs.length
inductive Wk (gs : Gr) : List Int → Int → Prop where
  | start : Wk gs [0] 0
  | step {w : List Int} {b c : Int} : Wk gs w b → c ∈ E gs b → Wk gs (w ++ [c]) c
def Reach (gs : Gr) (b : Int) : Prop := ∃ w, Wk gs w b
theorem Wk.node {gs : Gr} (ok : OkG gs) {w : List Int} {b : Int} (h : Wk gs w b) : b ∈ nodes gs := by
  cases h with
  | start => exact nodes_mem.mpr ⟨by omega, by have := ok.pos; omega⟩
  | step h hc => exact nodes_mem.mpr (ok.go _ _ hc)
theorem nodes_nodup (gs : Gr) : (nodes gs).Nodup := by
  unfold nodes
  exact List.pairwise_map.mpr (List.Pairwise.imp (fun h z => h (Int.ofNat.inj z)) (List.nodup_range (n := gs.length)))
theorem short_of {gs : Gr} (ok : OkG gs) {ks : List Int} (nd : ks.Nodup) (hs : ∀ k ∈ ks, k ∈ nodes gs) : ks.length ≤ 6 := by
  have := List.Nodup.length_le_of_subset nd (l₂ := nodes gs) hs
  rw [nodes_len] at this
  exact Nat.le_trans this ok.six
/-! ### dicts by ints -/
def KS (kvs : List (Key × D)) (ks : List Int) : Prop := kvs.map (·.1) = ks.map Sum.inl
theorem KS.len {kvs : List (Key × D)} {ks : List Int} (h : KS kvs ks) : kvs.length = ks.length := by
  have := congrArg List.length h
  simpa using this
theorem lk_isSome : ∀ {kvs : List (Key × D)} {ks : List Int} (x : Int), KS kvs ks → (lkD kvs (.inl x)).isSome = ks.contains x
  | [], [], x, _ => rfl
  | [], k :: ks, x, h => by cases h
  | p :: kvs, [], x, h => by cases h
  | (k1, d) :: kvs, k :: ks, x, h => by
    have h1 : k1 = .inl k := List.head_eq_of_cons_eq h
    have h2 : KS kvs ks := List.tail_eq_of_cons_eq h
    have ih := lk_isSome x h2
    subst h1
    by_cases hx : k = x
    · subst hx
      rw [lkD_pos rfl]
      simp
    · rw [lkD_neg (fun z => hx (Sum.inl.inj z)), ih]
      simp only [List.contains_cons]
      have : (x == k) = false := by simpa using fun z => hx z.symm
      rw [this]; rfl
theorem put_fresh {kvs : List (Key × D)} {ks : List Int} {x : Int} {d : D} (h : KS kvs ks) (hx : x ∉ ks) : putD kvs (.inl x) d = kvs ++ [(.inl x, d)] := by
  have e : (kvs.any fun kv => decide (kv.1 = .inl x)) = false := by
    rw [List.any_eq_false]
    intro kv hkv
    have : kv.1 ∈ kvs.map (·.1) := List.mem_map_of_mem hkv
    rw [h] at this
    obtain ⟨y, hy, e⟩ := List.mem_map.mp this
    rw [← e]
    simp only [decide_eq_true_eq]
    intro z
    exact hx (Sum.inl.inj z ▸ hy)
  unfold putD
  rw [e]; rfl
theorem KS.snoc {kvs : List (Key × D)} {ks : List Int} {x : Int} {d : D} (h : KS kvs ks) : KS (kvs ++ [(.inl x, d)]) (ks ++ [x]) := by
  unfold KS at h ⊢
  simp [h]
theorem keyInts_of : ∀ {kvs : List (Key × D)} {ks : List Int}, KS kvs ks → keyInts kvs = some ks
  | [], [], _ => rfl
  | [], k :: ks, h => by cases h
  | p :: kvs, [], h => by cases h
  | (k1, d) :: kvs, k :: ks, h => by
    have h1 : k1 = .inl k := List.head_eq_of_cons_eq h
    have h2 : KS kvs ks := List.tail_eq_of_cons_eq h
    subst h1
    simp [keyInts, keyInts_of h2]
theorem eqv_none (x : Int) : PyData.eqv (.int x) .none = false := by simp [PyData.eqv]
theorem sh_none : SeqAt.shaped .none = true := by simp [SeqAt.shaped, PyData.canLay0, PyData.depth]
theorem eqv_empty (l : List Int) : PyData.eqv (.list (l.map PyData.int)) (.list []) = l.isEmpty := by
  cases l <;> simp [PyData.eqv, PyData.eqvAll]
/-! ### without -/
def ovD : Option Int → D
  | none => .none
  | some o => .int o
theorem eqv_ov (x : Int) (ov : Option Int) : PyData.eqv (.int x) (ovD ov) = decide (ov = some x) := by
  cases ov with
  | none => simp [PyData.eqv, ovD]
  | some o =>
    by_cases h : x = o
    · subst h; simp [PyData.eqv, ovD]
    · have h2 : ¬ o = x := fun z => h z.symm
      simp [PyData.eqv, ovD, h, h2]
theorem sh_ov (ov : Option Int) : SeqAt.shaped (ovD ov) = true := by cases ov <;> simp [ovD, SeqAt.shaped, PyData.canLay0, PyData.depth]
/-- come to without a block -/
def Av (gs : Gr) (ov : Option Int) (x : Int) : Prop := ∃ w, Wk gs w x ∧ ∀ y ∈ w, ov ≠ some y
theorem av_none {gs : Gr} {x : Int} : Av gs none x ↔ Reach gs x := ⟨fun ⟨w, h, _⟩ => ⟨w, h⟩, fun ⟨w, h⟩ => ⟨w, h, fun _ _ z => by cases z⟩⟩
theorem Av.node {gs : Gr} (ok : OkG gs) {ov : Option Int} {x : Int} (h : Av gs ov x) : x ∈ nodes gs := h.elim fun _ h => h.1.node ok
theorem Av.ne {gs : Gr} {ov : Option Int} {x : Int} (h : Av gs ov x) : ov ≠ some x := by
  obtain ⟨w, hw, h⟩ := h
  refine h x ?_
  cases hw <;> simp
theorem Av.step {gs : Gr} {ov : Option Int} {x c : Int} (h : Av gs ov x) (hc : c ∈ E gs x) (ho : ov ≠ some c) : Av gs ov c := by
  obtain ⟨w, hw, h⟩ := h
  refine ⟨_, hw.step hc, fun y hy => ?_⟩
  rcases List.mem_append.mp hy with z | z
  · exact h y z
  · simp at z; subst z; exact ho
/-- what came from where: each by one that came ahead of it -/
inductive Came (gs : Gr) (ov : Option Int) : List (Key × D) → List Int → Prop where
  | nil : ov = some 0 → Came gs ov [] []
  | root : ov ≠ some 0 → Came gs ov [(.inl 0, .none)] [0]
  | snoc {kvs : List (Key × D)} {ks : List Int} {p x : Int} : Came gs ov kvs ks → p ∈ ks → x ∈ E gs p → x ∉ ks → ov ≠ some x → Came gs ov (kvs ++ [(.inl x, .int p)]) (ks ++ [x])
theorem Came.ks {gs : Gr} {ov : Option Int} {kvs : List (Key × D)} {ks : List Int} (h : Came gs ov kvs ks) : KS kvs ks := by
  induction h with
  | nil => rfl
  | root => rfl
  | snoc _ _ _ _ _ ih => exact ih.snoc
theorem Came.nd {gs : Gr} {ov : Option Int} {kvs : List (Key × D)} {ks : List Int} (h : Came gs ov kvs ks) : ks.Nodup := by
  induction h with
  | nil => simp
  | root => simp
  | snoc _ _ _ hx _ ih =>
    rw [List.nodup_append]
    exact ⟨ih, by simp, fun a ha b hb => by simp at hb; subst hb; exact fun z => hx (z ▸ ha)⟩
theorem Came.av {gs : Gr} {ov : Option Int} {kvs : List (Key × D)} {ks : List Int} (h : Came gs ov kvs ks) : ∀ k ∈ ks, Av gs ov k := by
  induction h with
  | nil => intro k hk; cases hk
  | root ho => intro k hk; simp at hk; subst hk; exact ⟨[0], .start, fun y hy => by simp at hy; subst hy; exact ho⟩
  | snoc _ hp he _ ho ih =>
    intro k hk
    rcases List.mem_append.mp hk with z | z
    · exact ih k z
    · simp at z; subst z; exact (ih _ hp).step he ho
theorem Came.z {gs : Gr} {ov : Option Int} {kvs : List (Key × D)} {ks : List Int} (h : Came gs ov kvs ks) : ov = some 0 ∨ (0 : Int) ∈ ks := by
  induction h with
  | nil h => exact .inl h
  | root => exact .inr (by simp)
  | snoc _ _ _ _ _ ih => exact ih.imp id fun z => List.mem_append_left _ z
theorem Came.short {gs : Gr} (ok : OkG gs) {ov : Option Int} {kvs : List (Key × D)} {ks : List Int} (h : Came gs ov kvs ks) : ks.length ≤ 6 := short_of ok h.nd fun k hk => (h.av k hk).node ok
structure WI (gs : Gr) (ov : Option Int) (kvs : List (Key × D)) (ks left : List Int) : Prop where
  ca : Came gs ov kvs ks
  nl : left.Nodup
  sub : ∀ k ∈ left, k ∈ ks
def wEnv (C nm : D) (ov : Option Int) (kvs : List (Key × D)) (left : List Int) (h b : Option D) : En := [some (.val C), some (.val nm), some (.val (ovD ov)), some (.mu (.dK kvs)), some (.mu (.lst (left.map PyData.int))), jk h, jk b]
theorem without_for {C nm : D} {gs : Gr} [hC : CodeAt C nm gs] (ok : OkG gs) {ov : Option Int} {kvs : List (Key × D)} {ks left : List Int} {h : Int} {b : Option D} (I : WI gs ov kvs ks left) (hh : h ∈ ks) (hl : h ∉ left)
    (hc : ∀ k ∈ ks, k ∉ left → k ≠ h → ∀ c ∈ E gs k, ov ≠ some c → c ∈ ks) :
    ∃ kvs' ks' left' b', LF_without_4 (wEnv C nm ov kvs left (some (.int h)) b) = some (.nx, wEnv C nm ov kvs' left' (some (.int h)) b') ∧ WI gs ov kvs' ks' left' ∧ (∀ k ∈ ks', k ∉ left' → ∀ c ∈ E gs k, ov ≠ some c → c ∈ ks') ∧ left'.length + ks.length = left.length + ks'.length ∧ ks.length ≤ ks'.length := by
  have hn := nodes_mem.mp ((I.ca.av h hh).node ok)
  have nx := nexts_spec (C := C) (nm := nm) gs h hn.1 hn.2
  refine Exists.elim (sFor_inv (np := 3) (fi := iSeq (eCall 3 F_nexts [] (aCons (eV 0) (aCons (eV 1) (aCons (eV 5) aNil))))) (t := .nm 6) (body := BF_without_3) (env := wEnv C nm ov kvs left (some (.int h)) b) (env1 := wEnv C nm ov kvs left (some (.int h)) b) (ds := (E gs h).map PyData.int) (src := none)
    (fun rest env => ∃ (rs : List Int) (kvs' : List (Key × D)) (ks' left' : List Int) (b' : Option D), rest = rs.map PyData.int ∧ (∀ r ∈ rs, r ∈ E gs h) ∧ env = wEnv C nm ov kvs' left' (some (.int h)) b' ∧ WI gs ov kvs' ks' left' ∧ h ∈ ks' ∧ h ∉ left' ∧ (∀ k ∈ ks', k ∉ left' → k ≠ h → ∀ c ∈ E gs k, ov ≠ some c → c ∈ ks') ∧ (∀ c ∈ E gs h, ov ≠ some c → c ∈ ks' ∨ c ∈ rs) ∧ left'.length + ks.length = left.length + ks'.length ∧ ks.length ≤ ks'.length) ?hi ?p ?h) ?fin
  case fin =>
    rintro env' ⟨q1, q2⟩
    obtain ⟨rs, kvs', ks', left', b', e, _, rfl, h2, h3, h4, h5, h6, h7, h8⟩ := q2
    have e : rs = [] := by cases rs with | nil => rfl | cons _ _ => simp at e
    subst e
    refine ⟨kvs', ks', left', b', ?_, h2, fun k hk hkl c hcc hco => ?_, h7, h8⟩
    · unfold LF_without_4
      exact q1
    · by_cases hkh : k = h
      · subst hkh
        exact (h6 c hcc hco).resolve_right (by simp)
      · exact h5 k hk hkl hkh c hcc hco
  case hi =>
    unfold wEnv tupI at *
    simp_arith [jk, nx]
  case p => exact ⟨E gs h, kvs, ks, left, b, rfl, fun _ z => z, rfl, I, hh, hl, hc, fun c z _ => .inr z, rfl, Nat.le_refl _⟩
  case h =>
    rintro d ds env ⟨rs, kvs', ks', left', b', e, he, rfl, h2, h3, h4, h5, h6, h7, h8⟩
    have h1 := h2.ca.ks
    cases rs with
    | nil => simp at e
    | cons r rs =>
      rw [List.map_cons] at e
      obtain ⟨rfl, rfl⟩ := List.cons.inj e
      have hr := he r (List.mem_cons_self ..)
      refine ⟨wEnv C nm ov kvs' left' (some (.int h)) (some (.int r)), ?_⟩
      have s1 : setT 3 (.nm 6) (.int r) (wEnv C nm ov kvs' left' (some (.int h)) b') = some (wEnv C nm ov kvs' left' (some (.int h)) (some (.int r))) := by
        unfold wEnv
        simp_arith []
        rfl
      have h6' := h2.ca.short ok
      have hle := h1.len
      have eo := eqv_ov r ov
      by_cases hov : ov = some r
      · rw [decide_eq_true hov] at eo
        refine ⟨wEnv C nm ov kvs' left' (some (.int h)) (some (.int r)), s1, ?_, rs, kvs', ks', left', some (.int r), rfl, fun x hx => he x (List.mem_cons_of_mem _ hx), rfl, h2, h3, h4, h5, fun c hc hco => ?_, h7, h8⟩
        · unfold wEnv
          simp_arith [BF_without_3, jk, eo, sh_ov, shaped_int]
        · rcases h6 c hc hco with z | z
          · exact .inl z
          · rcases List.mem_cons.mp z with z | z
            · exact absurd (z ▸ hov) hco
            · exact .inr z
      · rw [decide_eq_false hov] at eo
        by_cases hin : r ∈ ks'
        · have e1 := lk_isSome r h1
          have e2 : ks'.contains r = true := by simpa using hin
          refine ⟨wEnv C nm ov kvs' left' (some (.int h)) (some (.int r)), s1, ?_, rs, kvs', ks', left', some (.int r), rfl, fun x hx => he x (List.mem_cons_of_mem _ hx), rfl, h2, h3, h4, h5, fun c hc hco => ?_, h7, h8⟩
          · unfold wEnv
            simp_arith [BF_without_3, jk, eo, sh_ov, shaped_int, e1, e2]
          · rcases h6 c hc hco with z | z
            · exact .inl z
            · rcases List.mem_cons.mp z with z | z
              · exact .inl (z ▸ hin)
              · exact .inr z
        · have e1 := lk_isSome r h1
          have e2 : ks'.contains r = false := by simpa using hin
          have e3 := put_fresh (d := .int h) h1 hin
          have hrl : r ∉ left' := fun z => hin (h2.sub r z)
          have hlen : left'.length ≤ 6 := Nat.le_trans (List.Nodup.length_le_of_subset h2.nl h2.sub) h6'
          refine ⟨wEnv C nm ov (kvs' ++ [(.inl r, .int h)]) (left' ++ [r]) (some (.int h)) (some (.int r)), s1, ?_, rs, _, ks' ++ [r], left' ++ [r], some (.int r), rfl, fun x hx => he x (List.mem_cons_of_mem _ hx), rfl, ⟨.snoc h2.ca h3 hr hin hov, ?_, ?_⟩, by simp [h3], ?_, ?_, ?_, ?_, ?_⟩
          · have l1 : kvs'.length < sizeLine := sl_lt (by omega)
            have l2 : left'.length < sizeLine := sl_lt (by omega)
            unfold wEnv
            simp_arith [BF_without_3, jk, eo, sh_ov, shaped_int, e1, e2, e3, l1, l2, List.map_append]
          · rw [List.nodup_append]
            exact ⟨h2.nl, by simp, fun a ha b hb => by simp at hb; subst hb; exact fun z => hrl (z ▸ ha)⟩
          · intro k hk
            rcases List.mem_append.mp hk with z | z
            · exact List.mem_append_left _ (h2.sub k z)
            · exact List.mem_append_right _ z
          · intro z
            rcases List.mem_append.mp z with z | z
            · exact h4 z
            · simp at z; subst z; exact hin h3
          · intro k hk hkl hkh c hcc hco
            have hk2 : k ∈ ks' := by
              rcases List.mem_append.mp hk with z | z
              · exact z
              · exact absurd (List.mem_append_right _ z) hkl
            exact List.mem_append_left _ (h5 k hk2 (fun z => hkl (List.mem_append_left _ z)) hkh c hcc hco)
          · intro c hcc hco
            rcases h6 c hcc hco with z | z
            · exact .inl (List.mem_append_left _ z)
            · rcases List.mem_cons.mp z with z | z
              · exact .inl (List.mem_append_right _ (by simp [z]))
              · exact .inr z
          · simp only [List.length_append, List.length_cons, List.length_nil]; omega
          · simp only [List.length_append, List.length_cons, List.length_nil]; omega
theorem isEmpty_snoc (l : List Int) (h : Int) : (l ++ [h]).isEmpty = false := by cases l <;> rfl
theorem snoc_of {l : List Int} (h : l ≠ []) : ∃ l' x, l = l' ++ [x] := ⟨l.dropLast, l.getLast h, (List.dropLast_concat_getLast h).symm⟩
theorem without_while {C nm : D} {gs : Gr} [hC : CodeAt C nm gs] (ok : OkG gs) {ov : Option Int} {kvs : List (Key × D)} {ks left : List Int} (h b : Option D) (I : WI gs ov kvs ks left) (hc : ∀ k ∈ ks, k ∉ left → ∀ c ∈ E gs k, ov ≠ some c → c ∈ ks) :
    ∃ env', LW_without_7 (wEnv C nm ov kvs left h b) = some (.nx, env') ∧ ∃ (kvs' : List (Key × D)) (ks' : List Int) (h' b' : Option D), env' = wEnv C nm ov kvs' [] h' b' ∧ WI gs ov kvs' ks' [] ∧ (∀ k ∈ ks', ∀ c ∈ E gs k, ov ≠ some c → c ∈ ks') := by
  have shortk : ∀ {kvs : List (Key × D)} {ks left : List Int}, WI gs ov kvs ks left → ks.length ≤ 6 := fun I => I.ca.short ok
  unfold LW_without_7
  refine whileL_inv (fun m env => ∃ (kvs' : List (Key × D)) (ks' left' : List Int) (h' b' : Option D), env = wEnv C nm ov kvs' left' h' b' ∧ WI gs ov kvs' ks' left' ∧ (∀ k ∈ ks', k ∉ left' → ∀ c ∈ E gs k, ov ≠ some c → c ∈ ks') ∧ m + ks'.length = left'.length + 6) ?_ (m := left.length + 6 - ks.length) ⟨kvs, ks, left, h, b, rfl, I, hc, by have := shortk I; omega⟩ ?_
  · rintro m env ⟨kvs', ks', left', h', b', rfl, h2, h3, h4⟩
    by_cases he : left' = []
    · subst he
      refine .inl ⟨?_, kvs', ks', h', b', rfl, h2, fun k hk => h3 k hk (by simp)⟩
      unfold wEnv
      simp_arith [TW_without_6, eqv_nil_nil, shaped_nil]
    · obtain ⟨l, x, rfl⟩ := snoc_of he
      have hx : x ∈ ks' := h2.sub x (by simp)
      have nd := h2.nl
      rw [List.nodup_append] at nd
      have hxl : x ∉ l := fun z => nd.2.2 x z x (by simp) rfl
      have I2 : WI gs ov kvs' ks' l := ⟨h2.ca, nd.1, fun k hk => h2.sub k (List.mem_append_left _ hk)⟩
      obtain ⟨kvs2, ks2, left2, b2, q1, q3, q4, q5, q6⟩ := without_for (C := C) (nm := nm) (b := b') ok I2 hx hxl fun k hk hkl hkx c hcc => h3 k hk (fun z => by
        rcases List.mem_append.mp z with z | z
        · exact hkl z
        · simp at z; exact hkx z) c hcc
      refine .inr ⟨?_, left2.length + 6 - ks2.length, _, ?_, ?_, kvs2, ks2, left2, some (.int x), b2, rfl, q3, q4, ?_⟩
      · have e1 := eqv_empty (l ++ [x])
        have e2 := shaped_ints (l ++ [x])
        rw [isEmpty_snoc] at e1
        unfold wEnv
        simp_arith [TW_without_6, e1, e2, shaped_nil]
      · have q1 : LF_without_4 _ = _ := q1
        unfold wEnv at q1 ⊢
        have e : (l ++ [x]).map PyData.int = l.map PyData.int ++ [PyData.int x] := by simp
        rw [e]
        simp_arith [BW_without_5]
        exact q1
      · have := shortk q3
        have := shortk h2
        simp only [List.length_append, List.length_cons, List.length_nil] at h4
        omega
      · have := shortk q3
        omega
  · have := shortk I
    have := List.Nodup.length_le_of_subset I.nl I.sub
    omega
theorem closed_av {gs : Gr} {ov : Option Int} {ks : List Int} (h0 : ov = some 0 ∨ (0 : Int) ∈ ks) (hc : ∀ k ∈ ks, ∀ c ∈ E gs k, ov ≠ some c → c ∈ ks) : ∀ {w : List Int} {b : Int}, Wk gs w b → (∀ y ∈ w, ov ≠ some y) → b ∈ ks := by
  intro w b h
  induction h with
  | start => intro ho; exact h0.resolve_left (ho 0 (by simp))
  | step h hcc ih => intro ho; exact hc _ (ih fun y hy => ho y (List.mem_append_left _ hy)) _ hcc (ho _ (by simp))
theorem without_spec {C nm : D} {gs : Gr} [hC : CodeAt C nm gs] (ok : OkG gs) (ov : Option Int) : ∃ (kvs : List (Key × D)) (ks : List Int), F_without [.val C, .val nm, .val (ovD ov)] = some (.new (.dK kvs), [.val C, .val nm, .val (ovD ov)]) ∧ Came gs ov kvs ks ∧ ∀ x, x ∈ ks ↔ Av gs ov x := by
  have eo := eqv_ov 0 ov
  have l1 : LC_without_1 [some (.val C), some (.val nm), some (.val (ovD ov)), some (.mu (.dK [])), none, none, none] = some (.new (.lst (([(0 : Int)].filter fun _ => !decide (ov = some 0)).map PyData.int)), [some (.val C), some (.val nm), some (.val (ovD ov)), some (.mu (.dK [])), none, none, none]) := by
    unfold LC_without_1
    refine (eLc_of (env1 := [some (.val C), some (.val nm), some (.val (ovD ov)), some (.mu (.dK [])), none, none, none]) (src := none) [(0 : Int)] PyData.int (fun _ => !decide (ov = some 0)) PyData.int ?_ rfl (fun x hx => ?_) (by decide)).trans ?_
    · simp_arith []
    · simp at hx
      subst hx
      simp_arith [v_lcS, eo, sh_ov, shaped_int]
      exact ite_val ..
    · rfl
  have go : ∀ kvs ks, WI gs ov kvs ks ks → (∃ env', LW_without_7 (wEnv C nm ov kvs ks none none) = some (.nx, env') ∧ ∃ (kvs' : List (Key × D)) (ks' : List Int) (h' b' : Option D), env' = wEnv C nm ov kvs' [] h' b' ∧ Came gs ov kvs' ks' ∧ ∀ x, x ∈ ks' ↔ Av gs ov x) := by
    intro kvs ks I0
    obtain ⟨env', q1, kvs, ks, h', b', rfl, q3, q4⟩ := without_while (C := C) (nm := nm) ok none none I0 fun k hk hkl => absurd hk hkl
    exact ⟨_, q1, kvs, ks, h', b', rfl, q3.ca, fun x => ⟨q3.ca.av x, fun ⟨w, hw, ho⟩ => closed_av q3.ca.z q4 hw ho⟩⟩
  by_cases ho : ov = some 0
  · obtain ⟨env', q1, kvs, ks, h', b', rfl, q3, q4⟩ := go [] [] ⟨.nil ho, by simp, fun k hk => hk⟩
    refine ⟨kvs, ks, ?_, q3, q4⟩
    unfold wEnv at q1
    simp only [List.map_nil, jk, Option.map_none] at q1
    simp only [ho, decide_true, Bool.not_true, List.filter, List.map_nil] at l1
    rw [← ho] at l1
    have l2 : LC_without_2 [some (.val C), some (.val nm), some (.val (ovD ov)), some (.mu (.dK [])), some (.mu (.lst [])), none, none] = some (.new (.lst []), [some (.val C), some (.val nm), some (.val (ovD ov)), some (.mu (.dK [])), some (.mu (.lst [])), none, none]) := by
      unfold LC_without_2
      refine (eLc_of (env1 := [some (.val C), some (.val nm), some (.val (ovD ov)), some (.mu (.dK [])), some (.lk (.lst [])), none, none]) (src := some 4) ([] : List Int) PyData.int (fun _ => true) (fun x => .tuple [.int x, .none]) ?_ rfl (fun x hx => by cases hx) (by decide)).trans ?_
      · simp_arith []
      · simp_arith [List.filter]
    have e0 : mergeD [] ([] : List (Key × D)) = [] := rfl
    simp_arith [F_without, l1, l2, ML.pairsOf, e0, q1]
  · obtain ⟨env', q1, kvs, ks, h', b', rfl, q3, q4⟩ := go [(.inl 0, .none)] [0] ⟨.root ho, by simp, fun k hk => hk⟩
    refine ⟨kvs, ks, ?_, q3, q4⟩
    unfold wEnv at q1
    simp only [List.map_cons, List.map_nil, jk, Option.map_none] at q1
    simp only [ho, decide_false, Bool.not_false, List.filter, List.map_cons, List.map_nil] at l1
    have l2 : LC_without_2 [some (.val C), some (.val nm), some (.val (ovD ov)), some (.mu (.dK [])), some (.mu (.lst [.int 0])), none, none] = some (.new (.lst [.tuple [.int 0, .none]]), [some (.val C), some (.val nm), some (.val (ovD ov)), some (.mu (.dK [])), some (.mu (.lst [.int 0])), none, none]) := by
      unfold LC_without_2
      refine (eLc_of (env1 := [some (.val C), some (.val nm), some (.val (ovD ov)), some (.mu (.dK [])), some (.lk (.lst [.int 0])), none, none]) (src := some 4) [(0 : Int)] PyData.int (fun _ => true) (fun x => .tuple [.int x, .none]) ?_ rfl (fun x hx => ?_) (by decide)).trans ?_
      · simp_arith []
      · simp_arith [v_lcS, tTrue]
      · simp_arith [List.filter]
    have e0 : mergeD [] [((.inl 0 : Key), PyData.none)] = [(.inl 0, .none)] := rfl
    simp_arith [F_without, l1, l2, ML.pairsOf, e0, q1]
/-! ### reached -/
def Rs (gs : Gr) (rs : List Int) : Prop := rs.Pairwise (· < ·) ∧ ∀ x, x ∈ rs ↔ Reach gs x
theorem isort_nodup {ks rs : List Int} (nd : ks.Nodup) (h : rs.Pairwise (· < ·)) (m : ∀ x, x ∈ rs ↔ x ∈ ks) : isort ks = rs :=
  (isort_of ((List.perm_ext_iff_of_nodup (rising_nodup h) nd).mpr m) (h.imp fun z => Int.le_of_lt z)).symm
theorem reached_spec {C nm : D} {gs : Gr} [hC : CodeAt C nm gs] (ok : OkG gs) {rs : List Int} (h : Rs gs rs) : F_reached [.val C, .val nm] = some (.val (tupI rs), [.val C, .val nm]) := by
  obtain ⟨kvs, ks, q1, q2, q4⟩ := without_spec (C := C) (nm := nm) ok none
  have e := isort_nodup q2.nd h.1 fun x => by rw [h.2, q4, av_none]
  have k := keyInts_of q2.ks
  have l : ks.length < 64 := by have := q2.short ok; omega
  unfold tupI
  unfold ovD at q1
  simp_arith [F_reached, q1, k, l, e]
end Dm

namespace Dm
open PySem PySem.Spec PyProof.Rows L2 ML
/-! ### the tables -/
def tabK (rs : List Int) (T : Int → List Int) : List (Key × D) := rs.map fun b => (.inl b, tupI (T b))
def updT (T : Int → List Int) (b : Int) (t : List Int) : Int → List Int := fun x => if x = b then t else T x
theorem tab_ks (rs : List Int) (T : Int → List Int) : KS (tabK rs T) rs := by
  unfold KS tabK
  simp
theorem tab_lk {rs : List Int} {T : Int → List Int} {b : Int} (h : b ∈ rs) : lkD (tabK rs T) (.inl b) = some (tupI (T b)) := by
  induction rs with
  | nil => cases h
  | cons r rs ih =>
    by_cases hb : r = b
    · subst hb
      exact lkD_pos rfl
    · have : lkD (tabK (r :: rs) T) (.inl b) = lkD (tabK rs T) (.inl b) := lkD_neg fun z => hb (Sum.inl.inj z)
      rw [this]
      exact ih ((List.mem_cons.mp h).resolve_left fun z => hb z.symm)
theorem tab_lk_none {rs : List Int} {T : Int → List Int} {b : Int} (h : b ∉ rs) : lkD (tabK rs T) (.inl b) = none := by
  have := lk_isSome b (tab_ks rs T)
  have e : rs.contains b = false := by simpa using h
  rw [e] at this
  cases hx : lkD (tabK rs T) (.inl b) with
  | none => rfl
  | some d => rw [hx] at this; cases this
theorem tab_put {rs : List Int} {T : Int → List Int} {b : Int} {t : List Int} (h : b ∈ rs) : putD (tabK rs T) (.inl b) (tupI t) = tabK rs (updT T b t) := by
  have e : ((tabK rs T).any fun kv => decide (kv.1 = .inl b)) = true := by
    rw [List.any_eq_true]
    exact ⟨(.inl b, tupI (T b)), List.mem_map.mpr ⟨b, h, rfl⟩, by simp⟩
  unfold putD
  rw [e]
  simp only [↓reduceIte]
  unfold tabK
  rw [List.map_map]
  refine List.map_congr_left fun x hx => ?_
  simp only [Function.comp_apply, updT, Sum.inl.injEq]
  by_cases hxb : x = b
  · simp [hxb]
  · simp [hxb]
theorem eqv_ints : ∀ a b : List Int, PyData.eqvAll (a.map PyData.int) (b.map PyData.int) = decide (a = b)
  | [], [] => by simp [PyData.eqvAll]
  | [], y :: b => by simp [PyData.eqvAll]
  | x :: a, [] => by simp [PyData.eqvAll]
  | x :: a, y :: b => by
    simp only [List.map_cons, PyData.eqvAll, eqv_ints a b, PyData.eqv, List.cons.injEq, Bool.decide_and]
    congr 1
theorem eqv_tI (a b : List Int) : PyData.eqv (tupI a) (tupI b) = decide (a = b) := by
  unfold tupI
  simp only [PyData.eqv]
  exact eqv_ints a b
theorem sh_tI (a : List Int) : SeqAt.shaped (tupI a) = true := shaped_tints a
theorem flt_true {α : Type} (l : List α) : l.filter (fun _ => true) = l := by simp
theorem bools_map {α : Type} (q : α → Bool) : ∀ l : List α, bools (l.map fun p => PyData.bool (q p)) = some (l.map q)
  | [] => rfl
  | x :: l => by simp [bools, bools_map q l]
/-! ### one turn -/
def jm (o : Option (List D)) : Option B := o.map fun l => .mu (.lst l)
theorem jk_some (d : D) : jk (some d) = some (.val d) := rfl
theorem jm_some (l : List D) : jm (some l) = some (.mu (.lst l)) := rfl
theorem isLk_jm (o : Option (List D)) : isLk (jm o) = false := by cases o <;> rfl
def tEnv (C nm : D) (gs : Gr) (rs : List Int) (T : Int → List Int) (turned : Bool) (blk : Option D) (r6 c7 : Option (List D)) (a8 : Option D) : En :=
  [some (.val C), some (.val nm), some (.val (tupI rs)), some (.mu (.dK (tabK rs T))), some (.val (.bool turned)), jk blk, jm r6, jm c7, jk a8, none, none]
def prs (gs : Gr) (rs : List Int) (b : Int) : List Int := (pre gs b).filter fun p => rs.contains p
def com (T : Int → List Int) : List Int → List Int
  | [] => []
  | p :: ps => (T p).filter fun x => (p :: ps).all fun q => (T q).contains x
def nxT (gs : Gr) (rs : List Int) (T : Int → List Int) (b : Int) : List Int := usort (com T (prs gs rs b) ++ [b])
theorem rows_spec {C nm : D} {gs : Gr} [hC : CodeAt C nm gs] (ok : OkG gs) {rs : List Int} (T : Int → List Int) (turned : Bool) (b : Int) (r6 c7 : Option (List D)) (a8 : Option D) :
    LC_tables_over_2 (tEnv C nm gs rs T turned (some (.int b)) r6 c7 a8) = some (.new (.lst ((prs gs rs b).map fun p => tupI (T p))), tEnv C nm gs rs T turned (some (.int b)) r6 c7 a8) := by
  unfold LC_tables_over_2
  refine (eLc_of (env1 := tEnv C nm gs rs T turned (some (.int b)) r6 c7 a8) (src := none) (pre gs b) PyData.int (fun p => rs.contains p) (fun p => tupI (T p)) ?_ rfl (fun x hx => ?_) ?_).trans ?_
  · have e := befores_spec gs b ok.six
    unfold tEnv
    unfold tupI at e ⊢
    simp_arith [jk_some, e]
  · have e := lk_isSome x (tab_ks rs T)
    unfold tEnv
    by_cases h : x ∈ rs
    · have e2 : rs.contains x = true := by simpa using h
      have e3 := tab_lk (T := T) h
      simp_arith [v_lcS, e, e2, e3]
    · have e2 : rs.contains x = false := by simpa using h
      simp_arith [v_lcS, e, e2]
  · have : (pre gs b).length ≤ (nodes gs).length := List.length_filter_le ..
    rw [nodes_len] at this
    have := ok.six
    omega
  · rfl
theorem all_spec {C nm : D} {gs : Gr} [hC : CodeAt C nm gs] {rs : List Int} (T : Int → List Int) (turned : Bool) (b x : Int) (ps : List Int) (c7 : Option (List D)) (a8 : Option D) (hps : ps.length ≤ 6) :
    LC_tables_over_3 [some (.val C), some (.val nm), some (.val (tupI rs)), some (.mu (.dK (tabK rs T))), some (.val (.bool turned)), some (.val (.int b)), some (.mu (.lst (ps.map fun p => tupI (T p)))), jm c7, jk a8, some (.val (.int x)), none]
      = some (.new (.lst (ps.map fun p => .bool ((T p).contains x))), [some (.val C), some (.val nm), some (.val (tupI rs)), some (.mu (.dK (tabK rs T))), some (.val (.bool turned)), some (.val (.int b)), some (.mu (.lst (ps.map fun p => tupI (T p)))), jm c7, jk a8, some (.val (.int x)), none]) := by
  unfold LC_tables_over_3
  refine (eLc_of (env1 := [some (.val C), some (.val nm), some (.val (tupI rs)), some (.mu (.dK (tabK rs T))), some (.val (.bool turned)), some (.val (.int b)), some (.lk (.lst (ps.map fun p => tupI (T p)))), jm c7, jk a8, some (.val (.int x)), none]) (src := some 6) ps (fun p => tupI (T p)) (fun _ => true) (fun p => .bool ((T p).contains x)) ?_ rfl (fun p hp => ?_) ?_).trans ?_
  · simp_arith []
  · simp_arith [v_lcS, tTrue, tupI, flatD, flat_ints, any_int]
  · omega
  · simp_arith [flt_true]
theorem common_spec {C nm : D} {gs : Gr} [hC : CodeAt C nm gs] {rs : List Int} (T : Int → List Int) (turned : Bool) (b p : Int) (ps : List Int) (c7 : Option (List D)) (a8 : Option D) (hps : ps.length ≤ 5) (hT : (T p).length ≤ 6) :
    LC_tables_over_4 (tEnv C nm gs rs T turned (some (.int b)) (some ((p :: ps).map fun p => tupI (T p))) c7 a8)
      = some (.new (.lst ((com T (p :: ps)).map PyData.int)), tEnv C nm gs rs T turned (some (.int b)) (some ((p :: ps).map fun p => tupI (T p))) c7 a8) := by
  unfold LC_tables_over_4
  refine (eLc_of (env1 := tEnv C nm gs rs T turned (some (.int b)) (some ((p :: ps).map fun p => tupI (T p))) c7 a8) (src := none) (T p) PyData.int (fun x => (p :: ps).all fun q => (T q).contains x) PyData.int ?_ rfl (fun x hx => ?_) ?_).trans ?_
  · unfold tEnv
    simp_arith [jk_some, jm_some, tupI]
  · have e := all_spec (gs := gs) (rs := rs) T turned b x (p :: ps) c7 a8 (by simp; omega)
    have e2 := bools_map (fun q => (T q).contains x) (p :: ps)
    have e3 : ((p :: ps).map fun q => (T q).contains x).all id = (p :: ps).all fun q => (T q).contains x := by simp [List.all_map]
    simp only [List.map_cons] at e e2 e3
    unfold tEnv
    simp_arith [v_lcS, jk_some, jm_some, e, e2, e3]
    exact ite_val ..
  · omega
  · rfl
theorem com_len {T : Int → List Int} {ps : List Int} (h : ∀ p ∈ ps, (T p).length ≤ 6) : (com T ps).length ≤ 6 := by
  cases ps with
  | nil => simp [com]
  | cons p ps => exact Nat.le_trans (List.length_filter_le ..) (h p (List.mem_cons_self ..))
theorem turn_spec {C nm : D} {gs : Gr} [hC : CodeAt C nm gs] (ok : OkG gs) {rs : List Int} (T : Int → List Int) (turned : Bool) (b : Int) (r6 c7 : Option (List D)) (a8 : Option D) (hb : b ∈ rs) (hrs : rs.length ≤ 6) (hne : prs gs rs b ≠ []) (hT : ∀ x ∈ rs, (T x).length ≤ 6) :
    ∃ r6' c7' a8', BF_tables_over_5 (tEnv C nm gs rs T turned (some (.int b)) r6 c7 a8) = some (.nx, tEnv C nm gs rs (updT T b (nxT gs rs T b)) (turned || decide (nxT gs rs T b ≠ T b)) (some (.int b)) r6' c7' a8') := by
  have q1 := rows_spec (rs := rs) ok T turned b r6 c7 a8
  obtain ⟨p, ps, hp⟩ : ∃ p ps, prs gs rs b = p :: ps := by
    cases h : prs gs rs b with
    | nil => exact absurd h hne
    | cons p ps => exact ⟨p, ps, rfl⟩
  have hpm : ∀ q ∈ p :: ps, q ∈ rs := fun q hq => by
    rw [← hp] at hq
    simpa using (List.mem_filter.mp hq).2
  have hl : (p :: ps).length ≤ 6 := by
    rw [← hp]
    have h1 : (prs gs rs b).length ≤ (pre gs b).length := List.length_filter_le ..
    have h2 : (pre gs b).length ≤ (nodes gs).length := List.length_filter_le ..
    rw [nodes_len] at h2
    have := ok.six
    omega
  have q2 := common_spec (gs := gs) (rs := rs) T turned b p ps c7 a8 (by simpa using hl) (hT p (hpm p (List.mem_cons_self ..)))
  rw [hp] at q1
  have hc := com_len fun q hq => hT q (hpm q hq)
  have e1 : intsOf ((com T (p :: ps)).map PyData.int ++ [PyData.int b]) = some (com T (p :: ps) ++ [b]) := by
    have := intsOf_map (com T (p :: ps) ++ [b])
    simpa using this
  have e2 : nxT gs rs T b = usort (com T (p :: ps) ++ [b]) := by unfold nxT; rw [hp]
  have l1 : (com T (p :: ps) ++ [b]).length ≤ 1000 := by simp; omega
  have l2 : (usort (com T (p :: ps) ++ [b])).length < 64 := by
    have := usort_len (com T (p :: ps) ++ [b])
    simp at this
    omega
  have l3 : (com T (p :: ps)).length + 1 ≤ sizeLine := sl_le (by omega)
  have l4 : (tabK rs T).length < sizeLine := by
    unfold tabK
    rw [List.length_map]
    exact sl_lt (by omega)
  rw [e2]
  generalize hA : com T (p :: ps) = A at *
  have e4 := eqv_tI (usort (A ++ [b])) (T b)
  have e5 := sh_tI (usort (A ++ [b]))
  have e6 := sh_tI (T b)
  have e7 := tab_lk (T := T) hb
  have e8 := tab_put (T := T) (t := usort (A ++ [b])) hb
  refine ⟨some ((p :: ps).map fun p => tupI (T p)), some (A.map PyData.int), some (tupI (usort (A ++ [b]))), ?_⟩
  unfold tEnv at q1 q2 ⊢
  unfold tupI at e4 e5 e6 e7 e8 q2 q1 ⊢
  simp only [jk_some, jm_some, List.map_cons] at q1 q2
  cases turned with
  | true => simp_arith [BF_tables_over_5, jk_some, jm_some, isLk_jm, q1, q2, e1, l1, l2, l3, us2, e8, l4, Bool.true_or]
  | false =>
    have e9 : (!decide (usort (A ++ [b]) = T b)) = decide (usort (A ++ [b]) ≠ T b) := by simp
    simp_arith [BF_tables_over_5, jk_some, jm_some, isLk_jm, q1, q2, e1, l1, l2, l3, us2, e4, e5, e6, e7, e8, e9, l4, Bool.false_or]
end Dm

namespace Dm
open PySem PySem.Spec PyProof.Rows L2 ML
/-! ### walks and who is on all of them -/
def Dom (gs : Gr) (x b : Int) : Prop := ∀ w, Wk gs w b → x ∈ w
theorem Wk.last {gs : Gr} {w : List Int} {b : Int} (h : Wk gs w b) : b ∈ w := by
  cases h <;> simp
theorem Wk.ne {gs : Gr} {w : List Int} {b : Int} (h : Wk gs w b) : w ≠ [] := by
  cases h <;> simp
/-- the way up to one of its blocks -/
theorem Wk.upto {gs : Gr} {w : List Int} {b y : Int} (h : Wk gs w b) (hy : y ∈ w) : ∃ w1, w1 <+: w ∧ Wk gs w1 y ∧ (y ≠ b → w1.length < w.length) := by
  induction h with
  | start =>
    simp at hy
    subst hy
    exact ⟨[0], List.prefix_refl _, .start, fun z => absurd rfl z⟩
  | @step w b c h hc ih =>
    by_cases hyw : y ∈ w
    · obtain ⟨w1, q1, q2, q3⟩ := ih hyw
      refine ⟨w1, q1.trans (List.prefix_append ..), q2, fun _ => ?_⟩
      have := q1.length_le
      simp; omega
    · have e : y = c := by simpa [hyw] using hy
      subst e
      exact ⟨w ++ [y], List.prefix_refl _, h.step hc, fun z => absurd rfl z⟩
theorem mem_prs {gs : Gr} (ok : OkG gs) {rs : List Int} (R : Rs gs rs) {b p : Int} : p ∈ prs gs rs b ↔ p ∈ rs ∧ b ∈ E gs p := by
  unfold prs pre
  simp only [List.mem_filter, List.contains_iff_mem]
  constructor
  · rintro ⟨⟨_, h1⟩, h2⟩; exact ⟨h2, h1⟩
  · rintro ⟨h1, h2⟩
    obtain ⟨w, hw⟩ := (R.2 p).mp h1
    exact ⟨⟨hw.node ok, h2⟩, h1⟩
theorem prs_ne {gs : Gr} (ok : OkG gs) {rs : List Int} (R : Rs gs rs) {b : Int} (hb : b ∈ rs) (h0 : b ≠ 0) : prs gs rs b ≠ [] := by
  obtain ⟨w, hw⟩ := (R.2 b).mp hb
  cases hw with
  | start => exact absurd rfl h0
  | @step w p _ h hc =>
    intro z
    have : p ∈ prs gs rs b := (mem_prs ok R).mpr ⟨(R.2 p).mpr ⟨w, h⟩, hc⟩
    rw [z] at this
    cases this
theorem mem_nx {gs : Gr} {rs : List Int} {T : Int → List Int} {b x : Int} (hne : prs gs rs b ≠ []) : x ∈ nxT gs rs T b ↔ x = b ∨ ∀ p ∈ prs gs rs b, x ∈ T p := by
  unfold nxT
  rw [usort_mem, List.mem_append, List.mem_singleton]
  have e : x ∈ com T (prs gs rs b) ↔ ∀ p ∈ prs gs rs b, x ∈ T p := by
    cases hp : prs gs rs b with
    | nil => exact absurd hp hne
    | cons p ps =>
      unfold com
      simp only [List.mem_filter, List.all_eq_true, List.contains_iff_mem]
      exact ⟨fun h => h.2, fun h => ⟨h p (List.mem_cons_self ..), h⟩⟩
  rw [e]
  exact Or.comm
structure TI (gs : Gr) (rs : List Int) (T : Int → List Int) : Prop where
  srt : ∀ b ∈ rs, (T b).Pairwise (· < ·)
  sub : ∀ b ∈ rs, ∀ x ∈ T b, x ∈ rs
  dom : ∀ b ∈ rs, ∀ x, Dom gs x b → x ∈ T b
  zero : T 0 = [0]
  dec : ∀ b ∈ rs, b ≠ 0 → ∀ x ∈ nxT gs rs T b, x ∈ T b
theorem updT_same (T : Int → List Int) (b : Int) (t : List Int) : updT T b t b = t := by simp [updT]
theorem updT_ne {T : Int → List Int} {b c : Int} {t : List Int} (h : c ≠ b) : updT T b t c = T c := by simp [updT, h]
theorem updT_id (T : Int → List Int) (b : Int) : updT T b (T b) = T := by
  funext x
  unfold updT
  split
  · rename_i h; rw [h]
  · rfl
theorem nx_mono {gs : Gr} {rs : List Int} {T T' : Int → List Int} (h : ∀ p ∈ rs, ∀ x ∈ T' p, x ∈ T p) {b x : Int} (hne : prs gs rs b ≠ []) (hp : ∀ p ∈ prs gs rs b, p ∈ rs) (hx : x ∈ nxT gs rs T' b) : x ∈ nxT gs rs T b := by
  rw [mem_nx hne] at hx ⊢
  exact hx.imp id fun z p hpm => h p (hp p hpm) x (z p hpm)
theorem TI.step {gs : Gr} (ok : OkG gs) {rs : List Int} (R : Rs gs rs) {T : Int → List Int} (I : TI gs rs T) {b : Int} (hb : b ∈ rs) (h0 : b ≠ 0) : TI gs rs (updT T b (nxT gs rs T b)) := by
  have ne := fun {c : Int} (hc : c ∈ rs) (hc0 : c ≠ 0) => prs_ne ok R hc hc0
  have prm : ∀ {c p : Int}, p ∈ prs gs rs c → p ∈ rs := fun h => ((mem_prs ok R).mp h).1
  have less : ∀ p ∈ rs, ∀ x ∈ updT T b (nxT gs rs T b) p, x ∈ T p := fun p hp x hx => by
    by_cases hpb : p = b
    · subst hpb
      rw [updT_same] at hx
      exact I.dec p hb h0 x hx
    · rw [updT_ne hpb] at hx; exact hx
  refine ⟨fun c hc => ?_, fun c hc x hx => ?_, fun c hc x hx => ?_, ?_, fun c hc hc0 x hx => ?_⟩
  · by_cases hcb : c = b
    · subst hcb; rw [updT_same]; exact usort_sorted _
    · rw [updT_ne hcb]; exact I.srt c hc
  · exact I.sub c hc x (less c hc x hx)
  · by_cases hcb : c = b
    · subst hcb
      rw [updT_same, mem_nx (ne hb h0)]
      by_cases hxc : x = c
      · exact .inl hxc
      · refine .inr fun p hp => ?_
        obtain ⟨h1, h2⟩ := (mem_prs ok R).mp hp
        refine I.dom p h1 x fun w hw => ?_
        have := hx _ (hw.step h2)
        simpa [hxc] using this
    · rw [updT_ne hcb]; exact I.dom c hc x hx
  · rw [updT_ne (Ne.symm h0)]; exact I.zero
  · have hx2 := nx_mono less (ne hc hc0) (fun p hp => prm hp) hx
    by_cases hcb : c = b
    · subst hcb; rw [updT_same]; exact hx2
    · rw [updT_ne hcb]; exact I.dec c hc hc0 x hx2
/-! ### the measure -/
def mu (rs : List Int) (T : Int → List Int) : Nat := (rs.map fun b => (T b).length).sum
theorem mu_le {rs : List Int} {T T' : Int → List Int} (h : ∀ b ∈ rs, (T' b).length ≤ (T b).length) : mu rs T' ≤ mu rs T := by
  induction rs with
  | nil => exact Nat.le_refl _
  | cons r rs ih =>
    have h1 := h r (List.mem_cons_self ..)
    have h2 := ih fun b hb => h b (List.mem_cons_of_mem _ hb)
    unfold mu at h2 ⊢
    simp only [List.map_cons, List.sum_cons]
    omega
theorem mu_lt {rs : List Int} {T T' : Int → List Int} (h : ∀ b ∈ rs, (T' b).length ≤ (T b).length) {b : Int} (hb : b ∈ rs) (hl : (T' b).length < (T b).length) : mu rs T' < mu rs T := by
  induction rs with
  | nil => cases hb
  | cons r rs ih =>
    have h1 := h r (List.mem_cons_self ..)
    have h3 := fun b hb => h b (List.mem_cons_of_mem _ hb)
    have h2 := mu_le h3
    rcases List.mem_cons.mp hb with z | z
    · subst z
      unfold mu at h2 ⊢
      simp only [List.map_cons, List.sum_cons]
      omega
    · have h4 := ih h3 z
      unfold mu at h4 ⊢
      simp only [List.map_cons, List.sum_cons]
      omega
theorem shorter {a b : List Int} (ha : a.Pairwise (· < ·)) (hb : b.Pairwise (· < ·)) (h : ∀ x ∈ a, x ∈ b) : a.length ≤ b.length ∧ (a ≠ b → a.length < b.length) := by
  have h1 := List.Nodup.length_le_of_subset (rising_nodup ha) h
  refine ⟨h1, fun hne => ?_⟩
  by_cases hl : a.length < b.length
  · exact hl
  · have hs : ∀ x ∈ b, x ∈ a := fun x hx => by
      by_cases hxa : x ∈ a
      · exact hxa
      · exfalso
        have nd : (x :: a).Nodup := List.nodup_cons.mpr ⟨hxa, rising_nodup ha⟩
        have := List.Nodup.length_le_of_subset nd (l₂ := b) fun y hy => by
          rcases List.mem_cons.mp hy with z | z
          · exact z ▸ hx
          · exact h y z
        simp at this
        omega
    exact absurd (rising_eq ha hb fun x => ⟨h x, hs x⟩) hne
theorem TI.shrink {gs : Gr} {rs : List Int} {T : Int → List Int} (I : TI gs rs T) {b : Int} (hb : b ∈ rs) (h0 : b ≠ 0) (hne : nxT gs rs T b ≠ T b) : mu rs (updT T b (nxT gs rs T b)) < mu rs T := by
  have q := shorter (usort_sorted _) (I.srt b hb) (I.dec b hb h0)
  refine mu_lt (fun c hc => ?_) hb ?_
  · by_cases hcb : c = b
    · subst hcb; rw [updT_same]; exact q.1
    · rw [updT_ne hcb]; exact Nat.le_refl _
  · rw [updT_same]; exact q.2 hne
/-! ### where it stands still, it is what is meant -/
def Fix (gs : Gr) (rs : List Int) (T : Int → List Int) : Prop := ∀ b ∈ rs, b ≠ 0 → nxT gs rs T b = T b
theorem fix_dom {gs : Gr} (ok : OkG gs) {rs : List Int} (R : Rs gs rs) {T : Int → List Int} (I : TI gs rs T) (F : Fix gs rs T) {b x : Int} (hb : b ∈ rs) : x ∈ T b ↔ Dom gs x b := by
  refine ⟨fun hx w hw => ?_, I.dom b hb x⟩
  induction hw with
  | start => rw [I.zero] at hx; exact hx
  | @step w p c h hc ih =>
    have hp : p ∈ rs := (R.2 p).mpr ⟨w, h⟩
    by_cases h0 : c = 0
    · subst h0
      rw [I.zero] at hx
      simp at hx
      subst hx
      simp
    · rw [← F c hb h0, mem_nx (prs_ne ok R hb h0)] at hx
      rcases hx with z | z
      · subst z; simp
      · exact List.mem_append_left _ (ih hp (z p ((mem_prs ok R).mpr ⟨hp, hc⟩)))
theorem TI.short {gs : Gr} (ok : OkG gs) {rs : List Int} (R : Rs gs rs) {T : Int → List Int} (I : TI gs rs T) : ∀ b ∈ rs, (T b).length ≤ 6 := fun b hb =>
  short_of ok (rising_nodup (I.srt b hb)) fun k hk => Wk.node ok ((R.2 k).mp (I.sub b hb k hk)).choose_spec
theorem Rs.short {gs : Gr} (ok : OkG gs) {rs : List Int} (R : Rs gs rs) : rs.length ≤ 6 := short_of ok (rising_nodup R.1) fun k hk => Wk.node ok ((R.2 k).mp hk).choose_spec
theorem Rs.head {gs : Gr} (ok : OkG gs) {rs : List Int} (R : Rs gs rs) : ∃ rest, rs = 0 :: rest ∧ (0 : Int) ∉ rest := by
  have h0 : (0 : Int) ∈ rs := (R.2 0).mpr ⟨_, .start⟩
  cases rs with
  | nil => cases h0
  | cons r rest =>
    have h1 : ∃ w, Wk gs w r := (R.2 r).mp (List.mem_cons_self ..)
    have hr := (nodes_mem.mp (Wk.node ok h1.choose_spec)).1
    have hp := List.pairwise_cons.mp R.1
    have e : r = 0 := by
      rcases List.mem_cons.mp h0 with z | z
      · exact z.symm
      · have := hp.1 0 z
        omega
    subst e
    exact ⟨rest, rfl, fun z => by have := hp.1 0 z; omega⟩
end Dm

namespace Dm
open PySem PySem.Spec PyProof.Rows L2 ML
theorem cut_tail (x : Int) (rest : List Int) : ML.cutD ((x :: rest).map PyData.int) (some 1) none = rest.map PyData.int := by
  unfold ML.cutD
  rw [HT.sIx_none, show HT.sIx ((x :: rest).map PyData.int).length 0 (some 1) = min 1 ((x :: rest).map PyData.int).length from HT.sIx_nat _ 0 1]
  have : min 1 ((x :: rest).map PyData.int).length = 1 := by simp
  rw [this]
  simp
  exact List.take_of_length_le (by simp)
theorem sweep_spec {C nm : D} {gs : Gr} [hC : CodeAt C nm gs] (ok : OkG gs) {rest : List Int} (R : Rs gs (0 :: rest)) (h0 : (0 : Int) ∉ rest) {T : Int → List Int} (I : TI gs (0 :: rest) T) (blk : Option D) (r6 c7 : Option (List D)) (a8 : Option D) :
    ∃ env', LF_tables_over_6 (tEnv C nm gs (0 :: rest) T false blk r6 c7 a8) = some (.nx, env') ∧ ∃ (T' : Int → List Int) (tu : Bool) (blk' : Option D) (r6' c7' : Option (List D)) (a8' : Option D), env' = tEnv C nm gs (0 :: rest) T' tu blk' r6' c7' a8' ∧ TI gs (0 :: rest) T' ∧
      ((tu = false ∧ T' = T ∧ Fix gs (0 :: rest) T) ∨ (tu = true ∧ mu (0 :: rest) T' < mu (0 :: rest) T)) := by
  have hl := R.short ok
  refine Exists.elim (sFor_inv (np := 2) (fi := iSeq (eSl (eV 2) (oSome (eK (.int 1))) oNone)) (t := .nm 5) (body := BF_tables_over_5) (env := tEnv C nm gs (0 :: rest) T false blk r6 c7 a8) (env1 := tEnv C nm gs (0 :: rest) T false blk r6 c7 a8) (ds := rest.map PyData.int) (src := none)
    (fun ds env => ∃ (done left : List Int) (T' : Int → List Int) (tu : Bool) (blk' : Option D) (r6' c7' : Option (List D)) (a8' : Option D), ds = left.map PyData.int ∧ rest = done ++ left ∧ env = tEnv C nm gs (0 :: rest) T' tu blk' r6' c7' a8' ∧ TI gs (0 :: rest) T' ∧
      ((tu = false ∧ T' = T ∧ ∀ b ∈ done, nxT gs (0 :: rest) T b = T b) ∨ (tu = true ∧ mu (0 :: rest) T' < mu (0 :: rest) T))) ?hi ?p ?h) ?fin
  case fin =>
    rintro env' ⟨q1, q2⟩
    obtain ⟨done, left, T', tu, blk', r6', c7', a8', e, e2, rfl, h1, h2⟩ := q2
    have e : left = [] := by cases left with | nil => rfl | cons _ _ => simp at e
    subst e
    rw [List.append_nil] at e2
    refine ⟨_, q1, T', tu, blk', r6', c7', a8', rfl, h1, h2.imp (fun z => ⟨z.1, z.2.1, fun b hb hb0 => ?_⟩) id⟩
    refine z.2.2 b ?_
    rw [← e2]
    exact (List.mem_cons.mp hb).resolve_left hb0
  case hi =>
    have e := cut_tail 0 rest
    unfold tEnv tupI
    simp only [List.map_cons] at e
    simp_arith [e]
  case p => exact ⟨[], rest, T, false, blk, r6, c7, a8, rfl, rfl, rfl, I, .inl ⟨rfl, rfl, fun b hb => by cases hb⟩⟩
  case h =>
    rintro d ds env ⟨done, left, T', tu, blk', r6', c7', a8', e, e2, rfl, h1, h2⟩
    cases left with
    | nil => simp at e
    | cons r left =>
      rw [List.map_cons] at e
      obtain ⟨rfl, rfl⟩ := List.cons.inj e
      have hr : r ∈ rest := by rw [e2]; simp
      have hr1 : r ∈ 0 :: rest := List.mem_cons_of_mem _ hr
      have hr0 : r ≠ 0 := fun z => h0 (z ▸ hr)
      obtain ⟨r62, c72, a82, q1⟩ := turn_spec ok T' tu r r6' c7' a8' hr1 hl (prs_ne ok R hr1 hr0) (h1.short ok R)
      refine ⟨tEnv C nm gs (0 :: rest) T' tu (some (.int r)) r6' c7' a8', _, ?_, q1, done ++ [r], left, _, _, _, _, _, _, rfl, by simp [e2], rfl, h1.step ok R hr1 hr0, ?_⟩
      · unfold tEnv
        simp_arith []
        rfl
      · by_cases hn : nxT gs (0 :: rest) T' r = T' r
        · rw [hn, updT_id]
          rcases h2 with ⟨rfl, rfl, h3⟩ | ⟨rfl, h3⟩
          · refine .inl ⟨by simp, rfl, fun b hb => ?_⟩
            rcases List.mem_append.mp hb with z | z
            · exact h3 b z
            · simp at z; subst z; exact hn
          · exact .inr ⟨by simp, h3⟩
        · have h4 := h1.shrink hr1 hr0 hn
          rcases h2 with ⟨rfl, rfl, h3⟩ | ⟨rfl, h3⟩
          · exact .inr ⟨by simp [hn], h4⟩
          · exact .inr ⟨by simp, by omega⟩
theorem tables_while {C nm : D} {gs : Gr} [hC : CodeAt C nm gs] (ok : OkG gs) {rest : List Int} (R : Rs gs (0 :: rest)) (h0 : (0 : Int) ∉ rest) {T : Int → List Int} (I : TI gs (0 :: rest) T) :
    ∃ env', LW_tables_over_9 (tEnv C nm gs (0 :: rest) T true none none none none) = some (.nx, env') ∧ ∃ (T' : Int → List Int) (tu : Bool) (blk' : Option D) (r6' c7' : Option (List D)) (a8' : Option D), env' = tEnv C nm gs (0 :: rest) T' tu blk' r6' c7' a8' ∧ TI gs (0 :: rest) T' ∧ Fix gs (0 :: rest) T' := by
  unfold LW_tables_over_9
  refine whileL_inv (fun m env => ∃ (T' : Int → List Int) (tu : Bool) (blk' : Option D) (r6' c7' : Option (List D)) (a8' : Option D), env = tEnv C nm gs (0 :: rest) T' tu blk' r6' c7' a8' ∧ TI gs (0 :: rest) T' ∧
    ((tu = true ∧ mu (0 :: rest) T' < m) ∨ (tu = false ∧ Fix gs (0 :: rest) T'))) ?_ (m := mu (0 :: rest) T + 1) ⟨T, true, none, none, none, none, rfl, I, .inl ⟨rfl, by omega⟩⟩ ?_
  · rintro m env ⟨T', tu, blk', r6', c7', a8', rfl, h1, h2⟩
    rcases h2 with ⟨rfl, h3⟩ | ⟨rfl, h3⟩
    · obtain ⟨env2, q1, T2, tu2, blk2, r62, c72, a82, rfl, q2, q3⟩ := sweep_spec ok R h0 h1 blk' r6' c7' a8'
      refine .inr ⟨?_, mu (0 :: rest) T', _, ?_, h3, T2, tu2, blk2, r62, c72, a82, rfl, q2, ?_⟩
      · unfold tEnv
        simp_arith [TW_tables_over_8]
      · unfold tEnv at q1 ⊢
        simp_arith [BW_tables_over_7, q1]
      · rcases q3 with ⟨rfl, rfl, z⟩ | ⟨rfl, z⟩
        · exact .inr ⟨rfl, z⟩
        · exact .inl ⟨rfl, z⟩
    · refine .inl ⟨?_, T', false, blk', r6', c7', a8', rfl, h1, h3⟩
      unfold tEnv
      simp_arith [TW_tables_over_8]
  · have h1 := R.short ok
    have h2 := I.short ok R
    have h3 : ∀ l : List Int, (∀ b ∈ l, (T b).length ≤ 6) → mu l T ≤ 6 * l.length := fun l => by
      induction l with
      | nil => intro _; exact Nat.le_refl _
      | cons r l ih =>
        intro h
        have h4 := ih fun b hb => h b (List.mem_cons_of_mem _ hb)
        have h5 := h r (List.mem_cons_self ..)
        unfold mu at h4 ⊢
        simp only [List.map_cons, List.sum_cons, List.length_cons]
        omega
    have := h3 _ h2
    omega
theorem pairs_map (t : D) : ∀ rs : List Int, ML.pairsOf (rs.map fun b => PyData.tuple [.int b, t]) = some (rs.map fun b => ((.inl b : Key), t))
  | [] => rfl
  | r :: rs => by simp [ML.pairsOf, keyD, pairs_map t rs]
theorem merge_map (t : D) : ∀ (rs done : List Int), (done ++ rs).Nodup → mergeD (done.map fun b => ((.inl b : Key), t)) (rs.map fun b => ((.inl b : Key), t)) = (done ++ rs).map fun b => ((.inl b : Key), t)
  | [], done, _ => by simp [mergeD]
  | r :: rs, done, nd => by
    have hr : r ∉ done := fun z => by
      rw [List.nodup_append] at nd
      exact nd.2.2 r z r (List.mem_cons_self ..) rfl
    have hk : KS (done.map fun b => ((.inl b : Key), t)) done := by unfold KS; simp
    have e := put_fresh (d := t) hk hr
    have ih := merge_map t rs (done ++ [r]) (by simpa using nd)
    unfold mergeD at ih ⊢
    simp only [List.map_cons, List.foldl_cons]
    rw [e]
    simpa using ih
theorem tables_spec {C nm : D} {gs : Gr} [hC : CodeAt C nm gs] (ok : OkG gs) {rs : List Int} (R : Rs gs rs) : ∃ T, F_tables_over [.val C, .val nm] = some (.new (.dK (tabK rs T)), [.val C, .val nm]) ∧ ∀ b ∈ rs, (T b).Pairwise (· < ·) ∧ ∀ x, x ∈ T b ↔ Dom gs x b := by
  obtain ⟨rest, rfl, h0⟩ := R.head ok
  have hl := R.short ok
  have I0 : TI gs (0 :: rest) (updT (fun _ => 0 :: rest) 0 [0]) := by
    have sub : ∀ b ∈ 0 :: rest, ∀ x ∈ updT (fun _ => 0 :: rest) 0 [0] b, x ∈ 0 :: rest := fun b hb x hx => by
      by_cases hb0 : b = 0
      · subst hb0; rw [updT_same] at hx; simp at hx; subst hx; exact List.mem_cons_self ..
      · rw [updT_ne hb0] at hx; exact hx
    refine ⟨fun b hb => ?_, sub, fun b hb x hx => ?_, updT_same .., fun b hb hb0 x hx => ?_⟩
    · by_cases hb0 : b = 0
      · subst hb0; rw [updT_same]; simp
      · rw [updT_ne hb0]; exact R.1
    · by_cases hb0 : b = 0
      · subst hb0; rw [updT_same]; exact hx _ .start
      · rw [updT_ne hb0]
        obtain ⟨w, hw⟩ := (R.2 b).mp hb
        obtain ⟨w1, _, h1, _⟩ := hw.upto (hx w hw)
        exact (R.2 x).mpr ⟨w1, h1⟩
    · rw [updT_ne hb0]
      have ne := prs_ne ok R hb hb0
      rw [mem_nx ne] at hx
      rcases hx with z | z
      · exact z ▸ hb
      · obtain ⟨p, ps, hp⟩ : ∃ p ps, prs gs (0 :: rest) b = p :: ps := by
          cases h : prs gs (0 :: rest) b with
          | nil => exact absurd h ne
          | cons p ps => exact ⟨p, ps, rfl⟩
        have hpm : p ∈ prs gs (0 :: rest) b := by rw [hp]; exact List.mem_cons_self ..
        exact sub p ((mem_prs ok R).mp hpm).1 x (z p hpm)
  obtain ⟨env', q1, T, tu, blk, r6, c7, a8, rfl, q2, q3⟩ := tables_while ok R h0 I0
  refine ⟨T, ?_, fun b hb => ⟨q2.srt b hb, fun x => fix_dom ok R q2 q3 hb⟩⟩
  have l1 : LC_tables_over_1 [some (.val C), some (.val nm), some (.val (tupI (0 :: rest))), none, none, none, none, none, none, none, none]
      = some (.new (.lst ((0 :: rest).map fun b => PyData.tuple [.int b, tupI (0 :: rest)])), [some (.val C), some (.val nm), some (.val (tupI (0 :: rest))), none, none, none, none, none, none, none, none]) := by
    unfold LC_tables_over_1
    refine (eLc_of (env1 := [some (.val C), some (.val nm), some (.val (tupI (0 :: rest))), none, none, none, none, none, none, none, none]) (src := none) (0 :: rest) PyData.int (fun _ => true) (fun b => PyData.tuple [.int b, tupI (0 :: rest)]) ?_ rfl (fun x hx => ?_) ?_).trans ?_
    · simp_arith [tupI]
    · simp_arith [v_lcS, tTrue]
    · simp at hl; simp; omega
    · simp_arith [flt_true]
  have e1 := reached_spec ok R
  have e2 := pairs_map (tupI (0 :: rest)) (0 :: rest)
  have e3 : mergeD [] ((0 :: rest).map fun b => ((.inl b : Key), tupI (0 :: rest))) = tabK (0 :: rest) (fun _ => 0 :: rest) := by
    have := merge_map (tupI (0 :: rest)) (0 :: rest) [] (by simpa using rising_nodup R.1)
    simpa [tabK] using this
  have e4 : putD (tabK (0 :: rest) (fun _ => 0 :: rest)) (.inl 0) (.tuple [.int 0]) = tabK (0 :: rest) (updT (fun _ => 0 :: rest) 0 [0]) := tab_put (t := [0]) (List.mem_cons_self ..)
  have l4 : (tabK (0 :: rest) fun _ => 0 :: rest).length < sizeLine := by
    unfold tabK
    rw [List.length_map]
    exact sl_lt (by omega)
  have jn : jk none = none := rfl
  have jmn : jm none = none := rfl
  unfold tEnv at q1
  rw [jn, jmn] at q1
  simp only [List.map_cons] at l1 e2 e3
  simp_arith [F_tables_over, e1, l1, e2, e3, e4, l4, q1]
end Dm

namespace Dm
open PySem PySem.Spec PyProof.Rows L2 ML
/-! ### dominators, dominates -/
structure Tab (C nm : D) (gs : Gr) (rs : List Int) (T : Int → List Int) : Prop where
  run : F_tables_over [.val C, .val nm] = some (.new (.dK (tabK rs T)), [.val C, .val nm])
  srt : ∀ b ∈ rs, (T b).Pairwise (· < ·)
  mem : ∀ b ∈ rs, ∀ x, x ∈ T b ↔ Dom gs x b
theorem tab_exists {C nm : D} {gs : Gr} [hC : CodeAt C nm gs] (ok : OkG gs) {rs : List Int} (R : Rs gs rs) : ∃ T, Tab C nm gs rs T := by
  obtain ⟨T, h1, h2⟩ := tables_spec ok R
  exact ⟨T, h1, fun b hb => (h2 b hb).1, fun b hb => (h2 b hb).2⟩
def dmn (gs : Gr) (rs : List Int) (T : Int → List Int) (b : Int) : List Int := if b ∈ rs then T b else nodes gs
theorem dominators_spec {C nm : D} {gs : Gr} [hC : CodeAt C nm gs] (ok : OkG gs) {rs : List Int} {T : Int → List Int} (hT : Tab C nm gs rs T) (b : Int) :
    F_dominators [.val C, .val nm, .val (.int b)] = some (.val (tupI (dmn gs rs T b)), [.val C, .val nm, .val (.int b)]) := by
  have hb := hC.run
  have hr := rgOk_of (m := 0) (n := (gs.length : Nat)) (by omega) (by omega) (by have := ok.six; omega) (by have := ok.six; omega)
  have e := hT.run
  have e2 := rangeD_nodes gs
  unfold dmn
  by_cases h : b ∈ rs
  · have e3 := tab_lk (T := T) h
    simp only [h, ↓reduceIte]
    simp_arith [F_dominators, hb, hr, e, e2, e3]
  · have e3 := tab_lk_none (T := T) h
    simp only [h, ↓reduceIte]
    simp_arith [F_dominators, hb, hr, e, e2, e3, tupI]
theorem dominates_spec {C nm : D} {gs : Gr} [hC : CodeAt C nm gs] (ok : OkG gs) {rs : List Int} {T : Int → List Int} (hT : Tab C nm gs rs T) (x b : Int) :
    F_dominates [.val C, .val nm, .val (.int x), .val (.int b)] = some (.val (.bool ((dmn gs rs T b).contains x)), [.val C, .val nm, .val (.int x), .val (.int b)]) := by
  have e := dominators_spec ok hT b
  unfold tupI at e
  simp_arith [F_dominates, e, flatD, flat_ints, any_int]
end Dm

namespace Dm
open PySem PySem.Spec PyProof.Rows L2 ML
/-! ### the graph that is drawn -/
def codeG (gs : Gr) : D := .tuple [.tuple [.tuple [.str "a", .int 1]], .tuple [.tuple [.str "main", .tuple (gs.map blkD)]]]
def besideG (gs : Gr) : D := .tuple [.tuple [.tuple [.str "a", .int 1]], .tuple [.tuple [.str "main", .tuple [.tuple [.tuple [], .tuple [.str "back"]]]], .tuple [.str "sub", .tuple (gs.map blkD)]]]
theorem codeG_at (gs : Gr) : CodeAt (codeG gs) (.str "main") gs := ⟨by
  unfold codeG
  simp_arith [F_blocks_of, LF_blocks_of_2, BF_blocks_of_1, sFor, loopL, beq_self_eq_true]⟩
theorem besideG_at (gs : Gr) : CodeAt (besideG gs) (.str "sub") gs := ⟨by
  unfold besideG
  have e : (("main" : Str) == ("sub" : Str)) = false := by decide +kernel
  simp_arith [F_blocks_of, LF_blocks_of_2, BF_blocks_of_1, sFor, loopL, beq_self_eq_true, e]⟩
/-- no rows, and "i" in each "if" -/
def PlG (g : D × Gd) : Prop := g.1 = .tuple [] ∧ ∀ op a b, g.2 = .iff op a b → op = .str "i"
theorem evO_feed {i : Nat} {env : En} {c : List Int} {p l t : Int} : evO i env (some (feedB c p l t)) = some (.bor i, env) := rfl
theorem argO_feed {c : List Int} {p l t : Int} : argO (some (feedB c p l t)) = some (feedB c p l t) := rfl
theorem isMu_feed {c : List Int} {p l t : Int} : isMu (some (feedB c p l t)) = true := rfl
theorem isLk_feed {c : List Int} {p l t : Int} : isLk (some (feedB c p l t)) = false := rfl
theorem draw_eq : F__law_draw = drawF := rfl
theorem feed_eq : F__law_feed = feedF := rfl
theorem draw_spec (cells : List Int) (p l t m : Int) (hp : 0 ≤ p) (hm : 0 < m) (hm2 : m < 1000) (ht : 0 ≤ t) (ht2 : t < 1000000) :
    ∃ r p' l', F__law_draw [feedB cells p l t, .val (.int m)] = some (.val (.int r), [feedB cells p' l' (t + 1), .val (.int m)]) ∧ 0 ≤ r ∧ r < m ∧ 0 ≤ p' := by
  rw [draw_eq]; exact drawF_spec cells p l t m hp hm hm2 ht ht2
def endsD (f s n : Int) : List D := [.tuple [.str "go", .int f], .tuple [.str "go", .int n], .tuple [.str "if", .str "i", .int f, .int s], .tuple [.str "if", .str "i", .int n, .int f], .tuple [.str "back"]]
theorem ends_at (f s n r : Int) (h0 : 0 ≤ r) (h5 : r < 5) : ∃ g : Gd, atI (endsD f s n) r = some g.d ∧ (∀ c ∈ g.outs, c = f ∨ c = s ∨ c = n) ∧ PlG (.tuple [], g) := by
  have h : r = 0 ∨ r = 1 ∨ r = 2 ∨ r = 3 ∨ r = 4 := by omega
  rcases h with rfl | rfl | rfl | rfl | rfl
  · exact ⟨.go f, rfl, fun c hc => by simp [Gd.outs] at hc; exact .inl hc, rfl, fun _ _ _ z => by cases z⟩
  · exact ⟨.go n, rfl, fun c hc => by simp [Gd.outs] at hc; exact .inr (.inr hc), rfl, fun _ _ _ z => by cases z⟩
  · exact ⟨.iff (.str "i") f s, rfl, fun c hc => by simp [Gd.outs] at hc; exact hc.imp id .inl, rfl, fun _ _ _ z => by cases z; rfl⟩
  · exact ⟨.iff (.str "i") n f, rfl, fun c hc => by simp [Gd.outs] at hc; exact hc.elim (fun z => .inr (.inr z)) .inl, rfl, fun _ _ _ z => by cases z; rfl⟩
  · exact ⟨.back, rfl, fun c hc => by simp [Gd.outs] at hc, rfl, fun _ _ _ z => by cases z⟩
def gEnv (cells : List Int) (p l t n : Int) (gs : Gr) (j4 : Option D) (s5 : Option (List D)) (j6 j7 j8 : Option D) : En :=
  [some (feedB cells p l t), some (.val (.int 6)), some (.val (.int n)), some (.mu (.lst (gs.map blkD))), jk j4, jm s5, jk j6, jk j7, jk j8]
def InN (gs : Gr) (n : Int) : Prop := ∀ g ∈ gs, (∀ c ∈ g.2.outs, 0 ≤ c ∧ c < n) ∧ PlG g
theorem graph_turn (cells : List Int) (p l t n b : Int) (gs : Gr) (s5 : Option (List D)) (j6 j7 j8 : Option D) (hp : 0 ≤ p) (hn : 0 < n) (hn6 : n ≤ 6) (ht : 0 ≤ t) (ht2 : t < 900000) (hg : InN gs n) (hl : gs.length ≤ 6) :
    ∃ p' l' g s5' j6' j7' j8', BF__law_graph_1 (gEnv cells p l t n gs (some (.int b)) s5 j6 j7 j8) = some (.nx, gEnv cells p' l' (t + 3) n (gs ++ [g]) (some (.int b)) s5' j6' j7' j8') ∧ 0 ≤ p' ∧ InN (gs ++ [g]) n := by
  obtain ⟨f, p1, l1, d1, f0, f1, hp1⟩ := draw_spec cells p l t n hp hn (by omega) ht (by omega)
  obtain ⟨s, p2, l2, d2, s0, s1, hp2⟩ := draw_spec cells p1 l1 (t + 1) n hp1 hn (by omega) (by omega) (by omega)
  obtain ⟨r, p3, l3, d3, r0, r1, hp3⟩ := draw_spec cells p2 l2 (t + 1 + 1) 5 hp2 (by omega) (by omega) (by omega) (by omega)
  have n0 := Int.emod_nonneg (b + 1) (by omega : n ≠ 0)
  have n1 := Int.emod_lt_of_pos (b + 1) hn
  obtain ⟨g, a1, a2, a3⟩ := ends_at f s ((b + 1) % n) r r0 r1
  have e3 : t + 1 + 1 + 1 = t + 3 := by omega
  rw [e3] at d3
  refine ⟨p3, l3, (.tuple [], g), some (endsD f s ((b + 1) % n)), some (.int f), some (.int s), some (.int ((b + 1) % n)), ?_, hp3, fun g' hg' => ?_⟩
  · have hl2 : gs.length < sizeLine := sl_lt (by omega)
    unfold endsD at a1
    unfold gEnv endsD
    simp_arith [BF__law_graph_1, jk_some, jm_some, isLk_jm, isLk_feed, evO_feed, argO_feed, isMu_feed, d1, d2, d3, hn, a1, hl2, List.map_append, blkD]
  · rcases List.mem_append.mp hg' with z | z
    · exact hg g' z
    · simp only [List.mem_singleton] at z; subst z
      refine ⟨fun c hc => ?_, a3⟩
      rcases a2 c hc with z | z | z <;> subst z <;> omega
theorem graph_spec (cells : List Int) (p l t : Int) (hp : 0 ≤ p) (ht : 0 ≤ t) (ht2 : t < 800000) :
    ∃ gs p' l' t', F__law_graph [feedB cells p l t, .val (.int 6)] = some (.val (codeG gs), [feedB cells p' l' t', .val (.int 6)]) ∧ OkG gs ∧ (∀ g ∈ gs, PlG g) ∧ 0 ≤ p' ∧ 0 ≤ t' ∧ t' ≤ t + 19 := by
  obtain ⟨k, p1, l1, d1, k0, k1, hp1⟩ := draw_spec cells p l t 6 hp (by omega) (by omega) ht (by omega)
  have hi := rgI_of (n := 1 + k) (by omega) (by omega)
  have lf : ∃ env', LF__law_graph_2 (gEnv cells p1 l1 (t + 1) (1 + k) [] none none none none none) = some (.nx, env') ∧ ∃ p' l' t' gs j4 s5 j6 j7 j8, env' = gEnv cells p' l' t' (1 + k) gs j4 s5 j6 j7 j8 ∧ (gs.length : Int) = 1 + k ∧ InN gs (1 + k) ∧ 0 ≤ p' ∧ 0 ≤ t' ∧ t' ≤ t + 19 := by
    refine Exists.elim (sFor_inv (np := 2) (fi := iRng1 (eV 2)) (t := .nm 4) (body := BF__law_graph_1) (env := gEnv cells p1 l1 (t + 1) (1 + k) [] none none none none none) (env1 := gEnv cells p1 l1 (t + 1) (1 + k) [] none none none none none) (ds := rangeD 0 (1 + k)) (src := none)
      (fun ds env => ∃ (left : List Int) (p' l' t' : Int) (gs : Gr) (j4 : Option D) (s5 : Option (List D)) (j6 j7 j8 : Option D), ds = left.map PyData.int ∧ env = gEnv cells p' l' t' (1 + k) gs j4 s5 j6 j7 j8 ∧ (gs.length : Int) + left.length = 1 + k ∧ InN gs (1 + k) ∧ 0 ≤ p' ∧ 0 ≤ t' ∧ t' + 3 * left.length ≤ t + 19) ?fhi ?fp ?fh) ?ffin
    case ffin =>
      rintro env' ⟨q1, left, p', l', t', gs, j4, s5, j6, j7, j8, e, rfl, h1, h2, h3, h4, h5⟩
      have e : left = [] := by cases left with | nil => rfl | cons _ _ => simp at e
      subst e
      simp at h1 h5
      exact ⟨_, q1, p', l', t', gs, j4, s5, j6, j7, j8, rfl, h1, h2, h3, h4, h5⟩
    case fhi =>
      unfold gEnv
      simp_arith [hi]
    case fp =>
      refine ⟨(List.range (1 + k - 0).toNat).map fun i : Nat => (0 + (i : Int)), p1, l1, t + 1, [], none, none, none, none, none, ?_, rfl, ?_, fun g hg => (by cases hg), hp1, by omega, ?_⟩
      · simp [rangeD]
      · simp; omega
      · simp; omega
    case fh =>
      rintro d ds env ⟨left, p', l', t', gs, j4, s5, j6, j7, j8, e, rfl, h1, h2, h3, h4, h5⟩
      cases left with
      | nil => simp at e
      | cons r left =>
        rw [List.map_cons] at e
        obtain ⟨rfl, rfl⟩ := List.cons.inj e
        simp only [List.length_cons] at h1 h5
        obtain ⟨p2, l2, g, s52, j62, j72, j82, q, q2, q3⟩ := graph_turn cells p' l' t' (1 + k) r gs s5 j6 j7 j8 h3 (by omega) (by omega) h4 (by omega) h2 (by omega)
        refine ⟨gEnv cells p' l' t' (1 + k) gs (some (.int r)) s5 j6 j7 j8, _, ?_, q, left, p2, l2, t' + 3, gs ++ [g], _, _, _, _, _, rfl, rfl, ?_, q3, q2, by omega, by omega⟩
        · unfold gEnv
          simp_arith []
          rfl
        · simp; omega
  obtain ⟨env', q1, p', l', t', gs, j4, s5, j6, j7, j8, rfl, h1, h2, h3, h4, h5⟩ := lf
  refine ⟨gs, p', l', t', ?_, ⟨by omega, by omega, fun b c hc => ?_⟩, fun g hg => (h2 g hg).2, h3, h4, h5⟩
  · have jn : jk none = none := rfl
    have jmn : jm none = none := rfl
    unfold gEnv at q1
    simp only [jn, jmn, List.map_nil] at q1
    simp_arith [F__law_graph, evO_feed, argO_feed, isMu_feed, isLk_feed, d1, q1, codeG]
  · unfold E at hc
    split at hc
    · rename_i g hg
      rw [usort_mem] at hc
      have := (h2 g (List.mem_of_getElem? hg)).1 c hc
      omega
    · cases hc
/-! ### the law -/
theorem feed_spec (ns : List Int) (h : ns.length ≤ 63) : F__law_feed [.val (.list (ns.map PyData.int))] = some (.new (.lst [.list (ns.map PyData.int), .int 0, .int 0, .int 0]), [.val (.list (ns.map PyData.int))]) := by
  have e : ML.cutD (ns.map PyData.int) none (some 63) = ns.map PyData.int := by
    unfold ML.cutD
    rw [HT.sIx_none, show HT.sIx (ns.map PyData.int).length (ns.map PyData.int).length (some 63) = min 63 (ns.map PyData.int).length from HT.sIx_nat _ _ 63]
    have : min 63 (ns.map PyData.int).length = (ns.map PyData.int).length := by simp; omega
    rw [this]
    simp
    exact List.take_of_length_le (by simp)
  simp_arith [F__law_feed, e]
end Dm

/-! CgW: words: what _law_after does. -/
namespace Cg
open PySem PySem.Spec PyProof.Rows L2 ML Dm
/-! ### texts as lists of signs -/
def tx (l : List Nat) : Str := ⟨l.toArray⟩
theorem tx_len (l : List Nat) : (tx l).length = l.length := by show l.toArray.size = _; simp
theorem tx_list (l : List Nat) : (tx l).cps.toList = l := by simp [tx]
theorem tx_app (l m : List Nat) : tx l ++ tx m = tx (l ++ m) := by
  show (⟨l.toArray ++ m.toArray⟩ : Str) = ⟨(l ++ m).toArray⟩
  rw [List.append_toArray]
theorem tx_inj {l m : List Nat} (h : tx l = tx m) : l = m := by
  have := congrArg (fun s : Str => s.cps.toList) h
  simpa [tx] using this
theorem tx_of (x : Str) : x = tx x.cps.toList := by cases x; simp [tx]
theorem tx_one (c : Nat) : (⟨#[c]⟩ : Str) = tx [c] := rfl
theorem tx_a : (Str.ofString "a") = tx [97] := by decide +kernel
theorem tx_z : (Str.ofString "z") = tx [122] := by decide +kernel
def abc : List Nat := (List.range 26).map (· + 97)
theorem tx_abc : (Str.ofString "abcdefghijklmnopqrstuvwxyz") = tx abc := by decide +kernel
theorem abc_len : abc.length = 26 := rfl
theorem abc_get {k : Nat} (h : k < 26) : abc[k]? = some (k + 97) := by
  unfold abc
  simp [h]
theorem cutS_tx (l : List Nat) (lo hi : Option Int) : cutS (tx l) lo hi = tx (ML.cutD l lo hi) := by
  unfold cutS ML.cutD tx
  simp [Str.length]
theorem eqv_str (x y : Str) : PyData.eqv (.str x) (.str y) = decide (x = y) := by
  simp only [PyData.eqv]
  by_cases h : x = y <;> simp [h]
/-- lower letters alone -/
def Lw (l : List Nat) : Prop := ∀ c ∈ l, 97 ≤ c ∧ c ≤ 122
def nxt (c : Nat) : Nat := 97 + (c - 97 + 1) % 26
theorem nxt_lw (c : Nat) : 97 ≤ nxt c ∧ nxt c ≤ 122 := by unfold nxt; omega
/-- the last place that is not z; 0 if there is none -/
def atZ (l : List Nat) : Nat → Nat
  | 0 => 0
  | k + 1 => if l[k + 1]? = some 122 then atZ l k else k + 1
theorem atZ_le (l : List Nat) : ∀ k, atZ l k ≤ k
  | 0 => Nat.le_refl _
  | k + 1 => by
    unfold atZ
    split
    · exact Nat.le_succ_of_le (atZ_le l k)
    · exact Nat.le_refl _
theorem atZ_z (l : List Nat) : ∀ k j, atZ l k < j → j ≤ k → l[j]? = some 122
  | 0, j, h1, h2 => by simp [atZ] at h1; omega
  | k + 1, j, h1, h2 => by
    unfold atZ at h1
    split at h1
    · by_cases hj : j = k + 1
      · subst hj; assumption
      · exact atZ_z l k j h1 (by omega)
    · omega
def aft (l : List Nat) : List Nat :=
  if l.length < 8 then l ++ [97] else l.take (atZ l 7) ++ [nxt (l.getD (atZ l 7) 0)] ++ List.replicate (7 - atZ l 7) 97
theorem index_abc : ∀ k < 26, Txt.index0 (tx abc) (tx [k + 97]) = some k := by decide +kernel
theorem index_lw {c : Nat} (h : 97 ≤ c ∧ c ≤ 122) : Txt.index0 (tx abc) (tx [c]) = some (c - 97) := by
  have := index_abc (c - 97) (by omega)
  rwa [show c - 97 + 97 = c by omega] at this
def afEnv (l : List Nat) (at' : Option Int) (sg : Option D) : En := [some (.val (.str (tx l))), some (.val (.str (tx abc))), at'.map fun i => .val (.int i), jk sg]
theorem atI_tx {l : List Nat} {k : Nat} {c : Nat} (h : l[k]? = some c) : atI l (k : Int) = some c := atI_get (by omega) (by simpa using h)
theorem repS_a (n : Nat) (h : n ≤ 7) : repS (tx [97]) (n : Int) = tx (List.replicate n 97) := by
  have : ∀ n ≤ 7, repS (tx [97]) ((n : Nat) : Int) = tx (List.replicate n 97) := by decide +kernel
  exact this n h
theorem after_while (l : List Nat) (hl : l.length = 8) : ∃ env', LW__law_after_3 (afEnv l (some 7) none) = some (.nx, env') ∧ env' = afEnv l (some (atZ l 7 : Nat)) none := by
  have h8 : l.length ≤ sizeLine := sl_le (by omega)
  refine Exists.elim (whileL_inv (t := TW__law_after_2) (f := BW__law_after_1) (Q := fun env => env = afEnv l (some (atZ l 7 : Nat)) none) (fun m env => env = afEnv l (some (m : Int)) none ∧ m ≤ 7 ∧ atZ l 7 = atZ l m) ?hh (n := 4096) (m := 7) (env := afEnv l (some 7) none) ?hp (by omega)) ?fin
  case fin => exact fun env' h => ⟨env', h.1, h.2⟩
  case hp => exact ⟨rfl, by omega, rfl⟩
  case hh =>
    rintro m env ⟨rfl, hm, hz⟩
    cases m with
    | zero =>
      refine .inl ⟨?_, by rw [hz]; rfl⟩
      unfold afEnv
      simp_arith [TW__law_after_2]
    | succ m =>
      have hlt : m + 1 < l.length := by omega
      have hg : l[m + 1]? = some l[m + 1] := List.getElem?_eq_getElem hlt
      have ha : atI l ((m + 1 : Nat) : Int) = some l[m + 1] := atI_tx hg
      have hpos : (0 : Int) < ((m + 1 : Nat) : Int) := by omega
      have hst : (tx l).length ≤ sizeLine := by rw [tx_len]; exact h8
      by_cases hc : l[m + 1] = 122
      · refine .inr ⟨?_, m, afEnv l (some (m : Int)) none, ?_, by omega, rfl, by omega, ?_⟩
        · have hb : (tx [l[m + 1]] == tx [122]) = true := by rw [hc]; simp
          unfold afEnv
          simp_all_arith [TW__law_after_2, decide_eq_true hpos, hst, tx_list, ha, tx_one, tx_z, hb]
        · have e1 : ((m + 1 : Nat) : Int) - 1 = (m : Int) := by omega
          unfold afEnv
          simp_all_arith [BW__law_after_1, e1]
        · rw [hz, atZ, hg, hc, if_pos rfl]
      · refine .inl ⟨?_, ?_⟩
        · have hb : (tx [l[m + 1]] == tx [122]) = false := by
            rw [beq_eq_false_iff_ne]
            intro z
            exact hc (by simpa using tx_inj z)
          unfold afEnv
          simp_all_arith [TW__law_after_2, decide_eq_true hpos, hst, tx_list, ha, tx_one, tx_z, hb]
        · rw [hz, atZ, hg, if_neg (fun z => hc (Option.some.inj z))]
theorem cut_nat {α : Type} (l : List α) (k : Nat) (h : k ≤ l.length) : ML.cutD l none (some (k : Int)) = l.take k := by
  unfold ML.cutD
  have h0 : HT.sIx l.length 0 none = 0 := rfl
  have h1 : HT.sIx l.length l.length (some (k : Int)) = k := by
    unfold HT.sIx
    have : ¬ (k : Int) < 0 := by omega
    simp [this]
    omega
  rw [h0, h1]
  simp
theorem after_spec (l : List Nat) (hl : l.length ≤ 8) (lw : Lw l) : F__law_after [.val (.str (tx l))] = some (.val (.str (tx (aft l))), [.val (.str (tx l))]) := by
  have h8 : l.length ≤ sizeLine := sl_le (by omega)
  have hst : (tx l).length ≤ sizeLine := by rw [tx_len]; exact h8
  by_cases h : l.length < 8
  · have hd : (((tx l).length : Nat) : Int) < 8 := by rw [tx_len]; omega
    have hap : (tx l).length + (tx [97]).length ≤ sizeLine := by rw [tx_len, tx_len]; exact sl_le (by simp; omega)
    have ea : aft l = l ++ [97] := by unfold aft; rw [if_pos h]
    simp_all_arith [F__law_after, tx_abc, hst, hd, tx_a, hap, tx_app, ea]
  · have h7 : l.length = 8 := by omega
    obtain ⟨env', q1, q2⟩ := after_while l h7
    subst q2
    have hz := atZ_le l 7
    generalize hk : atZ l 7 = k at q1 hz
    have hlt : k < l.length := by omega
    have hg : l[k]? = some l[k] := List.getElem?_eq_getElem hlt
    have ha : atI l (k : Int) = some l[k] := atI_tx hg
    have lc := lw l[k] (List.getElem_mem hlt)
    have hd : ¬ (((tx l).length : Nat) : Int) < 8 := by rw [tx_len]; omega
    unfold afEnv at q1
    have jn : jk none = none := rfl
    simp only [Option.map_some, jn] at q1
    have hix := index_lw lc
    have e1 : (((l[k] - 97 : Nat) : Int) + 1) % 26 = ((nxt l[k] - 97 : Nat) : Int) := by unfold nxt; omega
    have hn := nxt_lw l[k]
    have e2 : atI abc ((nxt l[k] - 97 : Nat) : Int) = some (nxt l[k]) := by
      have := abc_get (k := nxt l[k] - 97) (by omega)
      rw [show nxt l[k] - 97 + 97 = nxt l[k] by omega] at this
      exact atI_tx this
    have habc : (tx abc).length ≤ sizeLine := by rw [tx_len]; exact sl_le (by decide)
    have hc := cut_nat l k (by omega)
    have e3 : (7 : Int) - (k : Int) = ((7 - k : Nat) : Int) := by omega
    have hr : repOk (tx [97]) ((7 - k : Nat) : Int) = true := by
      unfold repOk
      rw [tx_len]
      exact decide_eq_true ⟨by simp, by omega, by omega⟩
    have e4 := repS_a (7 - k) (by omega)
    have hl1 : (tx (l.take k)).length + (tx [nxt l[k]]).length ≤ sizeLine := by rw [tx_len, tx_len]; exact sl_le (by simp; omega)
    have hl2 : (tx (l.take k ++ [nxt l[k]])).length + (tx (List.replicate (7 - k) 97)).length ≤ sizeLine := by rw [tx_len, tx_len]; exact sl_le (by simp; omega)
    have ea : aft l = l.take k ++ [nxt l[k]] ++ List.replicate (7 - k) 97 := by
      unfold aft
      rw [if_neg h, hk, List.getD_eq_getElem?_getD, hg]
      rfl
    simp_all_arith [F__law_after, tx_abc, hst, hd, tx_a, q1, tx_list, ha, tx_one, hix, e1, e2, habc, cutS_tx, hc, e3, hr, e4, hl1, hl2, tx_app, ea]
/-! ### one word after another: all apart -/
def v8 (l : List Nat) : Nat := l.foldl (fun a c => a * 26 + (c - 97)) 0
theorem aft_short {l : List Nat} (h : l.length < 8) : aft l = l ++ [97] := by unfold aft; rw [if_pos h]
theorem aft_lw {l : List Nat} (lw : Lw l) : Lw (aft l) := by
  unfold aft
  split
  · intro c hc
    rcases List.mem_append.mp hc with z | z
    · exact lw c z
    · simp at z; omega
  · intro c hc
    rcases List.mem_append.mp hc with z | z
    · rcases List.mem_append.mp z with z | z
      · exact lw c (List.mem_of_mem_take z)
      · simp at z; subst z; exact nxt_lw _
    · have := (List.mem_replicate.mp z).2; omega
theorem aft_len {l : List Nat} (h : l.length = 8) : (aft l).length = 8 := by
  have := atZ_le l 7
  unfold aft
  rw [if_neg (by omega)]
  simp
  omega
theorem aft_val {l : List Nat} (h : l.length = 8) (lw : Lw l) : v8 (aft l) = (v8 l + 1) % 26 ^ 8 := by
  have hn : ¬ l.length < 8 := by omega
  match l, h with
  | [a0, a1, a2, a3, a4, a5, a6, a7], _ =>
    have b0 := lw a0 (by simp)
    have b1 := lw a1 (by simp)
    have b2 := lw a2 (by simp)
    have b3 := lw a3 (by simp)
    have b4 := lw a4 (by simp)
    have b5 := lw a5 (by simp)
    have b6 := lw a6 (by simp)
    have b7 := lw a7 (by simp)
    unfold aft
    rw [if_neg hn]
    simp only [atZ, List.getElem?_cons_succ, List.getElem?_cons_zero, Option.some.injEq]
    clear hn lw
    by_cases c7 : a7 = 122
    · by_cases c6 : a6 = 122
      · by_cases c5 : a5 = 122
        · by_cases c4 : a4 = 122
          · by_cases c3 : a3 = 122
            · by_cases c2 : a2 = 122
              · by_cases c1 : a1 = 122
                · subst c7 c6 c5 c4 c3 c2 c1
                  simp [v8, nxt]; omega
                · subst c7 c6 c5 c4 c3 c2
                  simp [v8, nxt, c1]; omega
              · subst c7 c6 c5 c4 c3
                simp [v8, nxt, c2]; omega
            · subst c7 c6 c5 c4
              simp [v8, nxt, c3]; omega
          · subst c7 c6 c5
            simp [v8, nxt, c4]; omega
        · subst c7 c6
          simp [v8, nxt, c5]; omega
      · subst c7
        simp [v8, nxt, c6]; omega
    · simp [v8, nxt, c7]; omega
def its : Nat → List Nat → List Nat
  | 0, l => l
  | n + 1, l => aft (its n l)
theorem its_lw {l : List Nat} (lw : Lw l) : ∀ n, Lw (its n l)
  | 0 => lw
  | n + 1 => aft_lw (its_lw lw n)
theorem its_len {l : List Nat} (h : l.length ≤ 8) : ∀ n, (its n l).length = min 8 (l.length + n)
  | 0 => by show l.length = _; omega
  | n + 1 => by
    have ih := its_len h n
    show (aft (its n l)).length = _
    by_cases hs : (its n l).length < 8
    · rw [aft_short hs, List.length_append, List.length_singleton]; omega
    · rw [aft_len (by omega)]; omega
theorem its_val {l : List Nat} (h : l.length = 8) (lw : Lw l) : ∀ n, v8 (its n l) = (v8 l + n) % 26 ^ 8 ∨ n = 0
  | 0 => .inr rfl
  | n + 1 => by
    have hl : (its n l).length = 8 := by rw [its_len (by omega)]; omega
    have e := aft_val hl (its_lw lw n)
    refine .inl ?_
    show v8 (aft (its n l)) = _
    rw [e]
    rcases its_val h lw n with z | z
    · rw [z]; omega
    · subst z; rfl
theorem its_add {l : List Nat} (i : Nat) : ∀ d, its (i + d) l = its d (its i l)
  | 0 => rfl
  | d + 1 => by show aft (its (i + d) l) = aft (its d (its i l)); rw [its_add i d]
theorem v8_lt {l : List Nat} (h : l.length = 8) (lw : Lw l) : v8 l < 26 ^ 8 := by
  match l, h with
  | [a0, a1, a2, a3, a4, a5, a6, a7], _ =>
    have b0 := lw a0 (by simp)
    have b1 := lw a1 (by simp)
    have b2 := lw a2 (by simp)
    have b3 := lw a3 (by simp)
    have b4 := lw a4 (by simp)
    have b5 := lw a5 (by simp)
    have b6 := lw a6 (by simp)
    have b7 := lw a7 (by simp)
    simp [v8]; omega
theorem its_ne {l : List Nat} (h : l.length ≤ 8) (lw : Lw l) {i d : Nat} (hd : 0 < d) (hd2 : d < 1000) : its i l ≠ its (i + d) l := by
  intro e
  have e1 := congrArg List.length e
  rw [its_len h, its_len h] at e1
  have h8 : (its i l).length = 8 := by rw [its_len h]; omega
  rw [its_add] at e
  rcases its_val h8 (its_lw lw i) d with z | z
  · rw [← e] at z
    have := v8_lt h8 (its_lw lw i)
    omega
  · omega
end Cg

namespace Dm
open PySem PySem.Spec PyProof.Rows L2 ML
/-! ### _law_arrows -/
def arD (g : D × Gd) : D := .list (g.2.outs.map PyData.int)
def isI : D → Bool
  | .int _ => true
  | _ => false
theorem kit_is : kitB "str" "int" = some false ∧ kitB "int" "int" = some true := by decide +kernel
theorem tyD_str (x : Str) : tyD (.str x) = "str" := rfl
theorem tyD_int (i : Int) : tyD (.int i) = "int" := rfl
def endL : Gd → List D
  | .go a => [.str "go", .int a]
  | .iff op a b => [.str "if", op, .int a, .int b]
  | .back => [.str "back"]
theorem d_endL (g : Gd) : g.d = .tuple (endL g) := by cases g <;> rfl
theorem endL_ty {rw : D} {g : Gd} (pl : PlG (rw, g)) : ∀ d ∈ endL g, (∃ x, d = .str x) ∨ ∃ i, d = .int i := by
  intro d hd
  cases g with
  | go a =>
    simp only [endL, List.mem_cons, List.not_mem_nil, or_false] at hd
    rcases hd with rfl | rfl
    · exact .inl ⟨_, rfl⟩
    · exact .inr ⟨_, rfl⟩
  | iff op a b =>
    have := pl.2 _ _ _ rfl
    subst this
    simp only [endL, List.mem_cons, List.not_mem_nil, or_false] at hd
    rcases hd with rfl | rfl | rfl | rfl
    · exact .inl ⟨_, rfl⟩
    · exact .inl ⟨_, rfl⟩
    · exact .inr ⟨_, rfl⟩
    · exact .inr ⟨_, rfl⟩
  | back =>
    simp only [endL, List.mem_cons, List.not_mem_nil, or_false] at hd
    subst hd
    exact .inl ⟨_, rfl⟩
theorem endL_ints {rw : D} {g : Gd} (pl : PlG (rw, g)) : (endL g).filter isI = g.outs.map PyData.int := by
  cases g with
  | iff op a b =>
    have := pl.2 _ _ _ rfl
    subst this
    rfl
  | go a => rfl
  | back => rfl
def aEnv (gs : Gr) (found : List D) (j2 j3 : Option D) : En := [some (.val (codeG gs)), some (.mu (.lst found)), jk j2, jk j3, none]
theorem arrows_in (gs : Gr) {rw : D} {g : Gd} (pl : PlG (rw, g)) (found : List D) (hl : found.length ≤ 100) :
    BF__law_arrows_2 (aEnv gs found (some (.tuple [])) (some g.d)) = some (.nx, aEnv gs (found ++ [arD (rw, g)]) (some (.tuple [])) (some g.d)) := by
  have l1 : LC__law_arrows_1 (aEnv gs found (some (.tuple [])) (some g.d)) = some (.new (.lst (g.outs.map PyData.int)), aEnv gs found (some (.tuple [])) (some g.d)) := by
    unfold LC__law_arrows_1
    refine (eLc_of (env1 := aEnv gs found (some (.tuple [])) (some g.d)) (src := none) (endL g) id isI id ?_ rfl (fun x hx => ?_) ?_).trans ?_
    · unfold aEnv
      rw [d_endL, List.map_id]
      simp_arith [jk_some]
    · unfold aEnv
      rcases endL_ty pl x hx with ⟨y, rfl⟩ | ⟨i, rfl⟩
      · simp_arith [v_lcS, jk_some, v_eIsi, v_tyO_val, tyD_str, kit_is, id, isI]
      · simp_arith [v_lcS, jk_some, v_eIsi, v_tyO_val, tyD_int, kit_is, id, isI]
    · cases g <;> simp [endL]
    · rw [List.map_id, endL_ints pl]
      rfl
  have l2 : found.length < sizeLine := sl_lt (by omega)
  unfold aEnv at l1 ⊢
  simp only [jk_some] at l1
  simp_arith [BF__law_arrows_2, jk_some, l1, l2, arD]
theorem arrows_spec (gs : Gr) (hn : gs.length ≤ 6) (pl : ∀ g ∈ gs, PlG g) : F__law_arrows [.val (codeG gs)] = some (.new (.lst (gs.map arD)), [.val (codeG gs)]) := by
  have lf : ∃ env', LF__law_arrows_3 (aEnv gs [] none none) = some (.nx, env') ∧ ∃ j2 j3, env' = aEnv gs (gs.map arD) j2 j3 := by
    refine Exists.elim (sFor_inv (np := 1) (fi := iSeq (e2 gIx (e2 gIx (e2 gIx (eV 0) (eK (.int 1))) (eK (.int 0))) (eK (.int 1)))) (t := .tp [(.nm 2), (.nm 3)]) (body := BF__law_arrows_2) (env := aEnv gs [] none none) (env1 := aEnv gs [] none none) (ds := gs.map blkD) (src := none)
      (fun ds env => ∃ (done left : Gr) (j2 j3 : Option D), ds = left.map blkD ∧ gs = done ++ left ∧ env = aEnv gs (done.map arD) j2 j3) ?fhi ?fp ?fh) ?ffin
    case ffin =>
      rintro env' ⟨q1, done, left, j2, j3, e, e2, rfl⟩
      have e : left = [] := by cases left with | nil => rfl | cons _ _ => simp at e
      subst e
      rw [List.append_nil] at e2
      subst e2
      exact ⟨_, q1, j2, j3, rfl⟩
    case fhi =>
      unfold aEnv codeG
      simp_arith []
    case fp => exact ⟨[], gs, none, none, rfl, rfl, rfl⟩
    case fh =>
      rintro d ds env ⟨done, left, j2, j3, e, e2, rfl⟩
      cases left with
      | nil => simp at e
      | cons g left =>
        rw [List.map_cons] at e
        obtain ⟨rfl, rfl⟩ := List.cons.inj e
        have pg := pl g (by rw [e2]; simp)
        have e3 : g.1 = .tuple [] := pg.1
        have hl : done.length ≤ 6 := by
          have := congrArg List.length e2
          simp at this
          omega
        refine ⟨aEnv gs (done.map arD) (some (.tuple [])) (some g.2.d), _, ?_, arrows_in gs pg (done.map arD) (by simp; omega), done ++ [g], left, some (.tuple []), some g.2.d, rfl, by simp [e2], by rw [List.map_append]; rfl⟩
        unfold aEnv blkD
        rw [e3]
        simp_arith []
        rfl
  obtain ⟨env', q1, j2, j3, rfl⟩ := lf
  unfold aEnv at q1
  have jn : jk none = none := rfl
  simp only [jn] at q1
  simp_arith [F__law_arrows, q1]
end Dm

namespace Dm
open PySem PySem.Spec PyProof.Rows L2 ML
/-! ### _law_comes: who is come to without o -/
theorem mem_E {gs : Gr} {b c : Int} {g : D × Gd} (h : gs[b.toNat]? = some g) : c ∈ E gs b ↔ c ∈ g.2.outs := by
  unfold E
  rw [h]
  exact usort_mem ..
structure CI (gs : Gr) (ov : Option Int) (found : List Int) : Prop where
  nd : found.Nodup
  av : ∀ x ∈ found, Av gs ov x
  z : ov ≠ some 0 → (0 : Int) ∈ found
def Clo (gs : Gr) (ov : Option Int) (found : List Int) : Prop := ∀ p ∈ found, ∀ c ∈ E gs p, ov ≠ some c → c ∈ found
def cEnv (gs : Gr) (ov : Option Int) (found : List Int) (j3 j4 : Option D) : En := [some (.mu (.lst (gs.map arD))), some (.val (ovD ov)), some (.mu (.lst (found.map PyData.int))), jk j3, jk j4, none]
def preF (gs : Gr) (found : List Int) (b : Int) : List Int := found.filter fun p => (E gs p).contains b
theorem ar_at {gs : Gr} {p : Int} (hp : p ∈ nodes gs) : ∃ g, gs[p.toNat]? = some g ∧ atI (gs.map arD) p = some (arD g) := by
  obtain ⟨h0, h1⟩ := nodes_mem.mp hp
  have hj : p.toNat < gs.length := by omega
  exact ⟨gs[p.toNat], List.getElem?_eq_getElem hj, atI_get h0 (by simp [hj])⟩
theorem pre_spec {gs : Gr} {ov : Option Int} {found : List Int} (b : Int) (j3 : Option D) (hn : ∀ x ∈ found, x ∈ nodes gs) (hl : found.length ≤ 6) :
    LC__law_comes_1 (cEnv gs ov found j3 (some (.int b))) = some (.new (.lst ((preF gs found b).map PyData.int)), cEnv gs ov found j3 (some (.int b))) := by
  unfold LC__law_comes_1
  refine (eLc_of (env1 := [some (.mu (.lst (gs.map arD))), some (.val (ovD ov)), some (.lk (.lst (found.map PyData.int))), jk j3, some (.val (.int b)), none]) (src := some 2) found PyData.int (fun p => (E gs p).contains b) PyData.int ?_ rfl (fun p hp => ?_) ?_).trans ?_
  · unfold cEnv
    simp_arith [jk_some]
  · obtain ⟨g, e1, e2⟩ := ar_at (hn p hp)
    have e3 : (g.2.outs).contains b = (E gs p).contains b := by
      rw [Bool.eq_iff_iff, List.contains_iff_mem, List.contains_iff_mem, mem_E e1]
    have e4 := any_int g.2.outs b
    have e5 := shaped_ints g.2.outs
    rw [e3] at e4
    simp_arith [v_lcS, e2, arD, e4, e5, shaped_int]
    exact ite_val ..
  · omega
  · unfold cEnv
    simp_arith [jk_some]
    rfl
theorem comes_in {gs : Gr} (ok : OkG gs) {ov : Option Int} {found : List Int} (I : CI gs ov found) (b : Int) (j3 : Option D) :
    ∃ found', BF__law_comes_2 (cEnv gs ov found j3 (some (.int b))) = some (.nx, cEnv gs ov found' j3 (some (.int b))) ∧ CI gs ov found' ∧
      ((found' = found ∧ (ov = some b ∨ b ∈ found ∨ ∀ p ∈ found, b ∉ E gs p)) ∨ found'.length = found.length + 1) := by
  have hn : ∀ x ∈ found, x ∈ nodes gs := fun x hx => by
    obtain ⟨w, hw, _⟩ := I.av x hx
    exact hw.node ok
  have hl := short_of ok I.nd hn
  have q := pre_spec (ov := ov) b j3 hn hl
  have e6 := shaped_ints found
  have e7 := any_int found b
  have e8 := eqv_empty (preF gs found b)
  have e9 := shaped_ints (preF gs found b)
  unfold cEnv at q
  simp only [jk_some] at q
  by_cases hbo : ov = some b
  · have eq1 := eqv_ov b ov
    rw [decide_eq_true hbo] at eq1
    refine ⟨found, ?_, I, .inl ⟨rfl, .inl hbo⟩⟩
    unfold cEnv
    simp_arith [BF__law_comes_2, jk_some, shaped_int, sh_ov, eq1]
  · have eq1 := eqv_ov b ov
    rw [decide_eq_false hbo] at eq1
    by_cases hbf : b ∈ found
    · have c2 : found.contains b = true := by simpa using hbf
      refine ⟨found, ?_, I, .inl ⟨rfl, .inr (.inl hbf)⟩⟩
      unfold cEnv
      simp_arith [BF__law_comes_2, jk_some, shaped_int, sh_ov, eq1, e6, e7, c2]
    · have c2 : found.contains b = false := by simpa using hbf
      cases hp : preF gs found b with
      | nil =>
        rw [hp] at q e8 e9
        simp only [List.map_nil] at q e8 e9
        refine ⟨found, ?_, I, .inl ⟨rfl, .inr (.inr fun p hpf hc => ?_)⟩⟩
        · unfold cEnv
          simp_arith [BF__law_comes_2, jk_some, shaped_int, sh_ov, eq1, e6, e7, c2, q, shaped_nil, eqv_nil_nil]
        · have : p ∈ preF gs found b := List.mem_filter.mpr ⟨hpf, by simpa using hc⟩
          rw [hp] at this
          cases this
      | cons p ps =>
        have hpm : p ∈ preF gs found b := by rw [hp]; exact List.mem_cons_self ..
        obtain ⟨hpf, hpe⟩ := List.mem_filter.mp hpm
        have hpe : b ∈ E gs p := by simpa using hpe
        have ne : (preF gs found b).isEmpty = false := by rw [hp]; rfl
        rw [ne] at e8
        have l1 : found.length < sizeLine := sl_lt (by omega)
        refine ⟨found ++ [b], ?_, ⟨?_, ?_, fun h => List.mem_append_left _ (I.z h)⟩, .inr (by simp)⟩
        · unfold cEnv
          simp_arith [BF__law_comes_2, jk_some, shaped_int, sh_ov, eq1, e6, e7, c2, q, shaped_nil, e8, e9, l1, List.map_append]
        · rw [List.nodup_append]
          exact ⟨I.nd, by simp, fun a ha d hd => by simp at hd; subst hd; exact fun z => hbf (z ▸ ha)⟩
        · intro x hx
          rcases List.mem_append.mp hx with z | z
          · exact I.av x z
          · simp at z
            subst z
            exact (I.av p hpf).step hpe hbo
end Dm

namespace Dm
open PySem PySem.Spec PyProof.Rows L2 ML
theorem CI.short {gs : Gr} (ok : OkG gs) {ov : Option Int} {found : List Int} (I : CI gs ov found) : found.length ≤ gs.length := by
  have := List.Nodup.length_le_of_subset I.nd (l₂ := nodes gs) fun x hx => by
    obtain ⟨w, hw, _⟩ := I.av x hx
    exact hw.node ok
  rw [nodes_len] at this
  exact this
theorem comes_sweep {gs : Gr} (ok : OkG gs) {ov : Option Int} {found : List Int} (I : CI gs ov found) (j3 j4 : Option D) :
    ∃ env', LF__law_comes_3 (cEnv gs ov found j3 j4) = some (.nx, env') ∧ ∃ found' j4', env' = cEnv gs ov found' j3 j4' ∧ CI gs ov found' ∧ ((found' = found ∧ Clo gs ov found) ∨ found.length < found'.length) := by
  have hi := rgI_of (n := (gs.length : Nat)) (by omega) (by have := ok.six; omega)
  refine Exists.elim (sFor_inv (np := 2) (fi := iRng1 (eN gLen (aCons (eV 0) aNil))) (t := .nm 4) (body := BF__law_comes_2) (env := cEnv gs ov found j3 j4) (env1 := cEnv gs ov found j3 j4) (ds := (nodes gs).map PyData.int) (src := none)
    (fun ds env => ∃ (done left : List Int) (found' : List Int) (j4' : Option D), ds = left.map PyData.int ∧ nodes gs = done ++ left ∧ env = cEnv gs ov found' j3 j4' ∧ CI gs ov found' ∧
      ((found' = found ∧ ∀ b ∈ done, ov = some b ∨ b ∈ found ∨ ∀ p ∈ found, b ∉ E gs p) ∨ found.length < found'.length)) ?fhi ?fp ?fh) ?ffin
  case ffin =>
    rintro env' ⟨q1, done, left, found', j4', e, e2, rfl, h1, h2⟩
    have e : left = [] := by cases left with | nil => rfl | cons _ _ => simp at e
    subst e
    rw [List.append_nil] at e2
    refine ⟨_, q1, found', j4', rfl, h1, h2.imp (fun z => ⟨z.1, fun p hp c hc hco => ?_⟩) id⟩
    have hcn : c ∈ done := by rw [← e2]; exact nodes_mem.mpr (ok.go _ _ hc)
    rcases z.2 c hcn with y | y | y
    · exact absurd y hco
    · exact y
    · exact absurd hc (y p hp)
  case fhi =>
    unfold cEnv
    simp_arith [hi, rangeD_nodes]
  case fp => exact ⟨[], nodes gs, found, j4, rfl, rfl, rfl, I, .inl ⟨rfl, fun b hb => by cases hb⟩⟩
  case fh =>
    rintro d ds env ⟨done, left, found', j4', e, e2, rfl, h1, h2⟩
    cases left with
    | nil => simp at e
    | cons r left =>
      rw [List.map_cons] at e
      obtain ⟨rfl, rfl⟩ := List.cons.inj e
      obtain ⟨f2, q, q2, q3⟩ := comes_in ok h1 r j3
      refine ⟨cEnv gs ov found' j3 (some (.int r)), _, ?_, q, done ++ [r], left, f2, some (.int r), rfl, by simp [e2], rfl, q2, ?_⟩
      · unfold cEnv
        simp_arith []
        rfl
      · rcases q3 with ⟨rfl, q3⟩ | q3
        · refine h2.imp (fun z => ⟨z.1, fun b hb => ?_⟩) id
          rcases List.mem_append.mp hb with y | y
          · exact z.2 b y
          · simp at y; subst y
            rw [← z.1]; exact q3
        · refine .inr ?_
          rcases h2 with ⟨rfl, _⟩ | h2 <;> omega
theorem clo_av {gs : Gr} {ov : Option Int} {found : List Int} (I : CI gs ov found) (C : Clo gs ov found) {x : Int} (h : Av gs ov x) : x ∈ found := by
  obtain ⟨w, hw, ho⟩ := h
  refine closed_av (ov := ov) ?_ C hw ho
  by_cases h : ov = some 0
  · exact .inl h
  · exact .inr (I.z h)
theorem eqA_ov {neg : Bool} {env : En} {ov : Option Int} {n : Int} : eqA neg env (some (ovD ov)) (some (.int n)) = eqD neg env (some (ovD ov)) (some (.int n)) := by cases ov <;> rfl
theorem comes_spec {gs : Gr} (ok : OkG gs) (ov : Option Int) : ∃ f : List Int, F__law_comes [.mu (.lst (gs.map arD)), .val (ovD ov)] = some (.new (.lst (f.map PyData.int)), [.mu (.lst (gs.map arD)), .val (ovD ov)]) ∧ f.Pairwise (· < ·) ∧ ∀ x, x ∈ f ↔ Av gs ov x := by
  have hi := rgI_of (n := (gs.length : Nat)) (by omega) (by have := ok.six; omega)
  have go : ∀ f0 : List Int, CI gs ov f0 → (ov = some 0 ∧ f0 = [] ∨ f0 = [0]) → ∃ env', LF__law_comes_5 (cEnv gs ov f0 none none) = some (.nx, env') ∧ ∃ f j3 j4, env' = cEnv gs ov f j3 j4 ∧ CI gs ov f ∧ Clo gs ov f := by
    intro f0 I0 h0
    refine Exists.elim (sFor_inv (np := 2) (fi := iRng1 (eN gLen (aCons (eV 0) aNil))) (t := .nm 3) (body := BF__law_comes_4) (env := cEnv gs ov f0 none none) (env1 := cEnv gs ov f0 none none) (ds := (nodes gs).map PyData.int) (src := none)
      (fun ds env => ∃ (left : List Int) (f : List Int) (j3 j4 : Option D), ds = left.map PyData.int ∧ env = cEnv gs ov f j3 j4 ∧ CI gs ov f ∧ (Clo gs ov f ∨ gs.length + 1 ≤ f.length + left.length)) ?fhi ?fp ?fh) ?ffin
    case ffin =>
      rintro env' ⟨q1, left, f, j3, j4, e, rfl, h1, h2⟩
      have e : left = [] := by cases left with | nil => rfl | cons _ _ => simp at e
      subst e
      refine ⟨_, q1, f, j3, j4, rfl, h1, h2.resolve_right fun z => ?_⟩
      have := h1.short ok
      simp at z
      omega
    case fhi =>
      unfold cEnv
      simp_arith [hi, rangeD_nodes]
    case fp =>
      refine ⟨nodes gs, f0, none, none, rfl, rfl, I0, ?_⟩
      rcases h0 with ⟨_, rfl⟩ | rfl
      · exact .inl fun p hp => by cases hp
      · exact .inr (by rw [nodes_len]; simp; omega)
    case fh =>
      rintro d ds env ⟨left, f, j3, j4, e, rfl, h1, h2⟩
      cases left with
      | nil => simp at e
      | cons r left =>
        rw [List.map_cons] at e
        obtain ⟨rfl, rfl⟩ := List.cons.inj e
        obtain ⟨env2, q, f2, j42, rfl, q2, q3⟩ := comes_sweep ok h1 (some (.int r)) j4
        refine ⟨cEnv gs ov f (some (.int r)) j4, _, ?_, (show BF__law_comes_4 _ = _ from q), left, f2, some (.int r), j42, rfl, rfl, q2, ?_⟩
        · unfold cEnv
          simp_arith []
          rfl
        · rcases q3 with ⟨rfl, q3⟩ | q3
          · exact .inl q3
          · rcases h2 with h2 | h2
            · exact .inr (by
                have : f2.length ≤ f.length := List.Nodup.length_le_of_subset q2.nd fun x hx => clo_av h1 h2 (q2.av x hx)
                omega)
            · refine .inr ?_
              simp only [List.length_cons] at h2
              omega
  have fin : ∀ f : List Int, CI gs ov f → Clo gs ov f → isort f = usort f ∧ (usort f).Pairwise (· < ·) ∧ ∀ x, x ∈ usort f ↔ Av gs ov x := fun f I C => by
    refine ⟨isort_nodup I.nd (usort_sorted f) fun x => usort_mem .., usort_sorted f, fun x => ?_⟩
    rw [usort_mem]
    exact ⟨I.av x, fun h => clo_av I C h⟩
  have jn : jk none = none := rfl
  have eo := eqv_ov 0 ov
  have eo2 : PyData.eqv (ovD ov) (.int 0) = decide (ov = some 0) := by
    cases ov with
    | none => simp [ovD, PyData.eqv]
    | some o => simp only [ovD, PyData.eqv, Option.some.injEq]; rw [Bool.eq_iff_iff]; simp
  by_cases ho : ov = some 0
  · obtain ⟨env', q1, f, j3, j4, rfl, q2, q3⟩ := go [] ⟨by simp, fun x hx => (by cases hx), fun h => absurd ho h⟩ (.inl ⟨ho, rfl⟩)
    obtain ⟨f1, f2, f3⟩ := fin f q2 q3
    refine ⟨usort f, ?_, f2, f3⟩
    rw [decide_eq_true ho] at eo2
    unfold cEnv at q1
    simp only [jn, List.map_nil] at q1
    simp_arith [F__law_comes, shaped_int, sh_ov, eo2, eqA_ov, q1]
    rw [v_sorted_b (ds := f.map PyData.int) rfl, intsOf_map]
    simp_arith [f1]
  · obtain ⟨env', q1, f, j3, j4, rfl, q2, q3⟩ := go [0] ⟨by simp, fun x hx => by simp at hx; subst hx; exact ⟨[0], .start, fun y hy => by simp at hy; subst hy; exact ho⟩, fun _ => by simp⟩ (.inr rfl)
    obtain ⟨f1, f2, f3⟩ := fin f q2 q3
    refine ⟨usort f, ?_, f2, f3⟩
    rw [decide_eq_false ho] at eo2
    unfold cEnv at q1
    simp only [jn, List.map_nil, List.map_cons] at q1
    simp_arith [F__law_comes, shaped_int, sh_ov, eo2, eqA_ov, q1]
    rw [v_sorted_b (ds := f.map PyData.int) rfl, intsOf_map]
    simp_arith [f1]
/-! ### _law_over -/
open Classical in
theorem law_over_spec {gs : Gr} (ok : OkG gs) (ov : Option Int) (u : Int) :
    F__law_over [.mu (.lst (gs.map arD)), .val (ovD ov), .val (.int u)] = some (.val (.bool (decide (¬ Av gs ov u))), [.mu (.lst (gs.map arD)), .val (ovD ov), .val (.int u)]) := by
  obtain ⟨f, q, _, m⟩ := comes_spec ok ov
  have e1 := any_int f u
  have e2 := shaped_ints f
  have e3 : (!f.contains u) = decide (¬ Av gs ov u) := by
    rw [Bool.eq_iff_iff, Bool.not_eq_true', ← Bool.not_eq_true, List.contains_iff_mem, m]
    simp
  simp_arith [F__law_over, q, e1, e2, shaped_int, e3]
end Dm

namespace Dm
open PySem PySem.Spec PyProof.Rows L2 ML
/-! ### where each came from -/
theorem lkD_append {kvs more : List (Key × D)} {k : Key} {d : D} (h : lkD kvs k = some d) : lkD (kvs ++ more) k = some d := by
  induction kvs with
  | nil => cases h
  | cons p kvs ih =>
    obtain ⟨k1, d1⟩ := p
    by_cases hk : k1 = k
    · subst hk
      rw [List.cons_append, lkD_pos rfl]
      rw [lkD_pos rfl] at h
      exact h
    · rw [List.cons_append, lkD_neg hk]
      rw [lkD_neg hk] at h
      exact ih h
theorem lkD_last {kvs : List (Key × D)} {ks : List Int} {x : Int} {d : D} (h : KS kvs ks) (hx : x ∉ ks) : lkD (kvs ++ [(.inl x, d)]) (.inl x) = some d := by
  induction kvs generalizing ks with
  | nil => exact lkD_pos rfl
  | cons p kvs ih =>
    obtain ⟨k1, d1⟩ := p
    cases ks with
    | nil => cases h
    | cons k ks =>
      have h1 : k1 = .inl k := List.head_eq_of_cons_eq h
      have h2 : KS kvs ks := List.tail_eq_of_cons_eq h
      have hk : k1 ≠ .inl x := by
        rw [h1]
        intro z
        exact hx (by rw [Sum.inl.inj z]; exact List.mem_cons_self ..)
      rw [List.cons_append, lkD_neg hk]
      exact ih h2 fun z => hx (List.mem_cons_of_mem _ z)
theorem Came.nil_of {gs : Gr} {ov : Option Int} {kvs : List (Key × D)} {ks : List Int} (h : Came gs ov kvs ks) (z : ov = some 0) : ks = [] := by
  induction h with
  | nil => rfl
  | root h => exact absurd z h
  | snoc c hp he hx ho ih => rw [ih] at hp; cases hp
theorem Came.back {gs : Gr} {ov : Option Int} {kvs : List (Key × D)} {ks : List Int} (h : Came gs ov kvs ks) : ∀ (n : Nat) (x : Int), ks[n]? = some x → (x = 0 ∧ Wk gs [0] 0) ∨ ∃ p m, x ≠ 0 ∧ m < n ∧ ks[m]? = some p ∧ lkD kvs (.inl x) = some (.int p) ∧ x ∈ E gs p := by
  induction h with
  | nil => intro n x h; simp at h
  | root ho =>
    intro n x h
    cases n with
    | zero => simp at h; subst h; exact .inl ⟨rfl, .start⟩
    | succ n => simp at h
  | @snoc kvs ks p x c hp he hx ho ih =>
    intro n y hn
    by_cases hl : n < ks.length
    · rw [List.getElem?_append_left hl] at hn
      rcases ih n y hn with z | ⟨q, m, h0, hm, hq, hlk, hE⟩
      · exact .inl z
      · exact .inr ⟨q, m, h0, hm, by rw [List.getElem?_append_left (by omega)]; exact hq, lkD_append hlk, hE⟩
    · have hn1 : n < (ks ++ [x]).length := (List.getElem?_eq_some_iff.mp hn).1
      have hn2 : n = ks.length := by simp at hn1; omega
      subst hn2
      rw [List.getElem?_append_right (Nat.le_refl _)] at hn
      simp at hn
      subst hn
      obtain ⟨m, hm, e⟩ := List.getElem_of_mem hp
      refine .inr ⟨p, m, ?_, hm, by rw [List.getElem?_append_left hm, List.getElem?_eq_getElem hm, e], lkD_last c.ks hx, he⟩
      rintro rfl
      rcases c.z with z | z
      · have : ks = [] := c.nil_of z
        subst this
        cases hp
      · exact hx z
theorem Wk.zero {gs : Gr} {w : List Int} {b : Int} (h : Wk gs w b) : ∃ t, w = 0 :: t := by
  induction h with
  | start => exact ⟨[], rfl⟩
  | step _ _ ih => obtain ⟨t, rfl⟩ := ih; exact ⟨t ++ [_], rfl⟩
/-! ### around -/
def oEnv (C nm : D) (o u : Int) (kvs : List (Key × D)) (found : List Int) : En := [some (.val C), some (.val nm), some (.val (.int o)), some (.val (.int u)), some (.mu (.dK kvs)), some (.mu (.lst (found.map PyData.int)))]
theorem atI_lastI (l : List Int) (x : Int) : atI ((l ++ [x]).map PyData.int) (-1) = some (.int x) := by
  rw [List.map_append]
  exact atI_last _ _
theorem eqv_int (x y : Int) : PyData.eqv (.int x) (.int y) = decide (x = y) := by
  by_cases h : x = y
  · subst h; simp [PyData.eqv]
  · simp [PyData.eqv, h]
theorem around_while {C nm : D} {gs : Gr} (ok : OkG gs) {o u : Int} {kvs : List (Key × D)} {ks : List Int} (ca : Came gs (some o) kvs ks) {n : Nat} (hn : ks[n]? = some u) :
    ∃ env', LW_around_3 (oEnv C nm o u kvs [u]) = some (.nx, env') ∧ ∃ w, env' = oEnv C nm o u kvs (w.reverse) ∧ Wk gs w u ∧ (∀ y ∈ w, y ≠ o) ∧ w.length ≤ 6 := by
  have hk6 := ca.short ok
  have hn6 : n < ks.length := (List.getElem?_eq_some_iff.mp hn).1
  unfold LW_around_3
  refine whileL_inv (fun m env => ∃ (x : Int) (l : List Int), env = oEnv C nm o u kvs (l ++ [x]) ∧ ks[m]? = some x ∧ (∀ w, Wk gs w x → Wk gs (w ++ l.reverse) u) ∧ (∀ y ∈ l, y ≠ o) ∧ l.length + m ≤ 5) ?_ (m := n) ⟨u, [], rfl, hn, fun w hw => by simpa using hw, fun y hy => (by cases hy), by simp; omega⟩ (by omega)
  rintro m env ⟨x, l, rfl, h1, h2, h3, h4⟩
  have e1 := atI_lastI l x
  have e2 := eqv_int x 0
  rcases ca.back m x h1 with ⟨rfl, hw⟩ | ⟨p, m', h0, hm, hp, hlk, hE⟩
  · have hx0 : (0 : Int) ≠ o := by
      have := (ca.av 0 (List.mem_of_getElem? h1)).ne
      exact fun z => this (by rw [z])
    refine .inl ⟨?_, 0 :: l.reverse, by simp, h2 [0] hw, fun y hy => ?_, by simp; omega⟩
    · rw [decide_eq_true rfl] at e2
      unfold oEnv
      simp_arith [TW_around_2, e1, e2, shaped_int]
    · rcases List.mem_cons.mp hy with z | z
      · rw [z]; exact hx0
      · exact h3 y (List.mem_reverse.mp z)
  · have hxo : x ≠ o := by
      have := (ca.av x (List.mem_of_getElem? h1)).ne
      exact fun z => this (by rw [z])
    rw [decide_eq_false h0] at e2
    have l1 : (l ++ [x]).length < sizeLine := sl_lt (by simp; omega)
    refine .inr ⟨?_, m', oEnv C nm o u kvs ((l ++ [x]) ++ [p]), ?_, hm, p, l ++ [x], rfl, hp, fun w hw => ?_, fun y hy => ?_, by simp; omega⟩
    · unfold oEnv
      simp_arith [TW_around_2, e1, e2, shaped_int]
    · unfold oEnv
      simp_arith [BW_around_1, e1, hlk, l1]
      simp
    · have := h2 _ (hw.step hE)
      simpa using this
    · rcases List.mem_append.mp hy with z | z
      · exact h3 y z
      · simp at z; subst z; exact hxo
theorem around_some {C nm : D} {gs : Gr} [hC : CodeAt C nm gs] (ok : OkG gs) (o u : Int) (h : Av gs (some o) u) :
    ∃ w, F_around [.val C, .val nm, .val (.int o), .val (.int u)] = some (.val (tupI w), [.val C, .val nm, .val (.int o), .val (.int u)]) ∧ Wk gs w u ∧ (∀ y ∈ w, y ≠ o) ∧ w.length ≤ 6 := by
  obtain ⟨kvs, ks, q1, q2, q3⟩ := without_spec (C := C) (nm := nm) ok (some o)
  have q1 : F_without [.val C, .val nm, .val (.int o)] = some (.new (.dK kvs), [.val C, .val nm, .val (.int o)]) := q1
  have hu : u ∈ ks := (q3 u).mpr h
  obtain ⟨n, hn, e⟩ := List.getElem_of_mem hu
  obtain ⟨env', w1, w, rfl, w2, w3, w4⟩ := around_while (C := C) (nm := nm) ok q2 (n := n) (u := u) (by rw [List.getElem?_eq_getElem hn, e])
  refine ⟨w, ?_, w2, w3, w4⟩
  have e1 := lk_isSome u q2.ks
  have e2 : ks.contains u = true := by simpa using hu
  rw [e2] at e1
  unfold oEnv at w1
  simp only [List.map_cons, List.map_nil] at w1
  have e3 : (w.reverse.map PyData.int).reverse = w.map PyData.int := by rw [List.map_reverse, List.reverse_reverse]
  unfold tupI
  simp_arith! [F_around, q1, e1, w1, e3]
theorem around_none {C nm : D} {gs : Gr} [hC : CodeAt C nm gs] (ok : OkG gs) (o u : Int) (h : ¬ Av gs (some o) u) :
    F_around [.val C, .val nm, .val (.int o), .val (.int u)] = some (.val .none, [.val C, .val nm, .val (.int o), .val (.int u)]) := by
  obtain ⟨kvs, ks, q1, q2, q3⟩ := without_spec (C := C) (nm := nm) ok (some o)
  have q1 : F_without [.val C, .val nm, .val (.int o)] = some (.new (.dK kvs), [.val C, .val nm, .val (.int o)]) := q1
  have e1 := lk_isSome u q2.ks
  have e2 : ks.contains u = false := by simpa using fun z => h ((q3 u).mp z)
  rw [e2] at e1
  simp_arith! [F_around, q1, e1]
/-! ### fence -/
theorem fence_none {C nm : D} {gs : Gr} [hC : CodeAt C nm gs] (ok : OkG gs) (o u : Int) (h : Av gs (some o) u) :
    F_fence [.val C, .val nm, .val (.int o), .val (.int u)] = some (.val .none, [.val C, .val nm, .val (.int o), .val (.int u)]) := by
  obtain ⟨kvs, ks, q1, q2, q3⟩ := without_spec (C := C) (nm := nm) ok (some o)
  have q1 : F_without [.val C, .val nm, .val (.int o)] = some (.new (.dK kvs), [.val C, .val nm, .val (.int o)]) := q1
  have e1 := lk_isSome u q2.ks
  have e2 : ks.contains u = true := by simpa using (q3 u).mpr h
  rw [e2] at e1
  simp_arith! [F_fence, q1, e1]
theorem fence_some {C nm : D} {gs : Gr} [hC : CodeAt C nm gs] (ok : OkG gs) (o u : Int) (h : ¬ Av gs (some o) u) :
    ∃ f, F_fence [.val C, .val nm, .val (.int o), .val (.int u)] = some (.val (tupI f), [.val C, .val nm, .val (.int o), .val (.int u)]) ∧ f.Pairwise (· < ·) ∧ (∀ x, x ∈ f ↔ Av gs (some o) x) ∧ f.length ≤ 6 := by
  obtain ⟨kvs, ks, q1, q2, q3⟩ := without_spec (C := C) (nm := nm) ok (some o)
  have q1 : F_without [.val C, .val nm, .val (.int o)] = some (.new (.dK kvs), [.val C, .val nm, .val (.int o)]) := q1
  have e1 := lk_isSome u q2.ks
  have e2 : ks.contains u = false := by simpa using fun z => h ((q3 u).mp z)
  rw [e2] at e1
  have k := keyInts_of q2.ks
  have l : ks.length < 64 := by have := q2.short ok; omega
  have es := isort_nodup q2.nd (usort_sorted ks) fun x => usort_mem ..
  refine ⟨usort ks, ?_, usort_sorted ks, fun x => by rw [usort_mem, q3], Nat.le_trans (usort_len ks) (q2.short ok)⟩
  unfold tupI
  simp_arith! [F_fence, q1, e1, k, l, es]
/-! ### a way, step by step -/
/-- each block is among those that can be; the first among cb -/
def Chn (gs : Gr) : List Int → List Int → Prop
  | _, [] => True
  | cb, b :: w => b ∈ cb ∧ Chn gs (E gs b) w
theorem Chn.snoc {gs : Gr} {b c : Int} (hc : c ∈ E gs b) : ∀ {w cb : List Int}, Chn gs cb (w ++ [b]) → Chn gs cb (w ++ [b] ++ [c])
  | [], cb, h => ⟨h.1, hc, trivial⟩
  | a :: w, cb, h => ⟨h.1, Chn.snoc hc h.2⟩
theorem Wk.ends {gs : Gr} {w : List Int} {b : Int} (h : Wk gs w b) : ∃ t, w = t ++ [b] := by
  cases h with
  | start => exact ⟨[], rfl⟩
  | step h hc => exact ⟨_, rfl⟩
theorem Wk.chn {gs : Gr} {w : List Int} {b : Int} (h : Wk gs w b) : Chn gs [0] w := by
  induction h with
  | start => exact ⟨by simp, trivial⟩
  | step h hc ih =>
    obtain ⟨t, rfl⟩ := h.ends
    exact Chn.snoc hc ih
/-! ### _law_over -/
theorem law_over_f {gs : Gr} (ok : OkG gs) (o u : Int) (h : Av gs (some o) u) : F__law_over [.mu (.lst (gs.map arD)), .val (.int o), .val (.int u)] = some (.val (.bool false), [.mu (.lst (gs.map arD)), .val (.int o), .val (.int u)]) := by
  have q := law_over_spec ok (some o) u
  rw [@decide_eq_false _ (_) (fun z : ¬ Av gs (some o) u => z h)] at q
  exact q
theorem law_over_t {gs : Gr} (ok : OkG gs) (o u : Int) (h : ¬ Av gs (some o) u) : F__law_over [.mu (.lst (gs.map arD)), .val (.int o), .val (.int u)] = some (.val (.bool true), [.mu (.lst (gs.map arD)), .val (.int o), .val (.int u)]) := by
  have q := law_over_spec ok (some o) u
  rw [@decide_eq_true _ (_) h] at q
  exact q
end Dm

/-! CgX: _law_word gives a word that is not there yet. -/
namespace Cg
open PySem PySem.Spec PyProof.Rows L2 ML Dm
/-! ### the tape -/
structure Tp where
  cells : List Int
  p : Int
  l : Int
  t : Int
def fb (s : Tp) : B := feedB s.cells s.p s.l s.t
def Tok (n : Int) (s : Tp) : Prop := 0 ≤ s.p ∧ 0 ≤ s.t ∧ s.t ≤ n
theorem Tok.up {n m : Int} {s : Tp} (h : Tok n s) (e : n ≤ m) : Tok m s := ⟨h.1, h.2.1, Int.le_trans h.2.2 e⟩
theorem evO_fb {i : Nat} {env : En} {s : Tp} : evO i env (some (fb s)) = some (.bor i, env) := rfl
theorem argO_fb {s : Tp} : argO (some (fb s)) = some (fb s) := rfl
theorem isMu_fb {s : Tp} : isMu (some (fb s)) = true := rfl
theorem isLk_fb {s : Tp} : isLk (some (fb s)) = false := rfl
theorem draw {n : Int} {s : Tp} (h : Tok n s) (m : Int) (hn : n < 900000 := by omega) (hm : 0 < m := by omega) (hm2 : m < 1000 := by omega) :
    ∃ r s', F__law_draw [fb s, .val (.int m)] = some (.val (.int r), [fb s', .val (.int m)]) ∧ 0 ≤ r ∧ r < m ∧ Tok (n + 1) s' := by
  obtain ⟨h1, h2, h3⟩ := h
  obtain ⟨r, p', l', e, r0, r1, hp⟩ := draw_spec s.cells s.p s.l s.t m h1 hm hm2 h2 (by omega)
  exact ⟨r, ⟨s.cells, p', l', s.t + 1⟩, e, r0, r1, hp, by show (0 : Int) ≤ s.t + 1; omega, by show s.t + 1 ≤ n + 1; omega⟩
theorem sh_int (i : Int) : SeqAt.shaped (.int i) = true := by simp [SeqAt.shaped, PyData.canLay0, PyData.depth]
/-! ### words -/
def Wd (w : List Nat) : Prop := 1 ≤ w.length ∧ w.length ≤ 8 ∧ Lw w
def wS (w : List Nat) : D := .str (tx w)
theorem strOk_lw {l : List Nat} (h : Lw l) : PyData.strOk (tx l) = true := by
  unfold PyData.strOk tx
  rw [Array.all_eq_true']
  intro x hx
  have hx : x ∈ l := by simpa using hx
  have := h x hx
  exact decide_eq_true (by omega)
theorem can_words : ∀ {ws : List (List Nat)}, (∀ w ∈ ws, Lw w) → PyData.canLayAll0 (ws.map wS) = true
  | [], _ => by simp [PyData.canLayAll0]
  | w :: ws, h => by
    have ih := can_words (ws := ws) fun x hx => h x (List.mem_cons_of_mem _ hx)
    simp only [List.map_cons, PyData.canLayAll0, ih, Bool.and_true, wS, PyData.canLay0]
    exact strOk_lw (h w (List.mem_cons_self ..))
theorem dep_words : ∀ {ws : List (List Nat)}, PyData.depthAll (ws.map wS) = 0
  | [] => by simp [PyData.depthAll]
  | w :: ws => by simp [PyData.depthAll, wS, PyData.depth, dep_words (ws := ws)]
theorem sh_word {w : List Nat} (h : Lw w) : SeqAt.shaped (.str (tx w)) = true := by
  simp [SeqAt.shaped, PyData.canLay0, PyData.depth, strOk_lw h]
theorem sh_words {ws : List (List Nat)} (h : ∀ w ∈ ws, Lw w) : SeqAt.shaped (.list (ws.map wS)) = true := by
  simp [SeqAt.shaped, PyData.canLay0, PyData.depth, can_words h, dep_words]
theorem any_words (ws : List (List Nat)) (w : List Nat) : ((ws.map wS).any fun z => PyData.eqv z (.str (tx w))) = decide (w ∈ ws) := by
  induction ws with
  | nil => simp
  | cons v ws ih =>
    simp only [List.map_cons, List.any_cons, ih, wS, eqv_str]
    by_cases h : v = w
    · subst h; simp
    · have : tx v ≠ tx w := fun z => h (tx_inj z)
      simp [this, Ne.symm h]
theorem eqv_words_nil (ws : List (List Nat)) : PyData.eqv (.list (ws.map wS)) (.list []) = ws.isEmpty := by
  cases ws <;> simp [PyData.eqv, PyData.eqvAll]
def wE (s : Tp) (found : List (List Nat)) (way : Option D) (w : List Nat) (k own : Option D) : En :=
  [some (fb s), some (.mu (.lst (found.map wS))), some (.val (.str (tx abc))), jk way, some (.val (.str (tx w))), jk k, jk own]
theorem abc_at {r : Int} (h0 : 0 ≤ r) (h1 : r < 26) : ∃ c, atI abc r = some c ∧ 97 ≤ c ∧ c ≤ 122 := by
  have := abc_get (k := r.toNat) (by omega)
  exact ⟨_, atI_get h0 this, by omega, by omega⟩
theorem abc_sl : (tx abc).length ≤ sizeLine := by rw [tx_len]; exact sl_le (by decide)
theorem tx_sl {l : List Nat} (h : l.length ≤ 1000) : (tx l).length ≤ sizeLine := by rw [tx_len]; exact sl_le (by omega)
theorem tx_sl2 {l m : List Nat} (h : l.length + m.length ≤ 1000) : (tx l).length + (tx m).length ≤ sizeLine := by rw [tx_len, tx_len]; exact sl_le (by omega)
theorem Lw.snoc {l : List Nat} {c : Nat} (h : Lw l) (hc : 97 ≤ c ∧ c ≤ 122) : Lw (l ++ [c]) := fun x hx => by
  rcases List.mem_append.mp hx with z | z
  · exact h x z
  · simp at z; subst z; exact hc
/-- the letters put on -/
theorem word_grow {n : Int} {s : Tp} (h : Tok n s) (hn : n < 800000) (found : List (List Nat)) (way own : Option D) (c : Nat) (hc : 97 ≤ c ∧ c ≤ 122) (k : Option D) :
    ∃ s' w k', LF__law_word_2 (wE s found way [c] k own) = some (.nx, wE s' found way w k' own) ∧ Wd w ∧ Tok (n + 9) s' := by
  obtain ⟨m, s1, d1, m0, m1, h1⟩ := draw h 8
  have hi := rgI_of (n := m) (by omega) (by omega)
  refine Exists.elim (sFor_list (np := 2) (fi := iRng1 (eCall 2 F__law_draw [] (aCons (eV 0) (aCons (eK (.int 8)) aNil)))) (t := .nm 5) (body := BF__law_word_1) (env := wE s found way [c] k own) (env1 := wE s1 found way [c] k own) (src := none)
    ((List.range m.toNat).map fun i : Nat => (i : Int)) PyData.int (fun left env => ∃ s' w k', env = wE s' found way w k' own ∧ 1 ≤ w.length ∧ w.length + left.length ≤ 8 ∧ Lw w ∧ Tok (n + 9 - left.length) s') ?fhi ?fp ?fh) ?ffin
  case fhi =>
    have er : rangeD 0 m = ((List.range m.toNat).map fun i : Nat => (i : Int)).map PyData.int := by simp [rangeD]
    unfold wE
    simp_arith [evO_fb, argO_fb, isMu_fb, isLk_fb, d1, hi, er]
  case fp => exact ⟨s1, [c], k, rfl, by simp, by simp; omega, fun x hx => by simp at hx; subst hx; exact hc, h1.up (by simp; omega)⟩
  case fh =>
    rintro x left env ⟨s2, w, k', rfl, w1, w2, lw, h2⟩
    simp only [List.length_cons] at w2 h2
    obtain ⟨r, s3, d3, r0, r1, h3⟩ := draw h2 26
    obtain ⟨c', hc', lc⟩ := abc_at r0 r1
    have hs : (tx w).length + (tx [c']).length ≤ sizeLine := tx_sl2 (by simp; omega)
    refine ⟨wE s2 found way w (some (.int x)) own, wE s3 found way (w ++ [c']) (some (.int x)) own, ?_, ?_, s3, w ++ [c'], _, rfl, by simp, by simp; omega, lw.snoc lc, h3.up (by omega)⟩
    · unfold wE
      simp_arith [jk_some]
    · unfold wE
      simp_all_arith [BF__law_word_1, evO_fb, argO_fb, isMu_fb, isLk_fb, d3, abc_sl, tx_list, hc', tx_one, hs, tx_app, jk_some]
  case ffin =>
    rintro env' ⟨q1, s', w, k', rfl, w1, w2, lw, h2⟩
    simp at w2 h2
    exact ⟨s', w, k', q1, ⟨w1, w2, lw⟩, h2⟩
/-- the first that is not there -/
theorem word_find {s : Tp} {found : List (List Nat)} (hf : ∀ w ∈ found, Lw w) (way own : Option D) {w : List Nat} (hw : w.length ≤ 8) (h1 : 1 ≤ w.length) (lw : Lw w) (left : List Int) (k : Option D) (i : Nat) (hi : ∃ j, j < left.length ∧ its j w ∉ found) :
    ∃ w' k', loopL (fun d e => (setT 2 (.nm 5) d e).bind BF__law_word_3) (left.map PyData.int) (wE s found way w k own) = some (.nx, wE s found way w' k' own) ∧ Wd w' ∧ w' ∉ found := by
  induction left generalizing w k with
  | nil => obtain ⟨j, h, _⟩ := hi; simp at h
  | cons x left ih =>
    have sh := sh_word lw
    have shs := sh_words hf
    have hset : setT 2 (.nm 5) (.int x) (wE s found way w k own) = some (wE s found way w (some (.int x)) own) := by
      unfold wE
      simp_arith [jk_some]
    by_cases hin : w ∈ found
    · have hb : BF__law_word_3 (wE s found way w (some (.int x)) own) = some (.nx, wE s found way (aft w) (some (.int x)) own) := by
        have e2 : decide (w ∈ found) = true := decide_eq_true hin
        have aw := after_spec w hw lw
        unfold wE
        simp_all_arith [BF__law_word_3, sh, shs, any_words, e2, v_bneg_t, Bool.not_true, aw, sBk]
      obtain ⟨w', k', q1, q2, q3⟩ := ih (w := aft w) (by have := its_len hw 1; simp [its] at this; omega) (by have := its_len hw 1; simp [its] at this; omega) (aft_lw lw) (some (.int x)) (by
        obtain ⟨j, hj, hn⟩ := hi
        cases j with
        | zero => exact absurd hin hn
        | succ j =>
          refine ⟨j, by simpa using hj, ?_⟩
          have e := its_add (l := w) 1 j
          rw [Nat.add_comm] at e
          rwa [e] at hn)
      refine ⟨w', k', ?_, q2, q3⟩
      rw [List.map_cons, loopL]
      simp only [hset, Option.bind_some, hb]
      exact q1
    · have hb : BF__law_word_3 (wE s found way w (some (.int x)) own) = some (.bk, wE s found way w (some (.int x)) own) := by
        have e2 : decide (w ∈ found) = false := decide_eq_false hin
        unfold wE
        simp_all_arith [BF__law_word_3, sh, shs, any_words, e2, v_bneg_t, Bool.not_false, sBk]
      refine ⟨w, some (.int x), ?_, ⟨h1, hw, lw⟩, hin⟩
      rw [List.map_cons, loopL]
      simp only [hset, Option.bind_some, hb]
/-- some word in a row is not there -/
theorem its_free {w : List Nat} (hw : w.length ≤ 8) (lw : Lw w) (found : List (List Nat)) (hl : found.length ≤ 50) : ∃ j, j < 60 ∧ its j w ∉ found := by
  apply Classical.byContradiction
  intro hno
  have hall : ∀ j, j < 60 → its j w ∈ found := fun j hj => Classical.byContradiction fun z => hno ⟨j, hj, z⟩
  have nd : ((List.range 60).map fun j => its j w).Nodup := by
    refine List.pairwise_map.mpr (List.Pairwise.imp_of_mem (fun {a b} ha hb h z => ?_) (List.pairwise_lt_range (n := 60)))
    have hb := List.mem_range.mp hb
    have := its_ne hw lw (i := a) (d := b - a) (by omega) (by omega)
    rw [show a + (b - a) = b by omega] at this
    exact this z
  have := List.Nodup.length_le_of_subset nd (l₂ := found) fun x hx => by
    obtain ⟨j, hj, rfl⟩ := List.mem_map.mp hx
    exact hall j (List.mem_range.mp hj)
  simp at this
  omega
theorem atI_map {l : List (List Nat)} {r : Int} (h0 : 0 ≤ r) (h1 : r < (l.length : Nat)) : ∃ w, w ∈ l ∧ atI (l.map wS) r = some (.str (tx w)) := by
  have hj : r.toNat < l.length := by omega
  exact ⟨l[r.toNat], List.getElem_mem hj, atI_get h0 (by simp [hj, wS])⟩
theorem word_spec {n : Int} {s : Tp} (h : Tok n s) (hn : n < 700000) (found : List (List Nat)) (hf : ∀ w ∈ found, Wd w) (hl : found.length ≤ 50) :
    ∃ w s', F__law_word [fb s, .mu (.lst (found.map wS))] = some (.val (.str (tx w)), [fb s', .mu (.lst (found.map wS))]) ∧ Wd w ∧ w ∉ found ∧ Tok (n + 20) s' := by
  obtain ⟨way, s1, d1, y0, y1, h1⟩ := draw h 5
  obtain ⟨r, s2, d2, r0, r1, h2⟩ := draw h1 26
  obtain ⟨c, hc, lc⟩ := abc_at r0 r1
  have hlf : ∀ w ∈ found, Lw w := fun w hw => (hf w hw).2.2
  have shs := sh_words hlf
  have sh0 : SeqAt.shaped (.list []) = true := by decide +kernel
  -- the word ahead of the search
  have mid : ∃ s3 w k own, (sIf (fOr (rB (e2 gGt (eV 3) (eK (.int 1)))) (rB (e2 (gEqA false) (eV 1) (eLst aNil)))) LF__law_word_2 (sSeq (sSet 2 6 (e2 gIx (eV 1) (eCall 2 F__law_draw [] (aCons (eV 0) (aCons (eN gLen (aCons (eV 1) aNil)) aNil)))))
    (sSet 2 4 (eIf (rB (e2 (gEqA false) (eV 3) (eK (.int 0)))) (eSl (eV 6) oNone (oSome (e2 gAdd (eK (.int 1)) (eCall 2 F__law_draw [] (aCons (eV 0) (aCons (eN gLen (aCons (eV 6) aNil)) aNil)))))) (e2 gAdd (eSl (eV 6) oNone (oSome (eK (.int 7)))) (e2 gIx (eV 2) (eCall 2 F__law_draw [] (aCons (eV 0) (aCons (eK (.int 26)) aNil))))))))) (wE s2 found (some (.int way)) [c] none none) = some (.nx, wE s3 found (some (.int way)) w k own) ∧ Wd w ∧ Tok (n + 15) s3 := by
    by_cases hy : 1 < way ∨ found = []
    · obtain ⟨s3, w, k, q1, q2, q3⟩ := word_grow h2 (by omega) found (some (.int way)) none c lc none
      refine ⟨s3, w, k, none, ?_, q2, q3.up (by omega)⟩
      rw [← q1]
      by_cases hy1 : 1 < way
      · unfold wE
        simp_all_arith [decide_eq_true hy1, jk_some]
      · have : found = [] := hy.resolve_left hy1
        subst this
        unfold wE
        simp_all_arith [decide_eq_false hy1, jk_some, sh0, eqv_nil_nil, List.map_nil]
    · have hy1 : ¬ 1 < way := fun z => hy (.inl z)
      have hne : found ≠ [] := fun z => hy (.inr z)
      have hpos : 0 < found.length := List.length_pos_iff.mpr hne
      have hie : found.isEmpty = false := by cases found with | nil => exact absurd rfl hne | cons _ _ => rfl
      obtain ⟨m, s3, d3, m0, m1, h3⟩ := draw h2 (found.length : Nat)
      obtain ⟨o, ho, ha⟩ := atI_map m0 m1
      obtain ⟨o1, o2, ol⟩ := hf o ho
      by_cases hz : way = 0
      · obtain ⟨q, s4, d4, q0, q1, h4⟩ := draw h3 (o.length : Nat)
        have hcut : ML.cutD o none (some (1 + q)) = o.take (q.toNat + 1) := by
          have := cut_nat o (q.toNat + 1) (by omega)
          rwa [show ((q.toNat + 1 : Nat) : Int) = 1 + q by omega] at this
        refine ⟨s4, o.take (q.toNat + 1), none, some (.str (tx o)), ?_, ⟨by simp; omega, by simp; omega, fun x hx => ol x (List.mem_of_mem_take hx)⟩, h4.up (by omega)⟩
        subst hz
        unfold wE
        simp_all_arith [jk_some, decide_eq_false hy1, eqv_int, sh_int, decide_eq_true (rfl : (0 : Int) = 0), sh0, shs, eqv_words_nil, hie, evO_fb, argO_fb, isMu_fb, isLk_fb, List.length_map, d3, ha, tx_len, sl_le (show o.length ≤ 1000000 by omega), d4, cutS_tx, hcut]
      · obtain ⟨q, s4, d4, q0, q1, h4⟩ := draw h3 26
        obtain ⟨c2, hc2, lc2⟩ := abc_at q0 q1
        have hcut : ML.cutD o none (some 7) = o.take 7 := by
          unfold ML.cutD
          have h0 : HT.sIx o.length 0 none = 0 := rfl
          have h1 : HT.sIx o.length o.length (some 7) = min 7 o.length := by
            unfold HT.sIx
            simp
          rw [h0, h1, List.drop_zero, Nat.sub_zero]
          rcases Nat.le_total 7 o.length with z | z
          · rw [Nat.min_eq_left z]
          · rw [Nat.min_eq_right z, List.take_of_length_le (Nat.le_refl _), List.take_of_length_le z]
        have hs2 : (tx (o.take 7)).length + (tx [c2]).length ≤ sizeLine := tx_sl2 (by simp; omega)
        refine ⟨s4, o.take 7 ++ [c2], none, some (.str (tx o)), ?_, ⟨by simp, by simp; omega, Lw.snoc (fun x hx => ol x (List.mem_of_mem_take hx)) lc2⟩, h4.up (by omega)⟩
        unfold wE
        simp_all_arith [jk_some, decide_eq_false hy1, eqv_int, sh_int, decide_eq_false hz, sh0, shs, eqv_words_nil, hie, evO_fb, argO_fb, isMu_fb, isLk_fb, List.length_map, d3, ha, d4, cutS_tx, hcut, tx_sl (show o.length ≤ 1000 by omega), abc_sl, tx_list, hc2, tx_one, hs2, tx_app]
  obtain ⟨s3, w, k, own, q1, q2, q3⟩ := mid
  obtain ⟨w', k', g1, g2, g3⟩ := word_find (s := s3) hlf (some (.int way)) own q2.2.1 q2.1 q2.2.2 ((List.range 60).map fun i : Nat => (i : Int)) k 0 (by simpa using its_free q2.2.1 q2.2.2 found hl)
  refine ⟨w', s3, ?_, g2, g3, q3.up (by omega)⟩
  have g : LF__law_word_4 (wE s3 found (some (.int way)) w k own) = some (.nx, wE s3 found (some (.int way)) w' k' own) := by
    have er : rangeD 0 60 = ((List.range 60).map fun i : Nat => (i : Int)).map PyData.int := by simp [rangeD]
    have hr : rgI 60 = true := rgI_of (by omega) (by omega)
    unfold LF__law_word_4 sFor
    have : iRng1 (eK (.int 60)) (wE s3 found (some (.int way)) w k own) = some ((((List.range 60).map fun i : Nat => (i : Int)).map PyData.int, none), wE s3 found (some (.int way)) w k own) := by
      simp_arith [hr, er]
    rw [this]
    simp only [Option.bind_some, g1, Option.map_some]
    rfl
  have jn : jk none = none := rfl
  unfold wE at q1 g
  simp only [jk_some, jn] at q1 g
  simp_all_arith [F__law_word, tx_abc, evO_fb, argO_fb, isMu_fb, isLk_fb, d1, d2, abc_sl, tx_list, hc, tx_one, ↓q1, g]
end Cg

namespace Dm
open PySem PySem.Spec PyProof.Rows L2 ML
/-! ### what may be shown -/
theorem small_cases {P : Int → Prop} (h : P 0 ∧ P 1 ∧ P 2 ∧ P 3 ∧ P 4 ∧ P 5) {x : Int} (h0 : 0 ≤ x) (h1 : x < 6) : P x := by
  have : x = 0 ∨ x = 1 ∨ x = 2 ∨ x = 3 ∨ x = 4 ∨ x = 5 := by omega
  obtain ⟨a, b, c, d, e, f⟩ := h
  rcases this with rfl | rfl | rfl | rfl | rfl | rfl <;> assumption
/-- data that is short in every way -/
structure Sm (d : D) (dep wt : Nat) : Prop where
  can : PyData.canLay0 d = true
  dep : PyData.depth d ≤ dep
  wt : PyData.weight d ≤ wt
  int : PyData.intsShort 13 d = true
  sho : PyData.showable d = true
structure SmA (ds : List D) (dep wt : Nat) : Prop where
  can : PyData.canLayAll0 ds = true
  dep : PyData.depthAll ds ≤ dep
  wt : PyData.weightAll ds ≤ wt
  int : PyData.intsShortAll 13 ds = true
  sho : PyData.showableAll ds = true
theorem Sm.ok {d : D} {dep wt : Nat} (h : Sm d dep wt) (h1 : dep ≤ 64) (h2 : wt ≤ 1000000) : reprOk d = true := by
  have e1 : decide (PyData.depth d ≤ 64) = true := decide_eq_true (Nat.le_trans h.dep h1)
  have e2 : decide (PyData.weight d ≤ 2 ^ 20) = true := decide_eq_true (Nat.le_trans h.wt (Nat.le_trans h2 (by decide)))
  unfold reprOk PyData.layable0
  rw [h.can, h.int, h.sho, e1, e2]
  rfl
theorem SmA.nil : SmA [] 0 0 := ⟨by simp [PyData.canLayAll0], by simp [PyData.depthAll], by simp [PyData.weightAll], by simp [PyData.intsShortAll], by simp [PyData.showableAll]⟩
theorem SmA.cons {d : D} {ds : List D} {a b n m : Nat} (h : Sm d a n) (t : SmA ds b m) : SmA (d :: ds) (max a b) (n + 1 + m) := by
  refine ⟨by simp [PyData.canLayAll0, h.can, t.can], ?_, ?_, by simp [PyData.intsShortAll, h.int, t.int], by simp [PyData.showableAll, h.sho, t.sho]⟩
  · have := h.dep; have := t.dep
    simp only [PyData.depthAll]; omega
  · have := h.wt; have := t.wt
    simp only [PyData.weightAll]; omega
theorem SmA.tup {ds : List D} {a n : Nat} (t : SmA ds a n) : Sm (.tuple ds) (a + 1) n := by
  refine ⟨by simp only [PyData.canLay0]; exact t.can, ?_, ?_, by simp only [PyData.intsShort]; exact t.int, by simp only [PyData.showable]; exact t.sho⟩
  · have := t.dep; simp only [PyData.depth]; omega
  · have := t.wt; simp only [PyData.weight]; exact this
theorem sm_int {x : Int} (h0 : 0 ≤ x) (h1 : x < 6) : Sm (.int x) 0 4 := small_cases (P := fun x => Sm (.int x) 0 4) ⟨⟨by decide +kernel, by decide +kernel, by decide +kernel, by decide +kernel, by decide +kernel⟩, ⟨by decide +kernel, by decide +kernel, by decide +kernel, by decide +kernel, by decide +kernel⟩, ⟨by decide +kernel, by decide +kernel, by decide +kernel, by decide +kernel, by decide +kernel⟩, ⟨by decide +kernel, by decide +kernel, by decide +kernel, by decide +kernel, by decide +kernel⟩, ⟨by decide +kernel, by decide +kernel, by decide +kernel, by decide +kernel, by decide +kernel⟩, ⟨by decide +kernel, by decide +kernel, by decide +kernel, by decide +kernel, by decide +kernel⟩⟩ h0 h1
theorem sm_bool (b : Bool) : Sm (.bool b) 0 0 := by cases b <;> exact ⟨by decide +kernel, by decide +kernel, by decide +kernel, by decide +kernel, by decide +kernel⟩
theorem sm_ints : ∀ {l : List Int}, (∀ x ∈ l, 0 ≤ x ∧ x < 6) → SmA (l.map PyData.int) 0 (5 * l.length)
  | [], _ => SmA.nil
  | x :: l, h => by
    have t := sm_ints (l := l) fun y hy => h y (List.mem_cons_of_mem _ hy)
    have hx := h x (List.mem_cons_self ..)
    have q := SmA.cons (sm_int hx.1 hx.2) t
    refine ⟨q.can, q.dep, ?_, q.int, q.sho⟩
    have := q.wt
    simp only [List.length_cons, List.map_cons] at this ⊢
    omega
theorem sh_tup_ok {l : List Int} (h : ∀ x ∈ l, 0 ≤ x ∧ x < 6) (hl : l.length ≤ 1000) : reprOk (tupI l) = true := (sm_ints h).tup.ok (by omega) (by omega)
theorem Sm.mono {d : D} {a b n m : Nat} (h : Sm d a n) (h1 : a ≤ b) (h2 : n ≤ m) : Sm d b m := ⟨h.can, Nat.le_trans h.dep h1, Nat.le_trans h.wt h2, h.int, h.sho⟩
theorem SmA.mono {d : List D} {a b n m : Nat} (h : SmA d a n) (h1 : a ≤ b) (h2 : n ≤ m) : SmA d b m := ⟨h.can, Nat.le_trans h.dep h1, Nat.le_trans h.wt h2, h.int, h.sho⟩
theorem sm_go : Sm (.str "go") 0 100 := ⟨by decide +kernel, by decide +kernel, by decide +kernel, by decide +kernel, by decide +kernel⟩
theorem sm_if : Sm (.str "if") 0 100 := ⟨by decide +kernel, by decide +kernel, by decide +kernel, by decide +kernel, by decide +kernel⟩
theorem sm_i : Sm (.str "i") 0 100 := ⟨by decide +kernel, by decide +kernel, by decide +kernel, by decide +kernel, by decide +kernel⟩
theorem sm_back : Sm (.str "back") 0 100 := ⟨by decide +kernel, by decide +kernel, by decide +kernel, by decide +kernel, by decide +kernel⟩
theorem sm_a : Sm (.str "a") 0 100 := ⟨by decide +kernel, by decide +kernel, by decide +kernel, by decide +kernel, by decide +kernel⟩
theorem sm_main : Sm (.str "main") 0 100 := ⟨by decide +kernel, by decide +kernel, by decide +kernel, by decide +kernel, by decide +kernel⟩
theorem sm_blk {g : D × Gd} (pl : PlG g) (h : ∀ c ∈ g.2.outs, 0 ≤ c ∧ c < 6) : Sm (blkD g) 2 500 := by
  obtain ⟨rw, g⟩ := g
  obtain ⟨p1, p2⟩ := pl
  simp only at p1 p2 h
  subst p1
  have hd : Sm g.d 1 400 := by
    cases g with
    | go a =>
      have ha := h a (by simp [Gd.outs])
      exact (SmA.cons sm_go (SmA.cons (sm_int ha.1 ha.2) SmA.nil)).tup.mono (by decide) (by decide)
    | iff op a b =>
      have ha := h a (by simp [Gd.outs])
      have hb := h b (by simp [Gd.outs])
      have e := p2 op a b rfl
      subst e
      exact (SmA.cons sm_if (SmA.cons sm_i (SmA.cons (sm_int ha.1 ha.2) (SmA.cons (sm_int hb.1 hb.2) SmA.nil)))).tup.mono (by decide) (by decide)
    | back => exact (SmA.cons sm_back SmA.nil).tup.mono (by decide) (by decide)
  exact (SmA.cons SmA.nil.tup (SmA.cons hd SmA.nil)).tup.mono (by decide) (by decide)
theorem sm_blks : ∀ {gs : Gr}, (∀ g ∈ gs, PlG g ∧ ∀ c ∈ g.2.outs, 0 ≤ c ∧ c < 6) → SmA (gs.map blkD) 2 (501 * gs.length)
  | [], _ => SmA.nil.mono (by decide) (by decide)
  | g :: gs, h => by
    have t := sm_blks (gs := gs) fun y hy => h y (List.mem_cons_of_mem _ hy)
    obtain ⟨h1, h2⟩ := h g (List.mem_cons_self ..)
    have q := SmA.cons (sm_blk h1 h2) t
    refine q.mono (by omega) ?_
    simp only [List.length_cons]
    omega
theorem OkG.outs {gs : Gr} (ok : OkG gs) : ∀ g ∈ gs, ∀ c ∈ g.2.outs, 0 ≤ c ∧ c < 6 := by
  intro g hg c hc
  obtain ⟨i, hi, e⟩ := List.getElem_of_mem hg
  have e2 : gs[((i : Nat) : Int).toNat]? = some g := by
    rw [Int.toNat_natCast, List.getElem?_eq_getElem hi, e]
  have := ok.go i c ((mem_E e2).mpr hc)
  have := ok.six
  omega
theorem code_ok {gs : Gr} (ok : OkG gs) (pl : ∀ g ∈ gs, PlG g) : reprOk (codeG gs) = true := by
  have h1 := sm_blks fun g hg => ⟨pl g hg, ok.outs g hg⟩
  have h2 : SmA (gs.map blkD) 2 3006 := h1.mono (by omega) (by have := ok.six; omega)
  have hi : Sm (.int 1) 0 4 := sm_int (by omega) (by omega)
  have a1 : Sm (.tuple [.tuple [.str "a", .int 1]]) 2 400 := (SmA.cons (SmA.cons sm_a (SmA.cons hi SmA.nil)).tup SmA.nil).tup.mono (by decide) (by decide)
  have a2 : Sm (.tuple [.tuple [.str "main", .tuple (gs.map blkD)]]) 5 4000 := (SmA.cons (SmA.cons sm_main (SmA.cons h2.tup SmA.nil)).tup SmA.nil).tup.mono (by decide) (by decide)
  exact ((SmA.cons a1 (SmA.cons a2 SmA.nil)).tup).ok (by decide) (by decide)
/-- what a graph is made of, decided -/
def okB (gs : Gr) : Bool := decide (0 < gs.length ∧ gs.length ≤ 6) && gs.all fun g => g.2.outs.all fun c => decide (0 ≤ c ∧ c < gs.length)
theorem ok_of {gs : Gr} (h : okB gs = true) : OkG gs := by
  unfold okB at h
  rw [Bool.and_eq_true, List.all_eq_true] at h
  obtain ⟨h1, h2⟩ := h
  have h1 := of_decide_eq_true h1
  refine ⟨h1.1, h1.2, fun b c hc => ?_⟩
  unfold E at hc
  split at hc
  · rename_i g hg
    rw [usort_mem] at hc
    have := h2 g (List.mem_of_getElem? hg)
    rw [List.all_eq_true] at this
    exact of_decide_eq_true (this c hc)
  · cases hc
/-- an end of a graph by hand -/
def plE : Gd → D × Gd := fun g => (.tuple [], g)
def plB : Gd → Bool
  | .iff (.str x) _ _ => x == "i"
  | .iff _ _ _ => false
  | _ => true
theorem pl_of {es : List Gd} (h : es.all plB = true) : ∀ g ∈ es.map plE, PlG g := by
  intro g hg
  obtain ⟨e, he, rfl⟩ := List.mem_map.mp hg
  have := List.all_eq_true.mp h e he
  refine ⟨rfl, fun op a b z => ?_⟩
  have z : e = .iff op a b := z
  subst z
  cases op with
  | str x =>
    have : (x == "i") = true := this
    rw [eq_of_beq this]
  | none => cases this
  | bool _ => cases this
  | int _ => cases this
  | list _ => cases this
  | tuple _ => cases this
  | dict _ => cases this
theorem cut_to {xs : List D} (n : Nat) : ML.cutD xs none (some (n : Int)) = xs.take n := by
  unfold ML.cutD
  rw [HT.sIx_none, HT.sIx_nat]
  simp [List.take_eq_take_iff]
end Dm

/-! CgO: _law_objects, _law_operand. -/
namespace ML
open PySem PySem.Spec PyProof.Rows L2
theorem eLc_list {np : Nat} {own : List Nat} {fi : FI} {t : Tg} {tst : FT} {elt : FE} {env env1 : En} {src : Option Nat} {α : Type} (xs : List α) (k : α → D) (P : List α → List D → En → Prop) (hi : fi env = some ((xs.map k, src), env1)) (ok : lcOk own t env1 = true)
    (p : P xs [] (wipeE env1 own)) (h : ∀ x l acc env, P (x :: l) acc env → ∃ o env', lcS np own t tst elt env (k x) = some (o, env') ∧ P l (acc ++ o.toList) env') (hl : xs.length ≤ 1000000) :
    ∃ out env', eLc np own fi t tst elt env = some (.new (.lst out), unlock src (restE env1 env' own)) ∧ P [] out env' := by
  obtain ⟨out, env', q1, l, e, q2⟩ := eLc_inv (fun ds acc env => ∃ l : List α, ds = l.map k ∧ P l acc env) hi ok ⟨xs, rfl, p⟩ (fun d ds acc env ⟨l, e, q⟩ => by
    cases l with
    | nil => simp at e
    | cons x l =>
      rw [List.map_cons] at e
      obtain ⟨rfl, rfl⟩ := List.cons.inj e
      obtain ⟨o, e2, q1, q2⟩ := h x l acc env q
      exact ⟨o, e2, q1, l, rfl, q2⟩) (by rw [List.length_map]; exact hl)
  have : l = [] := by cases l with | nil => rfl | cons _ _ => simp at e
  subst this
  exact ⟨out, env', q1, q2⟩
end ML
namespace Cg
open PySem PySem.Spec PyProof.Rows L2 ML Dm
/-- 0 .. n - 1 -/
def upto (n : Int) : List Int := (List.range n.toNat).map fun i : Nat => (i : Int)
theorem rangeD_upto (n : Int) : rangeD 0 n = (upto n).map PyData.int := by simp [rangeD, upto]
theorem upto_len {n : Int} (h : 0 ≤ n) : ((upto n).length : Int) = n := by simp [upto]; omega
theorem upto_mem {n x : Int} : x ∈ upto n ↔ 0 ≤ x ∧ x < n := by
  unfold upto
  rw [List.mem_map]
  constructor
  · rintro ⟨i, hi, rfl⟩
    have := List.mem_range.mp hi
    omega
  · intro ⟨h0, h1⟩
    exact ⟨x.toNat, List.mem_range.mpr (by omega), by omega⟩
theorem nd01 : ([0, 1] : List Nat).Nodup := by decide
/-! ### words sorted -/
def leW (a b : List Nat) : Bool := PySem.W.dataLe false id (wS a) (wS b)
def sortW (ws : List (List Nat)) : List (List Nat) := ws.mergeSort leW
theorem sortD_words (ws : List (List Nat)) : sortD (ws.map wS) = (sortW ws).map wS := by
  unfold sortD sortW
  exact (PySem.W.sort_maps (r := leW) (s := PySem.W.dataLe false id) wS (fun _ _ _ _ => rfl)).symm
theorem sortW_perm (ws : List (List Nat)) : (sortW ws).Perm ws := List.mergeSort_perm ..
theorem sortOk_words {ws : List (List Nat)} (h : ws.length ≤ 1000) : sortOk (ws.map wS) = true := by
  unfold sortOk
  rw [Bool.and_eq_true, Bool.and_eq_true, Bool.and_eq_true, Bool.or_eq_true, List.all_eq_true, List.all_eq_true, List.all_eq_true, List.all_eq_true]
  refine ⟨⟨⟨fun d hd => List.all_eq_true.mpr fun e he => ?_, .inr fun d hd => ?_⟩, fun d hd => ?_⟩, decide_eq_true (by rw [List.length_map]; exact sl_le (by omega))⟩
  · obtain ⟨a, _, rfl⟩ := List.mem_map.mp hd
    obtain ⟨b, _, rfl⟩ := List.mem_map.mp he
    rfl
  · obtain ⟨a, _, rfl⟩ := List.mem_map.mp hd
    rfl
  · obtain ⟨a, _, rfl⟩ := List.mem_map.mp hd
    exact decide_eq_true (by simp [wS, PyData.depth])
theorem sortL_words {env : En} {ws : List (List Nat)} (h : ws.length ≤ 1000) (hn : ws ≠ []) : sortL env (ws.map wS) = some (.new (.lst ((sortW ws).map wS)), env) := by
  have e : intsOf (ws.map wS) = none := by
    cases ws with
    | nil => exact absurd rfl hn
    | cons w ws => rfl
  unfold sortL
  rw [e]
  simp only [sortOk_words h, ↓reduceIte, sortD_words]
/-! ### objects -/
def obD (o : List Nat × Int) : D := .tuple [wS o.1, .int o.2]
def objsD (os : List (List Nat × Int)) : D := .tuple (os.map obD)
structure ObjsOk (os : List (List Nat × Int)) : Prop where
  pos : 0 < os.length
  four : os.length ≤ 4
  wd : ∀ o ∈ os, Wd o.1
  size : ∀ o ∈ os, 1 ≤ o.2 ∧ o.2 ≤ 4
  names : ∃ ws : List (List Nat), ws.Nodup ∧ os.map (·.1) = sortW ws
theorem ObjsOk.nodup {os : List (List Nat × Int)} (h : ObjsOk os) : (os.map (·.1)).Nodup := by
  obtain ⟨ws, h1, h2⟩ := h.names
  rw [h2]
  exact (sortW_perm ws).nodup_iff.mpr h1
def oE (s : Tp) (found : List (List Nat)) (k : Option D) : En := [some (fb s), some (.mu (.lst (found.map wS))), jk k, none]
theorem jk_none : jk none = none := rfl
theorem Wd.app {found : List (List Nat)} {w : List Nat} (h : ∀ v ∈ found, Wd v) (hw : Wd w) : ∀ v ∈ found ++ [w], Wd v := fun v hv => by
  rcases List.mem_append.mp hv with z | z
  · exact h v z
  · simp at z; subst z; exact hw
theorem nodup_snoc {α : Type} {l : List α} {x : α} (h : l.Nodup) (hx : x ∉ l) : (l ++ [x]).Nodup := by
  rw [List.nodup_append]
  exact ⟨h, by simp, fun a ha b hb => by simp at hb; subst hb; exact fun z => hx (z ▸ ha)⟩
theorem objects_spec {n : Int} {s : Tp} (h : Tok n s) (hn : n < 600000) : ∃ os s', F__law_objects [fb s] = some (.val (objsD os), [fb s']) ∧ ObjsOk os ∧ Tok (n + 100) s' := by
  obtain ⟨m, s1, d1, m0, m1, h1⟩ := draw h 4
  have hi := rgI_of (n := 1 + m) (by omega) (by omega)
  have lf : ∃ s2 found k, LF__law_objects_2 (oE s [] none) = some (.nx, oE s2 found k) ∧ (found.length : Int) = 1 + m ∧ (∀ w ∈ found, Wd w) ∧ found.Nodup ∧ Tok (n + 90) s2 := by
    refine Exists.elim (sFor_list (np := 1) (fi := iRng1 (e2 gAdd (eK (.int 1)) (eCall 2 F__law_draw [] (aCons (eV 0) (aCons (eK (.int 4)) aNil))))) (t := .nm 2) (body := BF__law_objects_1) (env := oE s [] none) (env1 := oE s1 [] none) (src := none)
      (upto (1 + m)) PyData.int (fun left env => ∃ s' found k, env = oE s' found k ∧ (found.length : Int) + left.length = 1 + m ∧ (∀ w ∈ found, Wd w) ∧ found.Nodup ∧ Tok (n + 1 + 20 * found.length) s') ?fhi ?fp ?fh) ?ffin
    case fhi =>
      unfold oE
      simp_arith [evO_fb, argO_fb, isMu_fb, isLk_fb, d1, hi, rangeD_upto]
    case fp => exact ⟨s1, [], none, rfl, by simp [upto_len (show 0 ≤ 1 + m by omega)], fun w hw => by simp at hw, by simp, h1.up (by simp)⟩
    case fh =>
      rintro x left env ⟨s2, found, k, rfl, e1, wd, nd, h2⟩
      simp only [List.length_cons] at e1
      obtain ⟨w, s3, d3, w1, w2, h3⟩ := word_spec h2 (by omega) found wd (by omega)
      have hl : found.length < sizeLine := sl_lt (by omega)
      refine ⟨oE s2 found (some (.int x)), oE s3 (found ++ [w]) (some (.int x)), ?_, ?_, s3, found ++ [w], _, rfl, by simp; omega, Wd.app wd w1, nodup_snoc nd w2, h3.up (by simp; omega)⟩
      · unfold oE
        simp_arith [jk_some]
      · unfold oE
        simp_arith [BF__law_objects_1, evO_fb, argO_fb, isMu_fb, isLk_fb, d3, jk_some, hl, nd01, List.length_map, List.map_append, wS]
    case ffin =>
      rintro env' ⟨q1, s', found, k, rfl, e1, wd, nd, h2⟩
      simp at e1
      exact ⟨s', found, k, q1, e1, wd, nd, h2.up (by omega)⟩
  obtain ⟨s2, found, k, q1, e1, wd, nd, h2⟩ := lf
  have hne : found ≠ [] := by rintro rfl; simp at e1; omega
  have hsl := (sortW_perm found).length_eq
  have lc : ∃ (s3 : Tp) (os : List (List Nat × Int)), LC__law_objects_3 (oE s2 found k) = some (.new (.lst (os.map obD)), oE s3 found k) ∧ os.map (·.1) = sortW found ∧ (∀ o ∈ os, 1 ≤ o.2 ∧ o.2 ≤ 4) ∧ Tok (n + 100) s3 := by
    unfold LC__law_objects_3
    obtain ⟨out, env', q1, s3, os, rfl, rfl, e3, e4, h3⟩ := eLc_list (np := 1) (own := [3]) (fi := iSeq (eN gSortedA (aCons (eV 1) aNil))) (t := .nm 3) (tst := tTrue) (elt := eTup (aCons (eC 3) (aCons (e2 gAdd (eK (.int 1)) (eCall 2 F__law_draw [] (aCons (eV 0) (aCons (eK (.int 4)) aNil)))) aNil)))
      (env := oE s2 found k) (env1 := oE s2 found k) (src := none) (sortW found) wS
      (fun l acc env => ∃ (s3 : Tp) (os : List (List Nat × Int)), env = oE s3 found k ∧ acc = os.map obD ∧ os.map (·.1) ++ l = sortW found ∧ (∀ o ∈ os, 1 ≤ o.2 ∧ o.2 ≤ 4) ∧ Tok (n + 90 + os.length) s3)
      (by
        unfold oE
        simp_all_arith [sortL_words (ws := found) (by omega) hne])
      rfl ⟨s2, [], rfl, rfl, by simp, fun o ho => by simp at ho, h2.up (by simp)⟩ (by
        rintro w l acc env ⟨s3, os, rfl, rfl, e2, e3, h3⟩
        have := congrArg List.length e2
        simp at this
        obtain ⟨z, s4, d4, z0, z1, h4⟩ := draw h3 4
        refine ⟨some (obD (w, 1 + z)), oE s4 found k, ?_, s4, os ++ [(w, 1 + z)], rfl, by simp, by simpa using e2, fun o ho => ?_, h4.up (by simp; omega)⟩
        · unfold oE
          simp_all_arith [v_lcS, tTrue, evO_fb, argO_fb, isMu_fb, isLk_fb, isLk_none, d4, obD, isLk_jk]
        · rcases List.mem_append.mp ho with y | y
          · exact e3 o y
          · simp at y; subst y; exact ⟨by show 1 ≤ 1 + z; omega, by show 1 + z ≤ 4; omega⟩) (by omega)
    have hl := congrArg List.length e3
    simp at hl
    exact ⟨s3, os, q1, by simpa using e3, e4, h3.up (by omega)⟩
  obtain ⟨s3, os, q2, e2, e3, h3⟩ := lc
  have hos := congrArg List.length e2
  rw [List.length_map, hsl] at hos
  refine ⟨os, s3, ?_, ⟨by omega, by omega, fun o ho => ?_, e3, found, nd, e2⟩, h3⟩
  · unfold oE at q1 q2
    simp only [jk_none, List.map_nil] at q1 q2
    simp_all_arith [F__law_objects, q1, q2, objsD]
  · have : o.1 ∈ sortW found := by rw [← e2]; exact List.mem_map_of_mem ho
    exact wd o.1 ((sortW_perm found).mem_iff.mp this)
end Cg

/-! CgA: _law_operand, _law_address. -/
namespace Cg
open PySem PySem.Spec PyProof.Rows L2 ML Dm
/-! ### one of a few -/
theorem at1 {a : D} {r : Int} (h0 : 0 ≤ r) (h1 : r < 1) : atI [a] r = some a := by
  have : r = 0 := by omega
  subst this; rfl
theorem at2 (a b : D) {r : Int} (h0 : 0 ≤ r) (h1 : r < 2) : ∃ d, atI [a, b] r = some d ∧ (d = a ∨ d = b) := by
  have : r = 0 ∨ r = 1 := by omega
  rcases this with rfl | rfl
  · exact ⟨a, rfl, .inl rfl⟩
  · exact ⟨b, rfl, .inr rfl⟩
theorem at3 (a b c : D) {r : Int} (h0 : 0 ≤ r) (h1 : r < 3) : ∃ d, atI [a, b, c] r = some d ∧ (d = a ∨ d = b ∨ d = c) := by
  have : r = 0 ∨ r = 1 ∨ r = 2 := by omega
  rcases this with rfl | rfl | rfl
  · exact ⟨a, rfl, .inl rfl⟩
  · exact ⟨b, rfl, .inr (.inl rfl)⟩
  · exact ⟨c, rfl, .inr (.inr rfl)⟩
theorem at_mem {ds : List D} {r : Int} (h0 : 0 ≤ r) (h1 : r < (ds.length : Nat)) : ∃ d, atI ds r = some d ∧ d ∈ ds := by
  have hj : r.toNat < ds.length := by omega
  exact ⟨ds[r.toNat], atI_get h0 (by simp [hj]), List.getElem_mem hj⟩
/-! ### operands -/
def wi : List Nat := [105]
def wj : List Nat := [106]
def wij : List Nat := [105, 106]
def wn : List Nat := [110]
def wp : List Nat := [112]
theorem str_i : PyData.str (Str.ofString "i") = wS wi := congrArg PyData.str (by decide +kernel)
theorem str_j : PyData.str (Str.ofString "j") = wS wj := congrArg PyData.str (by decide +kernel)
theorem str_ij : PyData.str (Str.ofString "ij") = wS wij := congrArg PyData.str (by decide +kernel)
theorem str_n : PyData.str (Str.ofString "n") = wS wn := congrArg PyData.str (by decide +kernel)
theorem str_p : PyData.str (Str.ofString "p") = wS wp := congrArg PyData.str (by decide +kernel)
/-- an operand: a number of no great size, a word -/
inductive Opd : D → Prop where
  | num (i : Int) : -1000000 ≤ i → i ≤ 1000000 → Opd (.int i)
  | word (w : List Nat) : Wd w → Opd (wS w)
theorem wd_i : Wd wi := ⟨by decide, by decide, fun c hc => by simp [wi] at hc; omega⟩
theorem wd_j : Wd wj := ⟨by decide, by decide, fun c hc => by simp [wj] at hc; omega⟩
theorem wd_ij : Wd wij := ⟨by decide, by decide, fun c hc => by simp [wij] at hc; omega⟩
theorem wd_n : Wd wn := ⟨by decide, by decide, fun c hc => by simp [wn] at hc; omega⟩
theorem wd_p : Wd wp := ⟨by decide, by decide, fun c hc => by simp [wp] at hc; omega⟩
theorem operand_spec {n : Int} {s : Tp} (h : Tok n s) (hn : n < 800000) : ∃ d s', F__law_operand [fb s] = some (.val d, [fb s']) ∧ Opd d ∧ Tok (n + 4) s' := by
  obtain ⟨a, s1, d1, a0, a1, h1⟩ := draw h 5
  obtain ⟨b, s2, d2, b0, b1, h2⟩ := draw h1 2
  obtain ⟨c, s3, d3, c0, c1, h3⟩ := draw h2 3
  obtain ⟨e, s4, d4, e0, e1, h4⟩ := draw h3 6
  have p6 : ((10 : Int) ^ (Int.toNat 6)) = 1000000 := by decide +kernel
  have hx : ∃ x : Int, atI [PyData.int (a - 1), PyData.int (1000000 - b), PyData.int (-1000000)] c = some (.int x) ∧ -1000000 ≤ x ∧ x ≤ 1000000 := by
    obtain ⟨d, q1, q2⟩ := at3 (.int (a - 1)) (.int (1000000 - b)) (.int (-1000000)) c0 c1
    rcases q2 with z | z | z <;> subst z
    · exact ⟨_, q1, by omega, by omega⟩
    · exact ⟨_, q1, by omega, by omega⟩
    · exact ⟨_, q1, by omega, by omega⟩
  obtain ⟨x, q1, x0, x1⟩ := hx
  obtain ⟨d, q2, q3⟩ := at_mem (ds := [PyData.int x, PyData.int x, wS wi, wS wj, wS wij, wS wn]) e0 (by simpa using e1)
  refine ⟨d, s4, ?_, ?_, h4.up (by omega)⟩
  · simp_all_arith [F__law_operand, evO_fb, argO_fb, isMu_fb, isLk_fb, d1, d2, d3, d4, p6, q1, q2, str_i, str_j, str_ij, str_n, natAbs10]
  · simp at q3
    rcases q3 with z | z | z | z | z <;> subst z
    · exact .num x x0 x1
    · exact .word _ wd_i
    · exact .word _ wd_j
    · exact .word _ wd_ij
    · exact .word _ wd_n
/-! ### addresses -/
def kvO (os : List (List Nat × Int)) : List (Key × D) := os.map fun o => (.inr (tx o.1), .int o.2)
theorem pairsOf_objs : ∀ os : List (List Nat × Int), ML.pairsOf (os.map obD) = some (kvO os)
  | [] => rfl
  | o :: os => by
    have ih := pairsOf_objs os
    simp only [List.map_cons, obD, wS, ML.pairsOf, keyD, Option.bind_some, kvO] at ih ⊢
    rw [ih]; rfl
theorem putD_new {kvs : List (Key × D)} {k : Key} {d : D} (h : ∀ p ∈ kvs, p.1 ≠ k) : putD kvs k d = kvs ++ [(k, d)] := by
  unfold putD
  have : (kvs.any fun kv => decide (kv.1 = k)) = false := by
    rw [List.any_eq_false]
    intro p hp
    simpa using h p hp
  rw [this]; rfl
theorem mergeD_new : ∀ {more acc : List (Key × D)}, ((acc ++ more).map (·.1)).Nodup → mergeD acc more = acc ++ more
  | [], acc, _ => by simp [mergeD]
  | (k, d) :: more, acc, h => by
    have hk : ∀ p ∈ acc, p.1 ≠ k := fun p hp z => by
      rw [List.map_append, List.nodup_append] at h
      exact h.2.2 _ (List.mem_map_of_mem hp) k (by simp) z
    have : mergeD acc ((k, d) :: more) = mergeD (putD acc k d) more := rfl
    rw [this, putD_new hk, mergeD_new (by simpa using h)]
    simp
theorem kvO_nodup {os : List (List Nat × Int)} (h : (os.map (·.1)).Nodup) : ((kvO os).map (·.1)).Nodup := by
  have e : (kvO os).map (·.1) = (os.map (·.1)).map fun w => (Sum.inr (tx w) : Key) := by simp [kvO]
  rw [e]
  exact List.pairwise_map.mpr (h.imp fun hne z => hne (tx_inj (Sum.inr.inj z)))
theorem dict_objs {os : List (List Nat × Int)} (h : (os.map (·.1)).Nodup) : mergeD [] (kvO os) = kvO os := mergeD_new (by simpa using kvO_nodup h)
def szOf (os : List (List Nat × Int)) (w : List Nat) : Int := ((os.find? fun o => decide (o.1 = w)).map (·.2)).getD 0
theorem lk_objs {w : List Nat} : ∀ {os : List (List Nat × Int)}, w ∈ os.map (·.1) → lkD (kvO os) (.inr (tx w)) = some (.int (szOf os w)) ∧ ∃ o ∈ os, szOf os w = o.2 ∧ o.1 = w
  | [], h => by simp at h
  | o :: os, h => by
    by_cases e : o.1 = w
    · refine ⟨?_, o, List.mem_cons_self .., ?_, e⟩
      · show lkD ((.inr (tx o.1), .int o.2) :: kvO os) _ = _
        rw [lkD_pos (by rw [e])]
        simp [szOf, e]
      · simp [szOf, e]
    · have hm : w ∈ os.map (·.1) := by
        rw [List.map_cons] at h
        exact (List.mem_cons.mp h).resolve_left (Ne.symm e)
      obtain ⟨h1, o', h2, h3, h4⟩ := lk_objs hm
      have es : szOf (o :: os) w = szOf os w := by simp [szOf, e]
      refine ⟨?_, o', List.mem_cons_of_mem _ h2, by rw [es]; exact h3, h4⟩
      show lkD ((.inr (tx o.1), .int o.2) :: kvO os) _ = _
      rw [lkD_neg (fun z => e (tx_inj (Sum.inr.inj z))), h1, es]
def aE (s : Tp) (os : List (List Nat × Int)) (rest som : Option (List (List Nat))) (k least pick index : Option D) : En :=
  [some (fb s), some (.val (objsD os)), rest.map fun l => .mu (.lst (l.map wS)), som.map fun l => .mu (.lst (l.map wS)), jk k, jk least, jk pick, jk index, none, none]
def aD (som : List (List Nat)) (pick index : D) : D := .tuple [.tuple (som.map wS), pick, index]
structure AdrOk (os : List (List Nat × Int)) (som : List (List Nat)) (pick index : D) : Prop where
  pos : 0 < som.length
  len : som.length ≤ 4
  nd : som.Nodup
  sub : ∀ w ∈ som, w ∈ os.map (·.1)
  pick : (∃ i : Int, pick = .int i ∧ 0 ≤ i ∧ i < som.length) ∨ pick = wS wi ∨ pick = wS wp
  index : (∃ i : Int, index = .int i ∧ 0 ≤ i ∧ ∀ w ∈ som, i < szOf os w) ∨ index = wS wi ∨ index = wS wj
theorem seqIndex_of {n : Int} {m : Nat} (h0 : 0 ≤ n) (h1 : n < m) : seqIndex? n m = some n.toNat := (ixN_seq (by unfold L2.ixN; simp [h0, h1])).1
theorem erase_map : ∀ {l : List (List Nat)} (j : Nat), (l.map wS).eraseIdx j = (l.eraseIdx j).map wS
  | [], j => by simp
  | w :: l, 0 => by simp
  | w :: l, j + 1 => by simp [erase_map (l := l) j]
theorem erase_perm {α : Type} : ∀ {l : List α} {j : Nat} (h : j < l.length), (l[j] :: l.eraseIdx j).Perm l
  | w :: l, 0, _ => by simp
  | w :: l, j + 1, h => by
    have ih := erase_perm (l := l) (j := j) (by simpa using h)
    simp only [List.getElem_cons_succ, List.eraseIdx_cons_succ]
    exact (List.Perm.swap ..).trans (ih.cons w)
theorem address_spec {n : Int} {s : Tp} (h : Tok n s) (hn : n < 700000) {os : List (List Nat × Int)} (ok : ObjsOk os) :
    ∃ som pick index s', F__law_address [fb s, .val (objsD os)] = some (.val (aD som pick index), [fb s', .val (objsD os)]) ∧ AdrOk os som pick index ∧ Tok (n + 20) s' := by
  have h4 := ok.four
  have hp := ok.pos
  have lc1 : LC__law_address_1 (aE s os none none none none none none) = some (.new (.lst ((os.map (·.1)).map wS)), aE s os none none none none none none) := by
    unfold LC__law_address_1
    have := eLc_of (np := 2) (own := [8, 9]) (fi := iSeq (eV 1)) (t := .tp [(.nm 8), (.nm 9)]) (tst := tTrue) (elt := eC 8) (env := aE s os none none none none none none) (env1 := aE s os none none none none none none) (src := none)
      os obD (fun _ => true) (fun o => wS o.1) (by unfold aE objsD; simp_all_arith [jk_none]) rfl (fun o ho => by unfold aE; simp_all_arith [v_lcS, tTrue, obD, isLk_fb, isLk_none, jk_none]) (by omega)
    rw [this, List.filter_eq_self.mpr (by simp)]
    simp [unlock]
  obtain ⟨m, s1, d1, m0, m1, h1⟩ := draw h (os.length : Nat)
  have hi := rgI_of (n := 1 + m) (by omega) (by omega)
  have lf : ∃ s2 rest som k, LF__law_address_3 (aE s os (some (os.map (·.1))) (some []) none none none none) = some (.nx, aE s2 os (some rest) (some som) k none none none) ∧ (som.length : Int) = 1 + m ∧ (rest ++ som).Perm (os.map (·.1)) ∧ Tok (n + 6) s2 := by
    refine Exists.elim (sFor_list (np := 2) (fi := iRng1 (e2 gAdd (eK (.int 1)) (eCall 2 F__law_draw [] (aCons (eV 0) (aCons (eN gLen (aCons (eV 1) aNil)) aNil))))) (t := .nm 4) (body := BF__law_address_2) (env := aE s os (some (os.map (·.1))) (some []) none none none none) (env1 := aE s1 os (some (os.map (·.1))) (some []) none none none none) (src := none)
      (upto (1 + m)) PyData.int (fun left env => ∃ (s2 : Tp) (rest som : List (List Nat)) (k : Option D), env = aE s2 os (some rest) (some som) k none none none ∧ (som.length : Int) + left.length = 1 + m ∧ (rest ++ som).Perm (os.map (·.1)) ∧ Tok (n + 1 + som.length) s2) ?fhi ?fp ?fh) ?ffin
    case fhi =>
      unfold aE objsD
      simp_all_arith [evO_fb, argO_fb, isMu_fb, isLk_fb, d1, hi, rangeD_upto, Option.map_some, jk_none, List.length_map]
    case fp => exact ⟨s1, os.map (·.1), [], none, rfl, by simp [upto_len (show 0 ≤ 1 + m by omega)], by simp, h1.up (by simp)⟩
    case fh =>
      rintro x left env ⟨s2, rest, som, k, rfl, e1, pm, h2⟩
      simp only [List.length_cons] at e1
      have hpl := pm.length_eq
      rw [List.length_append, List.length_map] at hpl
      obtain ⟨r, s3, d3, r0, r1, h3⟩ := draw h2 (rest.length : Nat)
      have hr : r.toNat < rest.length := by omega
      have hix : seqIndex? r ((rest.map wS).length) = some r.toNat := by rw [List.length_map]; exact seqIndex_of r0 r1
      have hget : (rest.map wS)[r.toNat]? = some (wS rest[r.toNat]) := by simp [hr]
      have hpop := @v_popA [some (fb s3), some (.val (objsD os)), some (.mu (.lst (rest.map wS))), some (.mu (.lst (som.map wS))), some (.val (.int x)), none, none, none, none, none] 2 (wS rest[r.toNat]) (rest.map wS) r r.toNat ⟨by omega, by omega⟩ hix hget
      have hsl : som.length < sizeLine := sl_lt (by omega)
      refine ⟨aE s2 os (some rest) (some som) (some (.int x)) none none none, aE s3 os (some (rest.eraseIdx r.toNat)) (some (som ++ [rest[r.toNat]])) (some (.int x)) none none none, ?_, ?_, s3, _, _, _, rfl, by simp; omega, ?_, h3.up (by simp; omega)⟩
      · unfold aE
        simp_arith [jk_some, jk_none, Option.map_some]
      · rw [erase_map] at hpop
        unfold aE
        simp_all_arith [BF__law_address_2, evO_fb, argO_fb, isMu_fb, isLk_fb, d3, jk_some, jk_none, Option.map_some, List.length_map, hpop, hsl, List.map_append, List.map_cons, List.map_nil]
      · refine List.Perm.trans ?_ pm
        have e := erase_perm hr
        rw [← List.append_assoc]
        refine List.Perm.trans List.perm_append_comm ?_
        exact e.append_right som
    case ffin =>
      rintro env' ⟨q1, s', rest, som, k, rfl, e1, pm, h2⟩
      simp at e1
      exact ⟨s', rest, som, k, q1, e1, pm, h2.up (by omega)⟩
  obtain ⟨s2, rest, som, k, q1, e1, pm, h2⟩ := lf
  have hsl : som.length ≤ 4 := by omega
  have hnd : (rest ++ som).Nodup := pm.nodup_iff.mpr ok.nodup
  have hsub : ∀ w ∈ som, w ∈ os.map (·.1) := fun w hw => pm.mem_iff.mp (List.mem_append_right _ hw)
  have hsz : ∀ w ∈ som, 1 ≤ szOf os w ∧ szOf os w ≤ 4 := fun w hw => by
    obtain ⟨_, o, ho, e, _⟩ := lk_objs (hsub w hw)
    rw [e]; exact ok.size o ho
  have lc2 : LC__law_address_4 (aE s2 os (some rest) (some som) k none none none) = some (.new (.lst ((som.map (szOf os)).map PyData.int)), aE s2 os (some rest) (some som) k none none none) := by
    unfold LC__law_address_4
    have hd := dict_objs ok.nodup
    have hp2 := pairsOf_objs os
    have := eLc_of (np := 2) (own := [8]) (fi := iSeq (eV 3)) (t := .nm 8) (tst := tTrue) (elt := e2 gIx (eN gDictA (aCons (eV 1) aNil)) (eC 8)) (env := aE s2 os (some rest) (some som) k none none none) (env1 := [some (fb s2), some (.val (objsD os)), some (.mu (.lst (rest.map wS))), some (.lk (.lst (som.map wS))), jk k, none, none, none, none, none]) (src := some 3)
      som wS (fun _ => true) (fun w => .int (szOf os w)) (by unfold aE; simp_all_arith [jk_none, Option.map_some]) rfl (fun w hw => by
        have hlk := (lk_objs (hsub w hw)).1
        unfold objsD wS
        simp_all_arith [v_lcS, tTrue, hp2, hd, hlk, isLk_fb, isLk_none, isLk_jk, jk_none]) (by omega)
    rw [this, List.filter_eq_self.mpr (by simp)]
    simp [unlock, aE]
    rfl
  have hmin : ∃ least, minI (som.map (szOf os)) = some least ∧ 1 ≤ least ∧ least ≤ 4 ∧ ∀ w ∈ som, least ≤ szOf os w := by
    obtain ⟨x, hx⟩ := minI_some (ns := som.map (szOf os)) (fun z => by rw [List.map_eq_nil_iff] at z; rw [z] at e1; simp at e1; omega)
    obtain ⟨x1, x2⟩ := minI_spec hx
    obtain ⟨w, hw, rfl⟩ := List.mem_map.mp x1
    exact ⟨_, hx, (hsz w hw).1, (hsz w hw).2, fun v hv => x2 _ (List.mem_map_of_mem hv)⟩
  obtain ⟨least, hmin, l0, l1, l2⟩ := hmin
  obtain ⟨a, s3, d3, a0, a1, h3⟩ := draw h2 (som.length : Nat)
  obtain ⟨b, s4, d4, b0, b1, h4'⟩ := draw h3 2
  obtain ⟨c, s5, d5, c0, c1, h5⟩ := draw h4' 2
  obtain ⟨x, q2, x2⟩ := at2 (wS wi) (wS wp) b0 b1
  obtain ⟨pick, q3, x3⟩ := at2 (.int a) x c0 c1
  obtain ⟨a', s6, d6, a0', a1', h6⟩ := draw h5 least
  obtain ⟨b', s7, d7, b0', b1', h7⟩ := draw h6 2
  obtain ⟨c', s8, d8, c0', c1', h8⟩ := draw h7 2
  obtain ⟨x', q2', x2'⟩ := at2 (wS wi) (wS wj) b0' b1'
  obtain ⟨index, q3', x3'⟩ := at2 (.int a') x' c0' c1'
  refine ⟨som, pick, index, s8, ?_, ⟨by omega, hsl, (List.nodup_append.mp hnd).2.1, hsub, ?_, ?_⟩, h8.up (by omega)⟩
  · unfold aE at lc1 q1 lc2
    simp only [jk_none, Option.map_some, Option.map_none, List.map_nil] at lc1 q1 lc2
    simp_all_arith [F__law_address, lc1, q1, lc2, intsOf_map, hmin, evO_fb, argO_fb, isMu_fb, isLk_fb, List.length_map, d3, d4, d5, d6, d7, d8, str_i, str_p, str_j, q2, q3, q2', q3', isLk_jk, aD]
  · rcases x3 with z | z
    · exact .inl ⟨a, z, a0, a1⟩
    · rcases x2 with y | y
      · exact .inr (.inl (z.trans y))
      · exact .inr (.inr (z.trans y))
  · rcases x3' with z | z
    · exact .inl ⟨a', z, a0', fun w hw => by have := l2 w hw; omega⟩
    · rcases x2' with y | y
      · exact .inr (.inl (z.trans y))
      · exact .inr (.inr (z.trans y))
end Cg

/-! CgR: _law_row, _law_end. -/
namespace Cg
open PySem PySem.Spec PyProof.Rows L2 ML Dm
theorem k_load_load : (Str.ofString "load" == Str.ofString "load") = true := by decide +kernel
theorem k_load_store : (Str.ofString "load" == Str.ofString "store") = false := by decide +kernel
theorem k_load_touch : (Str.ofString "load" == Str.ofString "touch") = false := by decide +kernel
theorem k_load_set : (Str.ofString "load" == Str.ofString "set") = false := by decide +kernel
theorem k_load_call : (Str.ofString "load" == Str.ofString "call") = false := by decide +kernel
theorem k_store_load : (Str.ofString "store" == Str.ofString "load") = false := by decide +kernel
theorem k_store_store : (Str.ofString "store" == Str.ofString "store") = true := by decide +kernel
theorem k_store_touch : (Str.ofString "store" == Str.ofString "touch") = false := by decide +kernel
theorem k_store_set : (Str.ofString "store" == Str.ofString "set") = false := by decide +kernel
theorem k_store_call : (Str.ofString "store" == Str.ofString "call") = false := by decide +kernel
theorem k_touch_load : (Str.ofString "touch" == Str.ofString "load") = false := by decide +kernel
theorem k_touch_store : (Str.ofString "touch" == Str.ofString "store") = false := by decide +kernel
theorem k_touch_touch : (Str.ofString "touch" == Str.ofString "touch") = true := by decide +kernel
theorem k_touch_set : (Str.ofString "touch" == Str.ofString "set") = false := by decide +kernel
theorem k_touch_call : (Str.ofString "touch" == Str.ofString "call") = false := by decide +kernel
theorem k_set_load : (Str.ofString "set" == Str.ofString "load") = false := by decide +kernel
theorem k_set_store : (Str.ofString "set" == Str.ofString "store") = false := by decide +kernel
theorem k_set_touch : (Str.ofString "set" == Str.ofString "touch") = false := by decide +kernel
theorem k_set_set : (Str.ofString "set" == Str.ofString "set") = true := by decide +kernel
theorem k_set_call : (Str.ofString "set" == Str.ofString "call") = false := by decide +kernel
theorem k_tell_load : (Str.ofString "tell" == Str.ofString "load") = false := by decide +kernel
theorem k_tell_store : (Str.ofString "tell" == Str.ofString "store") = false := by decide +kernel
theorem k_tell_touch : (Str.ofString "tell" == Str.ofString "touch") = false := by decide +kernel
theorem k_tell_set : (Str.ofString "tell" == Str.ofString "set") = false := by decide +kernel
theorem k_tell_call : (Str.ofString "tell" == Str.ofString "call") = false := by decide +kernel
theorem k_need_load : (Str.ofString "need" == Str.ofString "load") = false := by decide +kernel
theorem k_need_store : (Str.ofString "need" == Str.ofString "store") = false := by decide +kernel
theorem k_need_touch : (Str.ofString "need" == Str.ofString "touch") = false := by decide +kernel
theorem k_need_set : (Str.ofString "need" == Str.ofString "set") = false := by decide +kernel
theorem k_need_call : (Str.ofString "need" == Str.ofString "call") = false := by decide +kernel
theorem k_call_load : (Str.ofString "call" == Str.ofString "load") = false := by decide +kernel
theorem k_call_store : (Str.ofString "call" == Str.ofString "store") = false := by decide +kernel
theorem k_call_touch : (Str.ofString "call" == Str.ofString "touch") = false := by decide +kernel
theorem k_call_set : (Str.ofString "call" == Str.ofString "set") = false := by decide +kernel
theorem k_call_call : (Str.ofString "call" == Str.ofString "call") = true := by decide +kernel
inductive RowOk (os : List (List Nat × Int)) (called : List (List Nat)) : D → Prop where
  | load (nm som : List _) (p x : D) : nm = wi ∨ nm = wj ∨ nm = wn → AdrOk os som p x → RowOk os called (.tuple [.str "load", wS nm, aD som p x])
  | store (som : List _) (p x o : D) : AdrOk os som p x → Opd o → RowOk os called (.tuple [.str "store", aD som p x, o])
  | touch (som : List _) (p x : D) : AdrOk os som p x → RowOk os called (.tuple [.str "touch", aD som p x])
  | set (nm : List Nat) (sg : Str) (a b : D) : nm = wi ∨ nm = wj ∨ nm = wn → sg = "+" ∨ sg = "-" ∨ sg = "*" ∨ sg = "<" → Opd a → Opd b → RowOk os called (.tuple [.str "set", wS nm, .str sg, a, b])
  | tell (o : D) : Opd o → RowOk os called (.tuple [.str "tell", o])
  | need (o : D) : Opd o → RowOk os called (.tuple [.str "need", o])
  | call (w : List Nat) : w ∈ called → RowOk os called (.tuple [.str "call", wS w])
theorem row_spec {n : Int} {s : Tp} (h : Tok n s) (hn : n < 600000) {os : List (List Nat × Int)} (ok : ObjsOk os) (called : List (List Nat)) (hc : ∀ w ∈ called, Wd w) (hcl : called.length ≤ 10) :
    ∃ d s', F__law_row [fb s, .val (objsD os), .mu (.lst (called.map wS))] = some (.val d, [fb s', .val (objsD os), .mu (.lst (called.map wS))]) ∧ RowOk os called d ∧ Tok (n + 50) s' := by
  have hlw : ∀ w ∈ called, Lw w := fun w hw => (hc w hw).2.2
  have shs := sh_words hlw
  have sh0 : SeqAt.shaped (.list []) = true := by decide +kernel
  have hm : ∃ m : Int, (6 : Int) + (if (!called.isEmpty) = true then 1 else 0) = m ∧ 6 ≤ m ∧ m ≤ 7 ∧ (m = 7 → called ≠ []) := by
    cases called with
    | nil => exact ⟨6, rfl, by omega, by omega, by omega⟩
    | cons a l => exact ⟨7, rfl, by omega, by omega, fun _ z => by cases z⟩
  obtain ⟨m, em, m6, m7, mne⟩ := hm
  obtain ⟨r, s1, d1, r0, r1, h1⟩ := draw h m
  obtain ⟨b, s2, d2, b0, b1, h2⟩ := draw h1 3
  obtain ⟨nm, q2, hnm⟩ := at3 (wS wi) (wS wj) (wS wn) b0 b1
  obtain ⟨som, p, x, s3, d3, adr, h3⟩ := address_spec h2 (by omega) ok
  obtain ⟨o, s4, d4, ho, h4⟩ := operand_spec h3 (by omega)
  obtain ⟨c, s5, d5, c0, c1, h5⟩ := draw h4 4
  obtain ⟨sg, q5, hsg⟩ := at_mem (ds := [PyData.str "+", .str "-", .str "*", .str "<"]) c0 (by simpa using c1)
  obtain ⟨o2, s6, d6, ho2, h6⟩ := operand_spec h5 (by omega)
  have hnm' : ∃ w : List Nat, nm = wS w ∧ (w = wi ∨ w = wj ∨ w = wn) := by
    rcases hnm with z | z | z
    · exact ⟨_, z, .inl rfl⟩
    · exact ⟨_, z, .inr (.inl rfl)⟩
    · exact ⟨_, z, .inr (.inr rfl)⟩
  have hsg' : ∃ g : Str, sg = .str g ∧ (g = "+" ∨ g = "-" ∨ g = "*" ∨ g = "<") := by
    simp at hsg
    rcases hsg with z | z | z | z
    · exact ⟨_, z, .inl rfl⟩
    · exact ⟨_, z, .inr (.inl rfl)⟩
    · exact ⟨_, z, .inr (.inr (.inl rfl))⟩
    · exact ⟨_, z, .inr (.inr (.inr rfl))⟩
  obtain ⟨w, rfl, hw⟩ := hnm'
  obtain ⟨g, rfl, hg⟩ := hsg'
  have hr : r = 0 ∨ r = 1 ∨ r = 2 ∨ r = 3 ∨ r = 4 ∨ r = 5 ∨ r = 6 := by omega
  have at0 : atI [PyData.str "load", .str "store", .str "touch", .str "set", .str "tell", .str "need", .str "call"] 0 = some (.str "load") := rfl
  have at1 : atI [PyData.str "load", .str "store", .str "touch", .str "set", .str "tell", .str "need", .str "call"] 1 = some (.str "store") := rfl
  have at2 : atI [PyData.str "load", .str "store", .str "touch", .str "set", .str "tell", .str "need", .str "call"] 2 = some (.str "touch") := rfl
  have at3 : atI [PyData.str "load", .str "store", .str "touch", .str "set", .str "tell", .str "need", .str "call"] 3 = some (.str "set") := rfl
  have at4 : atI [PyData.str "load", .str "store", .str "touch", .str "set", .str "tell", .str "need", .str "call"] 4 = some (.str "tell") := rfl
  have at5 : atI [PyData.str "load", .str "store", .str "touch", .str "set", .str "tell", .str "need", .str "call"] 5 = some (.str "need") := rfl
  have at6 : atI [PyData.str "load", .str "store", .str "touch", .str "set", .str "tell", .str "need", .str "call"] 6 = some (.str "call") := rfl
  rcases hr with rfl | rfl | rfl | rfl | rfl | rfl | rfl
  · refine ⟨_, s6, ?_, .load w som p x hw adr, h6.up (by omega)⟩
    simp_all_arith [F__law_row, evO_fb, argO_fb, isMu_fb, isLk_fb, shs, sh0, eqv_words_nil, em, d1, d2, d3, d4, d5, d6, str_i, str_j, str_n, q2, q5, at0, k_load_load]
  · refine ⟨_, s6, ?_, .store som p x o adr ho, h6.up (by omega)⟩
    simp_all_arith [F__law_row, evO_fb, argO_fb, isMu_fb, isLk_fb, shs, sh0, eqv_words_nil, em, d1, d2, d3, d4, d5, d6, str_i, str_j, str_n, q2, q5, at1, k_store_load, k_store_store]
  · refine ⟨_, s6, ?_, .touch som p x adr, h6.up (by omega)⟩
    simp_all_arith [F__law_row, evO_fb, argO_fb, isMu_fb, isLk_fb, shs, sh0, eqv_words_nil, em, d1, d2, d3, d4, d5, d6, str_i, str_j, str_n, q2, q5, at2, k_touch_load, k_touch_store, k_touch_touch]
  · refine ⟨_, s6, ?_, .set w g o o2 hw hg ho ho2, h6.up (by omega)⟩
    simp_all_arith [F__law_row, evO_fb, argO_fb, isMu_fb, isLk_fb, shs, sh0, eqv_words_nil, em, d1, d2, d3, d4, d5, d6, str_i, str_j, str_n, q2, q5, at3, k_set_load, k_set_store, k_set_touch, k_set_set]
  · refine ⟨_, s6, ?_, .tell o ho, h6.up (by omega)⟩
    simp_all_arith [F__law_row, evO_fb, argO_fb, isMu_fb, isLk_fb, shs, sh0, eqv_words_nil, em, d1, d2, d3, d4, d5, d6, str_i, str_j, str_n, q2, q5, at4, k_tell_load, k_tell_store, k_tell_touch, k_tell_set, k_tell_call]
  · refine ⟨_, s6, ?_, .need o ho, h6.up (by omega)⟩
    simp_all_arith [F__law_row, evO_fb, argO_fb, isMu_fb, isLk_fb, shs, sh0, eqv_words_nil, em, d1, d2, d3, d4, d5, d6, str_i, str_j, str_n, q2, q5, at5, k_need_load, k_need_store, k_need_touch, k_need_set, k_need_call]
  · have hne := mne (by omega)
    have hpos := List.length_pos_iff.mpr hne
    obtain ⟨e, s7, d7, e0, e1, h7⟩ := draw h6 (called.length : Nat)
    obtain ⟨v, hv, hat⟩ := atI_map e0 e1
    have hat : atI (called.map wS) e = some (wS v) := hat
    refine ⟨_, s7, ?_, .call v hv, h7.up (by omega)⟩
    simp_all_arith [F__law_row, evO_fb, argO_fb, isMu_fb, isLk_fb, shs, sh0, eqv_words_nil, em, d1, d2, d3, d4, d5, d6, str_i, str_j, str_n, q2, q5, at6, k_call_load, k_call_store, k_call_touch, k_call_set, k_call_call, List.length_map, d7, hat]
theorem end_spec {n : Int} {s : Tp} (h : Tok n s) (hn : n < 700000) (m : Int) (hm : 0 < m) (hm2 : m < 1000) :
    ∃ g s', F__law_end [fb s, .val (.int m)] = some (.val (Gd.d g), [fb s', .val (.int m)]) ∧ (∀ c ∈ g.outs, 0 ≤ c ∧ c < m) ∧ (∀ op a b, g = .iff op a b → Opd op) ∧ Tok (n + 10) s' := by
  obtain ⟨a, s1, d1, a0, a1, h1⟩ := draw h m
  obtain ⟨b, s2, d2, b0, b1, h2⟩ := draw h1 m
  obtain ⟨o, s3, d3, ho, h3⟩ := operand_spec h2 (by omega)
  obtain ⟨c, s4, d4, c0, c1, h4⟩ := draw h3 4
  have key : ∃ g : Gd, atI [Gd.d (.go a), Gd.d (.iff o a b), Gd.d (.iff o a b), Gd.d .back] c = some g.d ∧ (∀ c ∈ g.outs, 0 ≤ c ∧ c < m) ∧ (∀ op a b, g = .iff op a b → Opd op) := by
    have : c = 0 ∨ c = 1 ∨ c = 2 ∨ c = 3 := by omega
    rcases this with rfl | rfl | rfl | rfl
    · exact ⟨.go a, rfl, fun c hc => by simp [Gd.outs] at hc; omega, fun _ _ _ z => by cases z⟩
    · exact ⟨.iff o a b, rfl, fun c hc => by simp [Gd.outs] at hc; omega, fun _ _ _ z => by cases z; exact ho⟩
    · exact ⟨.iff o a b, rfl, fun c hc => by simp [Gd.outs] at hc; omega, fun _ _ _ z => by cases z; exact ho⟩
    · exact ⟨.back, rfl, fun c hc => by simp [Gd.outs] at hc, fun _ _ _ z => by cases z⟩
  obtain ⟨g, q, g1, g2⟩ := key
  refine ⟨g, s4, ?_, g1, g2, h4.up (by omega)⟩
  have q : atI [PyData.tuple [.str "go", .int a], .tuple [.str "if", o, .int a, .int b], .tuple [.str "if", o, .int a, .int b], .tuple [.str "back"]] c = some g.d := q
  simp_all_arith [F__law_end, evO_fb, argO_fb, isMu_fb, isLk_fb, d1, d2, d3, d4, q]
end Cg

/-! CgC: _law_code. -/
namespace Cg
open PySem PySem.Spec PyProof.Rows L2 ML Dm
def rtD (r : List Nat × Gr) : D := .tuple [wS r.1, .tuple (r.2.map blkD)]
def cdD (os : List (List Nat × Int)) (rts : List (List Nat × Gr)) : D := .tuple [objsD os, .tuple (rts.map rtD)]
def wmain : List Nat := [109, 97, 105, 110]
theorem str_main : PyData.str (Str.ofString "main") = wS wmain := congrArg PyData.str (by decide +kernel)
theorem wd_main : Wd wmain := ⟨by decide, by decide, fun c hc => by simp [wmain] at hc; omega⟩
/-- a block: rows, an end among m blocks -/
structure BlkOk (os : List (List Nat × Int)) (called : List (List Nat)) (m : Int) (g : D × Gd) : Prop where
  rows : ∃ rs : List D, g.1 = .tuple rs ∧ rs.length ≤ 6 ∧ ∀ r ∈ rs, RowOk os called r
  outs : ∀ c ∈ g.2.outs, 0 ≤ c ∧ c < m
  opd : ∀ op a b, g.2 = .iff op a b → Opd op
structure RtOk (os : List (List Nat × Int)) (called : List (List Nat)) (r : List Nat × Gr) : Prop where
  pos : 0 < r.2.length
  six : r.2.length ≤ 6
  blk : ∀ g ∈ r.2, BlkOk os called r.2.length g
structure CodeOk (os : List (List Nat × Int)) (called : List (List Nat)) (rts : List (List Nat × Gr)) : Prop where
  objs : ObjsOk os
  len : called.length ≤ 5
  wd : ∀ w ∈ called, Wd w
  nd : (called ++ [wmain]).Nodup
  names : rts.map (·.1) = sortW (called ++ [wmain])
  rt : ∀ r ∈ rts, RtOk os called r
theorem RtOk.okG {os : List (List Nat × Int)} {called : List (List Nat)} {r : List Nat × Gr} (h : RtOk os called r) : OkG r.2 := by
  refine ⟨h.pos, h.six, fun b c hc => ?_⟩
  unfold E at hc
  split at hc
  · rename_i g hg
    rw [usort_mem] at hc
    exact (h.blk g (List.mem_of_getElem? hg)).outs c hc
  · cases hc
def cE (s : Tp) (nr nb nw : Int) (os : List (List Nat × Int)) (called : List (List Nat)) (k : Option D) (found : Option (List (List Nat × Gr))) (name many : Option D) (own : Option Gr) (block : Option D) (som : Option (List D)) : En :=
  [some (fb s), some (.val (.int nr)), some (.val (.int nb)), some (.val (.int nw)), some (.val (objsD os)), some (.mu (.lst (called.map wS))), jk k, found.map fun l => .mu (.lst (l.map rtD)), jk name, jk many, own.map fun g => .mu (.lst (g.map blkD)), jk block, som.map fun l => .mu (.lst l)]
theorem nd05 : ([0, 5] : List Nat).Nodup := by decide
theorem isMu_mu {o : O} : isMu (some (.mu o)) = true := rfl
/-- the rows of one block -/
theorem rows_spec {n : Int} {s : Tp} (h : Tok n s) (hn : n < 500000) {nr nb nw : Int} (hw0 : 0 ≤ nw) (hw : nw ≤ 6) {os : List (List Nat × Int)} (ok : ObjsOk os) {called : List (List Nat)} (hc : ∀ w ∈ called, Wd w) (hcl : called.length ≤ 10) (k : Option D) (found : Option (List (List Nat × Gr))) (name many : Option D) (own : Option Gr) (block : Option D) (som : Option (List D)) :
    ∃ rs s', LC__law_code_3 (cE s nr nb nw os called k found name many own block som) = some (.new (.lst rs), cE s' nr nb nw os called k found name many own block som) ∧ rs.length ≤ 6 ∧ (∀ r ∈ rs, RowOk os called r) ∧ Tok (n + 310) s' := by
  obtain ⟨m, s1, d1, m0, m1, h1⟩ := draw h (nw + 1)
  have hi := rgI_of (n := m) (by omega) (by omega)
  unfold LC__law_code_3
  obtain ⟨out, env', q1, s2, rfl, e1, e2, h2⟩ := eLc_list (np := 4) (own := [6]) (fi := iRng1 (eCall 2 F__law_draw [] (aCons (eV 0) (aCons (e2 gAdd (eV 3) (eK (.int 1))) aNil)))) (t := .nm 6) (tst := tTrue) (elt := eCall 3 F__law_row [] (aCons (eV 0) (aCons (eV 4) (aCons (eV 5) aNil))))
    (env := cE s nr nb nw os called k found name many own block som) (env1 := cE s1 nr nb nw os called k found name many own block som) (src := none) (upto m) PyData.int
    (fun l acc env => ∃ s2, env = cE s2 nr nb nw os called none found name many own block som ∧ (acc.length : Int) + l.length = m ∧ (∀ r ∈ acc, RowOk os called r) ∧ Tok (n + 1 + 50 * acc.length) s2)
    (by
      unfold cE
      simp_all_arith [evO_fb, argO_fb, isMu_fb, isLk_fb, d1, hi, rangeD_upto])
    (by cases k <;> cases found <;> cases name <;> cases many <;> cases own <;> cases block <;> cases som <;> rfl) ⟨s1, rfl, by simp [upto_len m0], fun r hr => by simp at hr, h1.up (by simp)⟩ (by
      rintro x l acc env ⟨s2, rfl, e1, e2, h2⟩
      simp only [List.length_cons] at e1
      obtain ⟨d, s3, d3, rk, h3⟩ := row_spec h2 (by omega) ok called hc hcl
      refine ⟨some d, cE s3 nr nb nw os called none found name many own block som, ?_, s3, rfl, by simp; omega, fun r hr => ?_, h3.up (by simp; omega)⟩
      · unfold cE
        simp_all_arith [v_lcS, tTrue, evO_fb, argO_fb, isMu_fb, isLk_fb, isLk_none, jk_none, d3, nd05]
      · rcases List.mem_append.mp hr with z | z
        · exact e2 r z
        · simp at z; subst z; exact rk) (by have := upto_len m0; omega)
  simp at e1
  refine ⟨out, s2, ?_, by omega, e2, h2.up (by omega)⟩
  rw [q1]
  rfl
theorem isLk_om {α : Type} {o : Option α} {f : α → List D} : isLk (o.map fun l => B.mu (.lst (f l))) = false := by cases o <;> rfl
/-- one block -/
theorem block_turn {n : Int} {s : Tp} (h : Tok n s) (hn : n < 400000) {nr nb nw : Int} (hw0 : 0 ≤ nw) (hw : nw ≤ 6) {os : List (List Nat × Int)} (ok : ObjsOk os) {called : List (List Nat)} (hc : ∀ w ∈ called, Wd w) (hcl : called.length ≤ 10) (k : Option D) (found : List (List Nat × Gr)) (name : Option D) (m : Int) (hm0 : 0 < m) (hm : m ≤ 6) (own : Gr) (ho : own.length ≤ 6) (block : Option D) (som : Option (List D)) :
    ∃ g s' som', BF__law_code_4 (cE s nr nb nw os called k (some found) name (some (.int m)) (some own) block som) = some (.nx, cE s' nr nb nw os called k (some found) name (some (.int m)) (some (own ++ [g])) block som') ∧ BlkOk os called m g ∧ Tok (n + 330) s' := by
  obtain ⟨rs, s1, q1, rl, rk, h1⟩ := rows_spec h (by omega) hw0 hw ok hc hcl k (some found) name (some (.int m)) (some own) block som (nr := nr) (nb := nb)
  obtain ⟨g, s2, d2, g1, g2, h2⟩ := end_spec h1 (by omega) m hm0 (by omega)
  have hl : own.length < sizeLine := sl_lt (by omega)
  refine ⟨(.tuple rs, g), s2, some rs, ?_, ⟨⟨rs, rfl, rl, rk⟩, g1, g2⟩, h2.up (by omega)⟩
  unfold cE at q1 ⊢
  simp only [Option.map_some, jk_some] at q1 ⊢
  simp_all_arith [BF__law_code_4, q1, evO_fb, argO_fb, isMu_fb, isLk_fb, isLk_om, isLk_jk, d2, hl, List.length_map, List.map_append, blkD]
/-- a routine's blocks -/
theorem blocks_loop {n : Int} {s : Tp} (h : Tok n s) (hn : n < 300000) {nr nb nw : Int} (hw0 : 0 ≤ nw) (hw : nw ≤ 6) {os : List (List Nat × Int)} (ok : ObjsOk os) {called : List (List Nat)} (hc : ∀ w ∈ called, Wd w) (hcl : called.length ≤ 10) (k : Option D) (found : List (List Nat × Gr)) (name : Option D) (m : Int) (hm0 : 0 < m) (hm : m ≤ 6) (block : Option D) (som : Option (List D)) :
    ∃ gs s' block' som', LF__law_code_5 (cE s nr nb nw os called k (some found) name (some (.int m)) (some []) block som) = some (.nx, cE s' nr nb nw os called k (some found) name (some (.int m)) (some gs) block' som') ∧ (gs.length : Int) = m ∧ (∀ g ∈ gs, BlkOk os called m g) ∧ Tok (n + 2000) s' := by
  have hi := rgI_of (n := m) (by omega) (by omega)
  refine Exists.elim (sFor_list (np := 4) (fi := iRng1 (eV 9)) (t := .nm 11) (body := BF__law_code_4) (env := cE s nr nb nw os called k (some found) name (some (.int m)) (some []) block som) (env1 := cE s nr nb nw os called k (some found) name (some (.int m)) (some []) block som) (src := none)
    (upto m) PyData.int (fun left env => ∃ (s2 : Tp) (gs : Gr) (b2 : Option D) (som2 : Option (List D)), env = cE s2 nr nb nw os called k (some found) name (some (.int m)) (some gs) b2 som2 ∧ (gs.length : Int) + left.length = m ∧ (∀ g ∈ gs, BlkOk os called m g) ∧ Tok (n + 330 * gs.length) s2) ?fhi ?fp ?fh) ?ffin
  case fhi =>
    unfold cE
    simp_all_arith [hi, rangeD_upto, Option.map_some, jk_some]
  case fp => exact ⟨s, [], block, som, rfl, by simp [upto_len (show 0 ≤ m by omega)], fun g hg => (by simp at hg), h.up (by simp)⟩
  case fh =>
    rintro x left env ⟨s2, gs, b2, som2, rfl, e1, e2, h2⟩
    simp only [List.length_cons] at e1
    obtain ⟨g, s3, som3, q, bk, h3⟩ := block_turn h2 (by omega) hw0 hw ok hc hcl k found name m hm0 hm gs (by omega) (some (.int x)) som2 (nr := nr) (nb := nb)
    refine ⟨cE s2 nr nb nw os called k (some found) name (some (.int m)) (some gs) (some (.int x)) som2, _, ?_, q, s3, gs ++ [g], _, som3, rfl, by simp; omega, fun y hy => ?_, h3.up (by simp; omega)⟩
    · unfold cE
      simp_all_arith [Option.map_some, jk_some, isLk_jk]
    · rcases List.mem_append.mp hy with z | z
      · exact e2 y z
      · simp at z; subst z; exact bk
  case ffin =>
    rintro env' ⟨q1, s', gs, b', som', rfl, e1, e2, h2⟩
    simp at e1
    exact ⟨gs, s', b', som', q1, e1, e2, h2.up (by omega)⟩
/-- one routine -/
theorem routine_turn {n : Int} {s : Tp} (h : Tok n s) (hn : n < 200000) {nr nb nw : Int} (hw0 : 0 ≤ nw) (hw : nw ≤ 6) (hb0 : 0 < nb) (hb : nb ≤ 6) {os : List (List Nat × Int)} (ok : ObjsOk os) {called : List (List Nat)} (hc : ∀ w ∈ called, Wd w) (hcl : called.length ≤ 10) (k : Option D) (found : List (List Nat × Gr)) (hf : found.length ≤ 100) (w : List Nat) (many : Option D) (own : Option Gr) (block : Option D) (som : Option (List D)) :
    ∃ g s' many' own' block' som', BF__law_code_6 (cE s nr nb nw os called k (some found) (some (wS w)) many own block som) = some (.nx, cE s' nr nb nw os called k (some (found ++ [(w, g)])) (some (wS w)) many' own' block' som') ∧ RtOk os called (w, g) ∧ Tok (n + 2100) s' := by
  obtain ⟨m, s1, d1, m0, m1, h1⟩ := draw h nb
  obtain ⟨gs, s2, b2, som2, q1, e1, e2, h2⟩ := blocks_loop h1 (by omega) hw0 hw ok hc hcl k found (some (wS w)) (1 + m) (by omega) (by omega) block som (nr := nr) (nb := nb)
  have hl : found.length < sizeLine := sl_lt (by omega)
  refine ⟨gs, s2, some (.int (1 + m)), some gs, b2, som2, ?_, ⟨by show 0 < gs.length; omega, by show gs.length ≤ 6; omega, fun g hg => by show BlkOk os called (gs.length : Nat) g; rw [e1]; exact e2 g hg⟩, h2.up (by omega)⟩
  unfold cE at q1 ⊢
  simp only [Option.map_some, jk_some, List.map_nil] at q1 ⊢
  simp_all_arith [BF__law_code_6, q1, evO_fb, argO_fb, isMu_fb, isLk_fb, isLk_om, isLk_jk, d1, hl, List.length_map, List.map_append, rtD]
theorem code_spec {n : Int} {s : Tp} (h : Tok n s) (hn : n < 100000) {nr nb nw : Int} (hr0 : 0 < nr) (hr : nr ≤ 6) (hw0 : 0 ≤ nw) (hw : nw ≤ 6) (hb0 : 0 < nb) (hb : nb ≤ 6) :
    ∃ os called rts s', F__law_code [fb s, .val (.int nr), .val (.int nb), .val (.int nw)] = some (.val (cdD os rts), [fb s', .val (.int nr), .val (.int nb), .val (.int nw)]) ∧ CodeOk os called rts ∧ Tok (n + 20000) s' := by
  obtain ⟨os, s1, d1, ok, h1⟩ := objects_spec h (by omega)
  obtain ⟨m, s2, d2, m0, m1, h2⟩ := draw h1 nr
  have hi := rgI_of (n := m) (by omega) (by omega)
  have lf : ∃ s3 called k, LF__law_code_2 (cE s1 nr nb nw os [] none none none none none none none) = some (.nx, cE s3 nr nb nw os called k none none none none none none) ∧ (called.length : Int) = m ∧ (∀ w ∈ called, Wd w) ∧ (called ++ [wmain]).Nodup ∧ Tok (n + 300) s3 := by
    refine Exists.elim (sFor_list (np := 4) (fi := iRng1 (eCall 2 F__law_draw [] (aCons (eV 0) (aCons (eV 1) aNil)))) (t := .nm 6) (body := BF__law_code_1) (env := cE s1 nr nb nw os [] none none none none none none none) (env1 := cE s2 nr nb nw os [] none none none none none none none) (src := none)
      (upto m) PyData.int (fun left env => ∃ (s3 : Tp) (called : List (List Nat)) (k : Option D), env = cE s3 nr nb nw os called k none none none none none none ∧ (called.length : Int) + left.length = m ∧ (∀ w ∈ called, Wd w) ∧ (called ++ [wmain]).Nodup ∧ Tok (n + 101 + 20 * called.length) s3) ?fhi ?fp ?fh) ?ffin
    case fhi =>
      unfold cE
      simp_all_arith [evO_fb, argO_fb, isMu_fb, isLk_fb, d2, hi, rangeD_upto, Option.map_none, jk_none]
    case fp => exact ⟨s2, [], none, rfl, by simp [upto_len m0], fun w hw => (by simp at hw), by simp, h2.up (by simp; omega)⟩
    case fh =>
      rintro x left env ⟨s3, called, k, rfl, e1, wd, nd, h3⟩
      simp only [List.length_cons] at e1
      obtain ⟨w, s4, d4, w1, w2, h4⟩ := word_spec h3 (by omega) (called ++ [wmain]) (Wd.app wd wd_main) (by simp; omega)
      rw [List.map_append, List.map_cons, List.map_nil] at d4
      have hl : called.length < sizeLine := sl_lt (by omega)
      have hl2 : called.length + 1 ≤ sizeLine := sl_le (by omega)
      refine ⟨cE s3 nr nb nw os called (some (.int x)) none none none none none none, cE s4 nr nb nw os (called ++ [w]) (some (.int x)) none none none none none none, ?_, ?_, s4, called ++ [w], _, rfl, by simp; omega, Wd.app wd w1, ?_, h4.up (by simp; omega)⟩
      · unfold cE
        simp_all_arith [Option.map_none, jk_none, jk_some, isLk_jk]
      · have d4 : F__law_word [fb s3, B.mu (O.lst (List.map wS called ++ [wS wmain]))] = some (R.val (wS w), [fb s4, B.mu (O.lst (List.map wS called ++ [wS wmain]))]) := d4
        unfold cE
        simp_all_arith [BF__law_code_1, evO_fb, argO_fb, isMu_fb, isLk_fb, str_main, d4, jk_some, jk_none, Option.map_none, hl, hl2, nd05, List.length_map, List.length_singleton, List.map_append, List.map_cons, List.map_nil]
      · have : w ∉ called := fun z => w2 (List.mem_append_left _ z)
        have h2 : w ≠ wmain := fun z => w2 (List.mem_append_right _ (by simp [z]))
        rw [List.nodup_append] at nd ⊢
        refine ⟨nodup_snoc nd.1 this, by simp, fun a ha b hb => ?_⟩
        simp at hb
        subst hb
        rcases List.mem_append.mp ha with z | z
        · exact nd.2.2 a z wmain (by simp)
        · simp at z; rw [z]; exact h2
    case ffin =>
      rintro env' ⟨q1, s', called, k, rfl, e1, wd, nd, h3⟩
      simp at e1
      exact ⟨s', called, k, q1, e1, wd, nd, h3.up (by omega)⟩
  obtain ⟨s3, called, k, q1, e1, wd, nd, h3⟩ := lf
  have hcl : called.length ≤ 5 := by omega
  have hsl := (sortW_perm (called ++ [wmain])).length_eq
  rw [List.length_append, List.length_singleton] at hsl
  have lf2 : ∃ s4 rts nm many own bl som, LF__law_code_7 (cE s3 nr nb nw os called k (some []) none none none none none) = some (.nx, cE s4 nr nb nw os called k (some rts) nm many own bl som) ∧ rts.map (·.1) = sortW (called ++ [wmain]) ∧ (∀ r ∈ rts, RtOk os called r) ∧ Tok (n + 20000) s4 := by
    refine Exists.elim (sFor_list (np := 4) (fi := iSeq (eN gSortedA (aCons (e2 gAdd (eV 5) (eLst (aCons (eK (.str "main")) aNil))) aNil))) (t := .nm 8) (body := BF__law_code_6) (env := cE s3 nr nb nw os called k (some []) none none none none none) (env1 := cE s3 nr nb nw os called k (some []) none none none none none) (src := none)
      (sortW (called ++ [wmain])) wS (fun left env => ∃ (s4 : Tp) (rts : List (List Nat × Gr)) (nm many : Option D) (own : Option Gr) (bl : Option D) (som : Option (List D)), env = cE s4 nr nb nw os called k (some rts) nm many own bl som ∧ rts.map (·.1) ++ left = sortW (called ++ [wmain]) ∧ (∀ r ∈ rts, RtOk os called r) ∧ Tok (n + 300 + 2100 * rts.length) s4) ?fhi ?fp ?fh) ?ffin
    case fhi =>
      have hl2 : called.length + 1 ≤ sizeLine := sl_le (by omega)
      have hs := @sortL_words [some (fb s3), some (.val (.int nr)), some (.val (.int nb)), some (.val (.int nw)), some (.val (objsD os)), some (.mu (.lst (called.map wS))), jk k, some (.mu (.lst [])), none, none, none, none, none] (called ++ [wmain]) (by simp; omega) (by simp)
      rw [List.map_append, List.map_cons, List.map_nil] at hs
      unfold cE
      simp_all_arith [str_main, jk_none, Option.map_some, Option.map_none, List.map_nil, hl2, List.length_map, List.length_singleton, hs]
    case fp => exact ⟨s3, [], none, none, none, none, none, rfl, by simp, fun r hr => (by simp at hr), h3.up (by simp)⟩
    case fh =>
      rintro w left env ⟨s4, rts, nm, many, own, bl, som, rfl, e2, e3, h4⟩
      have := congrArg List.length e2
      simp at this
      obtain ⟨g, s5, many', own', bl', som', q, rk, h5⟩ := routine_turn h4 (by omega) hw0 hw hb0 hb ok wd (by omega) k rts (by omega) w many own bl som (nr := nr)
      refine ⟨cE s4 nr nb nw os called k (some rts) (some (wS w)) many own bl som, _, ?_, q, s5, rts ++ [(w, g)], _, many', own', bl', som', rfl, by simpa using e2, fun r hr => ?_, h5.up (by simp; omega)⟩
      · unfold cE
        simp_all_arith [Option.map_some, jk_some, isLk_jk]
      · rcases List.mem_append.mp hr with z | z
        · exact e3 r z
        · simp at z; subst z; exact rk
    case ffin =>
      rintro env' ⟨q1, s', rts, nm, many, own, bl, som, rfl, e2, e3, h4⟩
      have := congrArg List.length e2
      simp at this
      exact ⟨s', rts, nm, many, own, bl, som, q1, by simpa using e2, e3, h4.up (by omega)⟩
  obtain ⟨s4, rts, nm, many, own, bl, som, q2, e2, e3, h4⟩ := lf2
  refine ⟨os, called, rts, s4, ?_, ⟨ok, hcl, wd, nd, e2, e3⟩, h4⟩
  unfold cE at q1 q2
  simp only [jk_none, Option.map_some, Option.map_none, List.map_nil] at q1 q2
  simp_all_arith [F__law_code, evO_fb, argO_fb, isMu_fb, isLk_fb, d1, q1, q2, isLk_jk, cdD]
end Cg

/-! CgK: any code's routines; what may be shown of a code. -/
namespace Cg
open PySem PySem.Spec PyProof.Rows L2 ML Dm
/-- a code by its routines, whatever its objects -/
def cdX (x : D) (rts : List (List Nat × Gr)) : D := .tuple [x, .tuple (rts.map rtD)]
theorem cdD_X (os : List (List Nat × Int)) (rts : List (List Nat × Gr)) : cdD os rts = cdX (objsD os) rts := rfl
theorem codeG_X (gs : Gr) : codeG gs = cdX (.tuple [.tuple [.str "a", .int 1]]) [(wmain, gs)] := by
  unfold codeG cdX rtD
  rw [str_main]; rfl
theorem tx_beq {l m : List Nat} : (tx l == tx m) = decide (l = m) := by
  by_cases h : l = m
  · subst h; simp
  · have : tx l ≠ tx m := fun z => h (tx_inj z)
    rw [beq_eq_false_iff_ne.mpr this, decide_eq_false h]
theorem blocks_run (C : D) (w : List Nat) (gs : Gr) : ∀ (rts : List (List Nat × Gr)), (w, gs) ∈ rts → (rts.map (·.1)).Nodup → ∀ (j2 j3 : Option D),
    ∃ j2' j3', loopL (fun d e => (setT 2 (.tp [.nm 2, .nm 3]) d e).bind BF_blocks_of_1) (rts.map rtD) [some (.val C), some (.val (wS w)), jk j2, jk j3] = some (.rt (.val (.tuple (gs.map blkD))), [some (.val C), some (.val (wS w)), jk j2', jk j3'])
  | [], h, _, _, _ => by simp at h
  | (v, g) :: rts, h, nd, j2, j3 => by
    have hset : setT 2 (.tp [.nm 2, .nm 3]) (rtD (v, g)) [some (.val C), some (.val (wS w)), jk j2, jk j3] = some [some (.val C), some (.val (wS w)), some (.val (wS v)), some (.val (.tuple (g.map blkD)))] := by
      unfold rtD
      simp_all_arith [isLk_jk]
    by_cases e : v = w
    · subst e
      have : gs = g := by
        rcases List.mem_cons.mp h with z | z
        · exact (Prod.mk.inj z).2
        · rw [List.map_cons, List.nodup_cons] at nd
          exact absurd (List.mem_map_of_mem (f := (·.1)) z) nd.1
      subst this
      refine ⟨some (wS v), some (.tuple (gs.map blkD)), ?_⟩
      have hb : BF_blocks_of_1 [some (.val C), some (.val (wS v)), some (.val (wS v)), some (.val (.tuple (gs.map blkD)))] = some (.rt (.val (.tuple (gs.map blkD))), [some (.val C), some (.val (wS v)), some (.val (wS v)), some (.val (.tuple (gs.map blkD)))]) := by
        have e1 : (tx v == tx v) = true := by simp
        unfold wS
        simp_all_arith [BF_blocks_of_1, e1]
      rw [List.map_cons, loopL, hset]
      simp only [Option.bind_some, hb, jk_some]
    · have hm : (w, gs) ∈ rts := by
        rcases List.mem_cons.mp h with z | z
        · exact absurd (Prod.mk.inj z).1.symm e
        · exact z
      obtain ⟨j2', j3', q⟩ := blocks_run C w gs rts hm (List.nodup_cons.mp nd).2 (some (wS v)) (some (.tuple (g.map blkD)))
      refine ⟨j2', j3', ?_⟩
      have hb : BF_blocks_of_1 [some (.val C), some (.val (wS w)), some (.val (wS v)), some (.val (.tuple (g.map blkD)))] = some (.nx, [some (.val C), some (.val (wS w)), some (.val (wS v)), some (.val (.tuple (g.map blkD)))]) := by
        have e1 : (tx v == tx w) = false := by rw [tx_beq]; exact decide_eq_false e
        unfold wS
        simp_all_arith [BF_blocks_of_1, e1]
      simp only [jk_some] at q
      rw [List.map_cons, loopL, hset]
      simp only [Option.bind_some, hb, q]
theorem cdX_at {x : D} {rts : List (List Nat × Gr)} {w : List Nat} {gs : Gr} (h : (w, gs) ∈ rts) (nd : (rts.map (·.1)).Nodup) : CodeAt (cdX x rts) (wS w) gs := ⟨by
  obtain ⟨j2, j3, q⟩ := blocks_run (cdX x rts) w gs rts h nd none none
  have lf : LF_blocks_of_2 [some (.val (cdX x rts)), some (.val (wS w)), none, none] = some (.rt (.val (.tuple (gs.map blkD))), [some (.val (cdX x rts)), some (.val (wS w)), jk j2, jk j3]) := by
    have hi : iSeq (e2 gIx (eV 0) (eK (.int 1))) [some (.val (cdX x rts)), some (.val (wS w)), none, none] = some ((rts.map rtD, none), [some (.val (cdX x rts)), some (.val (wS w)), none, none]) := by
      unfold cdX
      simp_all_arith []
    unfold LF_blocks_of_2 sFor
    rw [hi]
    simp only [jk_none] at q
    simp only [Option.bind_some, q, Option.map_some]
  simp_all_arith [F_blocks_of, lf]⟩
end Cg

/-! CgM: a code may be shown. -/
namespace Cg
open PySem PySem.Spec PyProof.Rows L2 ML Dm
theorem log2_lt {n k : Nat} (hk : n < 2 ^ k) (h0 : 0 < k) : n.log2 < k := by
  by_cases h : n = 0
  · subst h; simpa using h0
  · exact (Nat.log2_lt h).mpr hk
theorem sm_num {i : Int} (h0 : -1000000 ≤ i) (h1 : i ≤ 1000000) : Sm (.int i) 0 30 := by
  have hl : i.natAbs.log2 < 20 := log2_lt (by omega) (by omega)
  refine ⟨by simp [PyData.canLay0], by simp [PyData.depth], ?_, ?_, ?_⟩
  · simp only [PyData.weight]
    split <;> omega
  · simp only [PyData.intsShort]
    exact decide_eq_true (PyData.shown_int_le (by omega))
  · simp only [PyData.showable]
    exact decide_eq_true (by omega)
theorem sm_text {l : List Nat} (h : Lw l) (hl : l.length ≤ 8) : Sm (wS l) 0 30 := by
  refine ⟨by unfold wS; simp only [PyData.canLay0]; exact strOk_lw h, by simp [wS, PyData.depth], ?_, by simp [wS, PyData.intsShort], by simp [wS, PyData.showable]⟩
  have : (tx l).cps.size = l.length := by simp [tx]
  simp only [wS, PyData.weight, this]
  omega
theorem sm_word {w : List Nat} (h : Wd w) : Sm (wS w) 0 30 := sm_text h.2.2 h.2.1
theorem sm_all {ds : List D} {a n : Nat} (h : ∀ d ∈ ds, Sm d a n) : SmA ds a ((n + 1) * ds.length) := by
  induction ds with
  | nil => exact SmA.nil.mono (by omega) (by omega)
  | cons d ds ih =>
    have q := SmA.cons (h d (List.mem_cons_self ..)) (ih fun e he => h e (List.mem_cons_of_mem _ he))
    refine q.mono (by omega) ?_
    rw [List.length_cons, Nat.mul_succ]; omega
theorem sm_opd {d : D} (h : Opd d) : Sm d 0 30 := by
  cases h with
  | num i h0 h1 => exact sm_num h0 h1
  | word w hw => exact sm_word hw
theorem sm_tup {ds : List D} {a n k : Nat} (h : ∀ d ∈ ds, Sm d a n) (hk : ds.length ≤ k) : Sm (.tuple ds) (a + 1) ((n + 1) * k) :=
  (sm_all h).tup.mono (Nat.le_refl _) (Nat.mul_le_mul_left _ hk)
theorem sm_adr {os : List (List Nat × Int)} {som : List (List Nat)} {p x : D} (ok : ObjsOk os) (h : AdrOk os som p x) : Sm (aD som p x) 2 500 := by
  have hw : ∀ w ∈ som, Wd w := fun w hw => by
    obtain ⟨o, ho, e⟩ := List.mem_map.mp (h.sub w hw)
    rw [← e]; exact ok.wd o ho
  have h1 : Sm (.tuple (som.map wS)) 1 124 := sm_tup (a := 0) (n := 30) (k := 4) (fun d hd => by
    obtain ⟨w, hw', rfl⟩ := List.mem_map.mp hd
    exact sm_word (hw w hw')) (by rw [List.length_map]; exact h.len)
  have hp : Sm p 0 30 := by
    rcases h.pick with ⟨i, rfl, i0, i1⟩ | rfl | rfl
    · exact sm_num (by omega) (by have := h.len; omega)
    · exact sm_word wd_i
    · exact sm_word wd_p
  have hx : Sm x 0 30 := by
    rcases h.index with ⟨i, rfl, i0, i1⟩ | rfl | rfl
    · obtain ⟨w, hw'⟩ := List.exists_mem_of_length_pos h.pos
      have := i1 w hw'
      obtain ⟨_, o, ho, e, _⟩ := lk_objs (h.sub w hw')
      have := ok.size o ho
      exact sm_num (by omega) (by omega)
    · exact sm_word wd_i
    · exact sm_word wd_j
  exact (SmA.cons h1 (SmA.cons hp (SmA.cons hx SmA.nil))).tup.mono (by decide) (by decide)
theorem sm_lit {x : Str} (h : PyData.canLay0 (.str x) = true ∧ x.cps.size ≤ 30) : Sm (.str x) 0 30 := ⟨h.1, by simp [PyData.depth], by simp only [PyData.weight]; exact h.2, by simp [PyData.intsShort], by simp [PyData.showable]⟩
theorem sm_nm {w : List Nat} (h : w = wi ∨ w = wj ∨ w = wn) : Sm (wS w) 0 30 := by
  rcases h with rfl | rfl | rfl
  · exact sm_word wd_i
  · exact sm_word wd_j
  · exact sm_word wd_n
theorem sm_row {os : List (List Nat × Int)} {called : List (List Nat)} {d : D} (ok : ObjsOk os) (hc : ∀ w ∈ called, Wd w) (h : RowOk os called d) : Sm d 3 1000 := by
  cases h with
  | load nm som p x hn ha => exact (SmA.cons (sm_lit (by decide +kernel)) (SmA.cons (sm_nm hn) (SmA.cons (sm_adr ok ha) SmA.nil))).tup.mono (by decide) (by decide)
  | store som p x o ha ho => exact (SmA.cons (sm_lit (by decide +kernel)) (SmA.cons (sm_adr ok ha) (SmA.cons (sm_opd ho) SmA.nil))).tup.mono (by decide) (by decide)
  | touch som p x ha => exact (SmA.cons (sm_lit (by decide +kernel)) (SmA.cons (sm_adr ok ha) SmA.nil)).tup.mono (by decide) (by decide)
  | set nm sg a b hn hg ha hb =>
    have hs : Sm (.str sg) 0 30 := by
      rcases hg with rfl | rfl | rfl | rfl <;> exact sm_lit (by decide +kernel)
    exact (SmA.cons (sm_lit (by decide +kernel)) (SmA.cons (sm_nm hn) (SmA.cons hs (SmA.cons (sm_opd ha) (SmA.cons (sm_opd hb) SmA.nil))))).tup.mono (by decide) (by decide)
  | tell o ho => exact (SmA.cons (sm_lit (by decide +kernel)) (SmA.cons (sm_opd ho) SmA.nil)).tup.mono (by decide) (by decide)
  | need o ho => exact (SmA.cons (sm_lit (by decide +kernel)) (SmA.cons (sm_opd ho) SmA.nil)).tup.mono (by decide) (by decide)
  | call w hw => exact (SmA.cons (sm_lit (by decide +kernel)) (SmA.cons (sm_word (hc w hw)) SmA.nil)).tup.mono (by decide) (by decide)
theorem sm_end {g : Gd} {m : Int} (ho : ∀ c ∈ g.outs, 0 ≤ c ∧ c < m) (hm : m ≤ 6) (hop : ∀ op a b, g = .iff op a b → Opd op) : Sm g.d 1 400 := by
  cases g with
  | go a =>
    have ha := ho a (by simp [Gd.outs])
    exact (SmA.cons sm_go (SmA.cons (sm_int ha.1 (by omega)) SmA.nil)).tup.mono (by decide) (by decide)
  | iff op a b =>
    have ha := ho a (by simp [Gd.outs])
    have hb := ho b (by simp [Gd.outs])
    exact (SmA.cons sm_if (SmA.cons (sm_opd (hop op a b rfl)) (SmA.cons (sm_int ha.1 (by omega)) (SmA.cons (sm_int hb.1 (by omega)) SmA.nil)))).tup.mono (by decide) (by decide)
  | back => exact (SmA.cons sm_back SmA.nil).tup.mono (by decide) (by decide)
theorem sm_blkC {os : List (List Nat × Int)} {called : List (List Nat)} {m : Int} {g : D × Gd} (ok : ObjsOk os) (hc : ∀ w ∈ called, Wd w) (hm : m ≤ 6) (h : BlkOk os called m g) : Sm (blkD g) 5 7000 := by
  obtain ⟨rs, e, hl, hr⟩ := h.rows
  have h1 : Sm g.1 4 6006 := by
    rw [e]
    exact sm_tup (a := 3) (n := 1000) (k := 6) (fun d hd => sm_row ok hc (hr d hd)) hl
  exact (SmA.cons h1 (SmA.cons (sm_end h.outs hm h.opd) SmA.nil)).tup.mono (by decide) (by decide)
theorem sm_rt {os : List (List Nat × Int)} {called : List (List Nat)} {r : List Nat × Gr} (ok : ObjsOk os) (hc : ∀ w ∈ called, Wd w) (hw : Wd r.1) (h : RtOk os called r) : Sm (rtD r) 7 43000 := by
  have h6 := h.six
  have h1 : Sm (.tuple (r.2.map blkD)) 6 42006 := sm_tup (a := 5) (n := 7000) (k := 6) (fun d hd => by
    obtain ⟨g, hg, rfl⟩ := List.mem_map.mp hd
    exact sm_blkC ok hc (by omega) (h.blk g hg)) (by rw [List.length_map]; exact h6)
  exact (SmA.cons (sm_word hw) (SmA.cons h1 SmA.nil)).tup.mono (by decide) (by decide)
theorem sm_objs {os : List (List Nat × Int)} (ok : ObjsOk os) : Sm (objsD os) 2 400 := by
  refine (sm_tup (a := 1) (n := 80) (k := 4) (fun d hd => ?_) (by rw [List.length_map]; exact ok.four)).mono (by decide) (by decide)
  obtain ⟨o, ho, rfl⟩ := List.mem_map.mp hd
  have := ok.size o ho
  exact (SmA.cons (sm_word (ok.wd o ho)) (SmA.cons (sm_num (i := o.2) (by omega) (by omega)) SmA.nil)).tup.mono (by decide) (by decide)
theorem sm_code {os : List (List Nat × Int)} {called : List (List Nat)} {rts : List (List Nat × Gr)} (h : CodeOk os called rts) : Sm (cdD os rts) 9 300000 := by
  have hn := congrArg List.length h.names
  have hp := (sortW_perm (called ++ [wmain])).length_eq
  have hl := h.len
  simp at hn hp
  have h1 : Sm (.tuple (rts.map rtD)) 8 258006 := sm_tup (a := 7) (n := 43000) (k := 6) (fun d hd => by
    obtain ⟨r, hr, rfl⟩ := List.mem_map.mp hd
    have hw : Wd r.1 := by
      have : r.1 ∈ sortW (called ++ [wmain]) := by rw [← h.names]; exact List.mem_map_of_mem hr
      have := (sortW_perm _).mem_iff.mp this
      rcases List.mem_append.mp this with z | z
      · exact h.wd _ z
      · simp at z; rw [z]; exact wd_main
    exact sm_rt h.objs h.wd hw (h.rt r hr)) (by rw [List.length_map]; omega)
  exact (SmA.cons (sm_objs h.objs) (SmA.cons h1 SmA.nil)).tup.mono (by decide) (by decide)
theorem code_shown {os : List (List Nat × Int)} {called : List (List Nat)} {rts : List (List Nat × Gr)} (h : CodeOk os called rts) : reprOk (cdD os rts) = true := (sm_code h).ok (by decide) (by decide)
end Cg

/-! K01A: number, word, operand: K02A again. -/
namespace K01
open PySem PySem.Spec PyProof.Rows L2 ML Dm Cg
/-- data that the words can look at -/
structure Th (d : D) : Prop where
  sh : SeqAt.shaped d = true
  wt : PyData.weight d ≤ 3000
def isN : D → Bool
  | .int _ => true
  | _ => false
def lwB (l : List Nat) : Bool := l.all fun c => decide (97 ≤ c ∧ c ≤ 122)
def isW : D → Bool
  | .str x => decide (1 ≤ x.length ∧ x.length ≤ 8) && lwB x.cps.toList
  | _ => false
def isS : D → Bool
  | .str _ => true
  | _ => false
def isI : D → Bool
  | .int _ => true
  | .bool _ => true
  | _ => false
def isBl : D → Bool
  | .bool _ => true
  | _ => false
def isTp : D → Bool
  | .tuple _ => true
  | _ => false
theorem kit_str (d : D) : kitB (tyD d) "str" = some (isS d) := by
  have h : kitB "NoneType" "str" = some false ∧ kitB "bool" "str" = some false ∧ kitB "int" "str" = some false ∧ kitB "str" "str" = some true ∧ kitB "list" "str" = some false ∧ kitB "tuple" "str" = some false ∧ kitB "dict" "str" = some false := by decide +kernel
  cases d <;> simp only [tyD, isS, h]
theorem kit_int (d : D) : kitB (tyD d) "int" = some (isI d) := by
  have h : kitB "NoneType" "int" = some false ∧ kitB "bool" "int" = some true ∧ kitB "int" "int" = some true ∧ kitB "str" "int" = some false ∧ kitB "list" "int" = some false ∧ kitB "tuple" "int" = some false ∧ kitB "dict" "int" = some false := by decide +kernel
  cases d <;> simp only [tyD, isI, h]
theorem kit_bool (d : D) : kitB (tyD d) "bool" = some (isBl d) := by
  have h : kitB "NoneType" "bool" = some false ∧ kitB "bool" "bool" = some true ∧ kitB "int" "bool" = some false ∧ kitB "str" "bool" = some false ∧ kitB "list" "bool" = some false ∧ kitB "tuple" "bool" = some false ∧ kitB "dict" "bool" = some false := by decide +kernel
  cases d <;> simp only [tyD, isBl, h]
theorem kit_tup (d : D) : kitB (tyD d) "tuple" = some (isTp d) := by
  have h : kitB "NoneType" "tuple" = some false ∧ kitB "bool" "tuple" = some false ∧ kitB "int" "tuple" = some false ∧ kitB "str" "tuple" = some false ∧ kitB "list" "tuple" = some false ∧ kitB "tuple" "tuple" = some true ∧ kitB "dict" "tuple" = some false := by decide +kernel
  cases d <;> simp only [tyD, isTp, h]
theorem number_spec (d : D) : F_is_number [.val d] = some (.val (.bool (isN d)), [.val d]) := by
  cases d <;> simp_all_arith! [F_is_number, kit_int, kit_bool, isI, isBl, isN, Bool.not_true, Bool.not_false]
theorem number2_spec (d : D) : F__law_number [.val d] = some (.val (.bool (isN d)), [.val d]) := by
  cases d with
  | bool b => cases b <;> simp_all_arith! [F__law_number, kit_int, isI, isN, v_bneg_t, Bool.not_true, Bool.not_false]
  | _ => simp_all_arith! [F__law_number, kit_int, isI, isN, v_bneg_t, Bool.not_true, Bool.not_false]
/-! ### words -/
theorem Th.str {x : Str} (h : Th (.str x)) : x.length ≤ sizeLine := by
  have := h.wt
  simp only [PyData.weight] at this
  exact sl_le (by show x.cps.size ≤ 1000000; omega)
theorem oneS_one (c : Nat) : oneS (tx [c]) = some c := rfl
theorem bools_map (l : List Bool) : bools (l.map PyData.bool) = some l := by
  induction l with
  | nil => rfl
  | cons b l ih => simp [bools, ih]
theorem signs_tx (l : List Nat) : ML.signs (tx l) = l.map fun c => wS [c] := by
  unfold ML.signs
  rw [tx_list]
  rfl
theorem in_abc (c : Nat) : decide (c ∈ (tx abc).cps.toList) = decide (97 ≤ c ∧ c ≤ 122) := by
  rw [tx_list]
  rw [decide_eq_decide]
  unfold abc
  rw [List.mem_map]
  constructor
  · rintro ⟨k, hk, rfl⟩
    have := List.mem_range.mp hk
    omega
  · intro ⟨h0, h1⟩
    exact ⟨c - 97, List.mem_range.mpr (by omega), by omega⟩
theorem word_spec (d : D) (h : Th d) : F_is_word [.val d] = some (.val (.bool (isW d)), [.val d]) := by
  cases d with
  | str x =>
    have hx := h.str
    by_cases hl : 1 ≤ x.length ∧ x.length ≤ 8
    · obtain ⟨h1, h8⟩ := hl
      have c1 : (1 : Int) ≤ (x.length : Nat) := by omega
      have c8 : ((x.length : Nat) : Int) ≤ 8 := by omega
      have hw := tx_of x
      generalize hlst : x.cps.toList = l at hw
      subst hw
      rw [tx_len] at *
      have lc : LC_is_word_1 [some (.val (.str (tx l))), none] = some (.new (.lst ((l.map fun c => decide (97 ≤ c ∧ c ≤ 122)).map PyData.bool)), [some (.val (.str (tx l))), none]) := by
        unfold LC_is_word_1
        have := eLc_of (np := 1) (own := [1]) (fi := iAny (eV 0)) (t := .nm 1) (tst := tTrue) (elt := e2 (gInT false) (eC 1) (eK (.str "abcdefghijklmnopqrstuvwxyz"))) (env := [some (.val (.str (tx l))), none]) (env1 := [some (.val (.str (tx l))), none]) (src := none)
          l (fun c => wS [c]) (fun _ => true) (fun c => .bool (decide (97 ≤ c ∧ c ≤ 122))) (by simp_all_arith! [signs_tx]) rfl (fun c hc => by
            unfold wS
            simp_all_arith! [v_lcS, tTrue, tx_abc, oneS_one, in_abc, v_bneg_f]) (by omega)
        rw [this, List.filter_eq_self.mpr (by simp), List.map_map]
        rfl
      have ew : isW (.str (tx l)) = (l.map fun c => decide (97 ≤ c ∧ c ≤ 122)).all id := by
        show (decide (1 ≤ (tx l).length ∧ (tx l).length ≤ 8) && lwB (tx l).cps.toList) = _
        rw [tx_list, tx_len, decide_eq_true ⟨h1, h8⟩, List.all_map, Bool.true_and]
        rfl
      simp_all_arith! [F_is_word, kit_str, isS, tx_len, hx, c1, c8, decide_eq_true c1, decide_eq_true c8, Bool.not_true, Bool.not_false, lc, bools_map, ew]
    · have ew : isW (.str x) = false := by
        show (decide (1 ≤ x.length ∧ x.length ≤ 8) && lwB x.cps.toList) = false
        rw [decide_eq_false hl]; rfl
      rw [ew]
      by_cases h1 : 1 ≤ x.length
      · have c1 : (1 : Int) ≤ (x.length : Nat) := by omega
        have c8 : ¬ ((x.length : Nat) : Int) ≤ 8 := by omega
        simp_all_arith! [F_is_word, kit_str, isS, hx, decide_eq_true c1, decide_eq_false c8, Bool.not_true, Bool.not_false]
      · have c1 : ¬ (1 : Int) ≤ (x.length : Nat) := by omega
        simp_all_arith! [F_is_word, kit_str, isS, hx, decide_eq_false c1, Bool.not_true, Bool.not_false]
  | _ => simp_all_arith! [F_is_word, kit_str, isS, isW, Bool.not_true, Bool.not_false]
theorem sh_sign {c : Nat} (h : c < 0x110000) : PyData.canLay0 (wS [c]) = true := by
  unfold wS
  simp only [PyData.canLay0]
  unfold PyData.strOk tx
  simp [h]
theorem sh_signs {l : List Nat} (h : ∀ c ∈ l, c < 0x110000) : SeqAt.shaped (.list (l.map fun c => wS [c])) = true := by
  have hc : PyData.canLayAll0 (l.map fun c => wS [c]) = true := by
    induction l with
    | nil => simp [PyData.canLayAll0]
    | cons c l ih =>
      simp only [List.map_cons, PyData.canLayAll0, sh_sign (h c (List.mem_cons_self ..)), Bool.true_and]
      exact ih fun x hx => h x (List.mem_cons_of_mem _ hx)
  have hd : PyData.depthAll (l.map fun c => wS [c]) = 0 := by
    clear h hc
    induction l with
    | nil => simp [PyData.depthAll]
    | cons c l ih =>
      have e0 : PyData.depth (wS [c]) = 0 := by simp [wS, PyData.depth]
      simp only [List.map_cons, PyData.depthAll, ih, e0, Nat.max_self]
  simp [SeqAt.shaped, PyData.canLay0, PyData.depth, hc, hd]
theorem eqv_signs_nil (l : List Nat) : PyData.eqv (.list (l.map fun c => wS [c])) (.list []) = l.isEmpty := by
  cases l <;> simp [PyData.eqv, PyData.eqvAll]
theorem ord_one (c : Nat) : ((tx [c]).cps.getD 0 0 : Nat) = c := rfl
theorem worded_spec (d : D) (h : Th d) : F__law_worded [.val d] = some (.val (.bool (isW d)), [.val d]) := by
  cases d with
  | str x =>
    have hx := h.str
    have hsh := h.sh
    have hw := tx_of x
    generalize hlst : x.cps.toList = l at hw
    subst hw
    clear hlst
    have hch : ∀ c ∈ l, c < 0x110000 := by
      unfold SeqAt.shaped at hsh
      rw [Bool.and_eq_true] at hsh
      have := hsh.1
      simp only [PyData.canLay0] at this
      unfold PyData.strOk tx at this
      rw [Array.all_eq_true'] at this
      intro c hc
      exact of_decide_eq_true (this c (by simpa using hc))
    rw [tx_len] at hx
    have ew : isW (.str (tx l)) = (decide (1 ≤ l.length ∧ l.length ≤ 8) && lwB l) := by
      show (decide (1 ≤ (tx l).length ∧ (tx l).length ≤ 8) && lwB (tx l).cps.toList) = _
      rw [tx_list, tx_len]
    have e0 : (tx l == (Str.ofString "")) = decide (l = []) := tx_beq (m := [])
    by_cases hn : l = []
    · subst hn
      simp_all_arith! [F__law_worded, kit_str, isS, e0, Bool.not_true, Bool.not_false, ew]
      rfl
    · have e0' : (tx l == (Str.ofString "")) = false := by rw [e0]; exact decide_eq_false hn
      have hpos := List.length_pos_iff.mpr hn
      by_cases h8 : l.length ≤ 8
      · have c8 : ¬ (8 : Int) < ((l.length : Nat) : Int) := by omega
        have lc : LC__law_worded_1 [some (.val (.str (tx l))), none] = some (.new (.lst ((l.filter fun c => decide (c < 97) || decide (122 < c)).map fun c => wS [c])), [some (.val (.str (tx l))), none]) := by
          unfold LC__law_worded_1
          have := eLc_of (np := 1) (own := [1]) (fi := iAny (eV 0)) (t := .nm 1) (tst := fOr (rB (e2 gLt (eN gOrd (aCons (eC 1) aNil)) (eK (.int 97)))) (rB (e2 gGt (eN gOrd (aCons (eC 1) aNil)) (eK (.int 122))))) (elt := eC 1) (env := [some (.val (.str (tx l))), none]) (env1 := [some (.val (.str (tx l))), none]) (src := none)
            l (fun c => wS [c]) (fun c => decide (c < 97) || decide (122 < c)) (fun c => wS [c]) (by simp_all_arith! [signs_tx]) rfl (fun c hc => by
              have l1 : (tx [c]).length = 1 := rfl
              unfold wS
              by_cases h1 : c < 97
              · have k1 : ((c : Nat) : Int) < 97 := by omega
                simp_all_arith! [v_lcS, l1, ord_one, decide_eq_true k1, decide_eq_true h1, Bool.true_or]
              · have k1 : ¬ ((c : Nat) : Int) < 97 := by omega
                by_cases h2 : 122 < c
                · have k2 : (122 : Int) < ((c : Nat) : Int) := by omega
                  simp_all_arith! [v_lcS, l1, ord_one, decide_eq_false k1, decide_eq_true k2, decide_eq_false h1, decide_eq_true h2, Bool.false_or]
                · have k2 : ¬ (122 : Int) < ((c : Nat) : Int) := by omega
                  simp_all_arith! [v_lcS, l1, ord_one, decide_eq_false k1, decide_eq_false k2, decide_eq_false h1, decide_eq_false h2, Bool.false_or]) (by omega)
          rw [this]
          rfl
        have s1 := sh_signs (l := l.filter fun c => decide (c < 97) || decide (122 < c)) fun c hc => hch c (List.mem_filter.mp hc).1
        have sh0 : SeqAt.shaped (.list []) = true := by decide +kernel
        have e1 := eqv_signs_nil (l.filter fun c => decide (c < 97) || decide (122 < c))
        have e2 : (l.filter fun c => decide (c < 97) || decide (122 < c)).isEmpty = lwB l := by
          unfold lwB
          rw [Bool.eq_iff_iff, List.isEmpty_iff, List.filter_eq_nil_iff, List.all_eq_true]
          constructor
          · intro hh c hc
            have := hh c hc
            simp at this
            exact decide_eq_true (by omega)
          · intro hh c hc
            have := of_decide_eq_true (hh c hc)
            simp; omega
        rw [decide_eq_true ⟨hpos, h8⟩, Bool.true_and] at ew
        simp_all_arith! [F__law_worded, kit_str, isS, e0', tx_len, hx, decide_eq_false c8, Bool.not_true, Bool.not_false, lc, s1, sh0, e1, e2, ew]
      · have c8 : (8 : Int) < ((l.length : Nat) : Int) := by omega
        rw [decide_eq_false (fun z => h8 z.2), Bool.false_and] at ew
        simp_all_arith! [F__law_worded, kit_str, isS, e0', tx_len, hx, decide_eq_true c8, Bool.not_true, Bool.not_false, ew]
  | _ => simp_all_arith! [F__law_worded, kit_str, isS, isW, Bool.not_true, Bool.not_false]
theorem operand_spec (d : D) (h : Th d) : F_is_operand [.val d] = some (.val (.bool (isN d || isW d)), [.val d]) := by
  cases hn : isN d with
  | true => simp_all_arith! [F_is_operand, number_spec, hn, Bool.true_or]
  | false => simp_all_arith! [F_is_operand, number_spec, hn, word_spec d h, Bool.false_or]
theorem operanded_spec (d : D) (h : Th d) : F__law_operanded [.val d] = some (.val (.bool (isN d || isW d)), [.val d]) := by
  cases hn : isW d with
  | true => simp_all_arith! [F__law_operanded, worded_spec d h, hn, Bool.or_true]
  | false => simp_all_arith! [F__law_operanded, worded_spec d h, hn, number2_spec, Bool.or_false]
end K01

/-! K01B: bounds: K02B, T, V again. -/
namespace K01
open PySem PySem.Spec PyProof.Rows L2 ML Dm Cg
theorem can_all {ds : List D} (h : PyData.canLayAll0 ds = true) : ∀ d ∈ ds, PyData.canLay0 d = true := by
  induction ds with
  | nil => intro d hd; cases hd
  | cons e ds ih =>
    simp only [PyData.canLayAll0, Bool.and_eq_true] at h
    intro d hd
    rcases List.mem_cons.mp hd with z | z
    · subst z; exact h.1
    · exact ih h.2 d z
theorem dep_all {ds : List D} : ∀ d ∈ ds, PyData.depth d ≤ PyData.depthAll ds := by
  induction ds with
  | nil => intro d hd; cases hd
  | cons e ds ih =>
    intro d hd
    simp only [PyData.depthAll]
    rcases List.mem_cons.mp hd with z | z
    · subst z; omega
    · have := ih d z; omega
theorem wt_all {ds : List D} : (∀ d ∈ ds, PyData.weight d ≤ PyData.weightAll ds) ∧ ds.length ≤ PyData.weightAll ds := by
  induction ds with
  | nil => exact ⟨fun d hd => (by cases hd), (by simp)⟩
  | cons e ds ih =>
    refine ⟨fun d hd => ?_, ?_⟩
    · simp only [PyData.weightAll]
      rcases List.mem_cons.mp hd with z | z
      · subst z; omega
      · have := ih.1 d z; omega
    · simp only [PyData.weightAll, List.length_cons]
      have := ih.2; omega
theorem sh_parts {d : D} (h : SeqAt.shaped d = true) : PyData.canLay0 d = true ∧ PyData.depth d ≤ 64 := by
  unfold SeqAt.shaped at h
  rw [Bool.and_eq_true] at h
  exact ⟨h.1, of_decide_eq_true h.2⟩
theorem sh_of {d : D} (h1 : PyData.canLay0 d = true) (h2 : PyData.depth d ≤ 64) : SeqAt.shaped d = true := by
  unfold SeqAt.shaped
  rw [h1, decide_eq_true h2]; rfl
theorem Th.tup {ds : List D} (h : Th (.tuple ds)) : (∀ d ∈ ds, Th d) ∧ ds.length ≤ 3000 := by
  obtain ⟨h1, h2⟩ := sh_parts h.sh
  have h3 := h.wt
  simp only [PyData.canLay0] at h1
  simp only [PyData.depth] at h2
  simp only [PyData.weight] at h3
  refine ⟨fun d hd => ⟨sh_of (can_all h1 d hd) ?_, ?_⟩, ?_⟩
  · have := dep_all d hd; omega
  · have := wt_all.1 d hd; omega
  · have := (wt_all (ds := ds)).2; omega
theorem sh_list {ds : List D} (h : ∀ d ∈ ds, SeqAt.shaped d = true) (hd : ∀ d ∈ ds, PyData.depth d ≤ 63) : SeqAt.shaped (.list ds) = true := by
  have hc : PyData.canLayAll0 ds = true := by
    clear hd
    induction ds with
    | nil => simp [PyData.canLayAll0]
    | cons e ds ih =>
      simp only [PyData.canLayAll0, (sh_parts (h e (List.mem_cons_self ..))).1, Bool.true_and]
      exact ih fun d hd => h d (List.mem_cons_of_mem _ hd)
  have hdp : PyData.depthAll ds ≤ 63 := by
    clear hc h
    induction ds with
    | nil => simp [PyData.depthAll]
    | cons e ds ih =>
      have h1 := hd e (List.mem_cons_self ..)
      have h2 := ih fun d hd' => hd d (List.mem_cons_of_mem _ hd')
      simp only [PyData.depthAll]
      omega
  refine sh_of (by simp only [PyData.canLay0]; exact hc) ?_
  simp only [PyData.depth]; omega
theorem tup_depth {ds : List D} (h : Th (.tuple ds)) : ∀ d ∈ ds, PyData.depth d ≤ 63 := fun d hd => by
  obtain ⟨_, h2⟩ := sh_parts h.sh
  simp only [PyData.depth] at h2
  have := dep_all d hd
  omega
theorem eqv_tup_nil (l : List D) : PyData.eqv (.tuple l) (.tuple []) = l.isEmpty := by cases l <;> simp [PyData.eqv, PyData.eqvAll]
theorem sh_nilL : SeqAt.shaped (.list []) = true := by decide +kernel
theorem sh_nilT : SeqAt.shaped (.tuple []) = true := by decide +kernel
def oddL : List D := [.none, .bool true, .bool false, .str "", .str "a", .str "A", .int 0, .int 1, .int 2, .int 4, .int (-1), .tuple [], .list [], .tuple [.list [.int 1], .str "a"], .tuple [.str "a", .int 1], .tuple [.str "a"],
  .int (10 ^ 199), .str "abcdefgh", .str "abcdefghi", .str "a b", .tuple [.int 0], .tuple [.int 1, .int 1]]
theorem odd_spec : F__law_odd [] = some (.val (.tuple oddL), []) := by
  simp_all_arith! [F__law_odd, List.cons_append, List.nil_append]
  rfl
theorem odd_len : oddL.length = 22 := rfl
theorem odd_th : ∀ d ∈ oddL, Th d := by
  have h : (oddL.all fun d => SeqAt.shaped d && decide (PyData.weight d ≤ 3000)) = true := by decide +kernel
  intro d hd
  have := List.all_eq_true.mp h d hd
  rw [Bool.and_eq_true, decide_eq_true_eq] at this
  exact ⟨this.1, this.2⟩
inductive Occ (i : Int) : D → Prop
  | int : Occ i (.int i)
  | lst {e : D} {ds : List D} : e ∈ ds → Occ i e → Occ i (.list ds)
  | tup {e : D} {ds : List D} : e ∈ ds → Occ i e → Occ i (.tuple ds)
structure Bd (m k w : Nat) (d : D) : Prop where
  can : PyData.canLay0 d = true
  dep : PyData.depth d ≤ k
  wt : PyData.weight d ≤ w
  ins : ∀ i, Occ i d → i.natAbs ≤ m
structure BdA (m k w : Nat) (ds : List D) : Prop where
  can : PyData.canLayAll0 ds = true
  dep : PyData.depthAll ds ≤ k
  wt : PyData.weightAll ds ≤ w
  ins : ∀ i, ∀ d ∈ ds, Occ i d → i.natAbs ≤ m
theorem Bd.mono {m k w m' k' w' : Nat} {d : D} (h : Bd m k w d) (h1 : m ≤ m') (h2 : k ≤ k') (h3 : w ≤ w') : Bd m' k' w' d :=
  ⟨h.can, Nat.le_trans h.dep h2, Nat.le_trans h.wt h3, fun i z => Nat.le_trans (h.ins i z) h1⟩
theorem BdA.mono {m k w m' k' w' : Nat} {ds : List D} (h : BdA m k w ds) (h1 : m ≤ m') (h2 : k ≤ k') (h3 : w ≤ w') : BdA m' k' w' ds :=
  ⟨h.can, Nat.le_trans h.dep h2, Nat.le_trans h.wt h3, fun i d hd z => Nat.le_trans (h.ins i d hd z) h1⟩
theorem BdA.nil {m k w : Nat} : BdA m k w [] := ⟨by simp [PyData.canLayAll0], by simp [PyData.depthAll], by simp [PyData.weightAll], fun _ _ h => nomatch h⟩
theorem BdA.cons {m k w w' : Nat} {d : D} {ds : List D} (h : Bd m k w d) (t : BdA m k w' ds) : BdA m k (w + 1 + w') (d :: ds) := by
  refine ⟨by simp [PyData.canLayAll0, h.can, t.can], ?_, ?_, fun i e he z => ?_⟩
  · have := h.dep; have := t.dep
    simp only [PyData.depthAll]; omega
  · have := h.wt; have := t.wt
    simp only [PyData.weightAll]; omega
  · rcases List.mem_cons.mp he with q | q
    · subst q; exact h.ins i z
    · exact t.ins i e q z
theorem can_app : ∀ {xs ys : List D}, PyData.canLayAll0 (xs ++ ys) = (PyData.canLayAll0 xs && PyData.canLayAll0 ys)
  | [], ys => by simp [PyData.canLayAll0]
  | x :: xs, ys => by simp [PyData.canLayAll0, can_app (xs := xs), Bool.and_assoc]
theorem dep_app : ∀ {xs ys : List D}, PyData.depthAll (xs ++ ys) = max (PyData.depthAll xs) (PyData.depthAll ys)
  | [], ys => by simp [PyData.depthAll]
  | x :: xs, ys => by
    simp only [List.cons_append, PyData.depthAll, dep_app (xs := xs)]
    omega
theorem wt_app : ∀ {xs ys : List D}, PyData.weightAll (xs ++ ys) = PyData.weightAll xs + PyData.weightAll ys
  | [], ys => by simp [PyData.weightAll]
  | x :: xs, ys => by
    simp only [List.cons_append, PyData.weightAll, wt_app (xs := xs)]
    omega
theorem BdA.app {m k w w' : Nat} {xs ys : List D} (h : BdA m k w xs) (t : BdA m k w' ys) : BdA m k (w + w') (xs ++ ys) := by
  refine ⟨by rw [can_app, h.can, t.can]; rfl, ?_, ?_, fun i e he z => ?_⟩
  · have := h.dep; have := t.dep
    rw [dep_app]; omega
  · have := h.wt; have := t.wt
    rw [wt_app]; omega
  · rcases List.mem_append.mp he with q | q
    · exact h.ins i e q z
    · exact t.ins i e q z
theorem BdA.split {m k w : Nat} {xs ys : List D} (h : BdA m k w (xs ++ ys)) : ∃ w1 w2, w1 + w2 = w ∧ BdA m k w1 xs ∧ BdA m k w2 ys := by
  have h1 := h.can
  have h2 := h.dep
  have h3 := h.wt
  rw [can_app, Bool.and_eq_true] at h1
  rw [dep_app] at h2
  rw [wt_app] at h3
  exact ⟨PyData.weightAll xs, w - PyData.weightAll xs, by omega, ⟨h1.1, by omega, Nat.le_refl _, fun i e he z => h.ins i e (List.mem_append_left _ he) z⟩,
    ⟨h1.2, by omega, by omega, fun i e he z => h.ins i e (List.mem_append_right _ he) z⟩⟩
theorem BdA.uncons {m k w : Nat} {d : D} {ds : List D} (h : BdA m k w (d :: ds)) : ∃ w1 w2, w1 + 1 + w2 = w ∧ Bd m k w1 d ∧ BdA m k w2 ds := by
  have h1 := h.can
  have h2 := h.dep
  have h3 := h.wt
  simp only [PyData.canLayAll0, Bool.and_eq_true] at h1
  simp only [PyData.depthAll] at h2
  simp only [PyData.weightAll] at h3
  exact ⟨PyData.weight d, w - PyData.weight d - 1, by omega, ⟨h1.1, by omega, Nat.le_refl _, fun i z => h.ins i d (List.mem_cons_self ..) z⟩,
    ⟨h1.2, by omega, by omega, fun i e he z => h.ins i e (List.mem_cons_of_mem _ he) z⟩⟩
theorem BdA.tup {m k w : Nat} {ds : List D} (h : BdA m k w ds) : Bd m (k + 1) w (.tuple ds) := by
  refine ⟨by simp only [PyData.canLay0]; exact h.can, ?_, ?_, fun i z => ?_⟩
  · have := h.dep; simp only [PyData.depth]; omega
  · have := h.wt; simp only [PyData.weight]; exact this
  · cases z with
    | tup he z => exact h.ins i _ he z
theorem BdA.lst {m k w : Nat} {ds : List D} (h : BdA m k w ds) : Bd m (k + 1) w (.list ds) := by
  refine ⟨by simp only [PyData.canLay0]; exact h.can, ?_, ?_, fun i z => ?_⟩
  · have := h.dep; simp only [PyData.depth]; omega
  · have := h.wt; simp only [PyData.weight]; exact this
  · cases z with
    | lst he z => exact h.ins i _ he z
theorem Bd.of_tup {m k w : Nat} {ds : List D} (h : Bd m k w (.tuple ds)) : ∃ k', k = k' + 1 ∧ BdA m k' w ds := by
  have h1 := h.can
  have h2 := h.dep
  have h3 := h.wt
  simp only [PyData.canLay0] at h1
  simp only [PyData.depth] at h2
  simp only [PyData.weight] at h3
  exact ⟨k - 1, by omega, ⟨h1, by omega, h3, fun i d hd z => h.ins i (.tup hd z)⟩⟩
theorem Bd.of_lst {m k w : Nat} {ds : List D} (h : Bd m k w (.list ds)) : ∃ k', k = k' + 1 ∧ BdA m k' w ds := by
  have h1 := h.can
  have h2 := h.dep
  have h3 := h.wt
  simp only [PyData.canLay0] at h1
  simp only [PyData.depth] at h2
  simp only [PyData.weight] at h3
  exact ⟨k - 1, by omega, ⟨h1, by omega, h3, fun i d hd z => h.ins i (.lst hd z)⟩⟩
theorem BdA.len {m k w : Nat} {ds : List D} (h : BdA m k w ds) : ds.length ≤ w := Nat.le_trans (wt_all (ds := ds)).2 h.wt
theorem Bd.sh {m k w : Nat} {d : D} (h : Bd m k w d) (hk : k ≤ 64) : SeqAt.shaped d = true := sh_of h.can (Nat.le_trans h.dep hk)
theorem Bd.th {m k w : Nat} {d : D} (h : Bd m k w d) (hk : k ≤ 64) (hw : w ≤ 3000) : Th d := ⟨h.sh hk, Nat.le_trans h.wt hw⟩
/-! ### one step -/
def wtI (n : Nat) : Nat := if n = 0 then 0 else n.log2 + 1
theorem wt_int (i : Int) : PyData.weight (.int i) = wtI i.natAbs := by
  simp only [PyData.weight, wtI]
  by_cases h : i = 0
  · subst h; rfl
  · have h2 : i.natAbs ≠ 0 := by omega
    have h3 : (i == 0) = false := by simpa using h
    rw [h3, if_neg h2]; rfl
theorem wtI_le {n k : Nat} : wtI n ≤ k ↔ n < 2 ^ k := by
  unfold wtI
  by_cases h : n = 0
  · subst h
    have := Nat.two_pow_pos k
    simp; exact this
  · rw [if_neg h]
    have := @Nat.log2_lt n k h
    omega
theorem bd_int {m k w : Nat} {i j : Int} (h : Bd m k w (.int i)) (e : j.natAbs ≤ i.natAbs + 1) : Bd (m + 1) k (w + 1) (.int j) := by
  refine ⟨by simp [PyData.canLay0], by simp [PyData.depth], ?_, fun n z => ?_⟩
  · have h1 := h.wt
    rw [wt_int] at h1 ⊢
    rw [wtI_le] at h1 ⊢
    rw [Nat.pow_succ]
    omega
  · cases z
    have := h.ins i .int
    omega
theorem bd_num {m k w : Nat} {i : Int} (h : i.natAbs < 2 ^ w) (hm : i.natAbs ≤ m) : Bd m k w (.int i) := by
  refine ⟨by simp [PyData.canLay0], by simp [PyData.depth], ?_, fun n z => ?_⟩
  · rw [wt_int, wtI_le]; exact h
  · cases z; exact hm
theorem bd_none {m k w : Nat} : Bd m k w .none := ⟨by simp [PyData.canLay0], by simp [PyData.depth], by simp [PyData.weight], fun _ z => nomatch z⟩
theorem bd_bool {m k w : Nat} (b : Bool) : Bd m k w (.bool b) := ⟨by simp [PyData.canLay0], by simp [PyData.depth], by simp [PyData.weight], fun _ z => nomatch z⟩
theorem strOk_tx {l : List Nat} : PyData.strOk (tx l) = true ↔ ∀ c ∈ l, c < 0x110000 := by
  unfold PyData.strOk tx
  rw [Array.all_eq_true']
  simp
theorem bd_str {m k w : Nat} {l : List Nat} (h : ∀ c ∈ l, c < 0x110000) (hl : l.length ≤ w) : Bd m k w (.str (tx l)) := by
  refine ⟨by simp only [PyData.canLay0]; exact strOk_tx.mpr h, by simp [PyData.depth], ?_, fun _ z => nomatch z⟩
  simp only [PyData.weight]
  have : (tx l).cps.size = l.length := by simp [tx]
  omega
theorem Bd.of_str {m k w : Nat} {x : Str} (h : Bd m k w (.str x)) : ∃ l, x = tx l ∧ (∀ c ∈ l, c < 0x110000) ∧ l.length ≤ w := by
  have h1 := h.can
  have h3 := h.wt
  refine ⟨x.cps.toList, tx_of x, ?_, ?_⟩
  · simp only [PyData.canLay0] at h1
    rw [tx_of x] at h1
    exact strOk_tx.mp h1
  · simp only [PyData.weight] at h3
    simpa using h3
theorem bd_word {m k w : Nat} {l : List Nat} (h : Wd l) (hw : 8 ≤ w) : Bd m k w (wS l) :=
  bd_str (fun c hc => by have := h.2.2 c hc; omega) (by have := h.2.1; omega)
/-! ### what may be shown -/
theorem shown_big {i : Int} (h : i.natAbs < 10 ^ 298) : (PyData.shown (.int i)).length ≤ 300 := by
  have e := int_text_length_le10 (k := 298) (by decide) h
  show (Str.ofString (toString i)).length ≤ 300
  rw [PySem.ofString_length]; omega
theorem big_log {n : Nat} (h : n < 10 ^ 298) : n.log2 < 1920 :=
  log2_lt (Nat.lt_of_lt_of_le h (by decide +kernel)) (by decide)
mutual
theorem ins_ok : ∀ d : D, PyData.canLay0 d = true → (∀ i, Occ i d → i.natAbs < 10 ^ 298) → PyData.intsShort 300 d = true ∧ PyData.showable d = true
  | .none, _, _ => ⟨by simp only [PyData.intsShort], by simp only [PyData.showable]⟩
  | .bool _, _, _ => ⟨by simp only [PyData.intsShort], by simp only [PyData.showable]⟩
  | .str _, _, _ => ⟨by simp only [PyData.intsShort], by simp only [PyData.showable]⟩
  | .int i, _, h => by
    have h1 := h i .int
    refine ⟨?_, ?_⟩
    · simp only [PyData.intsShort]; exact decide_eq_true (shown_big h1)
    · simp only [PyData.showable]; exact decide_eq_true (big_log h1)
  | .list ds, c, h => by
    simp only [PyData.canLay0] at c
    simp only [PyData.intsShort, PyData.showable]
    exact insAll_ok ds c fun i d hd z => h i (.lst hd z)
  | .tuple ds, c, h => by
    simp only [PyData.canLay0] at c
    simp only [PyData.intsShort, PyData.showable]
    exact insAll_ok ds c fun i d hd z => h i (.tup hd z)
  | .dict _, c, _ => by simp [PyData.canLay0] at c
theorem insAll_ok : ∀ ds : List D, PyData.canLayAll0 ds = true → (∀ i, ∀ d ∈ ds, Occ i d → i.natAbs < 10 ^ 298) → PyData.intsShortAll 300 ds = true ∧ PyData.showableAll ds = true
  | [], _, _ => ⟨by simp only [PyData.intsShortAll], by simp only [PyData.showableAll]⟩
  | d :: ds, c, h => by
    simp only [PyData.canLayAll0, Bool.and_eq_true] at c
    obtain ⟨a1, a2⟩ := ins_ok d c.1 fun i z => h i d (List.mem_cons_self ..) z
    obtain ⟨b1, b2⟩ := insAll_ok ds c.2 fun i e he z => h i e (List.mem_cons_of_mem _ he) z
    exact ⟨by simp only [PyData.intsShortAll, a1, b1, Bool.and_self], by simp only [PyData.showableAll, a2, b2, Bool.and_self]⟩
end
theorem Bd.ok {m k w : Nat} {d : D} (h : Bd m k w d) (hm : m < 10 ^ 298) (hk : k ≤ 64) (hw : w ≤ 50000) : reprOkB d = true := by
  obtain ⟨h1, h2⟩ := ins_ok d h.can fun i z => Nat.lt_of_le_of_lt (h.ins i z) hm
  have e1 : decide (PyData.depth d ≤ 64) = true := decide_eq_true (Nat.le_trans h.dep hk)
  have e2 : decide (PyData.weight d ≤ 2 ^ 20) = true := decide_eq_true (Nat.le_trans h.wt (Nat.le_trans hw (by decide)))
  have e3 : decide (PyData.weight d ≤ 50000) = true := decide_eq_true (Nat.le_trans h.wt hw)
  unfold reprOkB PyData.layable0
  rw [h.can, h1, h2, e1, e2, e3]
  rfl
/-! ### the odd things -/
theorem bd_lit {m k w : Nat} {x : Str} (h : PyData.strOk x = true ∧ x.cps.size ≤ w) : Bd m k w (.str x) :=
  ⟨by simp only [PyData.canLay0]; exact h.1, by simp [PyData.depth], by simp only [PyData.weight]; exact h.2, fun _ z => nomatch z⟩
theorem bda1 {m k w : Nat} {a : D} (h : Bd m k w a) : BdA m k (w + 1) [a] := BdA.cons h (BdA.nil (w := 0))
theorem odd_bd : ∀ d ∈ oddL, Bd (10 ^ 199) 2 662 d := by
  intro d hd
  unfold oddL at hd
  simp only [List.mem_cons, List.not_mem_nil, or_false] at hd
  have i0 : Bd (10 ^ 199) 0 10 (.int 0) := bd_num (by decide +kernel) (by decide +kernel)
  have i1 : Bd (10 ^ 199) 0 10 (.int 1) := bd_num (by decide +kernel) (by decide +kernel)
  have sa : Bd (10 ^ 199) 0 10 (.str "a") := bd_lit (by decide +kernel)
  rcases hd with rfl | rfl | rfl | rfl | rfl | rfl | rfl | rfl | rfl | rfl | rfl | rfl | rfl | rfl | rfl | rfl | rfl | rfl | rfl | rfl | rfl | rfl
  · exact bd_none
  · exact bd_bool _
  · exact bd_bool _
  · exact bd_lit (by decide +kernel)
  · exact bd_lit (by decide +kernel)
  · exact bd_lit (by decide +kernel)
  · exact i0.mono (Nat.le_refl _) (by omega) (by omega)
  · exact i1.mono (Nat.le_refl _) (by omega) (by omega)
  · exact bd_num (by decide +kernel) (by decide +kernel)
  · exact bd_num (by decide +kernel) (by decide +kernel)
  · exact bd_num (by decide +kernel) (by decide +kernel)
  · exact BdA.nil.tup
  · exact BdA.nil.lst
  · exact (BdA.cons ((bda1 i1).lst) (bda1 (sa.mono (Nat.le_refl _) (by omega) (Nat.le_refl _)))).tup.mono (Nat.le_refl _) (by omega) (by omega)
  · exact (BdA.cons sa (bda1 i1)).tup.mono (Nat.le_refl _) (by omega) (by omega)
  · exact (bda1 sa).tup.mono (Nat.le_refl _) (by omega) (by omega)
  · exact bd_num (by decide +kernel) (by decide +kernel)
  · exact bd_lit (by decide +kernel)
  · exact bd_lit (by decide +kernel)
  · exact bd_lit (by decide +kernel)
  · exact (bda1 i0).tup.mono (Nat.le_refl _) (by omega) (by omega)
  · exact (BdA.cons i1 (bda1 i1)).tup.mono (Nat.le_refl _) (by omega) (by omega)
end K01

/-! K01C: _law_bend: K02W, Y, Z again. -/
namespace K01
open PySem PySem.Spec PyProof.Rows L2 ML Dm Cg
def headB (self : Fn) : FS := (sIf (fAnd (rB (eIsi "tuple" (eV 1))) (fAnd (rB (e2 (gEqA true) (eV 1) (eTup aNil))) (rB (e2 gGt (eCall 2 F__law_draw [] (aCons (eV 0) (aCons (eK (.int 4)) aNil))) (eK (.int 0)))))) (sSeq (sSet 3 3 (eCall 2 F__law_draw [] (aCons (eV 0) (aCons (eN gLen (aCons (eV 1) aNil)) aNil))))
    (sRet 3 (e2 gAdd (e2 gAdd (eSl (eV 1) oNone (oSome (eV 3))) (eTup (aCons (eCall 3 self [] (aCons (eV 0) (aCons (e2 gIx (eV 1) (eV 3)) (aCons (eV 2) aNil)))) aNil))) (eSl (eV 1) (oSome (e2 gAdd (eV 3) (eK (.int 1)))) oNone)))) sNil)
def tailB : FS := (sSeq (sSet 3 4 (eCall 2 F__law_draw [] (aCons (eV 0) (aCons (eK (.int 6)) aNil))))
    (sSeq (sIf (fAnd (rB (eIsi "tuple" (eV 1))) (rB (e2 gLt (eV 4) (eK (.int 4))))) (sSeq (sSet 3 3 (eCall 2 F__law_draw [] (aCons (eV 0) (aCons (e2 gAdd (eN gLen (aCons (eV 1) aNil)) (eK (.int 1))) aNil))))
    (sSeq (sIf (rB (e2 (gEqA false) (eV 4) (eK (.int 0)))) (sRet 3 (e2 gAdd (e2 gAdd (eSl (eV 1) oNone (oSome (eV 3))) (eTup (aCons (e2 gIx (eV 2) (eCall 2 F__law_draw [] (aCons (eV 0) (aCons (eN gLen (aCons (eV 2) aNil)) aNil)))) aNil))) (eSl (eV 1) (oSome (eV 3)) oNone))) sNil)
    (sRet 3 (eIf (rB (e2 (gEqA false) (eV 4) (eK (.int 1)))) (e2 gAdd (eSl (eV 1) oNone (oSome (eV 3))) (eSl (eV 1) (oSome (e2 gAdd (eV 3) (eK (.int 1)))) oNone)) (eIf (rB (e2 (gEqA false) (eV 4) (eK (.int 2)))) (eN gList (aCons (eV 1) aNil)) (e2 gAdd (eV 1) (eSl (eV 1) oNone (oSome (eV 3))))))))) sNil)
    (sSeq (sIf (fAnd (rB (eIsi "int" (eV 1))) (rB (e2 gLt (eV 4) (eK (.int 4))))) (sRet 3 (e2 gIx (eTup (aCons (e2 gAddB (eV 1) (eK (.int 1))) (aCons (e2 gSubB (eV 1) (eK (.int 1))) (aCons (e1 gNegB (eV 1)) (aCons (eTup (aCons (eV 1) aNil)) aNil))))) (eV 4))) sNil)
    (sSeq (sIf (fAnd (rB (eIsi "str" (eV 1))) (rB (e2 gLt (eV 4) (eK (.int 3))))) (sRet 3 (e2 gIx (eTup (aCons (e2 gAdd (eV 1) (eK (.str "a"))) (aCons (eSl (eV 1) (oSome (eK (.int 1))) oNone) (aCons (eLst (aCons (eV 1) aNil)) aNil)))) (eV 4))) sNil)
    (sRet 3 (e2 gIx (eV 2) (eCall 2 F__law_draw [] (aCons (eV 0) (aCons (eN gLen (aCons (eV 2) aNil)) aNil)))))))))
theorem FB_eq (self : Fn) : FB__law_bend self = fnBody 3 5 (sSeq (headB self) tailB) := rfl
def bE (s : Tp) (d : D) (x y : Option B) : En := [some (fb s), some (.val d), some (.val (.tuple oddL)), x, y]
def Rd (r : R) (e : D) : Prop := r = .val e ∨ ∃ ds, e = .list ds ∧ r = .new (.lst ds)
theorem cut_from {xs : List D} (n : Nat) : ML.cutD xs (some (n : Int)) none = xs.drop n := by
  unfold ML.cutD
  rw [HT.sIx_none, HT.sIx_nat]
  rw [List.take_of_length_le (by rw [List.length_drop]; omega)]
  by_cases h : n ≤ xs.length
  · rw [Nat.min_eq_left h]
  · rw [Nat.min_eq_right (by omega), List.drop_length, List.drop_of_length_le (by omega)]
theorem cut_app {pre post : List D} : ML.cutD (pre ++ post) none (some (pre.length : Int)) = pre ∧ ML.cutD (pre ++ post) (some (pre.length : Int)) none = post := by
  rw [cut_to, cut_from]
  simp
theorem cut_next {pre post : List D} : ML.cutD (pre ++ post) (some ((pre.length : Int) + 1)) none = post.drop 1 := by
  have : ((pre.length : Int) + 1) = ((pre.length + 1 : Nat) : Int) := by omega
  rw [this, cut_from]
  simp [List.drop_append]
theorem at_app {pre post : List D} {e : D} : atI (pre ++ e :: post) (pre.length : Int) = some e := atI_get (by omega) (by simp)
theorem parts {ds : List D} {r : Int} (h0 : 0 ≤ r) (h1 : r ≤ ds.length) : ∃ pre post, ds = pre ++ post ∧ r = (pre.length : Int) := by
  obtain ⟨j, rfl⟩ := Int.eq_ofNat_of_zero_le h0
  refine ⟨ds.take j, ds.drop j, (List.take_append_drop j ds).symm, ?_⟩
  rw [List.length_take, Nat.min_eq_left (by omega)]
theorem odd_at {r : Int} (h0 : 0 ≤ r) (h1 : r < 22) : ∃ o, atI oddL r = some o ∧ o ∈ oddL := by
  obtain ⟨pre, post, e, rfl⟩ := parts (ds := oddL) h0 (by rw [odd_len]; omega)
  cases post with
  | nil =>
    have := congrArg List.length e
    rw [odd_len] at this
    simp at this
    omega
  | cons o post => exact ⟨o, by rw [e]; exact at_app, by rw [e]; simp⟩
theorem odd_short : oddL.length ≤ sizeLine := sl_le (by rw [odd_len]; omega)
section
variable {n : Int} {s : Tp} {m k w : Nat}
def Gives (n : Int) (d : D) (m k w : Nat) (o : Option (Fl × En)) : Prop :=
  ∃ r e s' x y, o = some (.rt r, bE s' d x y) ∧ Rd r e ∧ Bd m k w e ∧ Tok n s'
theorem bd_small {m k w : Nat} {i : Int} (h : i.natAbs ≤ 2) (hm : 1000 ≤ m) (hw : 2 ≤ w) : Bd m k w (.int i) :=
  (bd_num (m := m) (k := k) (w := 2) (by omega) (by omega)).mono (Nat.le_refl _) (Nat.le_refl _) hw
theorem tail_int {i : Int} (h : Tok n s) (hn : n < 800000) (hm : 10 ^ 199 ≤ m) (a : Option D) (B : Bd m k w (.int i)) : Gives (n + 3) (.int i) (m + 1) (k + 3) (2 * w + 700) (tailB (bE s (.int i) (jk a) none)) := by
  obtain ⟨way, s1, q1, w0, w1, h1⟩ := draw h 6
  obtain ⟨r, s2, q2, r0, r1, h2⟩ := draw h1 22
  obtain ⟨o, ho, mo⟩ := odd_at r0 r1
  have so := odd_short
  have hc : way = 0 ∨ way = 1 ∨ way = 2 ∨ way = 3 ∨ way = 4 ∨ way = 5 := by omega
  unfold Gives
  rcases hc with rfl | rfl | rfl | rfl | rfl | rfl
  · refine ⟨.val (.int (i + 1)), .int (i + 1), s1, jk a, some (.val (.int 0)), ?_, .inl rfl, (bd_int B (by omega)).mono (Nat.le_refl _) (by omega) (by omega), h1.up (by omega)⟩
    unfold bE
    simp_all_arith! [tailB, q1, evO_fb, argO_fb, isMu_fb, isLk_fb, isLk_none, isLk_jk, kit_tup, kit_int, kit_str, isTp, isI, isS, Bool.not_true, Bool.not_false, v_addB_i, v_addB_b, v_subB_i, v_subB_b, v_negB_i, v_negB_b, atI_0, atI_1, atI_2, atI_3]
  · refine ⟨.val (.int (i - 1)), .int (i - 1), s1, jk a, some (.val (.int 1)), ?_, .inl rfl, (bd_int B (by omega)).mono (Nat.le_refl _) (by omega) (by omega), h1.up (by omega)⟩
    unfold bE
    simp_all_arith! [tailB, q1, evO_fb, argO_fb, isMu_fb, isLk_fb, isLk_none, isLk_jk, kit_tup, kit_int, kit_str, isTp, isI, isS, Bool.not_true, Bool.not_false, v_addB_i, v_addB_b, v_subB_i, v_subB_b, v_negB_i, v_negB_b, atI_0, atI_1, atI_2, atI_3]
  · refine ⟨.val (.int (-i)), .int (-i), s1, jk a, some (.val (.int 2)), ?_, .inl rfl, (bd_int B (by omega)).mono (Nat.le_refl _) (by omega) (by omega), h1.up (by omega)⟩
    unfold bE
    simp_all_arith! [tailB, q1, evO_fb, argO_fb, isMu_fb, isLk_fb, isLk_none, isLk_jk, kit_tup, kit_int, kit_str, isTp, isI, isS, Bool.not_true, Bool.not_false, v_addB_i, v_addB_b, v_subB_i, v_subB_b, v_negB_i, v_negB_b, atI_0, atI_1, atI_2, atI_3]
  · refine ⟨.val (.tuple [.int i]), .tuple [.int i], s1, jk a, some (.val (.int 3)), ?_, .inl rfl, (bda1 B).tup.mono (by omega) (by omega) (by omega), h1.up (by omega)⟩
    unfold bE
    simp_all_arith! [tailB, q1, evO_fb, argO_fb, isMu_fb, isLk_fb, isLk_none, isLk_jk, kit_tup, kit_int, kit_str, isTp, isI, isS, Bool.not_true, Bool.not_false, v_addB_i, v_addB_b, v_subB_i, v_subB_b, v_negB_i, v_negB_b, atI_0, atI_1, atI_2, atI_3]
  · refine ⟨.val o, o, s2, jk a, some (.val (.int 4)), ?_, .inl rfl, (odd_bd o mo).mono (by omega) (by omega) (by omega), h2.up (by omega)⟩
    unfold bE
    simp_all_arith! [tailB, q1, q2, ho, odd_len, so, evO_fb, argO_fb, isMu_fb, isLk_fb, isLk_none, isLk_jk, kit_tup, kit_int, kit_str, isTp, isI, isS, Bool.not_true, Bool.not_false, v_addB_i, v_addB_b, v_subB_i, v_subB_b, v_negB_i, v_negB_b, atI_0, atI_1, atI_2, atI_3]
  · refine ⟨.val o, o, s2, jk a, some (.val (.int 5)), ?_, .inl rfl, (odd_bd o mo).mono (by omega) (by omega) (by omega), h2.up (by omega)⟩
    unfold bE
    simp_all_arith! [tailB, q1, q2, ho, odd_len, so, evO_fb, argO_fb, isMu_fb, isLk_fb, isLk_none, isLk_jk, kit_tup, kit_int, kit_str, isTp, isI, isS, Bool.not_true, Bool.not_false, v_addB_i, v_addB_b, v_subB_i, v_subB_b, v_negB_i, v_negB_b, atI_0, atI_1, atI_2, atI_3]
theorem tail_bool {b : Bool} (h : Tok n s) (hn : n < 800000) (hm : 10 ^ 199 ≤ m) (a : Option D) : Gives (n + 3) (.bool b) (m + 1) (k + 3) (2 * w + 700) (tailB (bE s (.bool b) (jk a) none)) := by
  obtain ⟨way, s1, q1, w0, w1, h1⟩ := draw h 6
  obtain ⟨r, s2, q2, r0, r1, h2⟩ := draw h1 22
  obtain ⟨o, ho, mo⟩ := odd_at r0 r1
  have so := odd_short
  have hc : way = 0 ∨ way = 1 ∨ way = 2 ∨ way = 3 ∨ way = 4 ∨ way = 5 := by omega
  unfold Gives
  rcases hc with rfl | rfl | rfl | rfl | rfl | rfl
  · refine ⟨.val (.int (b01 b + 1)), .int (b01 b + 1), s1, jk a, some (.val (.int 0)), ?_, .inl rfl, bd_small (by cases b <;> decide) (by have : (1000 : Nat) ≤ 10 ^ 199 := (by decide +kernel); omega) (by omega), h1.up (by omega)⟩
    unfold bE
    simp_all_arith! [tailB, q1, evO_fb, argO_fb, isMu_fb, isLk_fb, isLk_none, isLk_jk, kit_tup, kit_int, kit_str, isTp, isI, isS, Bool.not_true, Bool.not_false, v_addB_i, v_addB_b, v_subB_i, v_subB_b, v_negB_i, v_negB_b, atI_0, atI_1, atI_2, atI_3]
  · refine ⟨.val (.int (b01 b - 1)), .int (b01 b - 1), s1, jk a, some (.val (.int 1)), ?_, .inl rfl, bd_small (by cases b <;> decide) (by have : (1000 : Nat) ≤ 10 ^ 199 := (by decide +kernel); omega) (by omega), h1.up (by omega)⟩
    unfold bE
    simp_all_arith! [tailB, q1, evO_fb, argO_fb, isMu_fb, isLk_fb, isLk_none, isLk_jk, kit_tup, kit_int, kit_str, isTp, isI, isS, Bool.not_true, Bool.not_false, v_addB_i, v_addB_b, v_subB_i, v_subB_b, v_negB_i, v_negB_b, atI_0, atI_1, atI_2, atI_3]
  · refine ⟨.val (.int (-(b01 b))), .int (-(b01 b)), s1, jk a, some (.val (.int 2)), ?_, .inl rfl, bd_small (by cases b <;> decide) (by have : (1000 : Nat) ≤ 10 ^ 199 := (by decide +kernel); omega) (by omega), h1.up (by omega)⟩
    unfold bE
    simp_all_arith! [tailB, q1, evO_fb, argO_fb, isMu_fb, isLk_fb, isLk_none, isLk_jk, kit_tup, kit_int, kit_str, isTp, isI, isS, Bool.not_true, Bool.not_false, v_addB_i, v_addB_b, v_subB_i, v_subB_b, v_negB_i, v_negB_b, atI_0, atI_1, atI_2, atI_3]
  · refine ⟨.val (.tuple [.bool b]), .tuple [.bool b], s1, jk a, some (.val (.int 3)), ?_, .inl rfl, (bda1 (bd_bool (m := m) (k := 0) (w := 0) b)).tup.mono (by omega) (by omega) (by omega), h1.up (by omega)⟩
    unfold bE
    simp_all_arith! [tailB, q1, evO_fb, argO_fb, isMu_fb, isLk_fb, isLk_none, isLk_jk, kit_tup, kit_int, kit_str, isTp, isI, isS, Bool.not_true, Bool.not_false, v_addB_i, v_addB_b, v_subB_i, v_subB_b, v_negB_i, v_negB_b, atI_0, atI_1, atI_2, atI_3]
  · refine ⟨.val o, o, s2, jk a, some (.val (.int 4)), ?_, .inl rfl, (odd_bd o mo).mono (by omega) (by omega) (by omega), h2.up (by omega)⟩
    unfold bE
    simp_all_arith! [tailB, q1, q2, ho, odd_len, so, evO_fb, argO_fb, isMu_fb, isLk_fb, isLk_none, isLk_jk, kit_tup, kit_int, kit_str, isTp, isI, isS, Bool.not_true, Bool.not_false, v_addB_i, v_addB_b, v_subB_i, v_subB_b, v_negB_i, v_negB_b, atI_0, atI_1, atI_2, atI_3]
  · refine ⟨.val o, o, s2, jk a, some (.val (.int 5)), ?_, .inl rfl, (odd_bd o mo).mono (by omega) (by omega) (by omega), h2.up (by omega)⟩
    unfold bE
    simp_all_arith! [tailB, q1, q2, ho, odd_len, so, evO_fb, argO_fb, isMu_fb, isLk_fb, isLk_none, isLk_jk, kit_tup, kit_int, kit_str, isTp, isI, isS, Bool.not_true, Bool.not_false, v_addB_i, v_addB_b, v_subB_i, v_subB_b, v_negB_i, v_negB_b, atI_0, atI_1, atI_2, atI_3]
theorem tail_str {l : List Nat} (h : Tok n s) (hn : n < 800000) (hm : 10 ^ 199 ≤ m) (a : Option D) (hl : ∀ c ∈ l, c < 0x110000) (ll : l.length ≤ w) (hw : w ≤ 900) : Gives (n + 3) (.str (tx l)) (m + 1) (k + 3) (2 * w + 700) (tailB (bE s (.str (tx l)) (jk a) none)) := by
  obtain ⟨way, s1, q1, w0, w1, h1⟩ := draw h 6
  obtain ⟨r, s2, q2, r0, r1, h2⟩ := draw h1 22
  obtain ⟨o, ho, mo⟩ := odd_at r0 r1
  have so := odd_short
  have hc : way = 0 ∨ way = 1 ∨ way = 2 ∨ way = 3 ∨ way = 4 ∨ way = 5 := by omega
  unfold Gives
  have ls : (tx l).length ≤ sizeLine := sl_le (by rw [tx_len]; omega)
  have la : (tx l).length + (Str.ofString "a").length ≤ sizeLine := sl_le (by rw [tx_a, tx_len, tx_len]; simp; omega)
  have l1 : [PyData.str (tx l)].length ≤ sizeLine := sl_le (by simp)
  have c1 : cutS (tx l) (some 1) none = tx (l.drop 1) := by
    rw [cutS_tx]
    unfold ML.cutD
    rw [HT.sIx_none, show HT.sIx l.length 0 (some 1) = min 1 l.length from HT.sIx_nat _ 0 1]
    rw [List.take_of_length_le (by rw [List.length_drop]; omega)]
    cases l with
    | nil => rfl
    | cons c l => rw [show min 1 (c :: l).length = 1 by simp]
  have ap : tx l ++ Str.ofString "a" = tx (l ++ [97]) := by rw [tx_a, tx_app]
  rcases hc with rfl | rfl | rfl | rfl | rfl | rfl
  · refine ⟨.val (.str (tx (l ++ [97]))), .str (tx (l ++ [97])), s1, jk a, some (.val (.int 0)), ?_, .inl rfl, bd_str (l := l ++ [97]) (by intro c hc; rcases List.mem_append.mp hc with z | z; exact hl c z; simp at z; omega) (by simp; omega), h1.up (by omega)⟩
    unfold bE
    simp_all_arith! [tailB, q1, evO_fb, argO_fb, isMu_fb, isLk_fb, isLk_none, isLk_jk, kit_tup, kit_int, kit_str, isTp, isI, isS, Bool.not_true, Bool.not_false, v_addB_i, v_addB_b, v_subB_i, v_subB_b, v_negB_i, v_negB_b, atI_0, atI_1, atI_2, atI_3, ls, la, l1, c1, ap]
  · refine ⟨.val (.str (tx (l.drop 1))), .str (tx (l.drop 1)), s1, jk a, some (.val (.int 1)), ?_, .inl rfl, bd_str (l := l.drop 1) (by intro c hc; exact hl c (List.mem_of_mem_drop hc)) (by simp; omega), h1.up (by omega)⟩
    unfold bE
    simp_all_arith! [tailB, q1, evO_fb, argO_fb, isMu_fb, isLk_fb, isLk_none, isLk_jk, kit_tup, kit_int, kit_str, isTp, isI, isS, Bool.not_true, Bool.not_false, v_addB_i, v_addB_b, v_subB_i, v_subB_b, v_negB_i, v_negB_b, atI_0, atI_1, atI_2, atI_3, ls, la, l1, c1, ap]
  · refine ⟨.val (.list [.str (tx l)]), .list [.str (tx l)], s1, jk a, some (.val (.int 2)), ?_, .inl rfl, (bda1 (bd_str (m := m) (k := 0) (w := w) hl ll)).lst.mono (by omega) (by omega) (by omega), h1.up (by omega)⟩
    unfold bE
    simp_all_arith! [tailB, q1, evO_fb, argO_fb, isMu_fb, isLk_fb, isLk_none, isLk_jk, kit_tup, kit_int, kit_str, isTp, isI, isS, Bool.not_true, Bool.not_false, v_addB_i, v_addB_b, v_subB_i, v_subB_b, v_negB_i, v_negB_b, atI_0, atI_1, atI_2, atI_3, ls, la, l1, c1, ap]
  · refine ⟨.val o, o, s2, jk a, some (.val (.int 3)), ?_, .inl rfl, (odd_bd o mo).mono (by omega) (by omega) (by omega), h2.up (by omega)⟩
    unfold bE
    simp_all_arith! [tailB, q1, q2, ho, odd_len, so, evO_fb, argO_fb, isMu_fb, isLk_fb, isLk_none, isLk_jk, kit_tup, kit_int, kit_str, isTp, isI, isS, Bool.not_true, Bool.not_false, v_addB_i, v_addB_b, v_subB_i, v_subB_b, v_negB_i, v_negB_b, atI_0, atI_1, atI_2, atI_3]
  · refine ⟨.val o, o, s2, jk a, some (.val (.int 4)), ?_, .inl rfl, (odd_bd o mo).mono (by omega) (by omega) (by omega), h2.up (by omega)⟩
    unfold bE
    simp_all_arith! [tailB, q1, q2, ho, odd_len, so, evO_fb, argO_fb, isMu_fb, isLk_fb, isLk_none, isLk_jk, kit_tup, kit_int, kit_str, isTp, isI, isS, Bool.not_true, Bool.not_false, v_addB_i, v_addB_b, v_subB_i, v_subB_b, v_negB_i, v_negB_b, atI_0, atI_1, atI_2, atI_3]
  · refine ⟨.val o, o, s2, jk a, some (.val (.int 5)), ?_, .inl rfl, (odd_bd o mo).mono (by omega) (by omega) (by omega), h2.up (by omega)⟩
    unfold bE
    simp_all_arith! [tailB, q1, q2, ho, odd_len, so, evO_fb, argO_fb, isMu_fb, isLk_fb, isLk_none, isLk_jk, kit_tup, kit_int, kit_str, isTp, isI, isS, Bool.not_true, Bool.not_false, v_addB_i, v_addB_b, v_subB_i, v_subB_b, v_negB_i, v_negB_b, atI_0, atI_1, atI_2, atI_3]
theorem tail_none (h : Tok n s) (hn : n < 800000) (hm : 10 ^ 199 ≤ m) (a : Option D) : Gives (n + 3) .none (m + 1) (k + 3) (2 * w + 700) (tailB (bE s .none (jk a) none)) := by
  obtain ⟨way, s1, q1, w0, w1, h1⟩ := draw h 6
  obtain ⟨r, s2, q2, r0, r1, h2⟩ := draw h1 22
  obtain ⟨o, ho, mo⟩ := odd_at r0 r1
  have so := odd_short
  have hc : way = 0 ∨ way = 1 ∨ way = 2 ∨ way = 3 ∨ way = 4 ∨ way = 5 := by omega
  unfold Gives
  rcases hc with rfl | rfl | rfl | rfl | rfl | rfl
  · refine ⟨.val o, o, s2, jk a, some (.val (.int 0)), ?_, .inl rfl, (odd_bd o mo).mono (by omega) (by omega) (by omega), h2.up (by omega)⟩
    unfold bE
    simp_all_arith! [tailB, q1, q2, ho, odd_len, so, evO_fb, argO_fb, isMu_fb, isLk_fb, isLk_none, isLk_jk, kit_tup, kit_int, kit_str, isTp, isI, isS, Bool.not_true, Bool.not_false, v_addB_i, v_addB_b, v_subB_i, v_subB_b, v_negB_i, v_negB_b, atI_0, atI_1, atI_2, atI_3]
  · refine ⟨.val o, o, s2, jk a, some (.val (.int 1)), ?_, .inl rfl, (odd_bd o mo).mono (by omega) (by omega) (by omega), h2.up (by omega)⟩
    unfold bE
    simp_all_arith! [tailB, q1, q2, ho, odd_len, so, evO_fb, argO_fb, isMu_fb, isLk_fb, isLk_none, isLk_jk, kit_tup, kit_int, kit_str, isTp, isI, isS, Bool.not_true, Bool.not_false, v_addB_i, v_addB_b, v_subB_i, v_subB_b, v_negB_i, v_negB_b, atI_0, atI_1, atI_2, atI_3]
  · refine ⟨.val o, o, s2, jk a, some (.val (.int 2)), ?_, .inl rfl, (odd_bd o mo).mono (by omega) (by omega) (by omega), h2.up (by omega)⟩
    unfold bE
    simp_all_arith! [tailB, q1, q2, ho, odd_len, so, evO_fb, argO_fb, isMu_fb, isLk_fb, isLk_none, isLk_jk, kit_tup, kit_int, kit_str, isTp, isI, isS, Bool.not_true, Bool.not_false, v_addB_i, v_addB_b, v_subB_i, v_subB_b, v_negB_i, v_negB_b, atI_0, atI_1, atI_2, atI_3]
  · refine ⟨.val o, o, s2, jk a, some (.val (.int 3)), ?_, .inl rfl, (odd_bd o mo).mono (by omega) (by omega) (by omega), h2.up (by omega)⟩
    unfold bE
    simp_all_arith! [tailB, q1, q2, ho, odd_len, so, evO_fb, argO_fb, isMu_fb, isLk_fb, isLk_none, isLk_jk, kit_tup, kit_int, kit_str, isTp, isI, isS, Bool.not_true, Bool.not_false, v_addB_i, v_addB_b, v_subB_i, v_subB_b, v_negB_i, v_negB_b, atI_0, atI_1, atI_2, atI_3]
  · refine ⟨.val o, o, s2, jk a, some (.val (.int 4)), ?_, .inl rfl, (odd_bd o mo).mono (by omega) (by omega) (by omega), h2.up (by omega)⟩
    unfold bE
    simp_all_arith! [tailB, q1, q2, ho, odd_len, so, evO_fb, argO_fb, isMu_fb, isLk_fb, isLk_none, isLk_jk, kit_tup, kit_int, kit_str, isTp, isI, isS, Bool.not_true, Bool.not_false, v_addB_i, v_addB_b, v_subB_i, v_subB_b, v_negB_i, v_negB_b, atI_0, atI_1, atI_2, atI_3]
  · refine ⟨.val o, o, s2, jk a, some (.val (.int 5)), ?_, .inl rfl, (odd_bd o mo).mono (by omega) (by omega) (by omega), h2.up (by omega)⟩
    unfold bE
    simp_all_arith! [tailB, q1, q2, ho, odd_len, so, evO_fb, argO_fb, isMu_fb, isLk_fb, isLk_none, isLk_jk, kit_tup, kit_int, kit_str, isTp, isI, isS, Bool.not_true, Bool.not_false, v_addB_i, v_addB_b, v_subB_i, v_subB_b, v_negB_i, v_negB_b, atI_0, atI_1, atI_2, atI_3]
theorem tail_list {ds : List D} (h : Tok n s) (hn : n < 800000) (hm : 10 ^ 199 ≤ m) (a : Option D) : Gives (n + 3) (.list ds) (m + 1) (k + 3) (2 * w + 700) (tailB (bE s (.list ds) (jk a) none)) := by
  obtain ⟨way, s1, q1, w0, w1, h1⟩ := draw h 6
  obtain ⟨r, s2, q2, r0, r1, h2⟩ := draw h1 22
  obtain ⟨o, ho, mo⟩ := odd_at r0 r1
  have so := odd_short
  have hc : way = 0 ∨ way = 1 ∨ way = 2 ∨ way = 3 ∨ way = 4 ∨ way = 5 := by omega
  unfold Gives
  rcases hc with rfl | rfl | rfl | rfl | rfl | rfl
  · refine ⟨.val o, o, s2, jk a, some (.val (.int 0)), ?_, .inl rfl, (odd_bd o mo).mono (by omega) (by omega) (by omega), h2.up (by omega)⟩
    unfold bE
    simp_all_arith! [tailB, q1, q2, ho, odd_len, so, evO_fb, argO_fb, isMu_fb, isLk_fb, isLk_none, isLk_jk, kit_tup, kit_int, kit_str, isTp, isI, isS, Bool.not_true, Bool.not_false, v_addB_i, v_addB_b, v_subB_i, v_subB_b, v_negB_i, v_negB_b, atI_0, atI_1, atI_2, atI_3]
  · refine ⟨.val o, o, s2, jk a, some (.val (.int 1)), ?_, .inl rfl, (odd_bd o mo).mono (by omega) (by omega) (by omega), h2.up (by omega)⟩
    unfold bE
    simp_all_arith! [tailB, q1, q2, ho, odd_len, so, evO_fb, argO_fb, isMu_fb, isLk_fb, isLk_none, isLk_jk, kit_tup, kit_int, kit_str, isTp, isI, isS, Bool.not_true, Bool.not_false, v_addB_i, v_addB_b, v_subB_i, v_subB_b, v_negB_i, v_negB_b, atI_0, atI_1, atI_2, atI_3]
  · refine ⟨.val o, o, s2, jk a, some (.val (.int 2)), ?_, .inl rfl, (odd_bd o mo).mono (by omega) (by omega) (by omega), h2.up (by omega)⟩
    unfold bE
    simp_all_arith! [tailB, q1, q2, ho, odd_len, so, evO_fb, argO_fb, isMu_fb, isLk_fb, isLk_none, isLk_jk, kit_tup, kit_int, kit_str, isTp, isI, isS, Bool.not_true, Bool.not_false, v_addB_i, v_addB_b, v_subB_i, v_subB_b, v_negB_i, v_negB_b, atI_0, atI_1, atI_2, atI_3]
  · refine ⟨.val o, o, s2, jk a, some (.val (.int 3)), ?_, .inl rfl, (odd_bd o mo).mono (by omega) (by omega) (by omega), h2.up (by omega)⟩
    unfold bE
    simp_all_arith! [tailB, q1, q2, ho, odd_len, so, evO_fb, argO_fb, isMu_fb, isLk_fb, isLk_none, isLk_jk, kit_tup, kit_int, kit_str, isTp, isI, isS, Bool.not_true, Bool.not_false, v_addB_i, v_addB_b, v_subB_i, v_subB_b, v_negB_i, v_negB_b, atI_0, atI_1, atI_2, atI_3]
  · refine ⟨.val o, o, s2, jk a, some (.val (.int 4)), ?_, .inl rfl, (odd_bd o mo).mono (by omega) (by omega) (by omega), h2.up (by omega)⟩
    unfold bE
    simp_all_arith! [tailB, q1, q2, ho, odd_len, so, evO_fb, argO_fb, isMu_fb, isLk_fb, isLk_none, isLk_jk, kit_tup, kit_int, kit_str, isTp, isI, isS, Bool.not_true, Bool.not_false, v_addB_i, v_addB_b, v_subB_i, v_subB_b, v_negB_i, v_negB_b, atI_0, atI_1, atI_2, atI_3]
  · refine ⟨.val o, o, s2, jk a, some (.val (.int 5)), ?_, .inl rfl, (odd_bd o mo).mono (by omega) (by omega) (by omega), h2.up (by omega)⟩
    unfold bE
    simp_all_arith! [tailB, q1, q2, ho, odd_len, so, evO_fb, argO_fb, isMu_fb, isLk_fb, isLk_none, isLk_jk, kit_tup, kit_int, kit_str, isTp, isI, isS, Bool.not_true, Bool.not_false, v_addB_i, v_addB_b, v_subB_i, v_subB_b, v_negB_i, v_negB_b, atI_0, atI_1, atI_2, atI_3]
theorem tail_tup {ds : List D} (h : Tok n s) (hn : n < 800000) (hm : 10 ^ 199 ≤ m) (a : Option D) (B : BdA m k w ds) (hw : w ≤ 900) : Gives (n + 3) (.tuple ds) (m + 1) (k + 4) (2 * w + 700) (tailB (bE s (.tuple ds) (jk a) none)) := by
  have hl := B.len
  have sl : ds.length ≤ sizeLine := sl_le (by omega)
  have l1 : ∀ o : D, [o].length ≤ sizeLine := fun o => sl_le (by simp)
  obtain ⟨way, s1, q1, w0, w1, h1⟩ := draw h 6
  obtain ⟨r, s2, q2, r0, r1, h2⟩ := draw h1 22
  obtain ⟨o, ho, mo⟩ := odd_at r0 r1
  have so := odd_short
  have hc : way = 0 ∨ way = 1 ∨ way = 2 ∨ way = 3 ∨ way = 4 ∨ way = 5 := by omega
  obtain ⟨at_, s3, q3, a0, a1, h3⟩ := draw h1 ((ds.length : Int) + 1)
  obtain ⟨pre, post, rfl, rfl⟩ := parts (ds := ds) a0 (by omega)
  obtain ⟨r', s4, q4, r0', r1', h4⟩ := draw h3 22
  obtain ⟨o', ho', mo'⟩ := odd_at r0' r1'
  obtain ⟨c1, c2⟩ := cut_app (pre := pre) (post := post)
  have c3 := cut_next (pre := pre) (post := post)
  obtain ⟨w1, w2, we, b1, b2⟩ := B.split
  have ll : (pre ++ post).length = pre.length + post.length := List.length_append
  have s5 : pre.length + 1 ≤ sizeLine := sl_le (by omega)
  have s6 : (pre ++ [o']).length + post.length ≤ sizeLine := sl_le (by simp; omega)
  have s7 : pre.length + (post.drop 1).length ≤ sizeLine := sl_le (by simp; omega)
  have s8 : (pre ++ post).length + pre.length ≤ sizeLine := sl_le (by omega)
  have bo := odd_bd o' mo'
  have bo1 : BdA (m + 1) (k + 3) 663 [o'] := bda1 (bo.mono (by omega) (by omega) (Nat.le_refl _))
  have b1' : BdA (m + 1) (k + 3) w1 pre := b1.mono (by omega) (by omega) (Nat.le_refl _)
  have b2' : BdA (m + 1) (k + 3) w2 post := b2.mono (by omega) (by omega) (Nat.le_refl _)
  have b3 : BdA (m + 1) (k + 3) w2 (post.drop 1) := by
    cases post with
    | nil => exact BdA.nil
    | cons x post =>
      obtain ⟨_, _, _, _, hh⟩ := b2'.uncons
      exact hh.mono (Nat.le_refl _) (Nat.le_refl _) (by omega)
  unfold Gives
  rcases hc with rfl | rfl | rfl | rfl | rfl | rfl
  · refine ⟨.val (.tuple (pre ++ [o'] ++ post)), .tuple (pre ++ [o'] ++ post), s4, some (.val (.int pre.length)), some (.val (.int 0)), ?_, .inl rfl, ((b1'.app bo1).app b2').tup.mono (Nat.le_refl _) (by omega) (by omega), h4.up (by omega)⟩
    unfold bE
    simp_all_arith! [tailB, q1, q2, q3, q4, sh_int, eqv_int, Int.reduceEq, ho, ho', odd_len, so, sl, l1, c1, c2, c3, s5, s6, s7, s8, evO_fb, argO_fb, isMu_fb, isLk_fb, isLk_none, isLk_jk, kit_tup, kit_int, kit_str, isTp, isI, isS, Bool.not_true, Bool.not_false]
  · refine ⟨.val (.tuple (pre ++ post.drop 1)), .tuple (pre ++ post.drop 1), s3, some (.val (.int pre.length)), some (.val (.int 1)), ?_, .inl rfl, (b1'.app b3).tup.mono (Nat.le_refl _) (by omega) (by omega), h3.up (by omega)⟩
    unfold bE
    simp_all_arith! [tailB, q1, q2, q3, q4, sh_int, eqv_int, Int.reduceEq, ho, ho', odd_len, so, sl, l1, c1, c2, c3, s5, s6, s7, s8, evO_fb, argO_fb, isMu_fb, isLk_fb, isLk_none, isLk_jk, kit_tup, kit_int, kit_str, isTp, isI, isS, Bool.not_true, Bool.not_false]
  · refine ⟨.new (.lst (pre ++ post)), .list (pre ++ post), s3, some (.val (.int pre.length)), some (.val (.int 2)), ?_, .inr ⟨_, rfl, rfl⟩, (b1'.app b2').lst.mono (Nat.le_refl _) (by omega) (by omega), h3.up (by omega)⟩
    unfold bE
    simp_all_arith! [tailB, q1, q2, q3, q4, sh_int, eqv_int, Int.reduceEq, ho, ho', odd_len, so, sl, l1, c1, c2, c3, s5, s6, s7, s8, evO_fb, argO_fb, isMu_fb, isLk_fb, isLk_none, isLk_jk, kit_tup, kit_int, kit_str, isTp, isI, isS, Bool.not_true, Bool.not_false]
  · refine ⟨.val (.tuple (pre ++ post ++ pre)), .tuple (pre ++ post ++ pre), s3, some (.val (.int pre.length)), some (.val (.int 3)), ?_, .inl rfl, ((b1'.app b2').app b1').tup.mono (Nat.le_refl _) (by omega) (by omega), h3.up (by omega)⟩
    unfold bE
    simp_all_arith! [tailB, q1, q2, q3, q4, sh_int, eqv_int, Int.reduceEq, ho, ho', odd_len, so, sl, l1, c1, c2, c3, s5, s6, s7, s8, evO_fb, argO_fb, isMu_fb, isLk_fb, isLk_none, isLk_jk, kit_tup, kit_int, kit_str, isTp, isI, isS, Bool.not_true, Bool.not_false]
  · refine ⟨.val o, o, s2, jk a, some (.val (.int 4)), ?_, .inl rfl, (odd_bd o mo).mono (by omega) (by omega) (by omega), h2.up (by omega)⟩
    unfold bE
    simp_all_arith! [tailB, q1, q2, q3, q4, sh_int, eqv_int, Int.reduceEq, ho, ho', odd_len, so, sl, l1, c1, c2, c3, s5, s6, s7, s8, evO_fb, argO_fb, isMu_fb, isLk_fb, isLk_none, isLk_jk, kit_tup, kit_int, kit_str, isTp, isI, isS, Bool.not_true, Bool.not_false]
  · refine ⟨.val o, o, s2, jk a, some (.val (.int 5)), ?_, .inl rfl, (odd_bd o mo).mono (by omega) (by omega) (by omega), h2.up (by omega)⟩
    unfold bE
    simp_all_arith! [tailB, q1, q2, q3, q4, sh_int, eqv_int, Int.reduceEq, ho, ho', odd_len, so, sl, l1, c1, c2, c3, s5, s6, s7, s8, evO_fb, argO_fb, isMu_fb, isLk_fb, isLk_none, isLk_jk, kit_tup, kit_int, kit_str, isTp, isI, isS, Bool.not_true, Bool.not_false]
end
theorem sh_nil : SeqAt.shaped (.tuple []) = true := by decide +kernel
def Bent (n : Int) (d : D) (m k w : Nat) (f : Fn) (s : Tp) : Prop :=
  ∃ r e s', f [fb s, .val d, .val (.tuple oddL)] = some (r, [fb s', .val d, .val (.tuple oddL)]) ∧ Rd r e ∧ Bd m k w e ∧ Tok n s'
section
variable {n : Int} {s : Tp} {m k w : Nat}
theorem bent_of {d : D} (self : Fn) (hh : headB self (bE s d none none) = some (.nx, bE s d none none)) (h : Gives n d m k w (tailB (bE s d (jk none) none))) : Bent n d m k w (FB__law_bend self) s := by
  obtain ⟨r, e, s', x, y, q, hr, hb, ht⟩ := h
  refine ⟨r, e, s', ?_, hr, hb, ht⟩
  unfold bE at hh q
  simp only [jk_none] at q
  rw [FB_eq]
  rcases hr with rfl | ⟨ds, rfl, rfl⟩
  · simp_all_arith! [hh, q]
  · simp_all_arith! [hh, q]
theorem bend_val : ∀ (f : Nat) {n : Int} {s : Tp} {d : D} {m k w : Nat}, Tok n s → n + 5 * f < 700000 → 10 ^ 199 ≤ m → Bd m k w d → k < f → k ≤ 60 → w ≤ 900 → Bent (n + 5 * f) d (m + 1) (k + 3) (2 * w + 700) (FR__law_bend f) s
  | 0, _, _, _, _, _, _, _, _, _, _, hk, _, _ => absurd hk (by omega)
  | f + 1, n, s, d, m, k, w, h, hn, hm, B, hk, hk2, hw => by
    show Bent _ d _ _ _ (FB__law_bend (FR__law_bend f)) s
    have up : ∀ {m' k' w' : Nat}, Bent (n + 4) d m' k' w' (FB__law_bend (FR__law_bend f)) s → Bent (n + 5 * (f + 1 : Nat)) d m' k' w' (FB__law_bend (FR__law_bend f)) s := fun ⟨r, e, s', q, h1, h2, h3⟩ => ⟨r, e, s', q, h1, h2, h3.up (by omega)⟩
    cases d with
    | none =>
      refine up (bent_of _ ?_ ?_)
      · unfold bE; simp_all_arith! [headB, kit_tup, isTp]
      · obtain ⟨r, e, s', x, y, q, h1, h2, h3⟩ := tail_none (k := k) (w := w) h (by omega) hm none
        exact ⟨r, e, s', x, y, q, h1, h2, h3.up (by omega)⟩
    | bool b =>
      refine up (bent_of _ ?_ ?_)
      · unfold bE; simp_all_arith! [headB, kit_tup, isTp]
      · obtain ⟨r, e, s', x, y, q, h1, h2, h3⟩ := tail_bool (k := k) (w := w) (b := b) h (by omega) hm none
        exact ⟨r, e, s', x, y, q, h1, h2, h3.up (by omega)⟩
    | int i =>
      refine up (bent_of _ ?_ ?_)
      · unfold bE; simp_all_arith! [headB, kit_tup, isTp]
      · obtain ⟨r, e, s', x, y, q, h1, h2, h3⟩ := tail_int (k := k) (w := w) h (by omega) hm none B
        exact ⟨r, e, s', x, y, q, h1, h2, h3.up (by omega)⟩
    | str x =>
      obtain ⟨l, rfl, hl, ll⟩ := B.of_str
      refine up (bent_of _ ?_ ?_)
      · unfold bE; simp_all_arith! [headB, kit_tup, isTp]
      · obtain ⟨r, e, s', x, y, q, h1, h2, h3⟩ := tail_str (k := k) (w := w) h (by omega) hm none hl ll hw
        exact ⟨r, e, s', x, y, q, h1, h2, h3.up (by omega)⟩
    | list ds =>
      refine up (bent_of _ ?_ ?_)
      · unfold bE; simp_all_arith! [headB, kit_tup, isTp]
      · obtain ⟨r, e, s', x, y, q, h1, h2, h3⟩ := tail_list (k := k) (w := w) (ds := ds) h (by omega) hm none
        exact ⟨r, e, s', x, y, q, h1, h2, h3.up (by omega)⟩
    | dict _ => have := B.can; simp [PyData.canLay0] at this
    | tuple ds =>
      have sh := B.sh (by omega)
      obtain ⟨k', rfl, A⟩ := B.of_tup
      have hl := A.len
      by_cases hd : ds = []
      · subst hd
        refine up (bent_of _ ?_ ?_)
        · unfold bE; simp_all_arith! [headB, kit_tup, isTp, sh_nil, eqv_tup_nil, List.isEmpty_nil, Bool.not_true]
        · obtain ⟨r, e, s', x, y, q, h1, h2, h3⟩ := tail_tup h (by omega) hm none A hw
          exact ⟨r, e, s', x, y, q, h1, h2, h3.up (by omega)⟩
      · have he : ds.isEmpty = false := by cases ds with | nil => exact absurd rfl hd | cons _ _ => rfl
        have hpos := List.length_pos_iff.mpr hd
        obtain ⟨g, s1, q1, g0, g1, h1⟩ := draw h 4
        by_cases hg : 0 < g
        · obtain ⟨p, s2, q2, p0, p1, h2⟩ := draw h1 (ds.length : Int)
          obtain ⟨pre, post, rfl, rfl⟩ := parts (ds := ds) p0 (by omega)
          cases post with
          | nil => simp at p1
          | cons x post =>
            have at1 := at_app (pre := pre) (post := post) (e := x)
            obtain ⟨c1, _⟩ := cut_app (pre := pre) (post := x :: post)
            have c3 := cut_next (pre := pre) (post := x :: post)
            rw [List.drop_one, List.tail_cons] at c3
            obtain ⟨w1, w2, we, b1, b2⟩ := A.split
            obtain ⟨w3, w4, we2, b3, b4⟩ := b2.uncons
            have sl : (pre ++ x :: post).length ≤ sizeLine := sl_le (by omega)
            have ll : (pre ++ x :: post).length = pre.length + post.length + 1 := by simp; omega
            obtain ⟨r, e, s3, q3, hr, be, h3⟩ := bend_val f h2 (by omega) hm b3 (by omega) (by omega) (by omega)
            have l1 : [e].length ≤ sizeLine := sl_le (by simp)
            have s5 : pre.length + 1 ≤ sizeLine := sl_le (by omega)
            have s6 : (pre ++ [e]).length + post.length ≤ sizeLine := sl_le (by simp; omega)
            refine ⟨.val (.tuple (pre ++ [e] ++ post)), .tuple (pre ++ [e] ++ post), s3, ?_, .inl rfl, ?_, h3.up (by omega)⟩
            · rw [FB_eq]
              rcases hr with rfl | ⟨es, rfl, rfl⟩
              · simp_all_arith! [headB, kit_tup, isTp, sh, sh_nil, eqv_tup_nil, he, Bool.not_false, q1, q2, q3, sl, at1, c1, c3, l1, s5, s6, decide_eq_true hg, evO_fb, argO_fb, isMu_fb, isLk_fb, isLk_none]
              · simp_all_arith! [headB, kit_tup, isTp, sh, sh_nil, eqv_tup_nil, he, Bool.not_false, q1, q2, q3, sl, at1, c1, c3, l1, s5, s6, decide_eq_true hg, evO_fb, argO_fb, isMu_fb, isLk_fb, isLk_none]
            · have z1 : BdA (m + 1) (k' + 3) w1 pre := b1.mono (by omega) (by omega) (Nat.le_refl _)
              have z2 : BdA (m + 1) (k' + 3) w4 post := b4.mono (by omega) (by omega) (Nat.le_refl _)
              exact ((z1.app (bda1 be)).app z2).tup.mono (Nat.le_refl _) (by omega) (by omega)
        · obtain ⟨r, e, s', x, y, q, h1', h2, h3⟩ := tail_tup h1 (by omega) hm none A hw
          refine ⟨r, e, s', ?_, h1', h2, h3.up (by omega)⟩
          unfold bE at q
          simp only [jk_none] at q
          rw [FB_eq]
          rcases h1' with rfl | ⟨es, rfl, rfl⟩
          · simp_all_arith! [headB, kit_tup, isTp, sh, sh_nil, eqv_tup_nil, he, Bool.not_false, q1, q, decide_eq_false hg, evO_fb, argO_fb, isMu_fb, isLk_fb, isLk_none]
          · simp_all_arith! [headB, kit_tup, isTp, sh, sh_nil, eqv_tup_nil, he, Bool.not_false, q1, q, decide_eq_false hg, evO_fb, argO_fb, isMu_fb, isLk_fb, isLk_none]
end
theorem bend_mu {n : Int} {s : Tp} {m k w : Nat} (f : Nat) (h : Tok n s) (hn : n < 800000) (hm : 10 ^ 199 ≤ m) (es : List D) :
    ∃ e s', FR__law_bend (f + 1) [fb s, .mu (.lst es), .val (.tuple oddL)] = some (.val e, [fb s', .mu (.lst es), .val (.tuple oddL)]) ∧ Bd (m + 1) (k + 3) (2 * w + 700) e ∧ Tok (n + 2) s' := by
  obtain ⟨way, s1, q1, w0, w1, h1⟩ := draw h 6
  obtain ⟨r, s2, q2, r0, r1, h2⟩ := draw h1 22
  obtain ⟨o, ho, mo⟩ := odd_at r0 r1
  have so := odd_short
  have t1 : tyO (some (B.mu (.lst es))) = some "list" := rfl
  have k1 : kitB "list" "tuple" = some false := kit_tup (.list [])
  have k2 : kitB "list" "int" = some false := kit_int (.list [])
  have k3 : kitB "list" "str" = some false := kit_str (.list [])
  refine ⟨o, s2, ?_, (odd_bd o mo).mono (by omega) (by omega) (by omega), h2.up (by omega)⟩
  show FB__law_bend (FR__law_bend f) _ = _
  simp_all_arith! [FB__law_bend, q1, q2, ho, odd_len, so, t1, k1, k2, k3, evO_fb, argO_fb, isMu_fb, isLk_fb, isLk_none]
section
variable {m k w w1 w2 w3 : Nat}
theorem bda_all {ds : List D} (h : ∀ d ∈ ds, Bd m k w d) : BdA m k ((w + 1) * ds.length) ds := by
  induction ds with
  | nil => exact BdA.nil
  | cons d ds ih =>
    have q := BdA.cons (h d (List.mem_cons_self ..)) (ih fun e he => h e (List.mem_cons_of_mem _ he))
    refine q.mono (Nat.le_refl _) (Nat.le_refl _) ?_
    rw [List.length_cons, Nat.mul_succ]; omega
theorem bd_tri {a b c : D} (h1 : Bd m k w1 a) (h2 : Bd m k w2 b) (h3 : Bd m k w3 c) : Bd m (k + 1) (w1 + w2 + w3 + 3) (.tuple [a, b, c]) :=
  (BdA.cons h1 (BdA.cons h2 (bda1 h3))).tup.mono (Nat.le_refl _) (Nat.le_refl _) (by omega)
theorem bda_words {ws : List (List Nat)} (h : ∀ v ∈ ws, Wd v) (j : Nat) (hj : ws.length ≤ j) : BdA m 0 (9 * j) (ws.map wS) := by
  have := bda_all (m := m) (k := 0) (w := 8) (ds := ws.map wS) fun d hd => by
    obtain ⟨v, hv, rfl⟩ := List.mem_map.mp hd
    exact bd_word (h v hv) (Nat.le_refl _)
  refine this.mono (Nat.le_refl _) (Nat.le_refl _) ?_
  rw [List.length_map]
  exact Nat.mul_le_mul_left _ hj
end
theorem thousand {m : Nat} (hm : 10 ^ 199 ≤ m) : 1000 ≤ m := Nat.le_trans (by decide +kernel) hm
theorem bd_few {m k : Nat} {i : Int} (hm : 10 ^ 199 ≤ m) (h : i.natAbs ≤ 1000) : Bd m k 10 (.int i) :=
  bd_num (by have : (2 : Nat) ^ 10 = 1024 := rfl; omega) (Nat.le_trans h (thousand hm))
end K01

/-! K01D: objects, judged by the program. -/
namespace K01
open PySem PySem.Spec PyProof.Rows L2 ML Dm Cg
def pairB : D → Bool
  | .tuple [w, _] => isW w
  | _ => false
def wdL : D → List Nat
  | .tuple (.str x :: _) => x.cps.toList
  | _ => []
def okSz : D → Bool
  | .tuple [_, .int n] => decide (1 ≤ n)
  | _ => false
def chainB (l : List (List Nat)) : Bool := (l.zip l.tail).all fun p => decide (p.1 < p.2)
def pairsB : D → Bool
  | .tuple ds => !ds.isEmpty && (ds.all pairB && chainB (ds.map wdL))
  | _ => false
def objB : D → Bool
  | .tuple ds => pairsB (.tuple ds) && ds.all okSz
  | _ => false
theorem pairB_of {d : D} (h : pairB d = true) : ∃ x a, d = .tuple [.str x, a] := by
  unfold pairB at h
  split at h
  · rename_i w a
    cases w with
    | str x => exact ⟨x, a, rfl⟩
    | _ => simp [isW] at h
  · cases h
theorem pair_spec (d : D) (h : Th d) : F_is_pair [.val d] = some (.val (.bool (pairB d)), [.val d]) := by
  cases d with
  | tuple ds =>
    obtain ⟨h1, h2⟩ := h.tup
    have sl : ds.length ≤ sizeLine := sl_le (by omega)
    match ds, h1, sl with
    | [], _, sl => simp_all_arith! [F_is_pair, kit_tup, isTp, sh_int, eqv_int, Int.reduceEq, pairB]
    | [a], _, sl => simp_all_arith! [F_is_pair, kit_tup, isTp, sh_int, eqv_int, Int.reduceEq, pairB]
    | [a, b], h1, sl =>
      have q := word_spec a (h1 a (List.mem_cons_self ..))
      have e2 : ((0 + 1 + 1 : Nat) : Int) = 2 := rfl
      simp_all_arith! [F_is_pair, kit_tup, isTp, sh_int, eqv_int, Int.reduceEq, pairB, q, atI_0, sl, e2]
    | a :: b :: c :: l, _, sl =>
      have e : decide (((l.length + 1 + 1 + 1 : Nat) : Int) = 2) = false := decide_eq_false (by omega)
      have sl : l.length + 1 + 1 + 1 ≤ sizeLine := sl
      simp_all_arith! [F_is_pair, kit_tup, isTp, sh_int, eqv_int, e, sl, pairB]
  | _ => simp_all_arith! [F_is_pair, kit_tup, isTp, pairB]
theorem zip_map {ds es : List D} : zipD ds es = (ds.zip es).map fun p => PyData.tuple [p.1, p.2] := by
  unfold zipD
  induction ds generalizing es with
  | nil => rfl
  | cons a ds ih =>
    cases es with
    | nil => rfl
    | cons b es => simp only [List.zipWith_cons_cons, List.zip_cons_cons, List.map_cons, ih]
theorem zip_tail {α β : Type} (f : α → β) (l : List α) : (l.map f).zip (l.map f).tail = (l.zip l.tail).map fun p => (f p.1, f p.2) := by
  rw [← List.map_tail, List.zip_map]
  rfl
theorem zip_mem {α : Type} {l : List α} {p : α × α} (h : p ∈ l.zip l.tail) : p.1 ∈ l ∧ p.2 ∈ l :=
  ⟨(List.of_mem_zip (a := p.1) (b := p.2) h).1, List.mem_of_mem_tail (List.of_mem_zip (a := p.1) (b := p.2) h).2⟩
theorem lt_str_ok (x y : Str) : okCmp (.str x) (.str y) = true := by
  unfold okCmp
  simp [PySem.W.alike, PyData.depth]
theorem pairs_spec (d : D) (h : Th d) : F_are_pairs [.val d] = some (.val (.bool (pairsB d)), [.val d]) := by
  cases d with
  | tuple ds =>
    obtain ⟨h1, h2⟩ := h.tup
    have sl : ds.length ≤ sizeLine := sl_le (by omega)
    by_cases hn : ds = []
    · subst hn
      simp_all_arith! [F_are_pairs, kit_tup, isTp, sh_int, eqv_int, Int.reduceEq, pairsB, Bool.not_true, Bool.not_false, List.isEmpty_nil, Bool.false_and]
    · have hpos := List.length_pos_iff.mpr hn
      have he : ds.isEmpty = false := by cases ds with | nil => exact absurd rfl hn | cons _ _ => rfl
      have e0 : decide (((ds.length : Nat) : Int) = 0) = false := decide_eq_false (by omega)
      have lc1 : LC_are_pairs_1 [some (.val (.tuple ds)), none, none, none] = some (.new (.lst ((ds.map pairB).map PyData.bool)), [some (.val (.tuple ds)), none, none, none]) := by
        unfold LC_are_pairs_1
        have := eLc_of (np := 1) (own := [1]) (fi := iSeq (eV 0)) (t := .nm 1) (tst := tTrue) (elt := eCall 1 F_is_pair [] (aCons (eC 1) aNil)) (env := [some (.val (.tuple ds)), none, none, none]) (env1 := [some (.val (.tuple ds)), none, none, none]) (src := none)
          ds id (fun _ => true) (fun d => .bool (pairB d)) (by simp_all_arith! [List.map_id]) rfl (fun d hd => by
            have q := pair_spec d (h1 d hd)
            simp_all_arith! [v_lcS, tTrue, id, q]) (by omega)
        rw [this, List.filter_eq_self.mpr (by simp), List.map_map]
        rfl
      by_cases hp : ds.all pairB = true
      · have hp' := List.all_eq_true.mp hp
        have lc2 : LC_are_pairs_2 [some (.val (.tuple ds)), none, none, none] = some (.new (.lst (((ds.zip ds.tail).map fun p => decide (wdL p.1 < wdL p.2)).map PyData.bool)), [some (.val (.tuple ds)), none, none, none]) := by
          unfold LC_are_pairs_2
          have c1 : ML.cutD ds (some 1) none = ds.tail := by
            have := cut_from (xs := ds) 1
            rw [← List.drop_one]; exact this
          have := eLc_of (np := 1) (own := [2, 3]) (fi := iZip (aCons (eV 0) (aCons (eSl (eV 0) (oSome (eK (.int 1))) oNone) aNil))) (t := .tp [(.nm 2), (.nm 3)]) (tst := tTrue) (elt := e2 gLtA (e2 gIx (eC 2) (eK (.int 0))) (e2 gIx (eC 3) (eK (.int 0)))) (env := [some (.val (.tuple ds)), none, none, none]) (env1 := [some (.val (.tuple ds)), none, none, none]) (src := none)
            (ds.zip ds.tail) (fun p => PyData.tuple [p.1, p.2]) (fun _ => true) (fun p => .bool (decide (wdL p.1 < wdL p.2))) (by simp_all_arith! [c1, zip_map]) rfl (fun p hm => by
              obtain ⟨m1, m2⟩ := zip_mem hm
              obtain ⟨x, a, e1⟩ := pairB_of (hp' _ m1)
              obtain ⟨y, b, e2⟩ := pairB_of (hp' _ m2)
              have ok := lt_str_ok x y
              rw [e1, e2]
              simp_all_arith! [v_lcS, tTrue, atI_0, ok, PySem.W.dataLt_str, wdL]
              congr) (by rw [List.length_zip, List.length_tail]; omega)
          rw [this, List.filter_eq_self.mpr (by simp), List.map_map]
          rfl
        have ch : ((ds.zip ds.tail).map fun p => decide (wdL p.1 < wdL p.2)).all id = chainB (ds.map wdL) := by
          unfold chainB
          rw [zip_tail, List.all_map, List.all_map]
          rfl
        have hp2 : (ds.map pairB).all id = true := by rw [List.all_map]; exact hp
        have e : pairsB (.tuple ds) = chainB (ds.map wdL) := by
          show (!ds.isEmpty && (ds.all pairB && chainB (ds.map wdL))) = _
          rw [he, hp]; rfl
        simp_all_arith! [F_are_pairs, kit_tup, isTp, sl, sh_int, eqv_int, e0, lc1, lc2, bools_map, hp2, ch, e, Bool.not_true, Bool.not_false]
      · have hp := Bool.eq_false_iff.mpr hp
        have hp2 : (ds.map pairB).all id = false := by rw [List.all_map]; exact hp
        have e : pairsB (.tuple ds) = false := by
          show (!ds.isEmpty && (ds.all pairB && chainB (ds.map wdL))) = _
          rw [he, hp]; rfl
        simp_all_arith! [F_are_pairs, kit_tup, isTp, sl, sh_int, eqv_int, e0, lc1, bools_map, hp2, e, Bool.not_true, Bool.not_false]
  | _ => simp_all_arith! [F_are_pairs, kit_tup, isTp, pairsB, Bool.not_true, Bool.not_false]
def cntB : D → Bool
  | .int n => decide (0 ≤ n)
  | _ => false
theorem count_spec (d : D) : F_is_count [.val d] = some (.val (.bool (cntB d)), [.val d]) := by
  have q := number_spec d
  cases d with
  | int n => simp_all_arith! [F_is_count, q, isN, cntB]
  | _ => simp_all_arith! [F_is_count, q, isN, cntB]
theorem objects_spec2 (d : D) (h : Th d) : F_is_objects [.val d] = some (.val (.bool (objB d)), [.val d]) := by
  have q := pairs_spec d h
  cases d with
  | tuple ds =>
    cases hb : pairsB (.tuple ds) with
    | false =>
      rw [hb] at q
      have e : objB (.tuple ds) = false := by show (pairsB (.tuple ds) && ds.all okSz) = false; rw [hb]; rfl
      simp_all_arith! [F_is_objects, q, e]
    | true =>
      rw [hb] at q
      have e : objB (.tuple ds) = ds.all okSz := by show (pairsB (.tuple ds) && ds.all okSz) = _; rw [hb]; rfl
      have hb : (!ds.isEmpty && (ds.all pairB && chainB (ds.map wdL))) = true := hb
      rw [Bool.and_eq_true, Bool.and_eq_true] at hb
      have hp' := List.all_eq_true.mp hb.2.1
      obtain ⟨h1, h2⟩ := h.tup
      have lc : LC_is_objects_1 [some (.val (.tuple ds)), none, none] = some (.new (.lst ((ds.map okSz).map PyData.bool)), [some (.val (.tuple ds)), none, none]) := by
        unfold LC_is_objects_1
        have := eLc_of (np := 1) (own := [1, 2]) (fi := iSeq (eV 0)) (t := .tp [(.nm 1), (.nm 2)]) (tst := tTrue) (elt := eAnd (eCall 1 F_is_count [] (aCons (eC 2) aNil)) (e2 gGt (eC 2) (eK (.int 0)))) (env := [some (.val (.tuple ds)), none, none]) (env1 := [some (.val (.tuple ds)), none, none]) (src := none)
          ds id (fun _ => true) (fun d => .bool (okSz d)) (by simp_all_arith! [List.map_id]) rfl (fun d hd => by
            obtain ⟨x, a, rfl⟩ := pairB_of (hp' d hd)
            have qc := count_spec a
            cases a with
            | int n =>
              by_cases hn : 0 ≤ n
              · have qc : F_is_count [.val (.int n)] = some (.val (.bool true), [.val (.int n)]) := by rw [qc]; simp only [cntB, decide_eq_true hn]
                by_cases h1 : 1 ≤ n
                · have h0 : 0 < n := by omega
                  simp_all_arith! [v_lcS, tTrue, id, qc, okSz, decide_eq_true h1, decide_eq_true h0]
                · have h0 : ¬ 0 < n := by omega
                  simp_all_arith! [v_lcS, tTrue, id, qc, okSz, decide_eq_false h1, decide_eq_false h0]
              · have qc : F_is_count [.val (.int n)] = some (.val (.bool false), [.val (.int n)]) := by rw [qc]; simp only [cntB, decide_eq_false hn]
                have h1 : ¬ 1 ≤ n := by omega
                simp_all_arith! [v_lcS, tTrue, id, qc, okSz, decide_eq_false h1]
            | _ => simp_all_arith! [v_lcS, tTrue, id, qc, cntB, okSz]) (by omega)
        rw [this, List.filter_eq_self.mpr (by simp), List.map_map]
        rfl
      have e2 : (ds.map okSz).all id = ds.all okSz := by rw [List.all_map]; rfl
      simp_all_arith! [F_is_objects, q, e, lc, bools_map, e2]
  | _ => simp_all_arith! [F_is_objects, q, pairsB, objB]
end K01

/-! K01E: objects, judged by the law. -/
namespace K01
open PySem PySem.Spec PyProof.Rows L2 ML Dm Cg
theorem chain_pw : ∀ l : List (List Nat), chainB l = true ↔ l.Pairwise (· < ·)
  | [] => by simp [chainB]
  | [a] => by simp [chainB]
  | a :: b :: l => by
    have ih := chain_pw (b :: l)
    have e : chainB (a :: b :: l) = (decide (a < b) && chainB (b :: l)) := rfl
    rw [e, Bool.and_eq_true, decide_eq_true_eq, ih, List.pairwise_cons (a := a)]
    constructor
    · rintro ⟨h1, h2⟩
      refine ⟨fun c hc => ?_, h2⟩
      rcases List.mem_cons.mp hc with z | z
      · subst z; exact h1
      · exact List.lt_trans h1 ((List.pairwise_cons.mp h2).1 c z)
    · rintro ⟨h1, h2⟩
      exact ⟨h1 b (List.mem_cons_self ..), h2⟩
def cL (x : Str) : List Nat := x.cps.toList
theorem usort_iff (xs : List Str) : HT.usortT xs = xs ↔ (xs.map cL).Pairwise (· < ·) := by
  rw [List.pairwise_map]
  constructor
  · intro e
    have h1 : (HT.usortT xs).Pairwise fun a b => HT.leT a b = true := List.pairwise_mergeSort HT.leT_trans HT.leT_total _
    have h2 : (HT.usortT xs).Nodup := (List.mergeSort_perm (HT.uniqT xs) HT.leT).nodup_iff.mpr HT.uniqT_nodup
    rw [e] at h1 h2
    refine (h1.and h2).imp fun {a b} h => ?_
    obtain ⟨h1, h2⟩ := h
    unfold HT.leT at h1
    rw [decide_eq_true_eq] at h1
    rcases List.le_iff_lt_or_eq.mp h1 with z | z
    · exact z
    · exact absurd (HT.str_ext z) h2
  · intro h
    have nd : xs.Nodup := h.imp fun {a b} hl e => by
      subst e
      exact List.lt_irrefl _ hl
    have sorted : xs.Pairwise fun a b => HT.leT a b = true := h.imp fun {a b} hl => by
      unfold HT.leT
      rw [decide_eq_true_eq]
      exact List.le_of_lt hl
    rw [← HT.usort_of nd fun y => Iff.rfl]
    exact (List.mergeSort_perm xs HT.leT).eq_of_pairwise (fun x y _ _ h1 h2 => HT.leT_anti x y h1 h2) (List.pairwise_mergeSort HT.leT_trans HT.leT_total _) sorted
theorem eqv_strs (as bs : List Str) : PyData.eqv (.list (as.map PyData.str)) (.list (bs.map PyData.str)) = decide (as = bs) := by
  have : ∀ as bs : List Str, PyData.eqvAll (as.map PyData.str) (bs.map PyData.str) = decide (as = bs) := by
    intro as
    induction as with
    | nil => intro bs; cases bs <;> simp [PyData.eqvAll]
    | cons a as ih =>
      intro bs
      cases bs with
      | nil => simp [PyData.eqvAll]
      | cons b bs =>
        simp only [List.map_cons, PyData.eqvAll, eqv_str, ih]
        by_cases h : a = b
        · subst h; simp
        · simp [h]
  simp only [PyData.eqv]
  exact this as bs
theorem strsOf_map : ∀ xs : List Str, strsOf (xs.map PyData.str) = some xs
  | [] => rfl
  | x :: xs => by
    show (strsOf (xs.map PyData.str)).map (x :: ·) = _
    rw [strsOf_map xs]; rfl
def txD : D → Str
  | .tuple (.str x :: _) => x
  | _ => ⟨#[]⟩
theorem sh_texts {xs : List Str} (h : ∀ x ∈ xs, PyData.canLay0 (.str x) = true) : SeqAt.shaped (.list (xs.map PyData.str)) = true := by
  refine sh_list (fun d hd => ?_) (fun d hd => ?_)
  · obtain ⟨x, hx, rfl⟩ := List.mem_map.mp hd
    exact sh_of (h x hx) (by simp [PyData.depth])
  · obtain ⟨x, hx, rfl⟩ := List.mem_map.mp hd
    simp [PyData.depth]
theorem eqv_list_nil (l : List D) : PyData.eqv (.list l) (.list []) = l.isEmpty := by cases l <;> simp [PyData.eqv, PyData.eqvAll]
theorem usort_mem {xs : List Str} {y : Str} : y ∈ HT.usortT xs ↔ y ∈ xs := by
  unfold HT.usortT
  rw [(List.mergeSort_perm (HT.uniqT xs) HT.leT).mem_iff, HT.uniqT_mem]
theorem filter_not {p : D → Bool} {ds : List D} : (ds.filter fun d => !p d).isEmpty = ds.all p := by
  rw [Bool.eq_iff_iff, List.isEmpty_iff, List.filter_eq_nil_iff, List.all_eq_true]
  constructor
  · intro h d hd
    have := h d hd
    simpa using this
  · intro h d hd
    simp [h d hd]
theorem sh_filter {ds : List D} (h : Th (.tuple ds)) (p : D → Bool) : SeqAt.shaped (.list (ds.filter p)) = true :=
  sh_list (fun d hd => (h.tup.1 d (List.mem_filter.mp hd).1).sh) (fun d hd => tup_depth h d (List.mem_filter.mp hd).1)
theorem paired_spec (d : D) (h : Th d) : F__law_paired [.val d] = some (.val (.bool (pairsB d)), [.val d]) := by
  cases d with
  | tuple ds =>
    obtain ⟨h1, h2⟩ := h.tup
    have sl : ds.length ≤ sizeLine := sl_le (by omega)
    have hsh := h.sh
    by_cases hn : ds = []
    · subst hn
      simp_all_arith! [F__law_paired, kit_tup, isTp, sh_nilT, eqv_tup_nil, pairsB, Bool.not_true, Bool.not_false, List.isEmpty_nil, Bool.false_and]
    · have hpos := List.length_pos_iff.mpr hn
      have he : ds.isEmpty = false := by cases ds with | nil => exact absurd rfl hn | cons _ _ => rfl
      have lc1 : LC__law_paired_1 [some (.val (.tuple ds)), none, none] = some (.new (.lst (ds.filter fun d => !pairB d)), [some (.val (.tuple ds)), none, none]) := by
        unfold LC__law_paired_1
        have := eLc_of (np := 1) (own := [2]) (fi := iSeq (eV 0)) (t := .nm 2) (tst := fOr (fNot (rB (eIsi "tuple" (eC 2)))) (fOr (rB (e2 (gEqA true) (eN gLen (aCons (eC 2) aNil)) (eK (.int 2)))) (fNot (rB (eCall 1 F__law_worded [] (aCons (e2 gIx (eC 2) (eK (.int 0))) aNil)))))) (elt := eC 2) (env := [some (.val (.tuple ds)), none, none]) (env1 := [some (.val (.tuple ds)), none, none]) (src := none)
          ds id (fun d => !pairB d) id (by simp_all_arith! [List.map_id]) rfl (fun d hd => by
            have th := h1 d hd
            cases d with
            | tuple es =>
              obtain ⟨t1, t2⟩ := th.tup
              have sl2 : es.length ≤ sizeLine := sl_le (by omega)
              match es, t1, sl2 with
              | [], _, sl2 => simp_all_arith! [v_lcS, id, kit_tup, isTp, sh_int, eqv_int, Int.reduceEq, pairB, Bool.not_true, Bool.not_false]
              | [a], _, sl2 => simp_all_arith! [v_lcS, id, kit_tup, isTp, sh_int, eqv_int, Int.reduceEq, pairB, Bool.not_true, Bool.not_false]
              | [a, b], t1, sl2 =>
                have q := worded_spec a (t1 a (List.mem_cons_self ..))
                cases hw : isW a with
                | true =>
                  rw [hw] at q
                  simp_all_arith! [v_lcS, id, kit_tup, isTp, sh_int, eqv_int, Int.reduceEq, pairB, Bool.not_true, Bool.not_false, q, atI_0, sl2, hw]
                | false =>
                  rw [hw] at q
                  simp_all_arith! [v_lcS, id, kit_tup, isTp, sh_int, eqv_int, Int.reduceEq, pairB, Bool.not_true, Bool.not_false, q, atI_0, sl2, hw]
              | a :: b :: c :: l, _, sl2 =>
                have e : decide (((l.length + 1 + 1 + 1 : Nat) : Int) = 2) = false := decide_eq_false (by omega)
                have sl2 : l.length + 1 + 1 + 1 ≤ sizeLine := sl2
                simp_all_arith! [v_lcS, id, kit_tup, isTp, sh_int, eqv_int, e, sl2, pairB, Bool.not_true, Bool.not_false]
            | _ => simp_all_arith! [v_lcS, id, kit_tup, isTp, pairB, Bool.not_true, Bool.not_false]) (by omega)
        rw [this, List.map_id]
        rfl
      have sf := sh_filter h fun d => !pairB d
      by_cases hp : ds.all pairB = true
      · have hp' := List.all_eq_true.mp hp
        have lc2 : LC__law_paired_2 [some (.val (.tuple ds)), none, none] = some (.new (.lst ((ds.map txD).map PyData.str)), [some (.val (.tuple ds)), none, none]) := by
          unfold LC__law_paired_2
          have := eLc_of (np := 1) (own := [2]) (fi := iSeq (eV 0)) (t := .nm 2) (tst := tTrue) (elt := e2 gIx (eC 2) (eK (.int 0))) (env := [some (.val (.tuple ds)), none, none]) (env1 := [some (.val (.tuple ds)), none, none]) (src := none)
            ds id (fun _ => true) (fun d => .str (txD d)) (by simp_all_arith! [List.map_id]) rfl (fun d hd => by
              obtain ⟨x, a, rfl⟩ := pairB_of (hp' d hd)
              simp_all_arith! [v_lcS, tTrue, id, atI_0, txD]) (by omega)
          rw [this, List.filter_eq_self.mpr (by simp), List.map_map]
          rfl
        have can : ∀ x ∈ ds.map txD, PyData.canLay0 (.str x) = true := fun x hx => by
          obtain ⟨d, hd, rfl⟩ := List.mem_map.mp hx
          obtain ⟨y, a, rfl⟩ := pairB_of (hp' d hd)
          exact (sh_parts ((h1 _ hd).tup.1 _ (List.mem_cons_self ..)).sh).1
        have s1 := sh_texts can
        have s2 := sh_texts (xs := HT.usortT (ds.map txD)) fun x hx => can x (usort_mem.mp hx)
        have e1 := eqv_strs (HT.usortT (ds.map txD)) (ds.map txD)
        have e2 : decide (HT.usortT (ds.map txD) = ds.map txD) = chainB (ds.map wdL) := by
          have em : (ds.map txD).map cL = ds.map wdL := by
            rw [List.map_map]
            refine List.map_congr_left fun d hd => ?_
            obtain ⟨y, a, rfl⟩ := pairB_of (hp' d hd)
            rfl
          rw [Bool.eq_iff_iff, decide_eq_true_eq, usort_iff, em, chain_pw]
        have hlen : (ds.map txD).length < 4000 := by rw [List.length_map]; omega
        have so := strsOf_map (ds.map txD)
        have ef : (ds.filter fun d => !pairB d).isEmpty = true := by rw [filter_not]; exact hp
        have e : pairsB (.tuple ds) = chainB (ds.map wdL) := by
          show (!ds.isEmpty && (ds.all pairB && chainB (ds.map wdL))) = _
          rw [he, hp]; rfl
        generalize hA : ds.map txD = A at lc2 s1 s2 e1 e2 hlen so
        simp_all_arith! [F__law_paired, kit_tup, isTp, hsh, sh_nilT, sh_nilL, eqv_tup_nil, he, lc1, lc2, sf, eqv_list_nil, ef, e, v_eSortSet, v_sortSetD, so, hlen, s1, s2, e1, e2, Bool.not_true, Bool.not_false]
      · have hp := Bool.eq_false_iff.mpr hp
        have ef : (ds.filter fun d => !pairB d).isEmpty = false := by rw [filter_not]; exact hp
        have e : pairsB (.tuple ds) = false := by
          show (!ds.isEmpty && (ds.all pairB && chainB (ds.map wdL))) = _
          rw [he, hp]; rfl
        simp_all_arith! [F__law_paired, kit_tup, isTp, hsh, sh_nilT, sh_nilL, eqv_tup_nil, he, lc1, sf, eqv_list_nil, ef, e, Bool.not_true, Bool.not_false]
  | _ => simp_all_arith! [F__law_paired, kit_tup, isTp, pairsB, Bool.not_true, Bool.not_false]
theorem objected_spec (d : D) (h : Th d) : F__law_objected [.val d] = some (.val (.bool (objB d)), [.val d]) := by
  have q := paired_spec d h
  cases d with
  | tuple ds =>
    cases hb : pairsB (.tuple ds) with
    | false =>
      rw [hb] at q
      have e : objB (.tuple ds) = false := by show (pairsB (.tuple ds) && ds.all okSz) = false; rw [hb]; rfl
      simp_all_arith! [F__law_objected, q, e]
    | true =>
      rw [hb] at q
      have e : objB (.tuple ds) = ds.all okSz := by show (pairsB (.tuple ds) && ds.all okSz) = _; rw [hb]; rfl
      have hb : (!ds.isEmpty && (ds.all pairB && chainB (ds.map wdL))) = true := hb
      rw [Bool.and_eq_true, Bool.and_eq_true] at hb
      have hp' := List.all_eq_true.mp hb.2.1
      obtain ⟨h1, h2⟩ := h.tup
      have lc : LC__law_objected_1 [some (.val (.tuple ds)), none] = some (.new (.lst (ds.filter fun d => !okSz d)), [some (.val (.tuple ds)), none]) := by
        unfold LC__law_objected_1
        have := eLc_of (np := 1) (own := [1]) (fi := iSeq (eV 0)) (t := .nm 1) (tst := fOr (fNot (rB (eCall 1 F__law_number [] (aCons (e2 gIx (eC 1) (eK (.int 1))) aNil)))) (rB (e2 gLt (e2 gIx (eC 1) (eK (.int 1))) (eK (.int 1))))) (elt := eC 1) (env := [some (.val (.tuple ds)), none]) (env1 := [some (.val (.tuple ds)), none]) (src := none)
          ds id (fun d => !okSz d) id (by simp_all_arith! [List.map_id]) rfl (fun d hd => by
            obtain ⟨x, a, rfl⟩ := pairB_of (hp' d hd)
            have qc := number2_spec a
            cases a with
            | int n =>
              by_cases h1 : 1 ≤ n
              · have h0 : ¬ n < 1 := by omega
                simp_all_arith! [v_lcS, id, atI_1, qc, isN, okSz, decide_eq_true h1, decide_eq_false h0, Bool.not_true, Bool.not_false]
              · have h0 : n < 1 := by omega
                simp_all_arith! [v_lcS, id, atI_1, qc, isN, okSz, decide_eq_false h1, decide_eq_true h0, Bool.not_true, Bool.not_false]
            | _ => simp_all_arith! [v_lcS, id, atI_1, qc, isN, okSz, Bool.not_true, Bool.not_false]) (by omega)
        rw [this, List.map_id]
        rfl
      have sf := sh_filter h fun d => !okSz d
      have ef : (ds.filter fun d => !okSz d).isEmpty = ds.all okSz := filter_not
      simp_all_arith! [F__law_objected, q, e, lc, sf, sh_nilL, eqv_list_nil, ef]
  | _ => simp_all_arith! [F__law_objected, q, pairsB, objB]
end K01

/-! K01F: great numbers, spoilt words. -/
namespace K01
open PySem PySem.Spec PyProof.Rows L2 ML Dm Cg
theorem drawF_wide (cells : List Int) (p l t m : Int) (hp : 0 ≤ p) (hm : 0 < m) (hm3 : m < 1073741824) (ht : 0 ≤ t) (ht2 : t < 1000000) :
    ∃ r p' l', drawF [feedB cells p l t, .val (.int m)] = some (.val (.int r), [feedB cells p' l' (t + 1), .val (.int m)]) ∧ 0 ≤ r ∧ r < m ∧ 0 ≤ p' := by
  have hmne : m ≠ 0 := by omega
  have rm : ∀ x : Int, 0 ≤ x % m ∧ x % m < m := fun x => ⟨Int.emod_nonneg x hmne, Int.emod_lt_of_pos x hm⟩
  unfold feedB
  by_cases hl : 0 < l
  · refine ⟨l % m, p, l / m, ?_, (rm _).1, (rm _).2, hp⟩
    simp_arith [drawF, hl, hm, hm3]
  · have M1 : mulOk 69621 (t + 1) = true := mulOk_of (by decide) (by omega)
    have M2 : mulOk (69621 * (t + 1)) (t + 1) = true := mulOk_of (by omega) (by omega)
    have M3 : mulOk 7 (t + 1) = true := mulOk_of (by decide) (by omega)
    have M4 : mulOk 48271 (t + 1) = true := mulOk_of (by decide) (by omega)
    have M5 : mulOk 16807 (t + 1) = true := mulOk_of (by decide) (by omega)
    have A1 : ∀ x : Int, mulOk (x % 2147483629) (x % 2147483629) = true := fun x => mulOk_of (mod_small _ _ (by decide) (by decide)) (mod_small _ _ (by decide) (by decide))
    have A2 : ∀ x : Int, mulOk (x % 2147483647) (x % 2147483647) = true := fun x => mulOk_of (mod_small _ _ (by decide) (by decide)) (mod_small _ _ (by decide) (by decide))
    have A3 : ∀ x : Int, mulOk (x % 2147483587) (x % 2147483587) = true := fun x => mulOk_of (mod_small _ _ (by decide) (by decide)) (mod_small _ _ (by decide) (by decide))
    cases cells with
    | nil =>
      refine ⟨mixD 7 (t + 1) % m, p + 1, l, ?_, (rm _).1, (rm _).2, by omega⟩
      simp_arith [drawF, hl, hm, hm3, M1, M2, M3, M4, M5, A1, A2, A3, shaped_nil, eqv_nil_nil]
      rfl
    | cons z zs =>
      have hlen : (0 : Int) < ((z :: zs).length : Int) := by simp
      obtain ⟨c, hc⟩ := atI_ints (ns := z :: zs) (i := p % ((z :: zs).length : Int)) (Int.emod_nonneg _ (by omega)) (Int.emod_lt_of_pos _ hlen)
      have hs := shaped_ints (z :: zs)
      simp only [List.map_cons, List.length_cons] at hc hs hlen
      by_cases hg : (10 : Int) ^ 18 ≤ c
      · by_cases hq : p + 1 ≤ ((zs.length + 1 : Nat) : Int)
        · refine ⟨c % m, p + 1, c / m, ?_, (rm _).1, (rm _).2, by omega⟩
          have hg : (1000000000000000000 : Int) ≤ c := hg
          simp_arith [drawF, hl, hm, hm3, hc, hs, hlen, shaped_nil, eqv_nil_cons, hg, hq]
        · have hg : (1000000000000000000 : Int) ≤ c := hg
          refine ⟨mixD c (t + 1) % m, p + 1, l, ?_, (rm _).1, (rm _).2, by omega⟩
          simp_arith [drawF, hl, hm, hm3, hc, hs, hlen, shaped_nil, eqv_nil_cons, hg, hq, M1, M2, M3, M4, M5, A1, A2, A3]
          rfl
      · have hg : ¬ (1000000000000000000 : Int) ≤ c := hg
        refine ⟨mixD c (t + 1) % m, p + 1, l, ?_, (rm _).1, (rm _).2, by omega⟩
        simp_arith [drawF, hl, hm, hm3, hc, hs, hlen, shaped_nil, eqv_nil_cons, hg, M1, M2, M3, M4, M5, A1, A2, A3]
        rfl
theorem drawW {n : Int} {s : Tp} (h : Tok n s) (m : Int) (hn : n < 900000 := by omega) (hm : 0 < m := by omega) (hm2 : m < 1073741824 := by omega) :
    ∃ r s', F__law_draw [fb s, .val (.int m)] = some (.val (.int r), [fb s', .val (.int m)]) ∧ 0 ≤ r ∧ r < m ∧ Tok (n + 1) s' := by
  obtain ⟨h1, h2, h3⟩ := h
  obtain ⟨r, p', l', e, r0, r1, hp⟩ := drawF_wide s.cells s.p s.l s.t m h1 hm hm2 h2 (by omega)
  exact ⟨r, ⟨s.cells, p', l', s.t + 1⟩, e, r0, r1, hp, by show (0 : Int) ≤ s.t + 1; omega, by show s.t + 1 ≤ n + 1; omega⟩
def gE (s : Tp) (v : Int) (k : Option D) : En := [some (fb s), some (.val (.int v)), jk k]
theorem pow_step (j : Nat) : (10 : Int) ^ (6 * (j + 1)) = 10 ^ (6 * j) * 1000000 := by
  rw [Nat.mul_succ, Int.pow_add]; rfl
theorem great_loop {n : Int} {s : Tp} (h : Tok n s) (hn : n < 700000) {v : Int} (v0 : 0 ≤ v) (v1 : v < 100) {c : Int} (c0 : 0 ≤ c) (c1 : c ≤ 32) (k : Option D)
    {fi : FI} {env : En} (hfi : fi env = some (((upto c).map PyData.int, none), gE s v k)) :
    ∃ s' v' k', sFor 1 fi (.nm 2) BF__law_great_1 env = some (.nx, gE s' v' k') ∧ 0 ≤ v' ∧ v' < 10 ^ 194 ∧ Tok (n + 32) s' := by
  have hu : (upto c).length = c.toNat := by unfold upto; simp
  have pw : ∀ j : Nat, j ≤ 32 → (100 : Int) * 10 ^ (6 * j) ≤ 10 ^ 194 := fun j hj => by
    have h2 : (10 : Int) ^ (6 * j) ≤ 10 ^ 192 := by
      have := Nat.pow_le_pow_right (n := 10) (by decide) (show 6 * j ≤ 192 by omega)
      exact_mod_cast this
    have h3 : (10 : Int) ^ 194 = 100 * 10 ^ 192 := by decide +kernel
    omega
  refine Exists.elim (sFor_list (np := 1) (fi := fi) (t := .nm 2) (body := BF__law_great_1) (env := env) (env1 := gE s v k) (src := none)
    (upto c) PyData.int (fun l env => ∃ s' v' k', env = gE s' v' k' ∧ l.length ≤ c.toNat ∧ 0 ≤ v' ∧ v' < 100 * 10 ^ (6 * (c.toNat - l.length)) ∧ Tok (n + ((c.toNat - l.length : Nat) : Int)) s') hfi ?fp ?fh) ?ffin
  case fp =>
    refine ⟨s, v, k, rfl, by rw [hu]; exact Nat.le_refl _, v0, ?_, h.up (by omega)⟩
    rw [hu, Nat.sub_self]
    simpa using v1
  case ffin =>
    rintro env' ⟨q, s', v', k', rfl, _, a, b, t⟩
    refine ⟨s', v', k', q, a, ?_, t.up (by simp; omega)⟩
    have := pw (c.toNat - 0) (by omega)
    exact Int.lt_of_lt_of_le b this
  case fh =>
    rintro x l env ⟨s', v', k', rfl, hl, a, b, t⟩
    simp only [List.length_cons] at hl b t
    obtain ⟨r, s2, q, r0, r1, h2⟩ := drawW t 1000000 (by omega)
    have p6 : ((10 : Int) ^ (Int.toNat 6)) = 1000000 := by decide +kernel
    have hpw := pw (c.toNat - (l.length + 1)) (by omega)
    have vb : v'.natAbs < 10 ^ 194 := by
      have : v' < 10 ^ 194 := Int.lt_of_lt_of_le b hpw
      have e : ((10 ^ 194 : Nat) : Int) = (10 : Int) ^ 194 := by decide +kernel
      omega
    have mo : mulOk v' 1000000 = true := by
      unfold mulOk
      have l1 : v'.natAbs.log2 < 700 := log2_lt (Nat.lt_of_lt_of_le vb (by decide +kernel)) (by decide)
      have l2 : (1000000 : Int).natAbs.log2 < 30 := by decide +kernel
      exact decide_eq_true (by omega)
    refine ⟨gE s' v' (some (.int x)), gE s2 (v' * 1000000 + r) (some (.int x)), ?_, ?_, s2, _, _, rfl, by omega, by omega, ?_, h2.up (by omega)⟩
    · unfold gE
      simp_all_arith! [isLk_jk, jk_some]
    · unfold gE
      simp_all_arith! [BF__law_great_1, p6, q, mo, evO_fb, argO_fb, isMu_fb, isLk_fb]
    · have e : c.toNat - l.length = (c.toNat - (l.length + 1)) + 1 := by omega
      rw [e, pow_step]
      generalize (10 : Int) ^ (6 * (c.toNat - (l.length + 1))) = z at b
      omega
theorem great_spec {n : Int} {s : Tp} (h : Tok n s) (hn : n < 600000) : ∃ g s', F__law_great [fb s] = some (.val (.int g), [fb s']) ∧ g.natAbs < 10 ^ 194 ∧ Tok (n + 40) s' := by
  obtain ⟨v, s1, q1, v0, v1, h1⟩ := drawW h 100
  obtain ⟨w, s2, q2, w0, w1, h2⟩ := drawW h1 3
  have lf : ∃ s' v' k', LF__law_great_2 (gE s1 v none) = some (.nx, gE s' v' k') ∧ 0 ≤ v' ∧ v' < 10 ^ 194 ∧ Tok (n + 35) s' := by
    unfold LF__law_great_2
    by_cases hw : w = 0
    · subst hw
      obtain ⟨c, s3, q3, c0, c1, h3⟩ := drawW h2 33
      have hi := rgI_of (n := c) (by omega) (by omega)
      obtain ⟨s', v', k', q, a, b, t⟩ := great_loop h3 (by omega) v0 v1 c0 (by omega) none (fi := iRng1 (eIf (rB (e2 (gEqA false) (eCall 2 F__law_draw [] (aCons (eV 0) (aCons (eK (.int 3)) aNil))) (eK (.int 0)))) (eCall 2 F__law_draw [] (aCons (eV 0) (aCons (eK (.int 33)) aNil))) (eK (.int 0)))) (env := gE s1 v none) (by
        unfold gE
        simp_all_arith! [q2, q3, hi, rangeD_upto, sh_int, eqv_int, Int.reduceEq, evO_fb, argO_fb, isMu_fb, jk_none])
      exact ⟨s', v', k', q, a, b, t.up (by omega)⟩
    · have hi := rgI_of (n := 0) (by omega) (by omega)
      obtain ⟨s', v', k', q, a, b, t⟩ := great_loop h2 (by omega) v0 v1 (c := 0) (by omega) (by omega) none (fi := iRng1 (eIf (rB (e2 (gEqA false) (eCall 2 F__law_draw [] (aCons (eV 0) (aCons (eK (.int 3)) aNil))) (eK (.int 0)))) (eCall 2 F__law_draw [] (aCons (eV 0) (aCons (eK (.int 33)) aNil))) (eK (.int 0)))) (env := gE s1 v none) (by
        unfold gE
        simp_all_arith! [q2, hi, rangeD_upto, sh_int, eqv_int, decide_eq_false hw, evO_fb, argO_fb, isMu_fb, jk_none])
      exact ⟨s', v', k', q, a, b, t.up (by omega)⟩
  obtain ⟨s3, v3, k3, q3, a3, b3, h3⟩ := lf
  obtain ⟨y, s4, q4, y0, y1, h4⟩ := drawW h3 2
  have e : ((10 ^ 194 : Nat) : Int) = (10 : Int) ^ 194 := by decide +kernel
  unfold gE at q3
  simp only [jk_none] at q3
  by_cases hy : y = 0
  · subst hy
    refine ⟨-v3, s4, ?_, by omega, h4.up (by omega)⟩
    simp_all_arith! [F__law_great, q1, q3, q4, sh_int, eqv_int, Int.reduceEq, evO_fb, argO_fb, isMu_fb, isLk_fb, isLk_none]
  · refine ⟨v3, s4, ?_, by omega, h4.up (by omega)⟩
    simp_all_arith! [F__law_great, q1, q3, q4, sh_int, eqv_int, decide_eq_false hy, evO_fb, argO_fb, isMu_fb, isLk_fb, isLk_none]
end K01

/-! K01G: spoilt words, the fixed things. -/
namespace K01
open PySem PySem.Spec PyProof.Rows L2 ML Dm Cg
def sgn : List Nat := [32, 33, 34, 35, 36, 38, 39, 40, 41, 42, 43, 44, 45, 46, 47, 48, 49, 50, 51, 52, 53, 54, 55, 56, 57, 58, 59, 60, 61, 62, 63, 64, 65, 66, 67, 68, 69, 70, 71, 72, 73, 74, 75, 76, 77, 78, 79, 80, 81, 82, 83, 84, 85, 86, 87, 88, 89, 90, 91, 92, 93, 94, 95, 96, 97, 98, 99, 100, 101, 102, 103, 104, 105, 106, 107, 108, 109, 110, 111, 112, 113, 114, 115, 116, 117, 118, 119, 120, 121, 122, 123, 124, 125, 126]
theorem tx_sgn : (Str.ofString " !\"#$&'()*+,-./0123456789:;<=>?@ABCDEFGHIJKLMNOPQRSTUVWXYZ[\\]^_`abcdefghijklmnopqrstuvwxyz{|}~") = tx sgn := by decide +kernel
theorem sgn_len : sgn.length = 94 := rfl
theorem sgn_ok : ∀ c ∈ sgn, c < 0x110000 := by decide +kernel
theorem tx_nil : (Str.ofString "") = tx [] := by decide +kernel
theorem cutN_from {α : Type} (xs : List α) (n : Nat) : ML.cutD xs (some (n : Int)) none = xs.drop n := by
  unfold ML.cutD
  rw [HT.sIx_none, HT.sIx_nat]
  rw [List.take_of_length_le (by rw [List.length_drop]; omega)]
  by_cases h : n ≤ xs.length
  · rw [Nat.min_eq_left h]
  · rw [Nat.min_eq_right (by omega), List.drop_length, List.drop_of_length_le (by omega)]
theorem cutN_to {α : Type} (xs : List α) (n : Nat) : ML.cutD xs none (some (n : Int)) = xs.take n := by
  unfold ML.cutD
  rw [HT.sIx_none, HT.sIx_nat]
  simp [List.take_eq_take_iff]
theorem spoilt_spec {n : Int} {s : Tp} (h : Tok n s) (hn : n < 600000) {l : List Nat} (h1 : 1 ≤ l.length) (h8 : l.length ≤ 8) (hl : ∀ c ∈ l, c < 0x110000) :
    ∃ l' s', F__law_spoilt [fb s, .val (.str (tx l))] = some (.val (.str (tx l')), [fb s', .val (.str (tx l))]) ∧ l'.length ≤ 9 ∧ (∀ c ∈ l', c < 0x110000) ∧ Tok (n + 3) s' := by
  obtain ⟨a, s1, q1, a0, a1, t1⟩ := draw h (l.length : Int)
  obtain ⟨b, s2, q2, b0, b1, t2⟩ := draw t1 94
  obtain ⟨w, s3, q3, w0, w1, t3⟩ := draw t2 3
  obtain ⟨j, rfl⟩ := Int.eq_ofNat_of_zero_le a0
  obtain ⟨i, rfl⟩ := Int.eq_ofNat_of_zero_le b0
  have hi : i < sgn.length := by rw [sgn_len]; omega
  have at1 : atI sgn (i : Int) = some sgn[i] := atI_get (by omega) (by simp [hi])
  have sg : sgn[i] < 0x110000 := sgn_ok _ (List.getElem_mem hi)
  have sl1 : (tx sgn).length ≤ sizeLine := sl_le (by rw [tx_len, sgn_len]; omega)
  have sl2 : (tx l).length ≤ sizeLine := sl_le (by rw [tx_len]; omega)
  have c1 : cutS (tx l) none (some (j : Int)) = tx (l.take j) := by rw [cutS_tx, cutN_to]
  have c2 : cutS (tx l) (some ((j : Int) + 0)) none = tx (l.drop j) := by rw [Int.add_zero, cutS_tx, cutN_from]
  have c3 : cutS (tx l) (some ((j : Int) + 1)) none = tx (l.drop (j + 1)) := by
    rw [show (j : Int) + 1 = ((j + 1 : Nat) : Int) by omega, cutS_tx, cutN_from]
  have ll1 : (l.take j).length ≤ 8 := by rw [List.length_take]; omega
  have ll2 : (l.take j).length + (l.drop j).length = l.length := by rw [← List.length_append, List.take_append_drop]
  have ll3 : (l.take j).length + (l.drop (j + 1)).length ≤ 8 := by rw [List.length_take, List.length_drop]; omega
  have o1 : ∀ x ∈ l.take j, x < 0x110000 := fun x hx => hl x (List.mem_of_mem_take hx)
  have o2 : ∀ k, ∀ x ∈ l.drop k, x < 0x110000 := fun k x hx => hl x (List.mem_of_mem_drop hx)
  have one : (⟨#[sgn[i]]⟩ : Str) = tx [sgn[i]] := rfl
  have p1 : (l.take j).length + 1 ≤ sizeLine := sl_le (by omega)
  have p2 : (tx (l.take j ++ [sgn[i]])).length + (tx (l.drop j)).length ≤ sizeLine := sl_le (by rw [tx_len, tx_len]; simp; omega)
  have p3 : (tx (l.take j ++ [sgn[i]])).length + (tx (l.drop (j + 1))).length ≤ sizeLine := sl_le (by rw [tx_len, tx_len]; simp; omega)
  have p4 : (l.take j).length + 0 ≤ sizeLine := sl_le (by omega)
  have p7 : (l.take j).length + (l.drop (j + 1)).length ≤ sizeLine := sl_le (by omega)
  have p6 : (l.take j).length ≤ sizeLine := sl_le (by omega)
  have p5 : (tx (l.take j ++ [])).length + (tx (l.drop (j + 1))).length ≤ sizeLine := sl_le (by rw [tx_len, tx_len]; simp; omega)
  have hc : w = 0 ∨ w = 1 ∨ w = 2 := by omega
  rcases hc with rfl | rfl | rfl
  · refine ⟨l.take j ++ [sgn[i]] ++ l.drop (j + 1), s3, ?_, by simp; omega, fun c hc => ?_, t3.up (by omega)⟩
    · simp only [tx_len] at *
      simp_all_arith! [F__law_spoilt, tx_sgn, tx_len, tx_list, q1, q2, q3, sgn_len, at1, sl1, sl2, c1, c2, c3, one, p1, p2, p3, p4, p5, p6, p7, tx_app, sh_int, eqv_int, Int.reduceEq, evO_fb, argO_fb, isMu_fb, isLk_fb, isLk_none]
    · rcases List.mem_append.mp hc with z | z
      · rcases List.mem_append.mp z with z | z
        · exact o1 c z
        · simp at z; subst z; exact sg
      · exact o2 _ c z
  · refine ⟨l.take j ++ [sgn[i]] ++ l.drop j, s3, ?_, by simp; omega, fun c hc => ?_, t3.up (by omega)⟩
    · simp only [tx_len] at *
      simp_all_arith! [F__law_spoilt, tx_sgn, tx_len, tx_list, q1, q2, q3, sgn_len, at1, sl1, sl2, c1, c2, c3, one, p1, p2, p3, p4, p5, p6, p7, tx_app, sh_int, eqv_int, Int.reduceEq, evO_fb, argO_fb, isMu_fb, isLk_fb, isLk_none]
    · rcases List.mem_append.mp hc with z | z
      · rcases List.mem_append.mp z with z | z
        · exact o1 c z
        · simp at z; subst z; exact sg
      · exact o2 _ c z
  · refine ⟨l.take j ++ [] ++ l.drop (j + 1), s3, ?_, by simp; omega, fun c hc => ?_, t3.up (by omega)⟩
    · simp only [tx_len] at *
      simp_all_arith! [F__law_spoilt, tx_sgn, tx_nil, tx_len, tx_list, q1, q2, q3, sgn_len, at1, sl1, sl2, c1, c2, c3, one, p1, p2, p3, p4, p5, p6, p7, tx_app, sh_int, eqv_int, Int.reduceEq, evO_fb, argO_fb, isMu_fb, isLk_fb, isLk_none]
    · rcases List.mem_append.mp hc with z | z
      · rcases List.mem_append.mp z with z | z
        · exact o1 c z
        · cases z
      · exact o2 _ c z
/-! ### the fixed things -/
def manyL : List D := abc.map fun c => .tuple [.str (tx [113, c]), .int 4]
def markL : List Str := ["~", "!", "_", "0", "Z", "a", "z"]
def fxL : List D :=
  let a : D := .str "a"
  let b : D := .str "b"
  let one : D → D := fun x => .tuple [x]
  let pr : D → D → D := fun x y => .tuple [x, y]
  [.int 0, .int 1, .int (-1), .int (10 ^ 60), .int (-(10 ^ 60)), .bool true, .bool false, .none, .str "", a, .str "z", .str "abcdefgh", .str "abcdefghi", .str "A", .str "a b", .str "a1", .str "{"] ++
  [.tuple [], .list [], one a, .list [a], one (pr a (.int 1)), one (pr a (.int 0)), one (pr a (.int (-1))), one (pr a (.bool true)), pr a (.int 1)] ++ [one (pr a .none)] ++
  [.tuple [pr a (.int 1), pr b (.int 2)], .tuple [pr b (.int 1), pr a (.int 2)], .tuple [pr a (.int 1), pr a (.int 2)], .list [pr a (.int 1)], one (.list [a, .int 1]), one (one a)] ++
  [one (.tuple [a, .int 1, .int 1]), one (pr (.str "") (.int 1)), one (pr (.str "A") (.int 1)), one (pr (.str "abcdefghi") (.int 1)), one (pr a (.int (10 ^ 60))), one (pr a (.str "1"))] ++ [one .none] ++
  [one (pr (.int 1) a), one (pr (.list [a]) (.int 1)), one (pr a (.list [.int 1])), .tuple [pr a (.int 1), .none], .tuple [pr (.str "ab") (.int 1), pr b (.int 1)]] ++ [.tuple [pr b (.int 1), pr (.str "ab") (.int 1)]] ++
  markL.map (fun x => .str (Str.ofString "a" ++ x)) ++
  [.tuple manyL, .tuple (manyL ++ [pr (.str "qz") (.int 4)]), .tuple (manyL.take 9 ++ [pr (.str "qj") (.int 0)] ++ manyL.drop 10)]
theorem marks_lc (c0 c1 : B) : LC__law_fixed_1 [some c0, some c1, none, none] = some (.new (.lst (markL.map fun x => .str (Str.ofString "a" ++ x))), [some c0, some c1, none, none]) := by
  unfold LC__law_fixed_1
  have hl : markL.length ≤ 1000000 := by decide
  have := eLc_of (np := 0) (own := [3]) (fi := iAny (eTup (aCons (eK (.str "~")) (aCons (eK (.str "!")) (aCons (eK (.str "_")) (aCons (eK (.str "0")) (aCons (eK (.str "Z")) (aCons (eK (.str "a")) (aCons (eK (.str "z")) aNil))))))))) (t := .nm 3) (tst := tTrue) (elt := e2 gAdd (eK (.str "a")) (eC 3)) (env := [some c0, some c1, none, none]) (env1 := [some c0, some c1, none, none]) (src := none)
    markL PyData.str (fun _ => true) (fun x => .str (Str.ofString "a" ++ x)) (by simp_all_arith! []; rfl) rfl (fun x hx => by
      have hs : (Str.ofString "a").length + x.length ≤ sizeLine := sl_le (by
        have h : ∀ x ∈ markL, x.length ≤ 5 := by decide +kernel
        have := h x hx
        have e : (Str.ofString "a").length = 1 := by decide +kernel
        omega)
      simp_all_arith! [v_lcS, tTrue, hs]) hl
  rw [this, List.filter_eq_self.mpr (by simp)]
  rfl
theorem many_lc (c0 c1 : B) : LC__law_fixed_2 [some c0, some c1, none, none] = some (.new (.lst manyL), [some c0, some c1, none, none]) := by
  unfold LC__law_fixed_2
  have hq : (Str.ofString "q") = tx [113] := by decide +kernel
  have sl : (1 : Nat) + 1 ≤ sizeLine := sl_le (by omega)
  have sl2 : (0 : Nat) + 1 ≤ sizeLine := sl_le (by omega)
  have := eLc_of (np := 0) (own := [3]) (fi := iAny (eK (.str "abcdefghijklmnopqrstuvwxyz"))) (t := .nm 3) (tst := tTrue) (elt := eTup (aCons (e2 gAdd (eK (.str "q")) (eC 3)) (aCons (eK (.int 4)) aNil))) (env := [some c0, some c1, none, none]) (env1 := [some c0, some c1, none, none]) (src := none)
    abc (fun c => wS [c]) (fun _ => true) (fun c => .tuple [.str (tx [113, c]), .int 4]) (by simp_all_arith! [tx_abc, signs_tx]) rfl (fun c hc => by
      have ap : tx [113] ++ tx [c] = tx [113, c] := tx_app _ _
      unfold wS
      simp_all_arith! [v_lcS, tTrue, hq, tx_len, ap, sl, sl2]) (by decide)
  rw [this, List.filter_eq_self.mpr (by simp)]
  rfl
theorem many_len : manyL.length = 26 := rfl
theorem fixed_spec : F__law_fixed [] = some (.new (.lst fxL), []) := by
  have c1 : ML.cutD manyL none (some 9) = manyL.take 9 := cutN_to manyL 9
  have c2 : ML.cutD manyL (some 10) none = manyL.drop 10 := cutN_from manyL 10
  have l1 : (manyL.take 9).length = 9 := rfl
  have l2 : (manyL.drop 10).length = 16 := rfl
  have l3 : (markL.map fun x => PyData.str (Str.ofString "a" ++ x)).length = 7 := rfl
  have sl : ∀ k : Nat, k ≤ 1000 → k ≤ sizeLine := fun k h => sl_le (by omega)
  have p60 : ((10 : Int) ^ (Int.toNat 60)) = 10 ^ 60 := rfl
  generalize hA : (markL.map fun x => PyData.str (Str.ofString "a" ++ x)) = A at l3
  have q1 := marks_lc
  rw [hA] at q1
  simp_all_arith! [F__law_fixed, q1, many_lc, many_len, c1, c2, l1, l2, l3, p60, List.length_append, List.cons_append, List.nil_append]
  subst hA
  rfl
end K01

/-! K01H: bounds that can be reckoned; the law. -/
namespace K01
open PySem PySem.Spec PyProof.Rows L2 ML Dm Cg
mutual
def insB (m : Nat) : D → Bool
  | .int i => decide (i.natAbs ≤ m)
  | .list ds => insBs m ds
  | .tuple ds => insBs m ds
  | .none => true
  | .bool _ => true
  | .str _ => true
  | .dict _ => true
def insBs (m : Nat) : List D → Bool
  | [] => true
  | d :: ds => insB m d && insBs m ds
end
theorem insBs_mem {m : Nat} : ∀ {ds : List D}, insBs m ds = true → ∀ d ∈ ds, insB m d = true
  | [], _, d, hd => nomatch hd
  | e :: ds, h, d, hd => by
    simp only [insBs, Bool.and_eq_true] at h
    rcases List.mem_cons.mp hd with z | z
    · subst z; exact h.1
    · exact insBs_mem h.2 d z
theorem insB_of {m : Nat} {i : Int} {d : D} (o : Occ i d) : insB m d = true → i.natAbs ≤ m := by
  induction o with
  | int => intro h; simp only [insB] at h; exact of_decide_eq_true h
  | lst he _ ih => intro h; simp only [insB] at h; exact ih (insBs_mem h _ he)
  | tup he _ ih => intro h; simp only [insB] at h; exact ih (insBs_mem h _ he)
def bdB (m k w : Nat) (d : D) : Bool := PyData.canLay0 d && decide (PyData.depth d ≤ k) && decide (PyData.weight d ≤ w) && insB m d
theorem bd_of {m k w : Nat} {d : D} (h : bdB m k w d = true) : Bd m k w d := by
  unfold bdB at h
  rw [Bool.and_eq_true, Bool.and_eq_true, Bool.and_eq_true, decide_eq_true_eq, decide_eq_true_eq] at h
  exact ⟨h.1.1.1, h.1.1.2, h.1.2, fun i o => insB_of o h.2⟩
theorem fx_all : (fxL.all (bdB (10 ^ 199) 8 300)) = true := by decide +kernel
theorem fx_bd : ∀ d ∈ fxL, Bd (10 ^ 199) 8 300 d := fun d hd => bd_of (List.all_eq_true.mp fx_all d hd)
theorem fx_len : fxL.length = 56 := by decide +kernel
def bigM : Nat := 10 ^ 199 + 2
def Okt (d : D) : Prop := Th d
def lE (ns : List Int) (s : Tp) (ds : Option B) (k long : Option D) (bent word num objs kept thing told due : Option D) : En :=
  [some (.val (.list (ns.map PyData.int))), some (fb s), some (.val (.tuple oddL)), ds, jk k, jk long, jk bent, jk word, jk num, jk objs, jk kept, jk thing, jk told, jk due]
def abc8 : List Nat := [97, 98, 99, 100, 101, 102, 103, 104]
theorem tx_abc8 : (Str.ofString "abcdefgh") = tx abc8 := by decide +kernel
theorem wd_ch {l : List Nat} (h : Wd l) : ∀ c ∈ l, c < 0x110000 := fun c hc => by have := h.2.2 c hc; omega
theorem objs_bd {os : List (List Nat × Int)} (ok : ObjsOk os) : Bd bigM 2 84 (objsD os) ∧ BdA bigM 1 84 (os.map obD) := by
  have h : ∀ d ∈ os.map obD, Bd bigM 1 20 d := fun d hd => by
    obtain ⟨o, ho, rfl⟩ := List.mem_map.mp hd
    have hs := ok.size o ho
    exact (BdA.cons (bd_word (ok.wd o ho) (Nat.le_refl _)) (bda1 (bd_few (by unfold bigM; omega) (by omega)))).tup
  have h2 : BdA bigM 1 84 (os.map obD) := by
    refine (bda_all h).mono (Nat.le_refl _) (Nat.le_refl _) ?_
    rw [List.length_map]
    have := ok.four
    omega
  exact ⟨h2.tup, h2⟩
theorem great_bd {g : Int} (h : g.natAbs < 10 ^ 194) : Bd bigM 0 650 (.int g) := by
  refine bd_num (Nat.lt_of_lt_of_le h (by decide +kernel)) (Nat.le_of_lt (Nat.lt_of_lt_of_le h ?_))
  unfold bigM
  exact Nat.le_trans (show (10 : Nat) ^ 194 ≤ 10 ^ 199 by decide +kernel) (Nat.le_add_right _ _)
theorem take8 {l : List Nat} (h : Wd l) : ((l ++ abc8).take 8).length ≤ 8 ∧ ∀ c ∈ (l ++ abc8).take 8, c < 0x110000 := by
  refine ⟨by rw [List.length_take]; omega, fun c hc => ?_⟩
  rcases List.mem_append.mp (List.mem_of_mem_take hc) with z | z
  · exact wd_ch h c z
  · have : ∀ c ∈ abc8, c < 0x110000 := by decide
    exact this c z
theorem round_spec {n : Int} (ns : List Int) {s : Tp} (h : Tok n s) (hn : n < 500000) (ds : List D) (hd : ds.length ≤ 5000) (k long bent word num objs kept thing told due : Option D) :
    ∃ s' es long' bent' word' num' objs', BF_law_1 (lE ns s (some (.mu (.lst ds))) k long bent word num objs kept thing told due) = some (.nx, lE ns s' (some (.mu (.lst (ds ++ es)))) k long' bent' word' num' objs' kept thing told due) ∧
      (∀ d ∈ es, Th d) ∧ BdA (bigM + 2) 8 5076 es ∧ es.length = 12 ∧ Tok (n + 400) s' := by
  obtain ⟨wl, s1, q1, wd, _, h1⟩ := Cg.word_spec h (by omega) [] (fun w hw => nomatch hw) (by simp)
  obtain ⟨g, s2, q2, gb, h2⟩ := great_spec h1 (by omega)
  obtain ⟨os, s3, q3, ok, h3⟩ := objects_spec h2 (by omega)
  obtain ⟨ob, oa⟩ := objs_bd ok
  have four := ok.four
  have wch := wd_ch wd
  obtain ⟨r1, e1, s4, q4, hr1, be1, h4⟩ := bend_val 10 h3 (by omega) (by unfold bigM; omega) ob (by omega) (by omega) (by omega)
  have q4 : F__law_bend [fb s3, .val (objsD os), .val (.tuple oddL)] = some (r1, [fb s4, .val (objsD os), .val (.tuple oddL)]) := q4
  obtain ⟨sp, s5, q5, sp9, spc, h5⟩ := spoilt_spec h4 (by omega) wd.1 wd.2.1 wch
  obtain ⟨r2, e2, s6, q6, hr2, be2, h6⟩ := bend_val 10 h5 (by omega) (by unfold bigM; omega) (be1.mono (Nat.le_refl _) (Nat.le_refl _) (w' := 868) (by omega)) (by omega) (by omega) (by omega)
  have q6 : F__law_bend [fb s5, .val e1, .val (.tuple oddL)] = some (r2, [fb s6, .val e1, .val (.tuple oddL)]) := q6
  have q1 : F__law_word [fb s, .mu (.lst [])] = some (.val (.str (tx wl)), [fb s1, .mu (.lst [])]) := q1
  obtain ⟨l8, l8c⟩ := take8 wd
  generalize hlg : (wl ++ abc8).take 8 = lg at l8 l8c
  have c8 : cutS (tx (wl ++ abc8)) none (some 8) = tx lg := by
    rw [cutS_tx, ← hlg]
    exact congrArg tx (cutN_to _ 8)
  have c1 : ML.cutD (os.map obD) none (some 1) = (os.map obD).take 1 := cutN_to _ 1
  have la : tx lg ++ Str.ofString "a" = tx (lg ++ [97]) := by rw [tx_a, tx_app]
  have l9 : lg.length + 1 ≤ sizeLine := sl_le (by omega)
  have ha1 : (Str.ofString "a").length = 1 := by decide +kernel
  have hwl := wd.2.1
  have s8 : wl.length + 8 ≤ sizeLine := sl_le (by omega)
  have s16 : (wl ++ abc8).length ≤ sizeLine := sl_le (by simp [abc8]; omega)
  have a8 : abc8.length = 8 := rfl
  have om : (os.map obD).length = os.length := List.length_map ..
  have s5' : os.length + ((os.map obD).take 1).length ≤ sizeLine := sl_le (by rw [List.length_take, om]; omega)
  have sA : ds.length + 9 ≤ sizeLine := sl_le (by omega)
  have sB : ∀ l : List D, l.length = 9 → (ds ++ l).length + 3 ≤ sizeLine := fun l hl => sl_le (by rw [List.length_append]; omega)
  have up : ∀ {m k w : Nat} {d : D}, Bd m k w d → m ≤ bigM + 2 → k ≤ 8 → Bd (bigM + 2) 8 w d := fun h a b => h.mono a b (Nat.le_refl _)
  have ot : BdA bigM 1 84 ((os.map obD).take 1) := by
    have h1 : ∀ d ∈ (os.map obD).take 1, Bd bigM 1 20 d := fun d hd => by
      obtain ⟨o, ho, rfl⟩ := List.mem_map.mp (List.mem_of_mem_take hd)
      have hs := ok.size o ho
      exact (BdA.cons (bd_word (ok.wd o ho) (Nat.le_refl _)) (bda1 (bd_few (by unfold bigM; omega) (by omega)))).tup
    exact (bda_all h1).mono (Nat.le_refl _) (Nat.le_refl _) (by rw [List.length_take]; omega)
  have orv : BdA bigM 1 84 (os.map obD).reverse := by
    have h1 : ∀ d ∈ (os.map obD).reverse, Bd bigM 1 20 d := fun d hd => by
      obtain ⟨o, ho, rfl⟩ := List.mem_map.mp (List.mem_reverse.mp hd)
      have hs := ok.size o ho
      exact (BdA.cons (bd_word (ok.wd o ho) (Nat.le_refl _)) (bda1 (bd_few (by unfold bigM; omega) (by omega)))).tup
    exact (bda_all h1).mono (Nat.le_refl _) (Nat.le_refl _) (by rw [List.length_reverse, om]; omega)
  have f1 : Bd (bigM + 2) 8 9 (.str (tx wl)) := bd_str wch (by omega)
  have f2 : Bd (bigM + 2) 8 9 (.str (tx sp)) := bd_str spc sp9
  have f3 : Bd (bigM + 2) 8 9 (.str (tx lg)) := bd_str l8c (by omega)
  have f4 : Bd (bigM + 2) 8 9 (.str (tx (lg ++ [97]))) := bd_str (fun c hc => by
    rcases List.mem_append.mp hc with z | z
    · exact l8c c z
    · simp at z; omega) (by simp; omega)
  have f5 : Bd (bigM + 2) 8 650 (.int g) := up (great_bd gb) (by omega) (by omega)
  have f6 : Bd (bigM + 2) 8 650 (.int (-g)) := up (great_bd (by rw [Int.natAbs_neg]; exact gb)) (by omega) (by omega)
  have f7 := up ob (by omega) (by omega)
  have f8 : Bd (bigM + 2) 8 868 e1 := up be1 (by omega) (by omega)
  have f9 := up orv.tup (by omega) (by omega)
  have f10 : Bd (bigM + 2) 8 2436 e2 := up be2 (by omega) (by omega)
  have f11 := up (oa.app ot).tup (by omega) (by omega)
  have f12 := up oa.lst (by omega) (by omega)
  refine ⟨s6, [.str (tx wl), .str (tx sp), .str (tx lg), .str (tx (lg ++ [97])), .int g, .int (-g), objsD os, e1, .tuple (os.map obD).reverse] ++ [e2, .tuple (os.map obD ++ (os.map obD).take 1), .list (os.map obD)], some (.str (tx lg)), some e1, some (.str (tx wl)), some (.int g), some (objsD os), ?_, ?_, ?_, rfl, h6.up (by omega)⟩
  · unfold lE
    rw [← List.append_assoc]
    unfold objsD at *
    rcases hr1 with rfl | ⟨x1, rfl, rfl⟩
    · rcases hr2 with rfl | ⟨x2, rfl, rfl⟩
      · simp_all_arith! [BF_law_1, q1, q2, q3, q4, q5, q6, tx_abc8, tx_len, tx_app, a8, c8, c1, la, l9, ha1, s8, s16, s5', om, sA, sB, isLk_jk, jk_some, evO_fb, argO_fb, isMu_fb, isLk_fb, isLk_none]
      · simp_all_arith! [BF_law_1, q1, q2, q3, q4, q5, q6, tx_abc8, tx_len, tx_app, a8, c8, c1, la, l9, ha1, s8, s16, s5', om, sA, sB, isLk_jk, jk_some, evO_fb, argO_fb, isMu_fb, isLk_fb, isLk_none]
    · rcases hr2 with rfl | ⟨x2, rfl, rfl⟩
      · simp_all_arith! [BF_law_1, q1, q2, q3, q4, q5, q6, tx_abc8, tx_len, tx_app, a8, c8, c1, la, l9, ha1, s8, s16, s5', om, sA, sB, isLk_jk, jk_some, evO_fb, argO_fb, isMu_fb, isLk_fb, isLk_none]
      · simp_all_arith! [BF_law_1, q1, q2, q3, q4, q5, q6, tx_abc8, tx_len, tx_app, a8, c8, c1, la, l9, ha1, s8, s16, s5', om, sA, sB, isLk_jk, jk_some, evO_fb, argO_fb, isMu_fb, isLk_fb, isLk_none]
  · intro d hd
    simp only [List.cons_append, List.nil_append, List.mem_cons, List.not_mem_nil, or_false] at hd
    rcases hd with rfl | rfl | rfl | rfl | rfl | rfl | rfl | rfl | rfl | rfl | rfl | rfl
    · exact f1.th (by omega) (by omega)
    · exact f2.th (by omega) (by omega)
    · exact f3.th (by omega) (by omega)
    · exact f4.th (by omega) (by omega)
    · exact f5.th (by omega) (by omega)
    · exact f6.th (by omega) (by omega)
    · exact f7.th (by omega) (by omega)
    · exact f8.th (by omega) (by omega)
    · exact f9.th (by omega) (by omega)
    · exact f10.th (by omega) (by omega)
    · exact f11.th (by omega) (by omega)
    · exact f12.th (by omega) (by omega)
  · have := BdA.cons f1 (BdA.cons f2 (BdA.cons f3 (BdA.cons f4 (BdA.cons f5 (BdA.cons f6 (BdA.cons f7 (BdA.cons f8 (BdA.cons f9 (BdA.cons f10 (BdA.cons f11 (bda1 f12)))))))))))
    exact this.mono (Nat.le_refl _) (Nat.le_refl _) (by omega)
end K01

/-! K01I: the law, whole. -/
namespace K01
open PySem PySem.Spec PyProof.Rows L2 ML Dm Cg
theorem rounds_spec (ns : List Int) {s : Tp} (h : Tok 0 s) :
    ∃ s' ds k' a b c d e, LF_law_2 (lE ns s (some (.mu (.lst fxL))) none none none none none none none none none none) = some (.nx, lE ns s' (some (.mu (.lst ds))) k' a b c d e none none none none) ∧
      (∀ d ∈ ds, Th d) ∧ BdA (bigM + 2) 8 48000 ds := by
  have hi := rgI_of (n := 6) (by omega) (by omega)
  refine Exists.elim (sFor_list (np := 1) (fi := iRng1 (eK (.int 6))) (t := .nm 4) (body := BF_law_1) (env := lE ns s (some (.mu (.lst fxL))) none none none none none none none none none none) (env1 := lE ns s (some (.mu (.lst fxL))) none none none none none none none none none none) (src := none)
    (upto 6) PyData.int (fun l env => ∃ s' ds k' a b c d e, env = lE ns s' (some (.mu (.lst ds))) k' a b c d e none none none none ∧ l.length ≤ 6 ∧ (∀ d ∈ ds, Th d) ∧ BdA (bigM + 2) 8 (16856 + 5076 * (6 - l.length)) ds ∧ ds.length = 56 + 12 * (6 - l.length) ∧ Tok (400 * (6 - (l.length : Int))) s') ?fhi ?fp ?fh) ?ffin
  case fhi => unfold lE; simp_all_arith! [hi, rangeD_upto]
  case fp =>
    refine ⟨s, fxL, none, none, none, none, none, none, rfl, by decide, fun d hd => (fx_bd d hd).th (by omega) (by omega), ?_, by rw [fx_len]; rfl, h.up (by have : (upto 6).length = 6 := rfl; omega)⟩
    have := bda_all fx_bd
    rw [fx_len] at this
    exact this.mono (by unfold bigM; omega) (Nat.le_refl _) (by omega)
  case ffin =>
    rintro env' ⟨q, s', ds, k', a, b, c, d, e, rfl, _, h1, h2, _⟩
    exact ⟨s', ds, k', a, b, c, d, e, (show LF_law_2 _ = _ from q), h1, h2.mono (Nat.le_refl _) (Nat.le_refl _) (by simp)⟩
  case fh =>
    rintro x l env ⟨s', ds, k', a, b, c, d, e, rfl, l6, h1, h2, h3, h4⟩
    simp only [List.length_cons] at l6 h2 h3 h4
    have len := h2.len
    obtain ⟨s2, es, a2, b2, c2, d2, e2, q, g1, g2, g12, g3⟩ := round_spec ns h4 (by omega) ds (by omega) (some (.int x)) a b c d e none none none none
    refine ⟨lE ns s' (some (.mu (.lst ds))) (some (.int x)) a b c d e none none none none, _, ?_, q, s2, _, _, _, _, _, _, _, rfl, by omega, fun y hy => ?_, ?_, ?_, g3.up (by omega)⟩
    · unfold lE
      simp_all_arith! [isLk_jk, jk_some]
    · rcases List.mem_append.mp hy with z | z
      · exact h1 y z
      · exact g1 y z
    · exact (h2.app g2).mono (Nat.le_refl _) (Nat.le_refl _) (by omega)
    · rw [List.length_append]; omega
theorem four_ok (a b c d : Bool) : reprOk (.tuple [.bool a, .bool b, .bool c, .bool d]) = true := by
  have h : Sm (.tuple [.bool a, .bool b, .bool c, .bool d]) 1 4 := sm_tup (a := 0) (n := 0) (k := 4) (fun e he => by
    simp only [List.mem_cons, List.not_mem_nil, or_false] at he
    rcases he with rfl | rfl | rfl | rfl
    · exact sm_bool _
    · exact sm_bool _
    · exact sm_bool _
    · exact sm_bool _) (by simp)
  exact h.ok (by omega) (by omega)
theorem look_spec (ns : List Int) (s : Tp) (ds : List D) (d : D) (h : Th d) (k a b c e f kept : Option D) (told due : Option D) :
    ∃ told', BF_law_3 (lE ns s (some (.lk (.lst ds))) k a b c e f kept (some d) told due) = some (.nx, lE ns s (some (.lk (.lst ds))) k a b c e f kept (some d) told' told') := by
  have p1 := number_spec d
  have p2 := word_spec d h
  have p3 := operand_spec d h
  have p4 := objects_spec2 d h
  have p5 := number2_spec d
  have p6 := worded_spec d h
  have p7 := operanded_spec d h
  have p8 := objected_spec d h
  have r := four_ok (isN d) (isW d) (isN d || isW d) (objB d)
  refine ⟨some (.tuple [.bool (isN d), .bool (isW d), .bool (isN d || isW d), .bool (objB d)]), ?_⟩
  unfold lE
  simp_all_arith! [BF_law_3, jk_some, isLk_jk, p1, p2, p3, p4, p5, p6, p7, p8, r, Bool.true_or, beq_self_eq_true, Bool.not_true]
theorem looks_spec (ns : List Int) (s : Tp) (ds : List D) (h : ∀ d ∈ ds, Th d) (k a b c e f kept : Option D) :
    ∃ thing told due, LF_law_4 (lE ns s (some (.mu (.lst ds))) k a b c e f kept none none none) = some (.nx, lE ns s (some (.mu (.lst ds))) k a b c e f kept thing told due) := by
  refine Exists.elim (sFor_list (np := 1) (fi := iSeq (eV 3)) (t := .nm 11) (body := BF_law_3) (env := lE ns s (some (.mu (.lst ds))) k a b c e f kept none none none) (env1 := lE ns s (some (.lk (.lst ds))) k a b c e f kept none none none) (src := some 3)
    ds id (fun l env => (∃ t u v, env = lE ns s (some (.lk (.lst ds))) k a b c e f kept t u v) ∧ ∀ d ∈ l, Th d) ?fhi ?fp ?fh) ?ffin
  case fhi => unfold lE; simp_all_arith! [List.map_id]
  case fp => exact ⟨⟨none, none, none, rfl⟩, h⟩
  case ffin =>
    rintro env' ⟨q, ⟨t, u, v, rfl⟩, _⟩
    exact ⟨t, u, v, (show LF_law_4 _ = _ from q)⟩
  case fh =>
    rintro d l env ⟨⟨t, u, v, rfl⟩, hl⟩
    obtain ⟨u', q⟩ := look_spec ns s ds d (hl d (List.mem_cons_self ..)) k a b c e f kept u v
    refine ⟨lE ns s (some (.lk (.lst ds))) k a b c e f kept (some d) u v, _, ?_, q, ⟨_, _, _, rfl⟩, fun y hy => hl y (List.mem_cons_of_mem _ hy)⟩
    unfold lE
    simp_all_arith! [id, isLk_jk, jk_some]
theorem K_law (ns : List Int) (h : ns.length ≤ 63) : ∃ bs, F_law [.val (.list (ns.map .int))] = some (.val (.bool true), bs) := by
  have q0 := Dm.feed_spec ns h
  have q1 := odd_spec
  have q2 := fixed_spec
  obtain ⟨s', ds, k', a, b, c, d, e, q3, T, bd⟩ := rounds_spec ns (s := ⟨ns, 0, 0, 0⟩) ⟨Int.le_refl _, Int.le_refl _, Int.le_refl _⟩
  have r : reprOkB (.list ds) = true := bd.lst.ok (by unfold bigM; decide +kernel) (by omega) (by omega)
  obtain ⟨t, u, v, q4⟩ := looks_spec ns s' ds T k' a b c d e (some (.str (PyData.shown (.list ds))))
  have f0 : B.mu (.lst [.list (ns.map PyData.int), .int 0, .int 0, .int 0]) = fb ⟨ns, 0, 0, 0⟩ := rfl
  unfold lE at q3 q4
  simp only [jk_none, jk_some] at q3 q4
  refine ⟨[.val (.list (ns.map PyData.int))], ?_⟩
  simp_all_arith! [F_law, q0, f0, q1, q2, q3, q4, r, Bool.or_true, beq_self_eq_true, jk_some, jk_none, isLk_jk]
end K01

namespace K01
open PySem PySem.Spec PyProof.Rows L2 ML
theorem all_mk {l : PySem.W.OpenLaw} {w : World} {K : PySem.W.Frag} {h : Heap} {mg : Str → Option Value} {fa : Addr} (X : K.In h) (G : h.Ns mainGlobals mg) (hfa : mg "law" = some (.ref fa))
    {f0 : Addr} {od0 an0 : Option Addr} {sl0 : Array (Option Value)} {oc0 kV0 dc0 pm0 cd0 ct0 : Value} {f1 : Addr} {od1 an1 : Option Addr} {sl1 : Array (Option Value)} {oc1 kV1 dc1 pm1 cd1 ct1 : Value} {f2 : Addr} {od2 an2 : Option Addr} {sl2 : Array (Option Value)} {oc2 kV2 dc2 pm2 cd2 ct2 : Value} {f3 : Addr} {od3 an3 : Option Addr} {sl3 : Array (Option Value)} {oc3 kV3 dc3 pm3 cd3 ct3 : Value} {f4 : Addr} {od4 an4 : Option Addr} {sl4 : Array (Option Value)} {oc4 kV4 dc4 pm4 cd4 ct4 : Value} {f5 : Addr} {od5 an5 : Option Addr} {sl5 : Array (Option Value)} {oc5 kV5 dc5 pm5 cd5 ct5 : Value} {f6 : Addr} {od6 an6 : Option Addr} {sl6 : Array (Option Value)} {oc6 kV6 dc6 pm6 cd6 ct6 : Value} {f7 : Addr} {od7 an7 : Option Addr} {sl7 : Array (Option Value)} {oc7 kV7 dc7 pm7 cd7 ct7 : Value} {f8 : Addr} {od8 an8 : Option Addr} {sl8 : Array (Option Value)} {oc8 kV8 dc8 pm8 cd8 ct8 : Value} {f9 : Addr} {od9 an9 : Option Addr} {sl9 : Array (Option Value)} {oc9 kV9 dc9 pm9 cd9 ct9 : Value} {f10 : Addr} {od10 an10 : Option Addr} {sl10 : Array (Option Value)} {oc10 kV10 dc10 pm10 cd10 ct10 : Value} {f11 : Addr} {od11 an11 : Option Addr} {sl11 : Array (Option Value)} {oc11 kV11 dc11 pm11 cd11 ct11 : Value} {f12 : Addr} {od12 an12 : Option Addr} {sl12 : Array (Option Value)} {oc12 kV12 dc12 pm12 cd12 ct12 : Value} {f13 : Addr} {od13 an13 : Option Addr} {sl13 : Array (Option Value)} {oc13 kV13 dc13 pm13 cd13 ct13 : Value} {f14 : Addr} {od14 an14 : Option Addr} {sl14 : Array (Option Value)} {oc14 kV14 dc14 pm14 cd14 ct14 : Value} {f15 : Addr} {od15 an15 : Option Addr} {sl15 : Array (Option Value)} {oc15 kV15 dc15 pm15 cd15 ct15 : Value} {f16 : Addr} {od16 an16 : Option Addr} {sl16 : Array (Option Value)} {oc16 kV16 dc16 pm16 cd16 ct16 : Value} {f17 : Addr} {od17 an17 : Option Addr} {sl17 : Array (Option Value)} {oc17 kV17 dc17 pm17 cd17 ct17 : Value} {f18 : Addr} {od18 an18 : Option Addr} {sl18 : Array (Option Value)} {oc18 kV18 dc18 pm18 cd18 ct18 : Value} {f19 : Addr} {od19 an19 : Option Addr} {sl19 : Array (Option Value)} {oc19 kV19 dc19 pm19 cd19 ct19 : Value} {f20 : Addr} {od20 an20 : Option Addr} {sl20 : Array (Option Value)} {oc20 kV20 dc20 pm20 cd20 ct20 : Value} {f21 : Addr} {od21 an21 : Option Addr} {sl21 : Array (Option Value)} {oc21 kV21 dc21 pm21 cd21 ct21 : Value} {f22 : Addr} {od22 an22 : Option Addr} {sl22 : Array (Option Value)} {oc22 kV22 dc22 pm22 cd22 ct22 : Value} {t_LONGEST : Tok} {t_LETTERS : Tok}
    (a0 : PySem.W.nsIn K mainGlobals "is_number" = some (some (.ref f0))) (l0 : K.lookup f0 = some ⟨oc0, od0, .func (PySem.W.fnOf "is_number" "is_number" (defArgs st_is_number) (defBody st_is_number) (defScope st_is_number) .none kV0 dc0 pm0 an0 cd0 ct0), sl0⟩) (c0 : PySem.W.codeIn K cd0 "is_number" = true) (k0 : PySem.W.keepIn K (.ref f0) = true)
    (a1 : PySem.W.nsIn K mainGlobals "is_count" = some (some (.ref f1))) (l1 : K.lookup f1 = some ⟨oc1, od1, .func (PySem.W.fnOf "is_count" "is_count" (defArgs st_is_count) (defBody st_is_count) (defScope st_is_count) .none kV1 dc1 pm1 an1 cd1 ct1), sl1⟩) (c1 : PySem.W.codeIn K cd1 "is_count" = true) (k1 : PySem.W.keepIn K (.ref f1) = true)
    (a2 : PySem.W.nsIn K mainGlobals "is_word" = some (some (.ref f2))) (l2 : K.lookup f2 = some ⟨oc2, od2, .func (PySem.W.fnOf "is_word" "is_word" (defArgs st_is_word) (defBody st_is_word) (defScope st_is_word) .none kV2 dc2 pm2 an2 cd2 ct2), sl2⟩) (c2 : PySem.W.codeIn K cd2 "is_word" = true) (k2 : PySem.W.keepIn K (.ref f2) = true)
    (a3 : PySem.W.nsIn K mainGlobals "is_operand" = some (some (.ref f3))) (l3 : K.lookup f3 = some ⟨oc3, od3, .func (PySem.W.fnOf "is_operand" "is_operand" (defArgs st_is_operand) (defBody st_is_operand) (defScope st_is_operand) .none kV3 dc3 pm3 an3 cd3 ct3), sl3⟩) (c3 : PySem.W.codeIn K cd3 "is_operand" = true) (k3 : PySem.W.keepIn K (.ref f3) = true)
    (a4 : PySem.W.nsIn K mainGlobals "is_pair" = some (some (.ref f4))) (l4 : K.lookup f4 = some ⟨oc4, od4, .func (PySem.W.fnOf "is_pair" "is_pair" (defArgs st_is_pair) (defBody st_is_pair) (defScope st_is_pair) .none kV4 dc4 pm4 an4 cd4 ct4), sl4⟩) (c4 : PySem.W.codeIn K cd4 "is_pair" = true) (k4 : PySem.W.keepIn K (.ref f4) = true)
    (a5 : PySem.W.nsIn K mainGlobals "are_pairs" = some (some (.ref f5))) (l5 : K.lookup f5 = some ⟨oc5, od5, .func (PySem.W.fnOf "are_pairs" "are_pairs" (defArgs st_are_pairs) (defBody st_are_pairs) (defScope st_are_pairs) .none kV5 dc5 pm5 an5 cd5 ct5), sl5⟩) (c5 : PySem.W.codeIn K cd5 "are_pairs" = true) (k5 : PySem.W.keepIn K (.ref f5) = true)
    (a6 : PySem.W.nsIn K mainGlobals "is_objects" = some (some (.ref f6))) (l6 : K.lookup f6 = some ⟨oc6, od6, .func (PySem.W.fnOf "is_objects" "is_objects" (defArgs st_is_objects) (defBody st_is_objects) (defScope st_is_objects) .none kV6 dc6 pm6 an6 cd6 ct6), sl6⟩) (c6 : PySem.W.codeIn K cd6 "is_objects" = true) (k6 : PySem.W.keepIn K (.ref f6) = true)
    (a7 : PySem.W.nsIn K mainGlobals "_law_feed" = some (some (.ref f7))) (l7 : K.lookup f7 = some ⟨oc7, od7, .func (PySem.W.fnOf "_law_feed" "_law_feed" (defArgs st__law_feed) (defBody st__law_feed) (defScope st__law_feed) .none kV7 dc7 pm7 an7 cd7 ct7), sl7⟩) (c7 : PySem.W.codeIn K cd7 "_law_feed" = true) (k7 : PySem.W.keepIn K (.ref f7) = true)
    (a8 : PySem.W.nsIn K mainGlobals "_law_draw" = some (some (.ref f8))) (l8 : K.lookup f8 = some ⟨oc8, od8, .func (PySem.W.fnOf "_law_draw" "_law_draw" (defArgs st__law_draw) (defBody st__law_draw) (defScope st__law_draw) .none kV8 dc8 pm8 an8 cd8 ct8), sl8⟩) (c8 : PySem.W.codeIn K cd8 "_law_draw" = true) (k8 : PySem.W.keepIn K (.ref f8) = true)
    (a9 : PySem.W.nsIn K mainGlobals "_law_after" = some (some (.ref f9))) (l9 : K.lookup f9 = some ⟨oc9, od9, .func (PySem.W.fnOf "_law_after" "_law_after" (defArgs st__law_after) (defBody st__law_after) (defScope st__law_after) .none kV9 dc9 pm9 an9 cd9 ct9), sl9⟩) (c9 : PySem.W.codeIn K cd9 "_law_after" = true) (k9 : PySem.W.keepIn K (.ref f9) = true)
    (a10 : PySem.W.nsIn K mainGlobals "_law_word" = some (some (.ref f10))) (l10 : K.lookup f10 = some ⟨oc10, od10, .func (PySem.W.fnOf "_law_word" "_law_word" (defArgs st__law_word) (defBody st__law_word) (defScope st__law_word) .none kV10 dc10 pm10 an10 cd10 ct10), sl10⟩) (c10 : PySem.W.codeIn K cd10 "_law_word" = true) (k10 : PySem.W.keepIn K (.ref f10) = true)
    (a11 : PySem.W.nsIn K mainGlobals "_law_bend" = some (some (.ref f11))) (l11 : K.lookup f11 = some ⟨oc11, od11, .func (PySem.W.fnOf "_law_bend" "_law_bend" (defArgs st__law_bend) (defBody st__law_bend) (defScope st__law_bend) .none kV11 dc11 pm11 an11 cd11 ct11), sl11⟩) (c11 : PySem.W.codeIn K cd11 "_law_bend" = true) (k11 : PySem.W.keepIn K (.ref f11) = true)
    (a12 : PySem.W.nsIn K mainGlobals "_law_odd" = some (some (.ref f12))) (l12 : K.lookup f12 = some ⟨oc12, od12, .func (PySem.W.fnOf "_law_odd" "_law_odd" (defArgs st__law_odd) (defBody st__law_odd) (defScope st__law_odd) .none kV12 dc12 pm12 an12 cd12 ct12), sl12⟩) (c12 : PySem.W.codeIn K cd12 "_law_odd" = true) (k12 : PySem.W.keepIn K (.ref f12) = true)
    (a13 : PySem.W.nsIn K mainGlobals "_law_number" = some (some (.ref f13))) (l13 : K.lookup f13 = some ⟨oc13, od13, .func (PySem.W.fnOf "_law_number" "_law_number" (defArgs st__law_number) (defBody st__law_number) (defScope st__law_number) .none kV13 dc13 pm13 an13 cd13 ct13), sl13⟩) (c13 : PySem.W.codeIn K cd13 "_law_number" = true) (k13 : PySem.W.keepIn K (.ref f13) = true)
    (a14 : PySem.W.nsIn K mainGlobals "_law_great" = some (some (.ref f14))) (l14 : K.lookup f14 = some ⟨oc14, od14, .func (PySem.W.fnOf "_law_great" "_law_great" (defArgs st__law_great) (defBody st__law_great) (defScope st__law_great) .none kV14 dc14 pm14 an14 cd14 ct14), sl14⟩) (c14 : PySem.W.codeIn K cd14 "_law_great" = true) (k14 : PySem.W.keepIn K (.ref f14) = true)
    (a15 : PySem.W.nsIn K mainGlobals "_law_spoilt" = some (some (.ref f15))) (l15 : K.lookup f15 = some ⟨oc15, od15, .func (PySem.W.fnOf "_law_spoilt" "_law_spoilt" (defArgs st__law_spoilt) (defBody st__law_spoilt) (defScope st__law_spoilt) .none kV15 dc15 pm15 an15 cd15 ct15), sl15⟩) (c15 : PySem.W.codeIn K cd15 "_law_spoilt" = true) (k15 : PySem.W.keepIn K (.ref f15) = true)
    (a16 : PySem.W.nsIn K mainGlobals "_law_worded" = some (some (.ref f16))) (l16 : K.lookup f16 = some ⟨oc16, od16, .func (PySem.W.fnOf "_law_worded" "_law_worded" (defArgs st__law_worded) (defBody st__law_worded) (defScope st__law_worded) .none kV16 dc16 pm16 an16 cd16 ct16), sl16⟩) (c16 : PySem.W.codeIn K cd16 "_law_worded" = true) (k16 : PySem.W.keepIn K (.ref f16) = true)
    (a17 : PySem.W.nsIn K mainGlobals "_law_operanded" = some (some (.ref f17))) (l17 : K.lookup f17 = some ⟨oc17, od17, .func (PySem.W.fnOf "_law_operanded" "_law_operanded" (defArgs st__law_operanded) (defBody st__law_operanded) (defScope st__law_operanded) .none kV17 dc17 pm17 an17 cd17 ct17), sl17⟩) (c17 : PySem.W.codeIn K cd17 "_law_operanded" = true) (k17 : PySem.W.keepIn K (.ref f17) = true)
    (a18 : PySem.W.nsIn K mainGlobals "_law_paired" = some (some (.ref f18))) (l18 : K.lookup f18 = some ⟨oc18, od18, .func (PySem.W.fnOf "_law_paired" "_law_paired" (defArgs st__law_paired) (defBody st__law_paired) (defScope st__law_paired) .none kV18 dc18 pm18 an18 cd18 ct18), sl18⟩) (c18 : PySem.W.codeIn K cd18 "_law_paired" = true) (k18 : PySem.W.keepIn K (.ref f18) = true)
    (a19 : PySem.W.nsIn K mainGlobals "_law_objected" = some (some (.ref f19))) (l19 : K.lookup f19 = some ⟨oc19, od19, .func (PySem.W.fnOf "_law_objected" "_law_objected" (defArgs st__law_objected) (defBody st__law_objected) (defScope st__law_objected) .none kV19 dc19 pm19 an19 cd19 ct19), sl19⟩) (c19 : PySem.W.codeIn K cd19 "_law_objected" = true) (k19 : PySem.W.keepIn K (.ref f19) = true)
    (a20 : PySem.W.nsIn K mainGlobals "_law_objects" = some (some (.ref f20))) (l20 : K.lookup f20 = some ⟨oc20, od20, .func (PySem.W.fnOf "_law_objects" "_law_objects" (defArgs st__law_objects) (defBody st__law_objects) (defScope st__law_objects) .none kV20 dc20 pm20 an20 cd20 ct20), sl20⟩) (c20 : PySem.W.codeIn K cd20 "_law_objects" = true) (k20 : PySem.W.keepIn K (.ref f20) = true)
    (a21 : PySem.W.nsIn K mainGlobals "_law_fixed" = some (some (.ref f21))) (l21 : K.lookup f21 = some ⟨oc21, od21, .func (PySem.W.fnOf "_law_fixed" "_law_fixed" (defArgs st__law_fixed) (defBody st__law_fixed) (defScope st__law_fixed) .none kV21 dc21 pm21 an21 cd21 ct21), sl21⟩) (c21 : PySem.W.codeIn K cd21 "_law_fixed" = true) (k21 : PySem.W.keepIn K (.ref f21) = true)
    (a22 : PySem.W.nsIn K mainGlobals "law" = some (some (.ref f22))) (l22 : K.lookup f22 = some ⟨oc22, od22, .func (PySem.W.fnOf "law" "law" (defArgs st_law) (defBody st_law) (defScope st_law) .none kV22 dc22 pm22 an22 cd22 ct22), sl22⟩) (c22 : PySem.W.codeIn K cd22 "law" = true) (k22 : PySem.W.keepIn K (.ref f22) = true)
    (z_isinstance : PySem.W.nsIn K mainGlobals "isinstance" = some none) (z_int : PySem.W.nsIn K mainGlobals "int" = some none) (z_bool : PySem.W.nsIn K mainGlobals "bool" = some none) (z_str : PySem.W.nsIn K mainGlobals "str" = some none) (z_len : PySem.W.nsIn K mainGlobals "len" = some none) (z_all : PySem.W.nsIn K mainGlobals "all" = some none) (z_tuple : PySem.W.nsIn K mainGlobals "tuple" = some none) (z_zip : PySem.W.nsIn K mainGlobals "zip" = some none) (z_range : PySem.W.nsIn K mainGlobals "range" = some none) (z_list : PySem.W.nsIn K mainGlobals "list" = some none) (z_ord : PySem.W.nsIn K mainGlobals "ord" = some none) (z_sorted : PySem.W.nsIn K mainGlobals "sorted" = some none) (z_set : PySem.W.nsIn K mainGlobals "set" = some none) (z_repr : PySem.W.nsIn K mainGlobals "repr" = some none) (zc_LONGEST : PySem.W.nsIn K mainGlobals "LONGEST" = some (some (.int 8 t_LONGEST))) (zc_LETTERS : PySem.W.nsIn K mainGlobals "LETTERS" = some (some (.str "abcdefghijklmnopqrstuvwxyz" t_LETTERS))) :
    ∃ fd : FuncData, (∀ (s : Shared) (v : Value), BindsTo s fd ⟨[v], []⟩ [("_law_script", v)]) ∧ ∀ base : Heap, K.In base → base.Ns mainGlobals mg → FnG l.prog w K mg base 12 fa fd ["_law_script"] (spF K w 1 F_law) := by
  have e := hfa.symm.trans (PySem.W.mg_of X G a22)
  cases e
  have F0 := fun_mk (st := st_is_number) l0 c0 k0
  have g0 := PySem.W.mg_of X G a0
  have b0 := F0.binds (ps := ["thing"]) fun _ _ _ _ _ _ us hl => match us, hl with | [_], _ => rfl
  have F1 := fun_mk (st := st_is_count) l1 c1 k1
  have g1 := PySem.W.mg_of X G a1
  have b1 := F1.binds (ps := ["thing"]) fun _ _ _ _ _ _ us hl => match us, hl with | [_], _ => rfl
  have F2 := fun_mk (st := st_is_word) l2 c2 k2
  have g2 := PySem.W.mg_of X G a2
  have b2 := F2.binds (ps := ["thing"]) fun _ _ _ _ _ _ us hl => match us, hl with | [_], _ => rfl
  have F3 := fun_mk (st := st_is_operand) l3 c3 k3
  have g3 := PySem.W.mg_of X G a3
  have b3 := F3.binds (ps := ["thing"]) fun _ _ _ _ _ _ us hl => match us, hl with | [_], _ => rfl
  have F4 := fun_mk (st := st_is_pair) l4 c4 k4
  have g4 := PySem.W.mg_of X G a4
  have b4 := F4.binds (ps := ["thing"]) fun _ _ _ _ _ _ us hl => match us, hl with | [_], _ => rfl
  have F5 := fun_mk (st := st_are_pairs) l5 c5 k5
  have g5 := PySem.W.mg_of X G a5
  have b5 := F5.binds (ps := ["thing"]) fun _ _ _ _ _ _ us hl => match us, hl with | [_], _ => rfl
  have F6 := fun_mk (st := st_is_objects) l6 c6 k6
  have g6 := PySem.W.mg_of X G a6
  have b6 := F6.binds (ps := ["thing"]) fun _ _ _ _ _ _ us hl => match us, hl with | [_], _ => rfl
  have F7 := fun_mk (st := st__law_feed) l7 c7 k7
  have g7 := PySem.W.mg_of X G a7
  have b7 := F7.binds (ps := ["_law_script"]) fun _ _ _ _ _ _ us hl => match us, hl with | [_], _ => rfl
  have F8 := fun_mk (st := st__law_draw) l8 c8 k8
  have g8 := PySem.W.mg_of X G a8
  have b8 := F8.binds (ps := ["_law_feed_here", "_law_many"]) fun _ _ _ _ _ _ us hl => match us, hl with | [_, _], _ => rfl
  have F9 := fun_mk (st := st__law_after) l9 c9 k9
  have g9 := PySem.W.mg_of X G a9
  have b9 := F9.binds (ps := ["_law_word_here"]) fun _ _ _ _ _ _ us hl => match us, hl with | [_], _ => rfl
  have F10 := fun_mk (st := st__law_word) l10 c10 k10
  have g10 := PySem.W.mg_of X G a10
  have b10 := F10.binds (ps := ["_law_feed_here", "_law_found"]) fun _ _ _ _ _ _ us hl => match us, hl with | [_, _], _ => rfl
  have F11 := fun_mk (st := st__law_bend) l11 c11 k11
  have g11 := PySem.W.mg_of X G a11
  have b11 := F11.binds (ps := ["_law_feed_here", "_law_thing", "_law_odd_here"]) fun _ _ _ _ _ _ us hl => match us, hl with | [_, _, _], _ => rfl
  have F12 := fun_mk (st := st__law_odd) l12 c12 k12
  have g12 := PySem.W.mg_of X G a12
  have b12 := F12.binds (ps := []) fun _ _ _ _ _ _ us hl => match us, hl with | [], _ => rfl
  have F13 := fun_mk (st := st__law_number) l13 c13 k13
  have g13 := PySem.W.mg_of X G a13
  have b13 := F13.binds (ps := ["_law_thing"]) fun _ _ _ _ _ _ us hl => match us, hl with | [_], _ => rfl
  have F14 := fun_mk (st := st__law_great) l14 c14 k14
  have g14 := PySem.W.mg_of X G a14
  have b14 := F14.binds (ps := ["_law_feed_here"]) fun _ _ _ _ _ _ us hl => match us, hl with | [_], _ => rfl
  have F15 := fun_mk (st := st__law_spoilt) l15 c15 k15
  have g15 := PySem.W.mg_of X G a15
  have b15 := F15.binds (ps := ["_law_feed_here", "_law_word_here"]) fun _ _ _ _ _ _ us hl => match us, hl with | [_, _], _ => rfl
  have F16 := fun_mk (st := st__law_worded) l16 c16 k16
  have g16 := PySem.W.mg_of X G a16
  have b16 := F16.binds (ps := ["_law_thing"]) fun _ _ _ _ _ _ us hl => match us, hl with | [_], _ => rfl
  have F17 := fun_mk (st := st__law_operanded) l17 c17 k17
  have g17 := PySem.W.mg_of X G a17
  have b17 := F17.binds (ps := ["_law_thing"]) fun _ _ _ _ _ _ us hl => match us, hl with | [_], _ => rfl
  have F18 := fun_mk (st := st__law_paired) l18 c18 k18
  have g18 := PySem.W.mg_of X G a18
  have b18 := F18.binds (ps := ["_law_thing"]) fun _ _ _ _ _ _ us hl => match us, hl with | [_], _ => rfl
  have F19 := fun_mk (st := st__law_objected) l19 c19 k19
  have g19 := PySem.W.mg_of X G a19
  have b19 := F19.binds (ps := ["_law_thing"]) fun _ _ _ _ _ _ us hl => match us, hl with | [_], _ => rfl
  have F20 := fun_mk (st := st__law_objects) l20 c20 k20
  have g20 := PySem.W.mg_of X G a20
  have b20 := F20.binds (ps := ["_law_feed_here"]) fun _ _ _ _ _ _ us hl => match us, hl with | [_], _ => rfl
  have F21 := fun_mk (st := st__law_fixed) l21 c21 k21
  have g21 := PySem.W.mg_of X G a21
  have b21 := F21.binds (ps := []) fun _ _ _ _ _ _ us hl => match us, hl with | [], _ => rfl
  have F22 := fun_mk (st := st_law) l22 c22 k22
  have g22 := PySem.W.mg_of X G a22
  have y_isinstance := PySem.W.mg_none_of X G z_isinstance
  have y_int := PySem.W.mg_none_of X G z_int
  have y_bool := PySem.W.mg_none_of X G z_bool
  have y_str := PySem.W.mg_none_of X G z_str
  have y_len := PySem.W.mg_none_of X G z_len
  have y_all := PySem.W.mg_none_of X G z_all
  have y_tuple := PySem.W.mg_none_of X G z_tuple
  have y_zip := PySem.W.mg_none_of X G z_zip
  have y_range := PySem.W.mg_none_of X G z_range
  have y_list := PySem.W.mg_none_of X G z_list
  have y_ord := PySem.W.mg_none_of X G z_ord
  have y_sorted := PySem.W.mg_none_of X G z_sorted
  have y_set := PySem.W.mg_none_of X G z_set
  have y_repr := PySem.W.mg_none_of X G z_repr
  have y_LONGEST : ∃ t, mg "LONGEST" = some (.int 8 t) := ⟨_, PySem.W.mg_of X G zc_LONGEST⟩
  have y_LETTERS : ∃ t, mg "LETTERS" = some (.str "abcdefghijklmnopqrstuvwxyz" t) := ⟨_, PySem.W.mg_of X G zc_LETTERS⟩
  refine ⟨PySem.W.fnOf "law" "law" (defArgs st_law) (defBody st_law) (defScope st_law) .none kV22 dc22 pm22 an22 cd22 ct22, fun s v => .of_eq rfl, fun base _ _ => ?_⟩
  have o0 := ok_is_number (P := l.prog) (w := w) (mg := mg) (base := base) F0 y_isinstance y_int y_bool
  have o1 := ok_is_count (P := l.prog) (w := w) (mg := mg) (base := base) F1 o0 k0 b0 g0
  have o2 := ok_is_word (P := l.prog) (w := w) (mg := mg) (base := base) F2 y_isinstance y_str y_len y_all y_LONGEST y_LETTERS
  have o3 := ok_is_operand (P := l.prog) (w := w) (mg := mg) (base := base) F3 o0 k0 b0 g0 o2 k2 b2 g2
  have o4 := ok_is_pair (P := l.prog) (w := w) (mg := mg) (base := base) F4 o2 k2 b2 g2 y_isinstance y_tuple y_len
  have o5 := ok_are_pairs (P := l.prog) (w := w) (mg := mg) (base := base) F5 o4 k4 b4 g4 y_isinstance y_tuple y_len y_all y_zip
  have o6 := ok_is_objects (P := l.prog) (w := w) (mg := mg) (base := base) F6 o5 k5 b5 g5 o1 k1 b1 g1 y_all
  have o7 := ok__law_feed (P := l.prog) (w := w) (mg := mg) (base := base) F7
  have o8 := ok__law_draw (P := l.prog) (w := w) (mg := mg) (base := base) F8 y_len
  have o9 := ok__law_after (P := l.prog) (w := w) (mg := mg) (base := base) F9 y_len
  have o10 := ok__law_word (P := l.prog) (w := w) (mg := mg) (base := base) F10 o8 k8 b8 g8 o9 k9 b9 g9 y_range y_len
  have o11 := ok__law_bend (P := l.prog) (w := w) (mg := mg) (base := base) F11 o8 k8 b8 g8 y_isinstance y_tuple y_len y_list y_int y_str k11 b11 g11
  have o12 := ok__law_odd (P := l.prog) (w := w) (mg := mg) (base := base) F12
  have o13 := ok__law_number (P := l.prog) (w := w) (mg := mg) (base := base) F13 y_isinstance y_int
  have o14 := ok__law_great (P := l.prog) (w := w) (mg := mg) (base := base) F14 o8 k8 b8 g8 y_range
  have o15 := ok__law_spoilt (P := l.prog) (w := w) (mg := mg) (base := base) F15 o8 k8 b8 g8 y_len
  have o16 := ok__law_worded (P := l.prog) (w := w) (mg := mg) (base := base) F16 y_isinstance y_str y_len y_ord
  have o17 := ok__law_operanded (P := l.prog) (w := w) (mg := mg) (base := base) F17 o16 k16 b16 g16 o13 k13 b13 g13
  have o18 := ok__law_paired (P := l.prog) (w := w) (mg := mg) (base := base) F18 o16 k16 b16 g16 y_isinstance y_tuple y_len y_sorted y_set
  have o19 := ok__law_objected (P := l.prog) (w := w) (mg := mg) (base := base) F19 o18 k18 b18 g18 o13 k13 b13 g13
  have o20 := ok__law_objects (P := l.prog) (w := w) (mg := mg) (base := base) F20 o8 k8 b8 g8 o10 k10 b10 g10 y_range y_tuple y_sorted
  have o21 := ok__law_fixed (P := l.prog) (w := w) (mg := mg) (base := base) F21 y_tuple
  exact ok_law F22 o7 k7 b7 g7 o12 k12 b12 g12 o21 k21 b21 g21 o10 k10 b10 g10 o14 k14 b14 g14 o20 k20 b20 g20 o11 k11 b11 g11 o15 k15 b15 g15 o0 k0 b0 g0 o2 k2 b2 g2 o3 k3 b3 g3 o6 k6 b6 g6 o13 k13 b13 g13 o16 k16 b16 g16 o17 k17 b17 g17 o19 k19 b19 g19 y_range y_list y_repr
end K01
open PySem PySem.W PyProof.Rows
set_option maxHeartbeats 0 in
theorem PySem.Challenge.cw_storeways_k01_kinds_holds : PySem.Challenge.rw_storeways_k01_kinds.Holds := by
  w_on; o_law; k_head; (case hw => w_witness2)
  k_fill
  refine ML.walk_ofG (l := PySem.Challenge.rw_storeways_k01_kinds) (n := 63) (k := 12) (f := K01.F_law) (x := "_law_script") rfl (by decide) rfl ⟨⟨rfl, by decide, by decide⟩, rfl⟩ (fun w h Y => PySem.W.kIn_of Y) ?F K01.K_law
  case F =>
    intro w mg fa h KX G hmg
    refine' K01.all_mk KX G hmg ?a0 ?l0 ?c0 ?k0 ?a1 ?l1 ?c1 ?k1 ?a2 ?l2 ?c2 ?k2 ?a3 ?l3 ?c3 ?k3 ?a4 ?l4 ?c4 ?k4 ?a5 ?l5 ?c5 ?k5 ?a6 ?l6 ?c6 ?k6 ?a7 ?l7 ?c7 ?k7 ?a8 ?l8 ?c8 ?k8 ?a9 ?l9 ?c9 ?k9 ?a10 ?l10 ?c10 ?k10 ?a11 ?l11 ?c11 ?k11 ?a12 ?l12 ?c12 ?k12 ?a13 ?l13 ?c13 ?k13 ?a14 ?l14 ?c14 ?k14 ?a15 ?l15 ?c15 ?k15 ?a16 ?l16 ?c16 ?k16 ?a17 ?l17 ?c17 ?k17 ?a18 ?l18 ?c18 ?k18 ?a19 ?l19 ?c19 ?k19 ?a20 ?l20 ?c20 ?k20 ?a21 ?l21 ?c21 ?k21 ?a22 ?l22 ?c22 ?k22 ?z_isinstance ?z_int ?z_bool ?z_str ?z_len ?z_all ?z_tuple ?z_zip ?z_range ?z_list ?z_ord ?z_sorted ?z_set ?z_repr ?zc_LONGEST ?zc_LETTERS
    (case a0 => k_is); (case l0 => k_is); (case c0 => k_is); (case k0 => k_is); (case a1 => k_is); (case l1 => k_is); (case c1 => k_is); (case k1 => k_is); (case a2 => k_is); (case l2 => k_is); (case c2 => k_is); (case k2 => k_is); (case a3 => k_is); (case l3 => k_is); (case c3 => k_is); (case k3 => k_is); (case a4 => k_is); (case l4 => k_is); (case c4 => k_is); (case k4 => k_is); (case a5 => k_is); (case l5 => k_is); (case c5 => k_is); (case k5 => k_is); (case a6 => k_is); (case l6 => k_is); (case c6 => k_is); (case k6 => k_is); (case a7 => k_is); (case l7 => k_is); (case c7 => k_is); (case k7 => k_is); (case a8 => k_is); (case l8 => k_is); (case c8 => k_is); (case k8 => k_is); (case a9 => k_is); (case l9 => k_is); (case c9 => k_is); (case k9 => k_is); (case a10 => k_is); (case l10 => k_is); (case c10 => k_is); (case k10 => k_is); (case a11 => k_is); (case l11 => k_is); (case c11 => k_is); (case k11 => k_is); (case a12 => k_is); (case l12 => k_is); (case c12 => k_is); (case k12 => k_is); (case a13 => k_is); (case l13 => k_is); (case c13 => k_is); (case k13 => k_is); (case a14 => k_is); (case l14 => k_is); (case c14 => k_is); (case k14 => k_is); (case a15 => k_is); (case l15 => k_is); (case c15 => k_is); (case k15 => k_is); (case a16 => k_is); (case l16 => k_is); (case c16 => k_is); (case k16 => k_is); (case a17 => k_is); (case l17 => k_is); (case c17 => k_is); (case k17 => k_is); (case a18 => k_is); (case l18 => k_is); (case c18 => k_is); (case k18 => k_is); (case a19 => k_is); (case l19 => k_is); (case c19 => k_is); (case k19 => k_is); (case a20 => k_is); (case l20 => k_is); (case c20 => k_is); (case k20 => k_is); (case a21 => k_is); (case l21 => k_is); (case c21 => k_is); (case k21 => k_is); (case a22 => k_is); (case l22 => k_is); (case c22 => k_is); (case k22 => k_is); (case z_isinstance => k_is); (case z_int => k_is); (case z_bool => k_is); (case z_str => k_is); (case z_len => k_is); (case z_all => k_is); (case z_tuple => k_is); (case z_zip => k_is); (case z_range => k_is); (case z_list => k_is); (case z_ord => k_is); (case z_sorted => k_is); (case z_set => k_is); (case z_repr => k_is); (case zc_LONGEST => k_is); (case zc_LETTERS => k_is)
