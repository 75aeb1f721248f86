import PyProof.Rows.All
import Wide.All
import OpenK.AllK
import Wide.FinOn
import HandS.ForMost
import HandS.SetFor
import HandS.Strs
import HandS.TupAny
import HandS.Conv
import HandS.Lambda
import KE.KDictKeyed
import HandS.Deep
import HandS.Text
import HandS.Wide
import HandS.Style
import HandS.SortInts
import KE.KDictPairs
import HandS.Ends
import HandS.IsInst
import HandS.Zip
import HandS.StrMore
import HandS.TupMul
import KE.SortData
import KE.DataCmp
import KE.DataMinMax
import PyProof.StrOps2
import KE.GoesRev
import PyProof.Rows.IntBool
import PyProof.FactsAll.bool
import HandS.Set
import HandS.Exc
import HandS.ExcInit
import HandS.ExcField
import KE.KExcIs
import HandS.ClsMeth
import HandS.ExcIs
import KE.GoesZip
import KE.GoesMore
import PyProof.EnumMake
import KE.DataMinKey
import HandS.Iter
import KE.KIndexOf
import PyProof.Rows.SortShell
import HandS.TryOnly
import KE.KExcInit
import PyProof.ExcBaseAll.LookupError
import PyProof.P3In
import HandS.More
import KE.KDictSum
import PyProof.Rows.SortShellAny
import HandS.Flow
import HandS.Dict
import KE.KDictDisplayH
import PySem.Challenge.RW_storeways_k28_going_on
set_option Elab.async false
set_option linter.all false
set_option maxRecDepth 100000
/-! ML: tuples that bear no dict of their own -/
namespace L2
open PySem PySem.Spec PyProof.Rows
/-- a new tuple, bare -/
def bareT (its : List Value) : Obj := { cls := .type "tuple", data := .seq its.toArray }
def tupQ (H : Hp) (Q : VK) (xs : List V) : Prop := ∀ p q, q.dict = none → H p = none → Q (.ref p) (upd H p (.frz q (.tup xs)))
section
variable {X : Cx} {pins : List (Addr × Obj)} {σ : St} {H : Hp} {s : Shared}
theorem Inv.laidF (I : Inv X pins σ H s) {xs : List V} {its : List Value} (r : Vals xs its) (hz : xs.length ≤ sizeLine) :
    Inv X pins σ (upd H s.heap.objs.size (.frz (bareT its) (.tup xs))) { s with heap := s.heap.push (bareT its) } :=
  I.laid (t' := s.toks) (fun b ob q => Heap.get?_push_of_some _ q) (Nat.le_refl _) ⟨Heap.get?_push_size _ rfl, hz, its, r, IsTup.new _ _⟩
theorem tupQ.at {Q : VK} {xs : List V} (I : Inv X pins σ H s) (q : tupQ H Q xs) (its : List Value) : Q (.ref s.heap.objs.size) (upd H s.heap.objs.size (.frz (bareT its) (.tup xs))) :=
  q _ _ rfl (I.hok.fresh (Nat.le_refl _))
end
section
variable {X : Cx} {es : List Expr} {t : TA} {pos : Pos}
def tTupF (t : TA) : TE := fun σ H Q => t σ H fun xs H1 => xs.length ≤ sizeLine ∧ tupQ H1 Q xs
theorem pe_tupF {x1} (h : PA X es t) : PE X (.Tuple es x1 pos) (tTupF t) := by
  refine ⟨fun pins s σ H Q I hq => ?_⟩
  refine wpAny_Tuple_spliced (thn (h.run pos pins s σ H _ I hq) fun us s1 ⟨xs, H1, I1, r, z, q⟩ => ⟨by rw [← r.length]; exact z, ?_⟩)
  exact ⟨.ref s1.heap.objs.size, _, I1.laidF r z, rfl, q.at I1 _⟩
def rCatF (K : PySem.W.Frag) : R2 := fun x y H Q => ∃ a b xs ys, x = .ref a ∧ y = .ref b ∧ SqT K H a xs ∧ SqT K H b ys ∧ xs.length + ys.length ≤ sizeLine ∧
  (xs = [] → Q (.ref b) H) ∧ (xs ≠ [] → ys = [] → Q (.ref a) H) ∧ (xs ≠ [] → ys ≠ [] → tupQ H Q (xs ++ ys))
theorem op_catF : OpR X (binaryOp .Add) (rCatF X.K) := by
  intro pins s σ H x y v u Q I rx ry h
  obtain ⟨a, b, xs, ys, rfl, rfl, ha, hb, hz, q0, q1, q2⟩ := h
  cases rx
  cases ry
  obtain ⟨its, r1, p1, _⟩ := I.tuple ha
  obtain ⟨its2, r2, p2, _⟩ := I.tuple hb
  by_cases hx : xs = []
  · subst hx
    cases r1
    exact cat_tup0 p1 p2 ⟨.ref b, H, I, rfl, q0 rfl⟩
  · refine HT.cat_tup p1 p2 (fun z => hx (r1.nil_iff.mp z)) (fun z => ⟨.ref a, H, I, rfl, q1 hx (r2.nil_iff.mp z)⟩) (fun z => ?_) (by rw [← r1.length, ← r2.length]; exact hz)
    exact ⟨.ref s.heap.objs.size, _, I.laidF (r1.append r2) (by rw [List.length_append]; exact hz), rfl, (q2 hx (fun w => z (r2.nil_iff.mpr w))).at I _⟩
def rSlF (K : PySem.W.Frag) : V → Option Int → Option Int → Hp → VK → Prop := fun x lo hi H Q => ∃ a xs, x = .ref a ∧ SqT K H a xs ∧
  (HT.sIx xs.length 0 lo = 0 ∧ HT.sIx xs.length xs.length hi = xs.length → Q (.ref a) H) ∧ (¬ (HT.sIx xs.length 0 lo = 0 ∧ HT.sIx xs.length xs.length hi = xs.length) → tupQ H Q (cutV xs lo hi))
theorem sl_tupF : SlR X (rSlF X.K) := by
  intro pins s σ H x v vl vu lo hi sl Q I rx hs pl pu h
  obtain ⟨a, xs, rfl, hx, q1, q2⟩ := h
  cases rx
  obtain ⟨its, r, ht, hz⟩ := I.tuple hx
  have hlen : its.toArray.size = xs.length := by rw [List.size_toArray]; exact r.length.symm
  refine ⟨"tuple", _, PyProof.Rows.slot_tuple_getitem.lookup, ht.typeIs, ?_⟩
  by_cases hw : HT.sIx xs.length 0 lo = 0 ∧ HT.sIx xs.length xs.length hi = xs.length
  · exact getItem_tuple_whole ht hs pl pu (by rw [hlen]; exact hw) ⟨.ref a, H, I, rfl, q1 hw⟩
  · refine HT.getItem_tuple_cut ht hs pl pu (by rw [hlen]; exact hw) ?_ (by rw [hlen]; exact hz)
    rw [hlen]
    exact ⟨.ref s.heap.objs.size, _, I.laidF ((r.drop (HT.sIx xs.length 0 lo)).take (HT.sIx xs.length xs.length hi - HT.sIx xs.length 0 lo)) (Nat.le_trans (cutV_length xs lo hi) hz), rfl, (q2 hw).at I _⟩
theorem call_tupF : CallR X (.type "tuple") (fun xs H Q => ∃ p ys, xs = [.ref p] ∧ ((SqL X.K H p ys ∧ tupQ H Q ys) ∨ (SqT X.K H p ys ∧ Q (.ref p) H))) := by
  intro pins s σ H xs us Q I r h
  obtain ⟨p, ys, rfl, h⟩ := h
  obtain ⟨u, rfl, rx⟩ := vals1 r
  cases rx
  rcases h with ⟨hq, q⟩ | ⟨hq, q⟩
  · obtain ⟨its, r', pl, hz⟩ := I.list hq
    have hlen := r'.length
    refine call_tuple_list pl.isList (fun h' kp => ?_) (by simp only [List.size_toArray] <;> omega)
    have I1 : Inv X pins σ H { s with heap := h' } := I.kept (t' := s.toks) kp
    exact ⟨.ref h'.objs.size, _, I1.laidF r' hz, rfl, q.at I1 _⟩
  · obtain ⟨its, r', pl, hz⟩ := I.tuple hq
    exact call_tuple_same pl ⟨.ref p, H, I, rfl, q⟩
variable {e : Expr} {te : St → Hp → (Int → Int → Hp → Prop) → Prop}
end
end L2

/-! ML: a layer over the hand layer: expressions and statements as partial functions of an environment of data. -/
namespace ML
open PySem PySem.Spec PyProof.Rows L2

abbrev D := PyData
inductive O where
  | lst (ds : List D)
  | dK (kvs : List (Key × D))
  | sI (ns : List Int)
  | dA (kvs : List (D × D))
  | tq (ps : List (Option D))
inductive B where
  | val (d : D) | mu (o : O) | lk (o : O)
inductive R where
  | val (d : D) | new (o : O) | bor (i : Nat) | lkd (i : Nat) (o : O)
abbrev En := List (Option B)
def B.own : B → Option O
  | .val _ => none | .mu o => some o | .lk o => some o
def R.toB : R → Option B
  | .val d => some (.val d) | .new o => some (.mu o) | .bor _ => none | .lkd _ _ => none

abbrev Ix := Nat ⊕ Nat
structure Fr where
  K : PySem.W.Frag
  w : World
  H0 : Hp
  G0 : Hp
  args : List V
  bor : List Addr
  cv : Nat → Bool
  tb : List (Addr × Str)

/-! ### data in a growing heap -/
theorem same_sqT {K : PySem.W.Frag} {H H' : Hp} {a : Addr} {xs : List V} (e : Same H H') (h : SqT K H a xs) : SqT K H' a xs := by
  rcases h with (h | ⟨o, h⟩) | h
  · exact .inl (.inl (e _ _ h))
  · exact .inl (.inr ⟨o, e _ _ h⟩)
  · exact .inr h
mutual
theorem dp_mono {K : PySem.W.Frag} {H H' : Hp} (e : Same H H') : ∀ (d : D) (v : V), Dp K H v d → Dp K H' v d
  | .none, _, h => by cases h; exact .non
  | .bool b, _, h => by cases h; exact .bl b
  | .int i, _, h => by cases h; exact .int i
  | .str x, _, h => by cases h; exact .str x
  | .list ds, _, h => by
    cases h with
    | lst hs ha => exact .lst (e.seq hs) (dpAll_mono e ds _ ha)
  | .tuple ds, _, h => by
    cases h with
    | tup hs ha => exact .tup (same_sqT e hs) (dpAll_mono e ds _ ha)
  | .dict _, _, h => by cases h
theorem dpAll_mono {K : PySem.W.Frag} {H H' : Hp} (e : Same H H') : ∀ (ds : List D) (vs : List V), DpAll K H vs ds → DpAll K H' vs ds
  | [], _, h => by cases h; exact .nil
  | d :: ds, _, h => by
    cases h with
    | cons h1 h2 => exact .cons (dp_mono e d _ h1) (dpAll_mono e ds _ h2)
end
theorem dpAll_len {K : PySem.W.Frag} {H : Hp} : ∀ {ds : List D} {vs : List V}, DpAll K H vs ds → vs.length = ds.length
  | [], _, h => by cases h; rfl
  | _ :: _, _, h => by cases h with | cons h1 h2 => simp [dpAll_len h2]
theorem dpAll_get {K : PySem.W.Frag} {H : Hp} : ∀ {ds : List D} {vs : List V} {i : Nat} {d : D}, DpAll K H vs ds → ds[i]? = some d → ∃ v, vs[i]? = some v ∧ Dp K H v d
  | [], _, i, d, h, e => by simp at e
  | d :: ds, _, 0, d', h, e => by
    cases h with
    | cons h1 h2 => simp at e; subst e; exact ⟨_, rfl, h1⟩
  | d :: ds, _, i + 1, d', h, e => by
    cases h with
    | cons h1 h2 =>
      obtain ⟨v, e1, e2⟩ := dpAll_get (i := i) h2 (by simpa using e)
      exact ⟨v, by simpa using e1, e2⟩
theorem dpAll_app {K : PySem.W.Frag} {H : Hp} : ∀ {vs : List V} {ds : List D} {vs' : List V} {ds' : List D}, DpAll K H vs ds → DpAll K H vs' ds' → DpAll K H (vs ++ vs') (ds ++ ds')
  | _, _, _, _, .nil, h => h
  | _, _, _, _, .cons a b, h => .cons a (dpAll_app b h)
theorem dpAll_take {K : PySem.W.Frag} {H : Hp} : ∀ {vs : List V} {ds : List D} (n : Nat), DpAll K H vs ds → DpAll K H (vs.take n) (ds.take n)
  | _, _, 0, _ => .nil
  | _, _, _ + 1, .nil => .nil
  | _, _, n + 1, .cons a b => .cons a (dpAll_take n b)
theorem dpAll_drop {K : PySem.W.Frag} {H : Hp} : ∀ {vs : List V} {ds : List D} (n : Nat), DpAll K H vs ds → DpAll K H (vs.drop n) (ds.drop n)
  | _, _, 0, h => h
  | _, _, _ + 1, .nil => .nil
  | _, _, n + 1, .cons a b => dpAll_drop n b
theorem dpAll_set {K : PySem.W.Frag} {H : Hp} {v : V} {d : D} (r : Dp K H v d) : ∀ {vs : List V} {ds : List D} (n : Nat), DpAll K H vs ds → DpAll K H (vs.set n v) (ds.set n d)
  | _, _, _, .nil => .nil
  | _, _, 0, .cons a b => .cons r b
  | _, _, n + 1, .cons a b => .cons a (dpAll_set r n b)
theorem dpAll_rev {K : PySem.W.Frag} {H : Hp} : ∀ {vs : List V} {ds : List D}, DpAll K H vs ds → DpAll K H vs.reverse ds.reverse
  | _, _, .nil => .nil
  | _, _, .cons a b => by
    rw [List.reverse_cons, List.reverse_cons]
    exact dpAll_app (dpAll_rev b) (.cons a .nil)
theorem dpAll_erase {K : PySem.W.Frag} {H : Hp} : ∀ {vs : List V} {ds : List D} (n : Nat), DpAll K H vs ds → DpAll K H (vs.eraseIdx n) (ds.eraseIdx n)
  | _, _, _, .nil => .nil
  | _, _, 0, .cons a b => b
  | _, _, n + 1, .cons a b => .cons a (dpAll_erase n b)
theorem dpAll_ints {K : PySem.W.Frag} {H : Hp} : ∀ {ns : List Int} {vs : List V}, DpAll K H vs (ns.map PyData.int) → vs = ns.map V.int
  | [], _, h => by cases h; rfl
  | n :: ns, _, h => by
    cases h with
    | cons h1 h2 => cases h1; simp [dpAll_ints h2]
theorem dpAll_of_ints {K : PySem.W.Frag} {H : Hp} : ∀ (ns : List Int), DpAll K H (ns.map V.int) (ns.map PyData.int)
  | [] => .nil
  | n :: ns => .cons (.int n) (dpAll_of_ints ns)
theorem dpAll_bls {K : PySem.W.Frag} {H : Hp} : ∀ {ns : List Bool} {vs : List V}, DpAll K H vs (ns.map PyData.bool) → vs = ns.map V.bl
  | [], _, h => by cases h; rfl
  | n :: ns, _, h => by
    cases h with
    | cons h1 h2 => cases h1; simp [dpAll_bls h2]
/-! ### keys of any shape -/
abbrev NK := PySem.NestedKey
mutual
def nkey : D → Option NK
  | .none => some .none
  | .bool b => some (.num (if b = true then 1 else 0))
  | .int i => some (.num i)
  | .str x => some (.text x)
  | .tuple ds => (nkeyAll ds).map .tup
  | .list _ => none
  | .dict _ => none
def nkeyAll : List D → Option (List NK)
  | [] => some []
  | d :: ds => (nkey d).bind fun k => (nkeyAll ds).map (k :: ·)
end
/-- a dict whose keys are tuples: its entries, key and value each -/
def DicR (w : World) (h : Heap) (a : Addr) (xs : List (NK × Addr × V)) : Prop :=
  (a == sysModules) = false ∧ ∃ o es ep, ∃ us : List (NK × Addr × Value), h.get? a = some o ∧ o.ExactDict ∧ o.data = .dict es ep ∧ es.toList = us.map (fun x => (⟨x.1.hash w, .ref x.2.1, x.2.2⟩ : DictEntry)) ∧
    Paired (fun x u => x.1 = u.1 ∧ x.2.1 = u.2.1 ∧ RelV x.2.2 u.2.2) xs us ∧ (us.map (·.1)).Nodup
def DicO (w : World) (a : Addr) (xs : List (NK × Addr × V)) : HO := .ext fun h => DicR w h a xs
/-! ### objects of one's own -/
def KAr (K : PySem.W.Frag) (G : Hp) : List (NK × Addr × V) → List (D × D) → Prop := Paired fun x p => nkey p.1 = some x.1 ∧ Dp K G (.ref x.2.1) p.1 ∧ Dp K G x.2.2 p.2 ∧ x.1.depth ≤ 8
theorem kar_mono {K : PySem.W.Frag} {G G' : Hp} (g : Same G G') {xs : List (NK × Addr × V)} {kvs : List (D × D)} (h : KAr K G xs kvs) : KAr K G' xs kvs := Paired.mapP h fun x p r => ⟨r.1, dp_mono g _ _ r.2.1, dp_mono g _ _ r.2.2.1, r.2.2.2⟩
def KVr (K : PySem.W.Frag) (G : Hp) : List (Key × V) → List (Key × D) → Prop := Paired fun p q => p.1 = q.1 ∧ Dp K G p.2 q.2
/-- a tuple of which some parts are known -/
def TqR (K : PySem.W.Frag) (G : Hp) : List V → List (Option D) → Prop := Paired fun v o => ∀ d, o = some d → Dp K G v d
theorem tqr_mono {K : PySem.W.Frag} {G G' : Hp} (g : Same G G') {xs : List V} {ps : List (Option D)} (h : TqR K G xs ps) : TqR K G' xs ps := Paired.mapP h fun v o r d e => dp_mono g _ _ (r d e)
def hasO (F : Fr) (G H : Hp) (a : Addr) : O → Prop
  | .tq ps => ∃ q xs, H a = some (.frz q (.tup xs)) ∧ TqR F.K G xs ps
  | .lst ds => ∃ vs, H a = some (.lst vs) ∧ DpAll F.K G vs ds
  | .dK kvs => ∃ ws, H a = some (.dK ws) ∧ KVr F.K G ws kvs
  | .sI ns => H a = some (SetO F.w a (fun k => decide (k ∈ ns)) ns.length) ∧ ns.Nodup
  | .dA kvs => ∃ xs, H a = some (DicO F.w a xs) ∧ KAr F.K G xs kvs
theorem hasO_mono {F : Fr} {G G' H H' : Hp} {a : Addr} {o : O} (g : Same G G') (e : H' a = H a) (h : hasO F G H a o) : hasO F G' H' a o := by
  cases o with
  | lst ds => obtain ⟨vs, h1, h2⟩ := h; exact ⟨vs, e.trans h1, dpAll_mono g _ _ h2⟩
  | dK kvs => obtain ⟨ws, h1, h2⟩ := h; exact ⟨ws, e.trans h1, Paired.mapP h2 fun p q r => ⟨r.1, dp_mono g _ _ r.2⟩⟩
  | sI ns => exact ⟨e.trans h.1, h.2⟩
  | dA kvs => obtain ⟨xs, h1, h2⟩ := h; exact ⟨xs, e.trans h1, kar_mono g h2⟩
  | tq ps => obtain ⟨q, xs, h1, h2⟩ := h; exact ⟨q, xs, e.trans h1, tqr_mono g h2⟩
theorem hasO_some {F : Fr} {G H : Hp} {a : Addr} {o : O} (h : hasO F G H a o) : ∃ u, H a = some u := by
  cases o with
  | lst ds => obtain ⟨vs, h1, h2⟩ := h; exact ⟨_, h1⟩
  | dK kvs => obtain ⟨ws, h1, h2⟩ := h; exact ⟨_, h1⟩
  | sI ns => exact ⟨_, h.1⟩
  | dA kvs => obtain ⟨xs, h1, h2⟩ := h; exact ⟨_, h1⟩
  | tq ps => obtain ⟨q, xs, h1, h2⟩ := h; exact ⟨_, h1⟩

theorem upd_none {H : Hp} {p b : Addr} {o : HO} (z : upd H p o b = none) : b ≠ p ∧ H b = none := by
  by_cases e : b = p
  · rw [e, upd_same] at z; cases z
  · rw [upd_ne e] at z; exact ⟨e, z⟩
/-- an own thing is no table, no code object -/
theorem hasO_ntbl {F : Fr} {G H : Hp} {a : Addr} {o : O} (h : hasO F G H a o) : ∀ ps, H a ≠ some (.tbl ps) := fun ps z => by
  cases o with
  | lst ds => obtain ⟨vs, h1, _⟩ := h; rw [z] at h1; cases h1
  | dK kvs => obtain ⟨ws, h1, _⟩ := h; rw [z] at h1; cases h1
  | sI ns => have h1 := h.1; rw [z] at h1; cases h1
  | dA kvs => obtain ⟨xs, h1, _⟩ := h; rw [z] at h1; cases h1
  | tq ps => obtain ⟨q, xs, h1, _⟩ := h; rw [z] at h1; cases h1
theorem setO_code {w : World} {a : Addr} {S : Int → Bool} {n : Nat} {q : Str} (e : SetO w a S n = LamX.CodeO a q) : False := by
  have e1 : (fun h => SetR w h a S n) = fun h : Heap => ∃ (oc : Obj) (vs : Array Value) (t : Tok), h.get? a = some oc ∧ oc.data = .fields vs ∧ vs[1]? = some (.str q t) := HO.ext.inj e
  have key : ∀ h : Heap, SetR w h a S n = ∃ (oc : Obj) (vs : Array Value) (t : Tok), h.get? a = some oc ∧ oc.data = .fields vs ∧ vs[1]? = some (.str q t) := fun h => congrFun e1 h
  let o : Obj := { cls := .none, data := .fields #[.none, .str q default] }
  let h0 : Heap := { objs := Array.replicate a default }
  have hz : h0.objs.size = a := by simp [h0]
  have g : (h0.push o).get? a = some o := by
    have := Heap.get?_push_size (h := h0) (o := o) rfl
    rwa [hz] at this
  have R : SetR w (h0.push o) a S n := by
    rw [key]
    exact ⟨o, _, _, g, rfl, rfl⟩
  obtain ⟨o', es, ep, t, ho, _, hd, _⟩ := R
  rw [g] at ho
  cases ho
  cases hd
theorem dicO_code {w : World} {a : Addr} {xs : List (NK × Addr × V)} {q : Str} (e : DicO w a xs = LamX.CodeO a q) : False := by
  have e1 : (fun h => DicR w h a xs) = fun h : Heap => ∃ (oc : Obj) (vs : Array Value) (t : Tok), h.get? a = some oc ∧ oc.data = .fields vs ∧ vs[1]? = some (.str q t) := HO.ext.inj e
  have key : ∀ h : Heap, DicR w h a xs = ∃ (oc : Obj) (vs : Array Value) (t : Tok), h.get? a = some oc ∧ oc.data = .fields vs ∧ vs[1]? = some (.str q t) := fun h => congrFun e1 h
  let o : Obj := { cls := .none, data := .fields #[.none, .str q default] }
  let h0 : Heap := { objs := Array.replicate a default }
  have hz : h0.objs.size = a := by simp [h0]
  have g : (h0.push o).get? a = some o := by
    have := Heap.get?_push_size (h := h0) (o := o) rfl
    rwa [hz] at this
  have R : DicR w (h0.push o) a xs := by
    rw [key]
    exact ⟨o, _, _, g, rfl, rfl⟩
  obtain ⟨_, o', es, ep, us, ho, _, hd, _⟩ := R
  rw [g] at ho
  cases ho
  cases hd
theorem hasO_ncode {F : Fr} {G H : Hp} {a : Addr} {o : O} {q : Str} (h : hasO F G H a o) : H a ≠ some (LamX.CodeO a q) := fun z => by
  cases o with
  | lst ds => obtain ⟨vs, h1, _⟩ := h; rw [z] at h1; cases h1
  | dK kvs => obtain ⟨ws, h1, _⟩ := h; rw [z] at h1; cases h1
  | sI ns =>
    have h1 := h.1
    rw [z] at h1
    exact setO_code (Option.some.inj h1).symm
  | dA kvs =>
    obtain ⟨xs, h1, _⟩ := h
    rw [z] at h1
    exact dicO_code (Option.some.inj h1).symm
  | tq ps => obtain ⟨q', xs, h1, _⟩ := h; rw [z] at h1; exact absurd (Option.some.inj h1) (fun y => by unfold LamX.CodeO at y; cases y)
/-- what stands at a place's address: a locked dict is frozen -/
def hasB (F : Fr) (G H : Hp) (a : Addr) : B → Prop
  | .val _ => True
  | .mu o => hasO F G H a o
  | .lk (.dK kvs) => ∃ q ws, H a = some (.frz q (.dK ws)) ∧ G a = some (.frz q (.dK ws)) ∧ KVr F.K G ws kvs
  | .lk (.lst ds) => hasO F G H a (.lst ds)
  | .lk (.sI ns) => hasO F G H a (.sI ns)
  | .lk (.dA kvs) => hasO F G H a (.dA kvs)
  | .lk (.tq ps) => hasO F G H a (.tq ps)
def noG (G : Hp) (a : Addr) : B → Prop
  | .lk (.dK _) => True
  | _ => G a = none
theorem noG_of {G : Hp} {a : Addr} {b : B} (h : G a = none) : noG G a b := by
  cases b with
  | val d => exact h
  | mu u => exact h
  | lk u => cases u <;> first | exact h | trivial
theorem noG_none {G : Hp} {a : Addr} {b : B} (h : noG G a b) (n : ∀ kvs, b ≠ .lk (.dK kvs)) : G a = none := by
  cases b with
  | val d => exact h
  | mu u => exact h
  | lk u => cases u with
    | lst ds => exact h
    | sI ns => exact h
    | dA kvs => exact h
    | tq ps => exact h
    | dK kvs => exact absurd rfl (n kvs)
theorem noG_mono {G G' : Hp} {a : Addr} {b : B} (e : G a = none → G' a = none) (h : noG G a b) : noG G' a b := by
  cases b with
  | val d => exact e h
  | mu u => exact e h
  | lk u => cases u with
    | lst ds => exact e h
    | sI ns => exact e h
    | dA kvs => exact e h
    | tq ps => exact e h
    | dK kvs => trivial
theorem hasB_cases {F : Fr} {G H : Hp} {a : Addr} {b : B} {o : O} (eo : b.own = some o) (h : hasB F G H a b) : hasO F G H a o ∨ ∃ kvs q ws, b = .lk (.dK kvs) ∧ H a = some (.frz q (.dK ws)) ∧ G a = some (.frz q (.dK ws)) ∧ KVr F.K G ws kvs := by
  cases b with
  | val d => cases eo
  | mu u => cases eo; exact .inl h
  | lk u =>
    cases eo
    cases o with
    | lst ds => exact .inl h
    | sI ns => exact .inl h
    | dA kvs => exact .inl h
    | tq ps => exact .inl h
    | dK kvs => obtain ⟨q, ws, h1, h2, h3⟩ := h; exact .inr ⟨kvs, q, ws, rfl, h1, h2, h3⟩
theorem hasB_lst {F : Fr} {G H : Hp} {a : Addr} {b : B} {ds : List D} (eo : b.own = some (.lst ds)) (h : hasB F G H a b) : hasO F G H a (.lst ds) :=
  (hasB_cases eo h).elim id fun ⟨_, _, _, e, _⟩ => (by rw [e] at eo; cases eo)
theorem hasB_lkmu {F : Fr} {G H : Hp} {a : Addr} {o : O} (ho : ∀ kvs, o ≠ .dK kvs) : hasB F G H a (.lk o) ↔ hasB F G H a (.mu o) := by
  cases o with
  | lst ds => exact Iff.rfl
  | sI ns => exact Iff.rfl
  | dA kvs => exact Iff.rfl
  | tq ps => exact Iff.rfl
  | dK kvs => exact absurd rfl (ho kvs)
/-- what can be read there -/
def hasW (F : Fr) (G H : Hp) (a : Addr) : O → Prop
  | .dK kvs => ∃ ws, Rd H a (.dK ws) ∧ KVr F.K G ws kvs
  | .lst ds => hasO F G H a (.lst ds)
  | .sI ns => hasO F G H a (.sI ns)
  | .dA kvs => hasO F G H a (.dA kvs)
  | .tq ps => hasO F G H a (.tq ps)
theorem hasB_w {F : Fr} {G H : Hp} {a : Addr} {b : B} {o : O} (eo : b.own = some o) (h : hasB F G H a b) : hasW F G H a o := by
  rcases hasB_cases eo h with z | ⟨kvs, q, ws, e, z1, _, z2⟩
  · cases o with
    | lst ds => exact z
    | sI ns => exact z
    | dA kvs => exact z
    | tq ps => exact z
    | dK kvs => obtain ⟨ws, z1, z2⟩ := z; exact ⟨ws, .inl z1, z2⟩
  · subst e
    cases eo
    exact ⟨ws, .inr ⟨q, z1⟩, z2⟩
theorem hasB_mono {F : Fr} {G G' H H' : Hp} {a : Addr} {b : B} (g : Same G G') (e : H' a = H a) (h : hasB F G H a b) : hasB F G' H' a b := by
  cases b with
  | val d => trivial
  | mu u => exact hasO_mono (o := u) g e h
  | lk u =>
    cases u with
    | lst ds => exact hasO_mono (o := .lst ds) g e h
    | sI ns => exact hasO_mono (o := .sI ns) g e h
    | dA kvs => exact hasO_mono (o := .dA kvs) g e h
    | tq ps => exact hasO_mono (o := .tq ps) g e h
    | dK kvs => obtain ⟨q, ws, h1, h0, h2⟩ := h; exact ⟨q, ws, e.trans h1, g _ _ h0, Paired.mapP h2 fun p q r => ⟨r.1, dp_mono g _ _ r.2⟩⟩
theorem hasB_some {F : Fr} {G H : Hp} {a : Addr} {b : B} {o : O} (eo : b.own = some o) (h : hasB F G H a b) : ∃ u, H a = some u := by
  rcases hasB_cases eo h with z | ⟨_, _, _, _, z, _⟩
  · exact hasO_some z
  · exact ⟨_, z⟩
theorem hasB_ntbl {F : Fr} {G H : Hp} {a : Addr} {b : B} {o : O} (eo : b.own = some o) (h : hasB F G H a b) : ∀ ps, H a ≠ some (.tbl ps) := by
  rcases hasB_cases eo h with z | ⟨_, _, _, _, z, _⟩
  · exact hasO_ntbl z
  · intro ps e; rw [z] at e; cases e
theorem hasB_ncode {F : Fr} {G H : Hp} {a : Addr} {b : B} {o : O} {q : Str} (eo : b.own = some o) (h : hasB F G H a b) : H a ≠ some (LamX.CodeO a q) := by
  rcases hasB_cases eo h with z | ⟨_, _, _, _, z, _⟩
  · exact hasO_ncode z
  · intro e; rw [z] at e; exact absurd (Option.some.inj e) (fun z => by unfold LamX.CodeO at z; cases z)
/-- the same place under another frame -/
theorem hasB_of {F F2 : Fr} {G G2 H H2 : Hp} {a : Addr} {b : B} (h : ∀ o, hasO F G H a o → hasO F2 G2 H2 a o) (h2 : ∀ kvs q ws, H a = some (.frz q (.dK ws)) → G a = some (.frz q (.dK ws)) → KVr F.K G ws kvs → ∃ q ws, H2 a = some (.frz q (.dK ws)) ∧ G2 a = some (.frz q (.dK ws)) ∧ KVr F2.K G2 ws kvs) (z : hasB F G H a b) : hasB F2 G2 H2 a b := by
  cases b with
  | val d => trivial
  | mu u => exact h u z
  | lk u =>
    cases u with
    | lst ds => exact h (.lst ds) z
    | sI ns => exact h (.sI ns) z
    | dA kvs => exact h (.dA kvs) z
    | tq ps => exact h (.tq ps) z
    | dK kvs => obtain ⟨q, ws, z1, z2, z3⟩ := z; exact h2 kvs q ws z1 z2 z3
theorem tabs_own {F : Fr} {G H : Hp} {a : Addr} {b : B} {u : O} {o : HO} {T : List (Addr × Str)} (t : LamX.Tabs T H) (eo : b.own = some u) (h : hasB F G H a b) : LamX.Tabs T (upd H a o) := fun p hp => by
  obtain ⟨ps, h1, h2, h3⟩ := t p hp
  have n1 : p.1 ≠ a := fun z => hasB_ntbl eo h ps (by rw [← z]; exact h1)
  refine ⟨ps, by rw [upd_ne n1]; exact h1, h2, fun pos cv hc => ?_⟩
  obtain ⟨c, e1, e2⟩ := h3 pos cv hc
  have n2 : c ≠ a := fun z => hasB_ncode (q := p.2) eo h (by rw [z] at e2; exact e2)
  exact ⟨c, e1, by rw [upd_ne n2]; exact e2⟩
/-- what stands as data: each tuple bare of a dict of its own -/
structure GPure (G : Hp) : Prop where
  tup : ∀ a xs, G a ≠ some (.tup xs)
  dic : ∀ a o u, G a = some (.frz o u) → o.dict = none
  tbl : ∀ a ps, G a ≠ some (.tbl ps)
theorem GPure.put {G : Hp} (h : GPure G) {p : Addr} {o : HO} (h1 : ∀ xs, o ≠ .tup xs) (h2 : ∀ q u, o = .frz q u → q.dict = none) (h3 : ∀ ps, o ≠ .tbl ps) : GPure (upd G p o) := by
  refine ⟨fun a xs e => ?_, fun a q u e => ?_, fun a ps e => ?_⟩
  · by_cases ha : a = p
    · subst ha; rw [upd_same] at e; exact h1 xs (Option.some.inj e)
    · rw [upd_ne ha] at e; exact h.tup a xs e
  · by_cases ha : a = p
    · subst ha; rw [upd_same] at e; exact h2 q u (Option.some.inj e)
    · rw [upd_ne ha] at e; exact h.dic a q u e
  · by_cases ha : a = p
    · subst ha; rw [upd_same] at e; exact h3 ps (Option.some.inj e)
    · rw [upd_ne ha] at e; exact h.tbl a ps e
/-- a parameter's place -/
def Fr.par (F : Fr) : Ix → Prop
  | .inl i => i < F.args.length
  | .inr _ => False
structure Rep (F : Fr) (L : Ix → Option B) (vs : Ix → Option V) (G H : Hp) : Prop where
  g0 : Same F.G0 G
  sub : Same G H
  fr : ∀ b o, F.H0 b = some o → b ∉ F.bor → (∀ ps, o ≠ .tbl ps) → H b = some o
  bh : ∀ b ∈ F.bor, ∃ o, H b = some o
  bh0 : ∀ b ∈ F.bor, ∃ o, F.H0 b = some o
  gn : ∀ b u, G b = some u → F.G0 b = some u ∨ F.H0 b = none ∨ b ∈ F.bor
  gp : GPure G
  ft : ∀ b, F.H0 b ≠ none → H b ≠ none
  tb : LamX.Tabs F.tb H
  val : ∀ i d, L i = some (.val d) → ∃ v, vs i = some v ∧ Dp F.K G v d
  own : ∀ i b o, L i = some b → b.own = some o → ∃ a, vs i = some (.ref a) ∧ hasB F G H a b ∧ noG G a b ∧ ((F.par i ∧ a ∈ F.bor) ∨ F.H0 a = none)
  dis : ∀ i j b c o o' a, L i = some b → L j = some c → b.own = some o → c.own = some o' → vs i = some (.ref a) → vs j = some (.ref a) → i = j
  par : ∀ i v, F.args[i]? = some v → vs (.inl i) = some v

section
variable {F : Fr} {L L2 : Ix → Option B} {vs vs2 : Ix → Option V} {G G' H H' : Hp}
theorem Rep.fresh (I : Rep F L vs G H) {p : Addr} (hp : H p = none) : F.H0 p = none := by
  cases e : F.H0 p with
  | none => rfl
  | some o => exact absurd hp (I.ft p (by rw [e]; simp))
theorem Rep.gfresh (I : Rep F L vs G H) {p : Addr} (hp : H p = none) : G p = none := by
  cases e : G p with
  | none => rfl
  | some o => have := I.sub p o e; rw [hp] at this; cases this
/-- places renamed, some forgotten -/
theorem Rep.re (I : Rep F L vs G H) (ρ : Ix → Ix) (h : ∀ j b, L2 j = some b → L (ρ j) = some b ∧ vs2 j = vs (ρ j) ∧ (F.par (ρ j) → F.par j))
    (inj : ∀ j j' b b', L2 j = some b → L2 j' = some b' → ρ j = ρ j' → j = j') (par : ∀ i v, F.args[i]? = some v → vs2 (.inl i) = some v) : Rep F L2 vs2 G H := by
  refine ⟨I.g0, I.sub, I.fr, I.bh, I.bh0, I.gn, I.gp, I.ft, I.tb, fun i d e => ?_, fun i b o e eo => ?_, fun i j b c o o' a e1 e2 eo eo' h1 h2 => ?_, par⟩
  · obtain ⟨e1, e2, _⟩ := h i _ e
    rw [e2]; exact I.val _ d e1
  · obtain ⟨e1, e2, e3⟩ := h i _ e
    obtain ⟨a, q1, q2, q3, q4⟩ := I.own _ b o e1 eo
    exact ⟨a, by rw [e2]; exact q1, q2, q3, q4.imp (fun z => ⟨e3 z.1, z.2⟩) id⟩
  · obtain ⟨p1, p2, _⟩ := h i _ e1
    obtain ⟨q1, q2, _⟩ := h j _ e2
    exact inj i j b c e1 e2 (I.dis _ _ b c o o' a p1 q1 eo eo' (p2 ▸ h1) (q2 ▸ h2))
/-- a value laid at a place -/
theorem Rep.addV (I : Rep F L vs G H) {j : Ix} {d : D} {v : V} (hj : ¬ F.par j) (hv : Dp F.K G v d) : Rep F (fun k => if k = j then some (.val d) else L k) (fun k => if k = j then some v else vs k) G H := by
  refine ⟨I.g0, I.sub, I.fr, I.bh, I.bh0, I.gn, I.gp, I.ft, I.tb, fun i d e => ?_, fun i b o e eo => ?_, fun i k b c o o' a e1 e2 eo eo' h1 h2 => ?_, fun i v e => ?_⟩
  · by_cases hi : i = j
    · simp only [hi, if_true] at e ⊢; cases e; exact ⟨v, rfl, hv⟩
    · simp only [hi, if_false] at e ⊢; exact I.val i _ e
  · by_cases hi : i = j
    · simp only [hi, if_true] at e; cases e; cases eo
    · simp only [hi, if_false] at e ⊢; exact I.own i b o e eo
  · by_cases hi : i = j
    · simp only [hi, if_true] at e1; cases e1; cases eo
    · by_cases hk : k = j
      · simp only [hk, if_true] at e2; cases e2; cases eo'
      · simp only [hi, hk, if_false] at e1 e2 h1 h2; exact I.dis i k b c o o' a e1 e2 eo eo' h1 h2
  · have : (Sum.inl i : Ix) ≠ j := by
      rintro rfl
      exact hj (List.getElem?_eq_some_iff.mp e).1
    simp only [this, if_false]; exact I.par i v e
/-- the heap grows by an object that nobody owns yet -/
theorem Rep.heap (I : Rep F L vs G H) {p : Addr} {o : HO} (hp : H p = none) : Rep F L vs G (upd H p o) := by
  refine ⟨I.g0, fun b u e => ?_, fun b u e nb nt => ?_, fun b hb => ?_, I.bh0, I.gn, I.gp, fun b hb z => I.ft b hb (upd_none z).2, I.tb.ext fun b u e => (by rw [upd_ne (ne_of_none e hp)]; exact e), I.val, fun i b u e eo => ?_, I.dis, I.par⟩
  · have q := I.sub b u e
    rw [upd_ne (ne_of_none q hp)]; exact q
  · have q := I.fr b u e nb nt
    rw [upd_ne (ne_of_none q hp)]; exact q
  · obtain ⟨u, q⟩ := I.bh b hb
    exact ⟨u, by rw [upd_ne (ne_of_none q hp)]; exact q⟩
  · obtain ⟨a, q1, q2, q3, q4⟩ := I.own i b u e eo
    obtain ⟨z, hz⟩ := hasB_some eo q2
    exact ⟨a, q1, hasB_mono (fun _ _ z => z) (upd_ne (ne_of_none hz hp)) q2, q3, q4⟩
/-- the stable part grows by an object that stands in the heap and is nobody's own -/
theorem Rep.grow (I : Rep F L vs G H) {p : Addr} {o : HO} (ho : (∀ xs, o ≠ .tup xs) ∧ (∀ q u, o = .frz q u → q.dict = none) ∧ ∀ ps, o ≠ .tbl ps) (hp : G p = none) (hH : H p = some o) (hf : F.H0 p = none ∨ p ∈ F.bor) (no : ∀ i b u, L i = some b → b.own = some u → vs i ≠ some (.ref p)) : Rep F L vs (upd G p o) H := by
  have sm : Same G (upd G p o) := fun b u e => by rw [upd_ne (ne_of_none e hp)]; exact e
  refine ⟨I.g0.trans sm, fun b u e => ?_, I.fr, I.bh, I.bh0, fun b u e => ?_, I.gp.put ho.1 ho.2.1 ho.2.2, I.ft, I.tb, fun i d e => ?_, fun i b u e eo => ?_, I.dis, I.par⟩
  · by_cases hb : b = p
    · subst hb; rw [upd_same] at e; cases e; exact hH
    · rw [upd_ne hb] at e; exact I.sub b u e
  · by_cases hb : b = p
    · subst hb; exact .inr hf
    · rw [upd_ne hb] at e; exact I.gn b u e
  · obtain ⟨v, e1, e2⟩ := I.val i d e
    exact ⟨v, e1, dp_mono sm _ _ e2⟩
  · obtain ⟨a, q1, q2, q3, q4⟩ := I.own i b u e eo
    have ha : a ≠ p := by
      rintro rfl
      exact no i b u e eo q1
    exact ⟨a, q1, hasB_mono sm rfl q2, noG_mono (fun z => by rw [upd_ne ha]; exact z) q3, q4⟩
/-- an own object at a place that was free -/
theorem Rep.addO (I : Rep F L vs G H) {j : Ix} {b : B} {u : O} {p : Addr} (hj : ¬ F.par j) (hu : b.own = some u) (ho : hasB F G H p b) (hG : G p = none) (h0 : F.H0 p = none)
    (no : ∀ i b u, L i = some b → b.own = some u → vs i ≠ some (.ref p)) : Rep F (fun k => if k = j then some b else L k) (fun k => if k = j then some (.ref p) else vs k) G H := by
  refine ⟨I.g0, I.sub, I.fr, I.bh, I.bh0, I.gn, I.gp, I.ft, I.tb, fun i d e => ?_, fun i b' o e eo => ?_, fun i k b1 c o o' a e1 e2 eo eo' h1 h2 => ?_, fun i v e => ?_⟩
  · by_cases hi : i = j
    · simp only [hi, if_true] at e; cases e; cases hu
    · simp only [hi, if_false] at e ⊢; exact I.val i _ e
  · by_cases hi : i = j
    · simp only [hi, if_true] at e ⊢; cases e
      rw [hu] at eo; cases eo
      exact ⟨p, rfl, ho, noG_of hG, .inr h0⟩
    · simp only [hi, if_false] at e ⊢; exact I.own i b' o e eo
  · by_cases hi : i = j
    · by_cases hk : k = j
      · rw [hi, hk]
      · simp only [hi, hk, if_true, if_false] at e1 e2 h1 h2
        cases h1
        exact absurd h2 (no k c o' e2 eo')
    · by_cases hk : k = j
      · simp only [hi, hk, if_true, if_false] at e1 e2 h1 h2
        cases h2
        exact absurd h1 (no i b1 o e1 eo)
      · simp only [hi, hk, if_false] at e1 e2 h1 h2; exact I.dis i k b1 c o o' a e1 e2 eo eo' h1 h2
  · have : (Sum.inl i : Ix) ≠ j := by
      rintro rfl
      exact hj (List.getElem?_eq_some_iff.mp e).1
    simp only [this, if_false]; exact I.par i v e
theorem Rep.noref (I : Rep F L vs G H) {p : Addr} (hp : H p = none) : ∀ i b u, L i = some b → b.own = some u → vs i ≠ some (.ref p) := fun i b u e eo z => by
  obtain ⟨a, q1, q2, _⟩ := I.own i b u e eo
  rw [z] at q1; cases q1
  obtain ⟨z, hz⟩ := hasB_some eo q2
  rw [hp] at hz; cases hz
/-- an own object is changed -/
theorem Rep.write (I : Rep F L vs G H) {j : Ix} {b b' : B} {u u' : O} {p : Addr} {o : HO} (hb : L j = some b) (hu : b.own = some u) (hv : vs j = some (.ref p)) (hu' : b'.own = some u') (ho : hasB F G (upd H p o) p b') (nb : ∀ kvs, b ≠ .lk (.dK kvs) := by intro _ z; cases z) :
    Rep F (fun k => if k = j then some b' else L k) vs G (upd H p o) := by
  obtain ⟨a, q1, q2, q3, q4⟩ := I.own j b u hb hu
  have q3 := noG_none q3 nb
  rw [hv] at q1; cases q1
  refine ⟨I.g0, fun b u e => ?_, fun b u e nb nt => ?_, fun b hb => ?_, I.bh0, I.gn, I.gp, fun b hb z => I.ft b hb (upd_none z).2, tabs_own I.tb hu q2, fun i d e => ?_, fun i c u2 e eo => ?_, fun i k b1 c o o' a e1 e2 eo eo' h1 h2 => ?_, I.par⟩
  · have : b ≠ p := by rintro rfl; rw [q3] at e; cases e
    rw [upd_ne this]; exact I.sub b u e
  · have : b ≠ p := by
      rintro rfl
      rcases q4 with z | z
      · exact nb z.2
      · rw [z] at e; cases e
    rw [upd_ne this]; exact I.fr b u e nb nt
  · by_cases hbp : b = p
    · subst hbp; exact ⟨_, upd_same⟩
    · rw [upd_ne hbp]; exact I.bh b hb
  · by_cases hi : i = j
    · simp only [hi, if_true] at e; cases e; cases hu'
    · simp only [hi, if_false] at e ⊢; exact I.val i _ e
  · by_cases hi : i = j
    · simp only [hi, if_true] at e ⊢; cases e
      rw [hu'] at eo; cases eo
      exact ⟨p, hv, ho, noG_of q3, q4⟩
    · simp only [hi, if_false] at e ⊢
      obtain ⟨a, r1, r2, r3, r4⟩ := I.own i c u2 e eo
      have ha : a ≠ p := by
        rintro rfl
        exact hi (I.dis i j c b u2 u a e hb eo hu r1 hv)
      exact ⟨a, r1, hasB_mono (fun _ _ z => z) (upd_ne ha) r2, r3, r4⟩
  · have g : ∀ {i : Ix} {b1 : B} {o1 : O}, (if i = j then some b' else L i) = some b1 → b1.own = some o1 → ∃ b2 o2, L i = some b2 ∧ b2.own = some o2 := fun {i b1 o1} e eo => by
      by_cases hi : i = j
      · exact ⟨b, u, by rw [hi]; exact hb, hu⟩
      · simp only [hi, if_false] at e; exact ⟨b1, o1, e, eo⟩
    obtain ⟨b2, o2, r1, r2⟩ := g e1 eo
    obtain ⟨b3, o3, r3, r4⟩ := g e2 eo'
    exact I.dis i k b2 b3 o2 o3 a r1 r3 r2 r4 h1 h2
/-- a place's word changed, the object as it was (locked, unlocked) -/
theorem Rep.relabel (I : Rep F L vs G H) {j : Ix} {b b' : B} {u : O} (hb : L j = some b) (hu : b.own = some u) (hu' : b'.own = some u) (hB : ∀ a, hasB F G H a b → hasB F G H a b') (nb : ∀ kvs, b ≠ .lk (.dK kvs) := by intro _ z; cases z) : Rep F (fun k => if k = j then some b' else L k) vs G H := by
  refine ⟨I.g0, I.sub, I.fr, I.bh, I.bh0, I.gn, I.gp, I.ft, I.tb, fun i d e => ?_, fun i c u2 e eo => ?_, fun i k b1 c o o' a e1 e2 eo eo' h1 h2 => ?_, I.par⟩
  · by_cases hi : i = j
    · simp only [hi, if_true] at e; cases e; cases hu'
    · simp only [hi, if_false] at e ⊢; exact I.val i _ e
  · by_cases hi : i = j
    · simp only [hi, if_true] at e ⊢; cases e
      rw [hu'] at eo; cases eo
      obtain ⟨a, q1, q2, q3⟩ := I.own j b u hb hu
      exact ⟨a, q1, hB a q2, noG_of (noG_none q3.1 nb), q3.2⟩
    · simp only [hi, if_false] at e ⊢
      exact I.own i c u2 e eo
  · have g : ∀ {i : Ix} {b1 : B} {o1 : O}, (if i = j then some b' else L i) = some b1 → b1.own = some o1 → ∃ b2 o2, L i = some b2 ∧ b2.own = some o2 := fun {i b1 o1} e eo => by
      by_cases hi : i = j
      · exact ⟨b, u, by rw [hi]; exact hb, hu⟩
      · simp only [hi, if_false] at e; exact ⟨b1, o1, e, eo⟩
    obtain ⟨b2, o2, r1, r2⟩ := g e1 eo
    obtain ⟨b3, o3, r3, r4⟩ := g e2 eo'
    exact I.dis i k b2 b3 o2 o3 a r1 r3 r2 r4 h1 h2
/-- an own list is given up: it is data from now on -/
theorem Rep.freeze (I : Rep F L vs G H) {j : Ix} {b : B} {ds : List D} (hb : L j = some b) (hu : b.own = some (.lst ds)) :
    ∃ G', Same G G' ∧ Rep F (fun k => if k = j then some (.val (.list ds)) else L k) vs G' H := by
  obtain ⟨a, q1, q2', q3, q4⟩ := I.own j b _ hb hu
  obtain ⟨ws, q2, q2'⟩ := hasB_lst hu q2'
  have q3 := noG_none q3 fun _ z => (by rw [z] at hu; cases hu)
  have sm : Same G (upd G a (.lst ws)) := fun b u e => by rw [upd_ne (ne_of_none e q3)]; exact e
  refine ⟨upd G a (.lst ws), sm, ?_⟩
  have I1 : Rep F (fun k => if k = j then none else L k) vs G H := by
    refine I.re id (fun k b e => ?_) (fun _ _ _ _ _ _ z => z) I.par
    by_cases hk : k = j
    · simp only [hk, if_true] at e; cases e
    · simp only [hk, if_false] at e; exact ⟨e, rfl, id⟩
  have I2 := I1.grow ⟨(fun _ z => by cases z), (fun _ _ z => by cases z), (fun _ z => by cases z)⟩ q3 q2 (q4.elim (fun z => .inr z.2) .inl) (fun i b' u e eo z => by
    by_cases hk : i = j
    · simp only [hk, if_true] at e; cases e
    · simp only [hk, if_false] at e
      exact hk (I.dis i j b' b u _ a e hb eo hu z q1))
  refine ⟨I2.g0, I2.sub, I2.fr, I2.bh, I2.bh0, I2.gn, I2.gp, I2.ft, I2.tb, fun i d e => ?_, fun i c u2 e eo => ?_, fun i k b1 c o o' a e1 e2 eo eo' h1 h2 => ?_, I2.par⟩
  · by_cases hi : i = j
    · simp only [hi, if_true] at e; cases e
      exact ⟨.ref a, by rw [hi]; exact q1, .lst (.inl (.inl upd_same)) (dpAll_mono sm _ _ q2')⟩
    · simp only [hi, if_false] at e
      exact I2.val i d (by simp only [hi, if_false]; exact e)
  · by_cases hi : i = j
    · simp only [hi, if_true] at e; cases e; cases eo
    · simp only [hi, if_false] at e
      exact I2.own i c u2 (by simp only [hi, if_false]; exact e) eo
  · by_cases hi : i = j
    · simp only [hi, if_true] at e1; cases e1; cases eo
    · by_cases hk : k = j
      · simp only [hk, if_true] at e2; cases e2; cases eo'
      · simp only [hi, hk, if_false] at e1 e2; exact I.dis i k b1 c o o' a e1 e2 eo eo' h1 h2
end
end ML

/-! ML2: slots and operands; the readings of expressions, tests, argument lists; names, constants, operations. -/
namespace ML
open PySem PySem.Spec PyProof.Rows L2

abbrev St := L2.St
abbrev Ops := List (V × R)
def ix (env : En) (ops : Ops) : Ix → Option B
  | .inl i => env[i]?.join
  | .inr k => (ops[k]?).bind fun p => p.2.toB
def ixv (σ : St) (ops : Ops) : Ix → Option V
  | .inl i => σ[i]?.join
  | .inr k => ops[k]?.map (·.1)
/-- what an operand that stands in a slot says of it -/
def OpOk (F : Fr) (env : En) (σ : St) (v : V) : R → Prop
  | .bor i => σ[i]? = some (some v) ∧ F.cv i = false
  | .lkd i o => σ[i]? = some (some v) ∧ env[i]?.join = some (.lk o)
  | _ => True
structure RepS (F : Fr) (env : En) (ops : Ops) (G : Hp) (σ : St) (H : Hp) : Prop where
  rep : Rep F (ix env ops) (ixv σ ops) G H
  opr : ∀ v r, (v, r) ∈ ops → OpOk F env σ v r
  len : σ.length = env.length
def R.obj (r : R) (env : En) : Option B := match r with
  | .val d => some (.val d)
  | .new o => some (.mu o)
  | .bor i => env[i]?.join
  | .lkd _ o => some (.lk o)
def B.dat : B → Option D
  | .val d => some d
  | .mu (.lst ds) => some (.list ds)
  | .lk (.lst ds) => some (.list ds)
  | _ => none
def R.dat (r : R) (env : En) : Option D := (r.obj env).bind B.dat
def R.lst (r : R) (env : En) : Option (List D) := match r.dat env with | some (.list ds) => some ds | _ => none
def R.tup (r : R) (env : En) : Option (List D) := match r.dat env with | some (.tuple ds) => some ds | _ => none
def R.int (r : R) : Option Int := match r with | .val (.int i) => some i | _ => none
def R.str (r : R) : Option Str := match r with | .val (.str i) => some i | _ => none
def R.bl (r : R) : Option Bool := match r with | .val (.bool i) => some i | _ => none
def R.ownO (r : R) (env : En) : Option O := (r.obj env).bind B.own
def R.dk (r : R) (env : En) : Option (List (Key × D)) := match r.ownO env with | some (.dK kvs) => some kvs | _ => none

theorem ix_snoc (env : En) (ops : Ops) (v : V) (r : R) : ix env (ops ++ [(v, r)]) = fun k => if k = .inr ops.length then r.toB else ix env ops k := by
  funext k
  cases k with
  | inl i => simp [ix]
  | inr n =>
    by_cases h : n = ops.length
    · subst h; simp [ix]
    · simp only [ix, Sum.inr.injEq, h, if_false]
      by_cases h2 : n < ops.length
      · rw [List.getElem?_append_left h2]
      · rw [List.getElem?_append_right (by omega), List.getElem?_eq_none (show ops.length ≤ n by omega)]
        rw [List.getElem?_eq_none (by simp; omega)]
theorem ixv_snoc (σ : St) (ops : Ops) (v : V) (r : R) : ixv σ (ops ++ [(v, r)]) = fun k => if k = .inr ops.length then some v else ixv σ ops k := by
  funext k
  cases k with
  | inl i => simp [ixv]
  | inr n =>
    by_cases h : n = ops.length
    · subst h; simp [ixv]
    · simp only [ixv, Sum.inr.injEq, h, if_false]
      by_cases h2 : n < ops.length
      · rw [List.getElem?_append_left h2]
      · rw [List.getElem?_append_right (by omega), List.getElem?_eq_none (show ops.length ≤ n by omega)]
        rw [List.getElem?_eq_none (by simp; omega)]
theorem ix_set (env : En) (ops : Ops) (i : Nat) (b : Option B) (hi : i < env.length) : ix (env.set i b) ops = fun k => if k = .inl i then b else ix env ops k := by
  funext k
  cases k with
  | inr n => simp [ix]
  | inl j =>
    by_cases h : j = i
    · subst h; simp [ix, hi]
    · simp only [ix, Sum.inl.injEq, h, if_false]
      rw [List.getElem?_set_ne (Ne.symm h)]
theorem ixv_set (σ : St) (ops : Ops) (i : Nat) (b : Option V) (hi : i < σ.length) : ixv (σ.set i b) ops = fun k => if k = .inl i then b else ixv σ ops k := by
  funext k
  cases k with
  | inr n => simp [ixv]
  | inl j =>
    by_cases h : j = i
    · subst h; simp [ixv, hi]
    · simp only [ixv, Sum.inl.injEq, h, if_false]
      rw [List.getElem?_set_ne (Ne.symm h)]

section
variable {F : Fr} {env env' : En} {ops ps : Ops} {G G' H H' : Hp} {σ : St} {v : V} {r : R} {d : D}
theorem RepS.pop (I : RepS F env (ops ++ ps) G σ H) : RepS F env ops G σ H := by
  refine ⟨I.rep.re id (fun j b e => ?_) (fun _ _ _ _ _ _ z => z) (fun i v e => I.rep.par i v e), fun v r h => I.opr v r (List.mem_append_left _ h), I.len⟩
  cases j with
  | inl i => exact ⟨e, rfl, id⟩
  | inr k =>
    simp only [ix] at e
    have hk : k < ops.length := by
      by_cases h : k < ops.length
      · exact h
      · rw [List.getElem?_eq_none (by omega)] at e; cases e
    refine ⟨?_, ?_, id⟩
    · show ((ops ++ ps)[k]?).bind _ = _
      rw [List.getElem?_append_left hk]; exact e
    · show ops[k]?.map _ = ((ops ++ ps)[k]?).map _
      rw [List.getElem?_append_left hk]
theorem RepS.pushV (I : RepS F env ops G σ H) (hv : Dp F.K G v d) : RepS F env (ops ++ [(v, .val d)]) G σ H := by
  refine ⟨?_, fun w i h => ?_, I.len⟩
  · rw [ix_snoc, ixv_snoc]
    exact I.rep.addV (fun z => z) hv
  · rcases List.mem_append.mp h with h | h
    · exact I.opr w i h
    · simp at h; obtain ⟨rfl, rfl⟩ := h; trivial
theorem RepS.pushB (I : RepS F env ops G σ H) {i : Nat} (hv : σ[i]? = some (some v)) (hc : F.cv i = false) : RepS F env (ops ++ [(v, .bor i)]) G σ H := by
  refine ⟨?_, fun w j h => ?_, I.len⟩
  · rw [ix_snoc, ixv_snoc]
    refine I.rep.re id (fun k b e => ?_) (fun _ _ _ _ _ _ z => z) (fun i v e => by simpa using I.rep.par i v e)
    by_cases hk : k = .inr ops.length
    · simp only [hk, if_true] at e; cases e
    · simp only [hk, if_false] at e ⊢; exact ⟨e, rfl, id⟩
  · rcases List.mem_append.mp h with h | h
    · exact I.opr w j h
    · simp at h; obtain ⟨rfl, rfl⟩ := h; exact ⟨hv, hc⟩
/-- a new own object -/
theorem RepS.pushN (I : RepS F env ops G σ H) {p : Addr} {o : HO} {u : O} (hp : H p = none) (ho : hasO F G (upd H p o) p u) : RepS F env (ops ++ [(.ref p, .new u)]) G σ (upd H p o) := by
  refine ⟨?_, fun w j h => ?_, I.len⟩
  · rw [ix_snoc, ixv_snoc]
    have I1 := I.rep.heap (o := o) hp
    exact I1.addO (b := .mu u) (fun z => z) rfl ho (I.rep.gfresh hp) (I.rep.fresh hp) (I.rep.noref hp)
  · rcases List.mem_append.mp h with h | h
    · exact I.opr w j h
    · simp at h; obtain ⟨rfl, rfl⟩ := h; trivial
/-- a new tuple -/
theorem RepS.pushT (I : RepS F env ops G σ H) {p : Addr} {xs : List V} {ds : List D} {q : Obj} (hq : q.dict = none) (hp : H p = none) (hx : DpAll F.K G xs ds) :
    ∃ G', Same G G' ∧ RepS F env (ops ++ [(.ref p, .val (.tuple ds))]) G' σ (upd H p (.frz q (.tup xs))) := by
  have I1 : RepS F env ops G σ (upd H p (.frz q (.tup xs))) := ⟨I.rep.heap hp, I.opr, I.len⟩
  have hg := I.rep.gfresh hp
  have sm : Same G (upd G p (.frz q (.tup xs))) := fun b u e => by rw [upd_ne (ne_of_none e hg)]; exact e
  have I2 : RepS F env ops (upd G p (.frz q (.tup xs))) σ (upd H p (.frz q (.tup xs))) := ⟨I1.rep.grow ⟨(fun _ z => by cases z), (fun q' u z => by cases z; exact hq), (fun _ z => by cases z)⟩ hg upd_same (.inl (I.rep.fresh hp)) (I.rep.noref hp), I.opr, I.len⟩
  exact ⟨_, sm, I2.pushV (.tup (.inl (.inr ⟨q, upd_same⟩)) (dpAll_mono sm _ _ hx))⟩
theorem RepS.same (I : RepS F env ops G σ H) : Same G H := I.rep.sub

theorem RepS.obj (I : RepS F env ops G σ H) (hk : (v, r) ∈ ops) {b : B} (e : r.obj env = some b) :
    (∀ d, b = .val d → Dp F.K G v d) ∧ (∀ o, b.own = some o → ∃ a, v = .ref a ∧ hasB F G H a b ∧ noG G a b) := by
  obtain ⟨k, hk'⟩ := List.getElem?_of_mem hk
  cases r with
  | val d =>
    cases e
    obtain ⟨v', e1, e2⟩ := I.rep.val (.inr k) d (by simp [ix, hk', R.toB])
    simp [ixv, hk'] at e1; subst e1
    exact ⟨fun d' e => by cases e; exact e2, fun o e => by cases e⟩
  | new o =>
    cases e
    obtain ⟨a, e1, e2, e3, _⟩ := I.rep.own (.inr k) (.mu o) o (by simp [ix, hk', R.toB]) rfl
    simp [ixv, hk'] at e1; subst e1
    exact ⟨fun d' e => (by cases e), fun o' e => by cases e; exact ⟨a, rfl, e2, e3⟩⟩
  | bor i =>
    have hσ : σ[i]? = some (some v) := (show σ[i]? = some (some v) ∧ F.cv i = false from I.opr v _ hk).1
    have e : env[i]?.join = some b := e
    refine ⟨fun d hd => ?_, fun o ho => ?_⟩
    · subst hd
      obtain ⟨v', e1, e2⟩ := I.rep.val (.inl i) d (by simp [ix, e])
      simp [ixv, hσ] at e1; subst e1
      exact e2
    · obtain ⟨a, e1, e2, e3, _⟩ := I.rep.own (.inl i) b o (by simp [ix, e]) ho
      simp [ixv, hσ] at e1; subst e1
      exact ⟨a, rfl, e2, e3⟩
  | lkd i o =>
    cases e
    obtain ⟨hσ, he⟩ : σ[i]? = some (some v) ∧ env[i]?.join = some (.lk o) := I.opr v _ hk
    refine ⟨fun d hd => (by cases hd), fun o' ho => ?_⟩
    cases ho
    obtain ⟨a, e1, e2, e3, _⟩ := I.rep.own (.inl i) (.lk o) o (by simp [ix, he]) rfl
    simp [ixv, hσ] at e1; subst e1
    exact ⟨a, rfl, e2, e3⟩
theorem RepS.dat (I : RepS F env ops G σ H) (hk : (v, r) ∈ ops) (e : r.dat env = some d) : Dp F.K H v d := by
  unfold R.dat at e
  cases hb : r.obj env with
  | none => rw [hb] at e; cases e
  | some b =>
    rw [hb] at e
    obtain ⟨h1, h2⟩ := I.obj hk hb
    have go : ∀ ds, b.own = some (.lst ds) → Dp F.K H v (.list ds) := fun ds ho => by
      obtain ⟨a, rfl, z, _⟩ := h2 _ ho
      obtain ⟨ws, q1, q2⟩ := hasB_lst ho z
      exact .lst (.inl (.inl q1)) (dpAll_mono I.same _ _ q2)
    cases b with
    | val d' => cases e; exact dp_mono I.same _ _ (h1 _ rfl)
    | mu o => cases o <;> cases e; exact go _ rfl
    | lk o => cases o <;> cases e; exact go _ rfl
theorem RepS.lst (I : RepS F env ops G σ H) (hk : (v, r) ∈ ops) {ds : List D} (e : r.lst env = some ds) : ∃ a vs, v = .ref a ∧ SqL F.K H a vs ∧ DpAll F.K G vs ds := by
  have e' : r.dat env = some (.list ds) := by
    unfold R.lst at e; split at e <;> first | (cases e; assumption) | cases e
  unfold R.dat at e'
  cases hb : r.obj env with
  | none => rw [hb] at e'; cases e'
  | some b =>
    rw [hb] at e'
    obtain ⟨h1, h2⟩ := I.obj hk hb
    have go : ∀ ds, b.own = some (.lst ds) → ∃ a vs, v = .ref a ∧ SqL F.K H a vs ∧ DpAll F.K G vs ds := fun ds ho => by
      obtain ⟨a, rfl, z, _⟩ := h2 _ ho
      obtain ⟨ws, q1, q2⟩ := hasB_lst ho z
      exact ⟨a, ws, rfl, .inl (.inl q1), q2⟩
    cases b with
    | val d' =>
      cases e'
      have := h1 _ rfl
      cases this with
      | lst hs ha => exact ⟨_, _, rfl, I.same.seq hs, ha⟩
    | mu o => cases o <;> cases e'; exact go _ rfl
    | lk o => cases o <;> cases e'; exact go _ rfl
theorem RepS.tup (I : RepS F env ops G σ H) (hk : (v, r) ∈ ops) {ds : List D} (e : r.tup env = some ds) : ∃ a vs, v = .ref a ∧ SqT F.K H a vs ∧ DpAll F.K G vs ds := by
  have e' : r.dat env = some (.tuple ds) := by
    unfold R.tup at e; split at e <;> first | (cases e; assumption) | cases e
  unfold R.dat at e'
  cases hb : r.obj env with
  | none => rw [hb] at e'; cases e'
  | some b =>
    rw [hb] at e'
    obtain ⟨h1, h2⟩ := I.obj hk hb
    cases b with
    | val d' =>
      cases e'
      have := h1 _ rfl
      cases this with
      | tup hs ha => exact ⟨_, _, rfl, same_sqT I.same hs, ha⟩
    | mu o => cases o <;> cases e'
    | lk o => cases o <;> cases e'
theorem RepS.vint (I : RepS F env ops G σ H) {i : Int} (hk : (v, R.val (.int i)) ∈ ops) : v = .int i := by
  have := I.dat hk (d := .int i) rfl
  cases this; rfl
theorem RepS.vstr (I : RepS F env ops G σ H) {i : Str} (hk : (v, R.val (.str i)) ∈ ops) : v = .str i := by
  have := I.dat hk (d := .str i) rfl
  cases this; rfl
theorem RepS.vbl (I : RepS F env ops G σ H) {i : Bool} (hk : (v, R.val (.bool i)) ∈ ops) : v = .bl i := by
  have := I.dat hk (d := .bool i) rfl
  cases this; rfl
theorem RepS.ownO (I : RepS F env ops G σ H) (hk : (v, r) ∈ ops) {o : O} (e : r.ownO env = some o) : ∃ a, v = .ref a ∧ hasW F G H a o ∧ True := by
  unfold R.ownO at e
  cases hb : r.obj env with
  | none => rw [hb] at e; cases e
  | some b =>
    rw [hb] at e
    obtain ⟨a, z1, z2, z3⟩ := (I.obj hk hb).2 o e
    exact ⟨a, z1, hasB_w e z2, trivial⟩
theorem R.own_of_dk {r : R} {env : En} {kvs : List (Key × D)} (e : r.dk env = some kvs) : r.ownO env = some (.dK kvs) := by
  unfold R.dk at e; split at e <;> first | (cases e; assumption) | cases e
theorem RepS.dk (I : RepS F env ops G σ H) (hk : (v, r) ∈ ops) {kvs : List (Key × D)} (e : r.dk env = some kvs) : ∃ a ws, v = .ref a ∧ Rd H a (.dK ws) ∧ KVr F.K G ws kvs := by
  obtain ⟨a, h1, ⟨ws, h2, h3⟩, _⟩ := I.ownO hk (R.own_of_dk e)
  exact ⟨a, ws, h1, h2, h3⟩
theorem R.int_eq {r : R} {i : Int} (e : r.int = some i) : r = .val (.int i) := by
  unfold R.int at e; split at e <;> first | (cases e; rfl) | cases e
theorem R.str_eq {r : R} {i : Str} (e : r.str = some i) : r = .val (.str i) := by
  unfold R.str at e; split at e <;> first | (cases e; rfl) | cases e
theorem R.bl_eq {r : R} {i : Bool} (e : r.bl = some i) : r = .val (.bool i) := by
  unfold R.bl at e; split at e <;> first | (cases e; rfl) | cases e
end

/-! ### readings -/
abbrev FE := En → Option (R × En)
abbrev FT := En → Option (Bool × En)
abbrev FA := En → Option (List R × En)
def tE (F : Fr) (f : FE) : TE := fun σ H Q => ∃ env ops G r env', RepS F env ops G σ H ∧ f env = some (r, env') ∧ ∀ v G' H', Same G G' → RepS F env' (ops ++ [(v, r)]) G' σ H' → Q v H'
def tT (F : Fr) (f : FT) : TT := fun σ H Q => ∃ env ops G b env', RepS F env ops G σ H ∧ f env = some (b, env') ∧ ∀ G' H', Same G G' → RepS F env' ops G' σ H' → Q b H'
def tA (F : Fr) (f : FA) : TA := fun σ H Q => ∃ env ops G rs env', RepS F env ops G σ H ∧ f env = some (rs, env') ∧ ∀ (ps : Ops) G' H', ps.map (·.2) = rs → Same G G' → RepS F env' (ops ++ ps) G' σ H' → Q (ps.map (·.1)) H'

section
variable {X : Cx} {F : Fr} {a b c : Expr} {pos : Pos}
theorem _root_.L2.PE.wk {e : Expr} {t t' : TE} (h : PE X e t) (w : ∀ σ H Q, t' σ H Q → t σ H Q) : PE X e t' := ⟨fun pins s σ H Q I q => h.run pins s σ H Q I (w _ _ _ q)⟩
theorem _root_.L2.PT.wk {e : Expr} {t t' : TT} (h : PT X e t) (w : ∀ σ H Q, t' σ H Q → t σ H Q) : PT X e t' := ⟨fun pins s σ H Q I q => h.run pins s σ H Q I (w _ _ _ q)⟩
theorem _root_.L2.PA.wk {es : List Expr} {t t' : TA} (h : PA X es t) (w : ∀ σ H Q, t' σ H Q → t σ H Q) : PA X es t' := ⟨fun pos pins s σ H Q I q => h.run pos pins s σ H Q I (w _ _ _ q)⟩
theorem _root_.L2.PS.wk {e : Stmt} {t t' : TS} (h : PS X e t) (w : ∀ D σ H, t' D σ H → t D σ H) : PS X e t' := ⟨fun pins s σ H D I q => h.run pins s σ H D I (w _ _ _ q)⟩
theorem _root_.L2.PSs.wk {e : List Stmt} {t t' : TS} (h : PSs X e t) (w : ∀ D σ H, t' D σ H → t D σ H) : PSs X e t' := ⟨fun pins s σ H D I q => h.run pins s σ H D I (w _ _ _ q)⟩

/-- a value of the expression is put where a test is wanted -/
def rB (f : FE) : FT := fun env => (f env).bind fun p => p.1.bl.map fun b => (b, p.2)
theorem rB_some {f : FE} {env env' : En} {b : Bool} (h : rB f env = some (b, env')) : f env = some (.val (.bool b), env') := by
  unfold rB at h
  cases e : f env with
  | none => rw [e] at h; cases h
  | some p =>
    rw [e] at h
    obtain ⟨r, e2⟩ := p
    cases hb : R.bl r with
    | none => simp [hb] at h
    | some b' =>
      simp [hb] at h
      obtain ⟨rfl, rfl⟩ := h
      rw [R.bl_eq hb]

/-! ### names, constants -/
def eV (i : Nat) : FE := fun env => match env[i]?.join with
  | some (.val d) => some (.val d, env)
  | some _ => some (.bor i, env)
  | none => none
def eK (d : D) : FE := fun env => some (.val d, env)
theorem me_var {i : Nat} {x : Str} (h : PE X (.Name x pos) (tVar i)) (hc : F.cv i = false) : PE X (.Name x pos) (tE F (eV i)) := by
  refine h.wk fun σ H Q ⟨env, ops, G, r, env', I, e, q⟩ => ?_
  unfold eV at e
  split at e
  · rename_i d he
    cases e
    obtain ⟨v, e1, e2⟩ := I.rep.val (.inl i) d (by simpa [ix] using he)
    have e3 : σ[i]? = some (some v) := by
      have e1 : σ[i]?.join = some v := e1
      cases h : σ[i]? with
      | none => rw [h] at e1; cases e1
      | some o => rw [h] at e1; have e1 : o = some v := e1; rw [e1]
    exact ⟨v, e3, q v G H (Same.refl _) (I.pushV e2)⟩
  · rename_i b hb he
    cases e
    obtain ⟨o, ho⟩ : ∃ o, b.own = some o := by
      cases b with
      | val d => exact absurd rfl (hb d)
      | mu o => exact ⟨o, rfl⟩
      | lk o => exact ⟨o, rfl⟩
    obtain ⟨p, e1, _⟩ := I.rep.own (.inl i) b o (by simpa [ix] using he) ho
    have e3 : σ[i]? = some (some (.ref p)) := by
      have e1 : σ[i]?.join = some (.ref p) := e1
      cases h : σ[i]? with
      | none => rw [h] at e1; cases e1
      | some o => rw [h] at e1; have e1 : o = some (.ref p) := e1; rw [e1]
    exact ⟨_, e3, q _ G H (Same.refl _) (I.pushB e3 hc)⟩
  · cases e
/-- a comprehension's own name -/
def eC (i : Nat) : FE := fun env => match env[i]?.join with
  | some (.val d) => some (.val d, env)
  | _ => none
theorem me_cvar {i : Nat} {x : Str} (h : PE X (.Name x pos) (tVar i)) : PE X (.Name x pos) (tE F (eC i)) := by
  refine h.wk fun σ H Q ⟨env, ops, G, r, env', I, e, q⟩ => ?_
  unfold eC at e
  split at e
  · rename_i d he
    cases e
    obtain ⟨v, e1, e2⟩ := I.rep.val (.inl i) d (by simpa [ix] using he)
    have e3 : σ[i]? = some (some v) := by
      have e1 : σ[i]?.join = some v := e1
      cases h : σ[i]? with
      | none => rw [h] at e1; cases e1
      | some o => rw [h] at e1; have e1 : o = some v := e1; rw [e1]
    exact ⟨v, e3, q v G H (Same.refl _) (I.pushV e2)⟩
  · cases e
theorem me_k {e : Expr} {v : V} {d : D} (h : PE X e (tC v)) (hd : ∀ G, Dp F.K G v d) : PE X e (tE F (eK d)) := by
  refine h.wk fun σ H Q ⟨env, ops, G, r, env', I, e, q⟩ => ?_
  cases e
  exact q v G H (Same.refl _) (I.pushV (hd G))
theorem me_int {i j} : PE X (.Constant (.int i) j pos) (tE F (eK (.int i))) := me_k pe_int fun _ => .int i
theorem me_str {i j} : PE X (.Constant (.str i) j pos) (tE F (eK (.str i))) := me_k pe_str fun _ => .str i
theorem me_bl {i j} : PE X (.Constant (.bool i) j pos) (tE F (eK (.bool i))) := me_k pe_bl fun _ => .bl i
theorem me_non {j} : PE X (.Constant .none j pos) (tE F (eK .none)) := me_k pe_non fun _ => .non

/-! ### operations -/
abbrev G1 := R → En → Option (R × En)
abbrev G2 := R → R → En → Option (R × En)
abbrev GN := List R → En → Option (R × En)
abbrev GL := R → List R → En → Option (R × En)
/-- what is wanted of an operation's reading -/
def Cont (F : Fr) (ops : Ops) (G : Hp) (σ : St) (r : R) (env' : En) (Q : VK) : Prop := ∀ v G' H', Same G G' → RepS F env' (ops ++ [(v, r)]) G' σ H' → Q v H'
def S1 (F : Fr) (r1 : V → Hp → VK → Prop) (g : G1) : Prop := ∀ env ops G σ H x ra r env' Q, RepS F env (ops ++ [(x, ra)]) G σ H → g ra env = some (r, env') → Cont F ops G σ r env' Q → r1 x H Q
def S2 (F : Fr) (r2 : R2) (g : G2) : Prop := ∀ env ops G σ H x y ra rb r env' Q, RepS F env (ops ++ [(x, ra), (y, rb)]) G σ H → g ra rb env = some (r, env') → Cont F ops G σ r env' Q → r2 x y H Q
def SN (F : Fr) (rn : List V → Hp → VK → Prop) (g : GN) : Prop := ∀ env ops (ps : Ops) G σ H r env' Q, RepS F env (ops ++ ps) G σ H → g (ps.map (·.2)) env = some (r, env') → Cont F ops G σ r env' Q → rn (ps.map (·.1)) H Q
/-- a method's: the receiver, the arguments -/
def SM (F : Fr) (rm : V → List V → Hp → VK → Prop) (g : GL) : Prop := ∀ env ops x ra (ps : Ops) G σ H r env' Q, RepS F env (ops ++ (x, ra) :: ps) G σ H → g ra (ps.map (·.2)) env = some (r, env') → Cont F ops G σ r env' Q → rm x (ps.map (·.1)) H Q

def e1 (g : G1) (fa : FE) : FE := fun env => (fa env).bind fun p => g p.1 p.2
def e2 (g : G2) (fa fb : FE) : FE := fun env => (fa env).bind fun p => (fb p.2).bind fun q => g p.1 q.1 q.2
theorem bind_some {α β : Type} {x : Option α} {f : α → Option β} {b : β} (h : x.bind f = some b) : ∃ a, x = some a ∧ f a = some b := by
  cases x with
  | none => cases h
  | some a => exact ⟨a, rfl, h⟩
theorem tE_un {r1 : V → Hp → VK → Prop} {g : G1} {fa : FE} (hg : S1 F r1 g) (σ : St) (H : Hp) (Q : VK) (h : tE F (e1 g fa) σ H Q) : tUn r1 (tE F fa) σ H Q := by
  obtain ⟨env, ops, G, r, env', I, e, q⟩ := h
  obtain ⟨⟨ra, ea⟩, h1, h2⟩ := bind_some e
  refine ⟨env, ops, G, ra, ea, I, h1, fun x G1 H1 s1 I1 => ?_⟩
  exact hg ea ops G1 σ H1 x ra r env' Q I1 h2 fun v G' H' s2 I2 => q v G' H' (s1.trans s2) I2
theorem tE_op {r2 : R2} {g : G2} {fa fb : FE} (hg : S2 F r2 g) (σ : St) (H : Hp) (Q : VK) (h : tE F (e2 g fa fb) σ H Q) : tOp r2 (tE F fa) (tE F fb) σ H Q := by
  obtain ⟨env, ops, G, r, env', I, e, q⟩ := h
  obtain ⟨⟨ra, ea⟩, h1, e⟩ := bind_some e
  obtain ⟨⟨rb, eb⟩, h2, h3⟩ := bind_some e
  refine ⟨env, ops, G, ra, ea, I, h1, fun x G1 H1 s1 I1 => ?_⟩
  refine ⟨ea, ops ++ [(x, ra)], G1, rb, eb, I1, h2, fun y G2 H2 s2 I2 => ?_⟩
  refine hg eb ops G2 σ H2 x y ra rb r env' Q (by simpa using I2) h3 fun v G' H' s3 I3 => q v G' H' ((s1.trans s2).trans s3) I3
theorem me_un {op : UnaryOp} {r1 : V → Hp → VK → Prop} {g : G1} {fa : FE} (ho : UnR X (unaryOp op) r1) (hg : S1 F r1 g) (ha : PE X a (tE F fa)) : PE X (.UnaryOp op a pos) (tE F (e1 g fa)) := (pe_un ho ha).wk (tE_un hg)
theorem me_bin {op : Operator} {r2 : R2} {g : G2} {fa fb : FE} (ho : OpR X (binaryOp op) r2) (hg : S2 F r2 g) (ha : PE X a (tE F fa)) (hb : PE X b (tE F fb)) : PE X (.BinOp a op b pos) (tE F (e2 g fa fb)) := (pe_op ho ha hb).wk (tE_op hg)
theorem me_cmp {op : CmpOp} {r2 : R2} {g : G2} {fa fb : FE} (ho : OpR X (compareOp op) r2) (hg : S2 F r2 g) (ha : PE X a (tE F fa)) (hb : PE X b (tE F fb)) (hm : behindInMarks op b = false) : PE X (.Compare a [op] [b] pos) (tE F (e2 g fa fb)) := (pe_cmpR ho ha hb hm).wk (tE_op hg)
theorem tE_test {t : TE} {f : FE} (hw : ∀ σ H Q, tE F f σ H Q → t σ H Q) (σ : St) (H : Hp) (Q : Bool → Hp → Prop) (h : tT F (rB f) σ H Q) : tTest t σ H Q := by
  obtain ⟨env, ops, G, b, env', I, e, q⟩ := h
  refine hw _ _ _ ⟨env, ops, G, _, env', I, rB_some e, fun v G' H' s1 I1 => ?_⟩
  exact ⟨b, I1.vbl (by simp), q G' H' s1 I1.pop⟩
theorem mt_cmp {op : CmpOp} {r2 : R2} {g : G2} {fa fb : FE} (ho : OpR X (compareOp op) r2) (hg : S2 F r2 g) (ha : PE X a (tE F fa)) (hb : PE X b (tE F fb)) (hm : behindInMarks op b = false) : PT X (.Compare a [op] [b] pos) (tT F (rB (e2 g fa fb))) :=
  (pt_cmpR ho ha hb hm).wk fun σ H Q h => tE_test (tE_op hg) σ H Q h
/-- an expression that gives a bool, as a test -/
theorem mt_val {e : Expr} {f : FE} (h : PE X e (tE F f)) (he : ∀ whole, isTrue e X.env whole = (do let v ← whole; standAt e.pos; holding [v] (truthy v)) := by intro _; rfl) : PT X e (tT F (rB f)) :=
  (pt_val h he).wk fun σ H Q h => tE_test (fun _ _ _ z => z) σ H Q h

/-! ### and, or, not; a if t else b -/
def fAnd (f g : FT) : FT := fun env => (f env).bind fun p => if p.1 = true then g p.2 else some (false, p.2)
def fOr (f g : FT) : FT := fun env => (f env).bind fun p => if p.1 = true then some (true, p.2) else g p.2
def fNot (f : FT) : FT := fun env => (f env).map fun p => (!p.1, p.2)
def eIf (t : FT) (f g : FE) : FE := fun env => (t env).bind fun p => if p.1 = true then f p.2 else g p.2
theorem mw_and1 {t : FT} (ha : PT X a (tT F t)) : PW X (.BoolOp .And [a] pos) (tT F t) := pw_and1 ha
theorem mw_or1 {t : FT} (ha : PT X a (tT F t)) : PW X (.BoolOp .Or [a] pos) (tT F t) := pw_or1 ha
theorem _root_.L2.PW.wk {e : Expr} {t t' : TT} (h : PW X e t) (w : ∀ σ H Q, t' σ H Q → t σ H Q) : PW X e t' := ⟨fun wh pins s σ H Q I q => h.run wh pins s σ H Q I (w _ _ _ q)⟩
theorem mw_and {t u : FT} {rest : List Expr} (ha : PT X a (tT F t)) (hb : PW X (.BoolOp .And (b :: rest) pos) (tT F u)) : PW X (.BoolOp .And (a :: b :: rest) pos) (tT F (fAnd t u)) :=
  (pw_and ha hb).wk fun σ H Q ⟨env, ops, G, k, env', I, e, q⟩ => by
    obtain ⟨⟨k1, e1⟩, h1, h2⟩ := bind_some e
    refine ⟨env, ops, G, k1, e1, I, h1, fun G1 H1 s1 I1 => ?_⟩
    cases k1 with
    | true => exact ⟨e1, ops, G1, k, env', I1, h2, fun G' H' s2 I2 => q G' H' (s1.trans s2) I2⟩
    | false => cases h2; exact q G1 H1 s1 I1
theorem mw_or {t u : FT} {rest : List Expr} (ha : PT X a (tT F t)) (hb : PW X (.BoolOp .Or (b :: rest) pos) (tT F u)) : PW X (.BoolOp .Or (a :: b :: rest) pos) (tT F (fOr t u)) :=
  (pw_or ha hb).wk fun σ H Q ⟨env, ops, G, k, env', I, e, q⟩ => by
    obtain ⟨⟨k1, e1⟩, h1, h2⟩ := bind_some e
    refine ⟨env, ops, G, k1, e1, I, h1, fun G1 H1 s1 I1 => ?_⟩
    cases k1 with
    | false => exact ⟨e1, ops, G1, k, env', I1, h2, fun G' H' s2 I2 => q G' H' (s1.trans s2) I2⟩
    | true => cases h2; exact q G1 H1 s1 I1
theorem mt_not {t : FT} (ha : PT X a (tT F t)) : PT X (.UnaryOp .Not a pos) (tT F (fNot t)) :=
  (pt_not ha).wk fun σ H Q ⟨env, ops, G, k, env', I, e, q⟩ => by
    unfold fNot at e
    cases h : t env with
    | none => rw [h] at e; cases e
    | some p =>
      rw [h] at e; cases e
      exact ⟨env, ops, G, p.1, p.2, I, h, fun G1 H1 s1 I1 => q G1 H1 s1 I1⟩
theorem me_if {t : FT} {f g : FE} (hc : PT X c (tT F t)) (ha : PE X a (tE F f)) (hb : PE X b (tE F g)) : PE X (.IfExp c a b pos) (tE F (eIf t f g)) :=
  (pe_ifExp hc ha hb).wk fun σ H Q ⟨env, ops, G, r, env', I, e, q⟩ => by
    obtain ⟨⟨k1, e1⟩, h1, h2⟩ := bind_some e
    refine ⟨env, ops, G, k1, e1, I, h1, fun G1 H1 s1 I1 => ?_⟩
    cases k1 with
    | true => exact ⟨e1, ops, G1, r, env', I1, h2, fun v G' H' s2 I2 => q v G' H' (s1.trans s2) I2⟩
    | false => exact ⟨e1, ops, G1, r, env', I1, h2, fun v G' H' s2 I2 => q v G' H' (s1.trans s2) I2⟩
/-- as values: all but the last are bools -/
def eAnd (f g : FE) : FE := fun env => (f env).bind fun p => p.1.bl.bind fun b => if b = true then g p.2 else some (.val (.bool false), p.2)
def eOr (f g : FE) : FE := fun env => (f env).bind fun p => p.1.bl.bind fun b => if b = true then some (.val (.bool true), p.2) else g p.2
def eNot (f : FE) : FE := fun env => (f env).bind fun p => p.1.bl.map fun b => (.val (.bool !b), p.2)
theorem me_one {op} {f : FE} (h : PE X a (tE F f)) : PE X (.BoolOp op [a] pos) (tE F f) := pe_one h
theorem me_and {f g : FE} {rest : List Expr} (ha : PE X a (tE F f)) (hb : PE X (.BoolOp .And (b :: rest) pos) (tE F g)) : PE X (.BoolOp .And (a :: b :: rest) pos) (tE F (eAnd f g)) :=
  (pe_and ha hb).wk fun σ H Q ⟨env, ops, G, r, env', I, e, q⟩ => by
    obtain ⟨⟨ra, ea⟩, h1, h2⟩ := bind_some e
    obtain ⟨k, h2, h3⟩ := bind_some h2
    obtain rfl := R.bl_eq h2
    refine ⟨env, ops, G, _, ea, I, h1, fun v G1 H1 s1 I1 => ?_⟩
    refine ⟨k, I1.vbl (by simp), ?_⟩
    cases k with
    | true => exact ⟨ea, ops, G1, r, env', I1.pop, h3, fun v G' H' s2 I2 => q v G' H' (s1.trans s2) I2⟩
    | false => cases h3; exact q _ G1 H1 s1 (I1.pop.pushV (.bl false))
theorem me_not {f : FE} (ha : PE X a (tE F f)) : PE X (.UnaryOp .Not a pos) (tE F (eNot f)) :=
  (pe_not ha).wk fun σ H Q ⟨env, ops, G, r, env', I, e, q⟩ => by
    obtain ⟨⟨ra, ea⟩, h1, h2⟩ := bind_some e
    cases hb : R.bl ra with
    | none => simp [hb] at h2
    | some k =>
      simp [hb] at h2
      obtain ⟨rfl, rfl⟩ := h2
      obtain rfl := R.bl_eq hb
      refine ⟨env, ops, G, _, ea, I, h1, fun v G1 H1 s1 I1 => ?_⟩
      exact ⟨k, I1.vbl (by simp), q _ G1 H1 s1 (I1.pop.pushV (.bl _))⟩

/-! ### argument lists, displays -/
def aNil : FA := fun env => some ([], env)
def aCons (f : FE) (g : FA) : FA := fun env => (f env).bind fun p => (g p.2).map fun q => (p.1 :: q.1, q.2)
theorem ma_nil : PA X [] (tA F aNil) := pa_nil.wk fun σ H Q ⟨env, ops, G, rs, env', I, e, q⟩ => by
  cases e
  exact q [] G H rfl (Same.refl _) (by simpa using I)
theorem ma_cons {e : Expr} {es : List Expr} {f : FE} {g : FA} (ha : PE X e (tE F f)) (hr : PA X es (tA F g)) (hs : starEach (e :: es) X.env = (false, eval e X.env) :: starEach es X.env := by rfl) : PA X (e :: es) (tA F (aCons f g)) :=
  (pa_cons ha hr hs).wk fun σ H Q ⟨env, ops, G, rs, env', I, e, q⟩ => by
    obtain ⟨⟨ra, ea⟩, h1, h2⟩ := bind_some e
    cases h3 : g ea with
    | none => simp [h3] at h2
    | some p =>
      simp [h3] at h2
      obtain ⟨rfl, rfl⟩ := h2
      refine ⟨env, ops, G, ra, ea, I, h1, fun v G1 H1 s1 I1 => ?_⟩
      refine ⟨ea, ops ++ [(v, ra)], G1, p.1, p.2, I1, h3, fun ps G2 H2 hp s2 I2 => ?_⟩
      exact q ((v, ra) :: ps) G2 H2 (by simp [hp]) (s1.trans s2) (by simpa using I2)
end
end ML

/-! ML3: operations on data. -/
namespace ML
open PySem PySem.Spec PyProof.Rows L2

theorem dp_int {K : PySem.W.Frag} {H : Hp} {v : V} {i : Int} (h : Dp K H v (.int i)) : v = .int i := by cases h; rfl
theorem dp_str {K : PySem.W.Frag} {H : Hp} {v : V} {i : Str} (h : Dp K H v (.str i)) : v = .str i := by cases h; rfl
theorem dp_tup {K : PySem.W.Frag} {H : Hp} {v : V} {ds : List D} (h : Dp K H v (.tuple ds)) : ∃ a vs, v = .ref a ∧ SqT K H a vs ∧ DpAll K H vs ds := by cases h with | tup a b => exact ⟨_, _, rfl, a, b⟩
section
variable {F : Fr} {env env' : En} {ops ps : Ops} {G G' H H' : Hp} {σ : St} {v : V} {r : R} {d : D} {Q : VK}
theorem RepS.retV (I : RepS F env (ops ++ ps) G σ H) (c : Cont F ops G σ (.val d) env Q) (hv : Dp F.K G v d) : Q v H := c v G H (Same.refl _) (I.pop.pushV hv)
theorem RepS.retT (I : RepS F env (ops ++ ps) G σ H) {ds : List D} (c : Cont F ops G σ (.val (.tuple ds)) env Q) {xs : List V} (hv : DpAll F.K G xs ds) : ∀ p q, q.dict = none → H p = none → Q (.ref p) (upd H p (.frz q (.tup xs))) := fun p q hq hp => by
  obtain ⟨G', s, I'⟩ := I.pop.pushT hq hp hv
  exact c _ G' _ s I'
theorem RepS.retN (I : RepS F env (ops ++ ps) G σ H) {o : O} (c : Cont F ops G σ (.new o) env Q) {p : Addr} {u : HO} (hp : H p = none) (ho : hasO F G (upd H p u) p o) : Q (.ref p) (upd H p u) := c _ G _ (Same.refl _) (I.pop.pushN hp ho)
theorem RepS.retL (I : RepS F env (ops ++ ps) G σ H) {ds : List D} (c : Cont F ops G σ (.new (.lst ds)) env Q) {xs : List V} (hv : DpAll F.K G xs ds) : ∀ p, H p = none → Q (.ref p) (upd H p (.lst xs)) := fun p hp =>
  I.retN c hp ⟨xs, upd_same, hv⟩
end

/-! ### arithmetic -/
def g2I (c : Int → Int → Bool) (f : Int → Int → D) : G2 := fun ra rb env => match ra.int, rb.int with
  | some i, some j => if c i j = true then some (.val (f i j), env) else none
  | _, _ => none
theorem g2I_some {c : Int → Int → Bool} {f : Int → Int → D} {ra rb : R} {env env' : En} {r : R} (h : g2I c f ra rb env = some (r, env')) : ∃ i j, ra = .val (.int i) ∧ rb = .val (.int j) ∧ c i j = true ∧ r = .val (f i j) ∧ env' = env := by
  unfold g2I at h
  split at h
  · rename_i i j h1 h2
    split at h
    · cases h; exact ⟨i, j, R.int_eq h1, R.int_eq h2, by assumption, rfl, rfl⟩
    · cases h
  · cases h
variable {F : Fr} {X : Cx}
theorem s2I {C : Int → Int → Prop} {c : Int → Int → Bool} {g : Int → Int → V} {f : Int → Int → D} (hC : ∀ i j, c i j = true → C i j) (hd : ∀ G i j, Dp F.K G (g i j) (f i j)) : S2 F (rI C g) (g2I c f) := by
  intro env ops G σ H x y ra rb r env' Q I h k
  obtain ⟨i, j, rfl, rfl, hc, rfl, rfl⟩ := g2I_some h
  exact ⟨i, j, I.vint (by simp), I.vint (by simp), hC i j hc, I.retV k (hd G i j)⟩
theorem s2I0 {g : Int → Int → V} {f : Int → Int → D} (hd : ∀ G i j, Dp F.K G (g i j) (f i j)) : S2 F (rI0 g) (g2I (fun _ _ => true) f) := by
  intro env ops G σ H x y ra rb r env' Q I h k
  obtain ⟨i, j, rfl, rfl, hc, rfl, rfl⟩ := g2I_some h
  exact ⟨i, j, I.vint (by simp), I.vint (by simp), I.retV k (hd G i j)⟩
def gSub : G2 := g2I (fun _ _ => true) fun i j => .int (i - j)
def mulOk (i j : Int) : Bool := decide (i.natAbs.log2 + j.natAbs.log2 < 1000000)
def gMul : G2 := g2I mulOk fun i j => .int (i * j)
def gDiv : G2 := g2I (fun i j => decide (0 < j ∧ j < 1073741824)) fun i j => .int (i / j)
def gMod : G2 := g2I (fun i j => decide (0 < j)) fun i j => .int (i % j)
def gPow : G2 := g2I (fun i j => decide (0 ≤ j ∧ j ≤ 1000000 ∧ i.natAbs < 2 ^ 64)) fun i j => .int (i ^ j.toNat)
def gLt : G2 := g2I (fun _ _ => true) fun i j => .bool (decide (i < j))
def gLe : G2 := g2I (fun _ _ => true) fun i j => .bool (decide (i ≤ j))
def gGt : G2 := g2I (fun _ _ => true) fun i j => .bool (decide (j < i))
def gGe : G2 := g2I (fun _ _ => true) fun i j => .bool (decide (j ≤ i))
theorem s_sub : S2 F (rI0 fun i j => .int (i - j)) gSub := s2I0 fun _ _ _ => .int _
theorem s_mul : S2 F (rI CMulW fun i j => .int (i * j)) gMul := s2I (fun i j h => by have := of_decide_eq_true h; unfold CMulW; omega) fun _ _ _ => .int _
theorem s_div : S2 F (rI CDiv fun i j => .int (i / j)) gDiv := s2I (fun i j h => (of_decide_eq_true h : 0 < j ∧ j < 1073741824)) fun _ _ _ => .int _
theorem s_mod : S2 F (rI (fun _ j => 0 < j) fun i j => .int (i % j)) gMod := s2I (fun i j h => of_decide_eq_true h) fun _ _ _ => .int _
theorem s_pow : S2 F (rI CPow fun i j => .int (i ^ j.toNat)) gPow := s2I (fun i j h => (of_decide_eq_true h : 0 ≤ j ∧ j ≤ 1000000 ∧ i.natAbs < 2 ^ 64)) fun _ _ _ => .int _
theorem s_lt : S2 F (rI0 fun i j => .bl (decide (i < j))) gLt := s2I0 fun _ _ _ => .bl _
theorem s_le : S2 F (rI0 fun i j => .bl (decide (i ≤ j))) gLe := s2I0 fun _ _ _ => .bl _
theorem s_gt : S2 F (rI0 fun i j => .bl (decide (j < i))) gGt := s2I0 fun _ _ _ => .bl _
theorem s_ge : S2 F (rI0 fun i j => .bl (decide (j ≤ i))) gGe := s2I0 fun _ _ _ => .bl _
def gNeg : G1 := fun ra env => ra.int.map fun i => (.val (.int (-i)), env)
theorem s_neg : S1 F (rU fun i => .int (-i)) gNeg := by
  intro env ops G σ H x ra r env' Q I h k
  unfold gNeg at h
  cases e : ra.int with
  | none => rw [e] at h; cases h
  | some i =>
    rw [e] at h; cases h
    obtain rfl := R.int_eq e
    exact ⟨i, I.vint (by simp), I.retV k (.int _)⟩

/-! ### + -/
def gAdd : G2 := fun ra rb env => match ra.obj env, rb.obj env with
  | some (.val (.int i)), some (.val (.int j)) => some (.val (.int (i + j)), env)
  | some (.val (.str x)), some (.val (.str y)) => if x.length + y.length ≤ sizeLine then some (.val (.str (x ++ y)), env) else none
  | some (.val (.tuple xs)), some (.val (.tuple ys)) => if xs.length + ys.length ≤ sizeLine then some (.val (.tuple (xs ++ ys)), env) else none
  | some b, some c => match b.own, c.own with
    | some (.lst xs), some (.lst ys) => if xs.length + ys.length ≤ sizeLine then some (.new (.lst (xs ++ ys)), env) else none
    | _, _ => none
  | _, _ => none
def rAddA (K : PySem.W.Frag) : R2 := fun x y H Q => (rI0 (fun i j => .int (i + j)) x y H Q ∨ (∃ i j, x = .str i ∧ y = .str j ∧ i.length + j.length ≤ sizeLine ∧ Q (.str (i ++ j)) H)) ∨ (rCatF K x y H Q ∨ rCat x y H Q)
theorem op_addA : OpR X (binaryOp .Add) (rAddA X.K) := (op_add.or op_add_str).or (op_catF.or op_cat)
theorem s_add : S2 F (rAddA F.K) gAdd := by
  intro env ops G σ H x y ra rb r env' Q I h k
  unfold gAdd at h
  split at h
  · rename_i i j h1 h2
    cases h
    have q1 := (I.obj (v := x) (r := ra) (by simp) h1).1 _ rfl
    have q2 := (I.obj (v := y) (r := rb) (by simp) h2).1 _ rfl
    exact .inl (.inl ⟨i, j, dp_int q1, dp_int q2, I.retV k (.int _)⟩)
  · rename_i i j h1 h2
    split at h
    · rename_i hl
      cases h
      have q1 := (I.obj (v := x) (r := ra) (by simp) h1).1 _ rfl
      have q2 := (I.obj (v := y) (r := rb) (by simp) h2).1 _ rfl
      exact .inl (.inr ⟨i, j, dp_str q1, dp_str q2, hl, I.retV k (.str _)⟩)
    · cases h
  · rename_i xs ys h1 h2
    split at h
    · rename_i hl
      cases h
      have q1 := (I.obj (v := x) (r := ra) (by simp) h1).1 _ rfl
      have q2 := (I.obj (v := y) (r := rb) (by simp) h2).1 _ rfl
      obtain ⟨a, vs, rfl, t1, t2⟩ := dp_tup q1
      obtain ⟨b, ws, rfl, u1, u2⟩ := dp_tup q2
      have e1 := dpAll_len t2
      have e2 := dpAll_len u2
      refine .inr (.inl ⟨a, b, vs, ws, rfl, rfl, same_sqT I.same t1, same_sqT I.same u1, by omega, fun z => ?_, fun _ z => ?_, fun _ _ => I.retT k (dpAll_app t2 u2)⟩)
      · subst z
        cases t2
        exact I.retV k (by simpa using Dp.tup u1 u2)
      · subst z
        cases u2
        exact I.retV k (by simpa using Dp.tup t1 t2)
    · cases h
  · rename_i b c _ _ _ h1 h2
    split at h
    · rename_i xs ys h3 h4
      split at h
      · rename_i hl
        cases h
        obtain ⟨a, rfl, z3, _⟩ := (I.obj (v := x) (r := ra) (by simp) h1).2 _ h3
        obtain ⟨a', rfl, z4, _⟩ := (I.obj (v := y) (r := rb) (by simp) h2).2 _ h4
        obtain ⟨vs, p1, p2⟩ := hasB_lst h3 z3
        obtain ⟨ws, q1, q2⟩ := hasB_lst h4 z4
        have e1 := dpAll_len p2
        have e2 := dpAll_len q2
        exact .inr (.inr ⟨a, a', vs, ws, rfl, rfl, p1, q1, by omega, I.retL k (dpAll_app p2 q2)⟩)
      · cases h
    · cases h
  · cases h

/-! ### ==, != -/
def gEq (neg : Bool) : G2 := fun ra rb env => match ra.dat env, rb.dat env with
  | some d, some e => if SeqAt.shaped d = true ∧ SeqAt.shaped e = true then some (.val (.bool (if neg = true then !PyData.eqv d e else PyData.eqv d e)), env) else none
  | _, _ => none
theorem s_eq : S2 F (rEqD F.K) (gEq false) := by
  intro env ops G σ H x y ra rb r env' Q I h k
  unfold gEq at h
  split at h
  · rename_i d e h1 h2
    split at h
    · rename_i hs
      cases h
      exact ⟨d, e, I.dat (r := ra) (by simp) h1, I.dat (r := rb) (by simp) h2, hs.1, hs.2, I.retV k (.bl _)⟩
    · cases h
  · cases h
theorem s_ne : S2 F (rNeD F.K) (gEq true) := by
  intro env ops G σ H x y ra rb r env' Q I h k
  unfold gEq at h
  split at h
  · rename_i d e h1 h2
    split at h
    · rename_i hs
      cases h
      exact ⟨d, e, I.dat (r := ra) (by simp) h1, I.dat (r := rb) (by simp) h2, hs.1, hs.2, I.retV k (.bl _)⟩
    · cases h
  · cases h

/-! ### in, not in -/
def flatD : D → Bool
  | .none | .bool _ | .int _ | .str _ => true
  | _ => false
theorem flat_of {K : PySem.W.Frag} {H : Hp} {v : V} {d : D} (h : Dp K H v d) (f : flatD d = true) : flatV v = true := by
  cases h <;> first | rfl | cases f
theorem eqV_of {K : PySem.W.Frag} {H : Hp} {v w : V} {d e : D} (h : Dp K H v d) (h' : Dp K H w e) (f : flatD d = true) (f' : flatD e = true) : eqV v w = PyData.eqv d e := by
  cases h <;> cases h' <;> first | rfl | cases f | cases f'
theorem flats_of {K : PySem.W.Frag} {H : Hp} : ∀ {ds : List D} {vs : List V}, DpAll K H vs ds → ds.all flatD = true → vs.all flatV = true
  | [], _, h, _ => by cases h; rfl
  | d :: ds, _, h, f => by
    cases h with
    | cons h1 h2 =>
      simp only [List.all_cons, Bool.and_eq_true] at f ⊢
      exact ⟨flat_of h1 f.1, flats_of h2 f.2⟩
theorem inV_of {K : PySem.W.Frag} {H : Hp} {x : V} {d : D} (hx : Dp K H x d) (fx : flatD d = true) : ∀ {ds : List D} {vs : List V}, DpAll K H vs ds → ds.all flatD = true → inV x vs = ds.any fun z => PyData.eqv z d
  | [], _, h, _ => by cases h; rfl
  | e :: ds, _, h, f => by
    cases h with
    | cons h1 h2 =>
      simp only [List.all_cons, Bool.and_eq_true] at f
      have ih := inV_of hx fx h2 f.2
      unfold inV at ih ⊢
      simp only [List.any_cons]
      rw [ih, eqV_of h1 hx f.1 fx]
def keyD : D → Option Key
  | .int i => some (.inl i)
  | .str x => some (.inr x)
  | _ => none
theorem keyD_of {K : PySem.W.Frag} {H : Hp} {v : V} {d : D} {k : Key} (h : Dp K H v d) (e : keyD d = some k) : v = kV k := by
  cases h <;> cases e <;> rfl
theorem dget_rd {H : Hp} {a : Addr} {kvs : List (Key × V)} {k : Key} (e : Rd H a (.dK kvs)) : DGet H a (kV k) (valV kvs k) := .inl ⟨kvs, k, e, rfl, rfl⟩
/-- a dict's value at a key -/
def lkD (kvs : List (Key × D)) (k : Key) : Option D := (kvs.find? fun kv => decide (kv.1 = k)).map (·.2)
theorem lkD_pos {p : Key × D} {r : List (Key × D)} {k : Key} (e : p.1 = k) : lkD (p :: r) k = some p.2 := by simp [lkD, List.find?_cons, e]
theorem lkD_neg {p : Key × D} {r : List (Key × D)} {k : Key} (e : ¬ p.1 = k) : lkD (p :: r) k = lkD r k := by simp [lkD, List.find?_cons, e]
theorem kvr_val {K : PySem.W.Frag} {G : Hp} (k : Key) : ∀ {ws : List (Key × V)} {kvs : List (Key × D)}, KVr K G ws kvs → (∀ d, lkD kvs k = some d → ∃ v, valV ws k = some v ∧ Dp K G v d) ∧ (lkD kvs k = none → valV ws k = none)
  | [], _, .nil => ⟨fun d e => (by cases e), fun _ => rfl⟩
  | (k1, w) :: ws, _, .cons (b := (k2, e)) r t => by
    obtain ⟨r1, r2⟩ := r
    have r1 : k1 = k2 := r1
    subst r1
    obtain ⟨t1, t2⟩ := kvr_val k t
    by_cases hk : k1 = k
    · refine ⟨fun d hd => ?_, fun hd => ?_⟩
      · rw [lkD_pos hk] at hd; cases hd
        exact ⟨w, valV_pos hk, r2⟩
      · rw [lkD_pos hk] at hd; cases hd
    · refine ⟨fun d hd => ?_, fun hd => ?_⟩
      · rw [lkD_neg hk] at hd
        rw [valV_neg hk]; exact t1 d hd
      · rw [lkD_neg hk] at hd
        rw [valV_neg hk]; exact t2 hd
theorem kvr_some {K : PySem.W.Frag} {G : Hp} {k : Key} {ws : List (Key × V)} {kvs : List (Key × D)} (h : KVr K G ws kvs) : (valV ws k).isSome = (lkD kvs k).isSome := by
  obtain ⟨h1, h2⟩ := kvr_val k h
  cases e : lkD kvs k with
  | none => rw [h2 e]; rfl
  | some d => obtain ⟨v, e1, _⟩ := h1 d e; rw [e1]; rfl
def rDIn (neg : Bool) : R2 := fun x y H Q => ∃ a o, y = .ref a ∧ DGet H a x o ∧ Q (.bl (if neg = true then !o.isSome else o.isSome)) H
theorem op_dIn (hu : X.A.units + 1 < cLine) : OpR X (compareOp .In) (rDIn false) := by
  intro pins s σ H x y v u Q I rx ry h
  obtain ⟨a, o, rfl, g, q⟩ := h
  cases ry
  exact d_in hu I g rx fun s' I' => ⟨.bl _, H, I', rfl, q⟩
def bneg (neg b : Bool) : Bool := if neg = true then !b else b
def gIn (neg : Bool) : G2 := fun ra rb env => match ra.dat env with
  | none => none
  | some d => match rb.dat env with
    | some (.list ds) => if SeqAt.shaped d = true ∧ SeqAt.shaped (.list ds) = true then some (.val (.bool (bneg neg (ds.any fun z => PyData.eqv z d))), env) else none
    | some (.tuple ds) => if flatD d = true ∧ ds.all flatD = true then some (.val (.bool (bneg neg (ds.any fun z => PyData.eqv z d))), env) else none
    | some _ => none
    | none => match rb.dk env, keyD d with
      | some kvs, some k => some (.val (.bool (bneg neg (lkD kvs k).isSome)), env)
      | _, _ => none
def rInA (K : PySem.W.Frag) : R2 := fun x y H Q => rInD K x y H Q ∨ (rIn K false x y H Q ∨ rDIn false x y H Q)
theorem op_inA (hu : X.A.units + 65 < cLine) : OpR X (compareOp .In) (rInA X.K) := (op_inD hu).or (op_in_seq.or (op_dIn (by omega)))
theorem s_inG {neg : Bool} {rl : R2} (hl : ∀ x y H Q, (∃ d ds, Dp F.K H x d ∧ Dp F.K H y (.list ds) ∧ SeqAt.shaped d = true ∧ SeqAt.shaped (.list ds) = true ∧ Q (V.bl (bneg neg (ds.any fun z => PyData.eqv z d))) H) → rl x y H Q) :
    S2 F (fun x y H Q => rl x y H Q ∨ (rIn F.K neg x y H Q ∨ rDIn neg x y H Q)) (gIn neg) := by
  intro env ops G σ H x y ra rb r env' Q I h k
  unfold gIn at h
  split at h
  · cases h
  · rename_i d h1
    have hd := I.dat (r := ra) (v := x) (by simp) h1
    split at h
    · rename_i ds h2
      split at h
      · rename_i hs
        cases h
        exact .inl (hl _ _ _ _ ⟨d, ds, hd, I.dat (r := rb) (by simp) h2, hs.1, hs.2, I.retV k (.bl _)⟩)
      · cases h
    · rename_i ds h2
      split at h
      · rename_i hs
        cases h
        obtain ⟨a, vs, rfl, q1, q2⟩ := dp_tup (I.dat (r := rb) (v := y) (by simp) h2)
        refine .inr (.inl ⟨a, vs, rfl, .inr q1, flat_of hd hs.1, flats_of q2 hs.2, ?_⟩)
        have e : (if neg = true then !inV x vs else inV x vs) = bneg neg (ds.any fun z => PyData.eqv z d) := by
          rw [inV_of hd hs.1 q2 hs.2]; rfl
        rw [e]
        exact I.retV k (.bl _)
      · cases h
    · cases h
    · split at h
      · rename_i kvs kk h2 h3
        cases h
        obtain ⟨a, ws, rfl, q1, q2⟩ := I.dk (r := rb) (v := y) (by simp) h2
        refine .inr (.inr ⟨a, valV ws kk, rfl, ?_, ?_⟩)
        · rw [keyD_of hd h3]; exact dget_rd q1
        · rw [kvr_some q2]; exact I.retV k (.bl _)
      · cases h
theorem s_in : S2 F (rInA F.K) (gIn false) := s_inG fun _ _ _ _ h => h
/-! ### is None, is not None -/
/-! ### o[i] -/
def rIxD : R2 := fun x y H Q => ∃ a v, x = .ref a ∧ DGet H a y (some v) ∧ Q v H
theorem ix_dict (hu : X.A.units + 1 < cLine) : IxR X rIxD := by
  intro value slice pins s σ H x y v u Q I rx ry h hs
  obtain ⟨a, z, rfl, g, q⟩ := h
  cases rx
  exact tail_any (dict_typeIs I g) PySem.F.slot_dict_getitem.lookup (d_getItem hu I g ry fun w' s' I' r' => ⟨z, H, I', r', q⟩) hs
def rIxA (K : PySem.W.Frag) : R2 := fun x y H Q => rIx K x y H Q ∨ rIxD x y H Q
theorem ix_any (hu : X.A.units + 1 < cLine) : IxR X (rIxA X.K) := ix_seq.or (ix_dict hu)
def gIx : G2 := fun ra rb env => match ra.dat env with
  | some (.list ds) => rb.int.bind fun i => (atI ds i).map fun d => (.val d, env)
  | some (.tuple ds) => rb.int.bind fun i => (atI ds i).map fun d => (.val d, env)
  | some (.str x) => rb.int.bind fun i => if x.length ≤ sizeLine then (atI x.cps.toList i).map fun c => (.val (.str ⟨#[c]⟩), env) else none
  | some _ => none
  | none => (ra.dk env).bind fun kvs => (rb.dat env).bind fun d => (keyD d).bind fun k => (lkD kvs k).map fun d => (.val d, env)
theorem atI_dp {K : PySem.W.Frag} {H : Hp} {ds : List D} {vs : List V} {i : Int} {d : D} (h : DpAll K H vs ds) (e : atI ds i = some d) : ∃ v, atI vs i = some v ∧ Dp K H v d := by
  unfold atI at e ⊢
  rw [dpAll_len h]
  cases q : ixN ds.length i with
  | none => rw [q] at e; cases e
  | some j =>
    rw [q] at e
    exact dpAll_get h e
theorem omap_some {α β : Type} {x : Option α} {f : α → β} {b : β} (h : x.map f = some b) : ∃ a, x = some a ∧ f a = b := by
  cases x with
  | none => cases h
  | some a => exact ⟨a, rfl, Option.some.inj h⟩
theorem s_ix : S2 F (rIxA F.K) gIx := by
  intro env ops G σ H x y ra rb r env' Q I h k
  unfold gIx at h
  split at h
  · rename_i ds h1
    obtain ⟨i, h2, h⟩ := bind_some h
    obtain ⟨d, h3, h4⟩ := omap_some h
    cases h4
    obtain rfl := R.int_eq h2
    obtain ⟨a, vs, rfl, q1, q2⟩ := I.lst (r := ra) (v := x) (by simp) (ds := ds) (by unfold R.lst; rw [h1])
    obtain ⟨v, e1, e2⟩ := atI_dp q2 h3
    exact .inl (.inl ⟨a, vs, i, v, rfl, I.vint (by simp), q1, e1, I.retV k e2⟩)
  · rename_i ds h1
    obtain ⟨i, h2, h⟩ := bind_some h
    obtain ⟨d, h3, h4⟩ := omap_some h
    cases h4
    obtain rfl := R.int_eq h2
    obtain ⟨a, vs, rfl, q1, q2⟩ := I.tup (r := ra) (v := x) (by simp) (ds := ds) (by unfold R.tup; rw [h1])
    obtain ⟨v, e1, e2⟩ := atI_dp q2 h3
    exact .inl (.inr (.inl ⟨a, vs, i, v, rfl, I.vint (by simp), q1, e1, I.retV k e2⟩))
  · rename_i z h1
    obtain ⟨i, h2, h⟩ := bind_some h
    split at h
    · rename_i hz
      obtain ⟨c, h3, h4⟩ := omap_some h
      cases h4
      obtain rfl := R.int_eq h2
      exact .inl (.inr (.inr ⟨z, i, c, dp_str (I.dat (r := ra) (v := x) (by simp) h1), I.vint (by simp), hz, h3, I.retV k (.str _)⟩))
    · cases h
  · cases h
  · obtain ⟨kvs, h1, h⟩ := bind_some h
    obtain ⟨d, h2, h⟩ := bind_some h
    obtain ⟨kk, h3, h⟩ := bind_some h
    obtain ⟨d', h4, h5⟩ := omap_some h
    cases h5
    obtain ⟨a, ws, rfl, q1, q2⟩ := I.dk (r := ra) (v := x) (by simp) h1
    obtain ⟨v, e1, e2⟩ := (kvr_val kk q2).1 d' h4
    refine .inr ⟨a, v, rfl, ?_, I.retV k e2⟩
    rw [keyD_of (I.dat (r := rb) (v := y) (by simp) h2) h3, ← e1]
    exact dget_rd q1
theorem me_ix {a b : Expr} {pos : Pos} {fa fb : FE} (hu : X.A.units + 1 < cLine) (hg : S2 F (rIxA X.K) gIx) (ha : PE X a (tE F fa)) (hb : PE X b (tE F fb)) (hs : PlainIx b) : PE X (.Subscript a b pos) (tE F (e2 gIx fa fb)) :=
  (pe_ix (ix_any hu) ha hb hs).wk (tE_op hg)

/-! ### o[lo:hi] -/
abbrev FO := En → Option (Option Int × En)
def tO (F : Fr) (f : FO) : TO := fun σ H Q => ∃ env ops G o env', RepS F env ops G σ H ∧ f env = some (o, env') ∧ ∀ G' H', Same G G' → RepS F env' ops G' σ H' → Q o H'
theorem _root_.L2.PO.wk {e : Option Expr} {t t' : TO} (h : PO X e t) (w : ∀ σ H Q, t' σ H Q → t σ H Q) : PO X e t' := ⟨fun pins s σ H Q I q => h.run pins s σ H Q I (w _ _ _ q)⟩
def oNone : FO := fun env => some (none, env)
def oSome (f : FE) : FO := fun env => (f env).bind fun p => p.1.int.map fun i => (some i, p.2)
theorem mo_none : PO X none (tO F oNone) := po_none.wk fun σ H Q ⟨env, ops, G, o, env', I, e, q⟩ => by
  cases e
  exact q G H (Same.refl _) I
theorem mo_some {e : Expr} {f : FE} (h : PE X e (tE F f)) : PO X (some e) (tO F (oSome f)) := (po_some h).wk fun σ H Q ⟨env, ops, G, o, env', I, e, q⟩ => by
  obtain ⟨⟨r, e1⟩, h1, h2⟩ := bind_some e
  obtain ⟨i, h3, h4⟩ := omap_some h2
  cases h4
  obtain rfl := R.int_eq h3
  exact ⟨env, ops, G, _, e1, I, h1, fun v G' H' s1 I1 => ⟨i, I1.vint (by simp), q G' H' s1 I1.pop⟩⟩
def cutD {α : Type} (xs : List α) (lo hi : Option Int) : List α := (xs.drop (HT.sIx xs.length 0 lo)).take (HT.sIx xs.length xs.length hi - HT.sIx xs.length 0 lo)
theorem cut_dp {K : PySem.W.Frag} {H : Hp} {ds : List D} {vs : List V} (h : DpAll K H vs ds) (lo hi : Option Int) : DpAll K H (cutV vs lo hi) (cutD ds lo hi) := by
  unfold cutV cutD
  rw [dpAll_len h]
  exact dpAll_take _ (dpAll_drop _ h)
def gSl (r : R) (lo hi : Option Int) (env : En) : Option (R × En) := match r.dat env with
  | some (.list ds) => some (.new (.lst (cutD ds lo hi)), env)
  | some (.tuple ds) => some (.val (.tuple (cutD ds lo hi)), env)
  | some (.str x) => if x.length ≤ sizeLine then some (.val (.str (cutS x lo hi)), env) else none
  | _ => none
def rSlLT (K : PySem.W.Frag) : V → Option Int → Option Int → Hp → VK → Prop := fun x lo hi H Q => (rSlL K x lo hi H Q ∨ rSlF K x lo hi H Q) ∨ rSlS x lo hi H Q
theorem sl_LT : SlR X (rSlLT X.K) := (sl_list.or sl_tupF).or sl_str
def eSl (fa : FE) (fl fh : FO) : FE := fun env => (fa env).bind fun p => (fl p.2).bind fun q => (fh q.2).bind fun s => gSl p.1 q.1 s.1 s.2
theorem me_sl {a : Expr} {lo hi : Option Expr} {p2 pos : Pos} {fa : FE} {fl fh : FO} (hK : X.K = F.K) (ha : PE X a (tE F fa)) (hl : PO X lo (tO F fl)) (hh : PO X hi (tO F fh)) : PE X (.Subscript a (.Slice lo hi none p2) pos) (tE F (eSl fa fl fh)) :=
  (pe_slice sl_LT ha hl hh).wk fun σ H Q ⟨env, ops, G, r, env', I, e, q⟩ => by
    obtain ⟨⟨ra, ea⟩, h1, e⟩ := bind_some e
    obtain ⟨⟨l, el⟩, h2, e⟩ := bind_some e
    obtain ⟨⟨u, eu⟩, h3, e⟩ := bind_some e
    refine ⟨env, ops, G, ra, ea, I, h1, fun v G1 H1 s1 I1 => ?_⟩
    refine ⟨ea, _, G1, l, el, I1, h2, fun G2 H2 s2 I2 => ?_⟩
    refine ⟨el, _, G2, u, eu, I2, h3, fun G3 H3 s3 I3 => ?_⟩
    have s : Same G G3 := (s1.trans s2).trans s3
    have k : Cont F ops G3 σ r env' Q := fun v G' H' s4 I4 => q v G' H' (s.trans s4) I4
    rw [hK]
    have e : gSl ra l u eu = some (r, env') := e
    unfold gSl at e
    split at e
    · rename_i ds hd
      cases e
      obtain ⟨a, vs, rfl, q1, q2⟩ := I3.lst (r := ra) (v := v) (by simp) (ds := ds) (by unfold R.lst; rw [hd])
      exact .inl (.inl ⟨a, vs, rfl, q1, I3.retL k (cut_dp q2 l u)⟩)
    · rename_i ds hd
      cases e
      obtain ⟨a, vs, rfl, q1, q2⟩ := I3.tup (r := ra) (v := v) (by simp) (ds := ds) (by unfold R.tup; rw [hd])
      refine .inl (.inr ⟨a, vs, rfl, q1, fun z => ?_, fun _ => I3.retT k (cut_dp q2 l u)⟩)
      have e2 : cutD ds l u = ds := by
        unfold cutD
        rw [← dpAll_len q2, z.1, z.2]
        simp [dpAll_len q2]
      refine I3.retV k ?_
      rw [e2]
      -- the tuple itself: its data stands in the stable part
      cases hb : ra.obj env' with
      | none => unfold R.dat at hd; rw [hb] at hd; cases hd
      | some b =>
        have hd' := hd
        unfold R.dat at hd'; rw [hb] at hd'
        cases b with
        | val d =>
          cases hd'
          exact (I3.obj (v := .ref a) (r := ra) (by simp) hb).1 _ rfl
        | mu o => cases o <;> cases hd'
        | lk o => cases o <;> cases hd'
    · rename_i x hd
      split at e
      · rename_i hz
        cases e
        exact .inr ⟨x, dp_str (I3.dat (r := ra) (v := v) (by simp) hd), hz, I3.retV k (.str _)⟩
      · cases e
    · cases e

/-! ### displays -/
/-- kept as data: what was one's own is given up -/
def keep (r : R) (env : En) : Option (D × En) := match r with
  | .val d => some (d, env)
  | .new (.lst ds) => some (.list ds, env)
  | .bor i => match env[i]?.join with
    | some (.val d) => some (d, env)
    | some (.mu (.lst ds)) => some (.list ds, env.set i (some (.val (.list ds))))
    | _ => none
  | _ => none
end ML

/-! ML4: what is kept; displays; calls of built-ins by name; methods. -/
namespace ML
open PySem PySem.Spec PyProof.Rows L2

section
variable {F : Fr} {env env' : En} {ops ps : Ops} {G G' H H' : Hp} {σ : St} {v : V} {r : R} {d : D} {Q : VK}
theorem ix_mid (env : En) (o1 o2 : Ops) (v : V) (r r' : R) : ix env (o1 ++ (v, r') :: o2) = fun k => if k = .inr o1.length then r'.toB else ix env (o1 ++ (v, r) :: o2) k := by
  funext k
  cases k with
  | inl i => simp [ix]
  | inr n =>
    by_cases h : n = o1.length
    · subst h; simp [ix]
    · simp only [ix, Sum.inr.injEq, h, if_false]
      by_cases h2 : n < o1.length
      · rw [List.getElem?_append_left h2, List.getElem?_append_left h2]
      · rw [List.getElem?_append_right (by omega), List.getElem?_append_right (by omega)]
        have : n - o1.length = (n - o1.length - 1) + 1 := by omega
        rw [this, List.getElem?_cons_succ, List.getElem?_cons_succ]
theorem ixv_mid (σ : St) (o1 o2 : Ops) (v : V) (r r' : R) : ixv σ (o1 ++ (v, r') :: o2) = ixv σ (o1 ++ (v, r) :: o2) := by
  funext k
  cases k with
  | inl i => rfl
  | inr n =>
    simp only [ixv]
    by_cases h2 : n < o1.length
    · rw [List.getElem?_append_left h2, List.getElem?_append_left h2]
    · rw [List.getElem?_append_right (by omega), List.getElem?_append_right (by omega)]
      cases n - o1.length <;> rfl
theorem mem_mid {o1 o2 : Ops} {p q x : V × R} (h : x ∈ o1 ++ p :: o2) : x = p ∨ x ∈ o1 ++ q :: o2 := by
  simp only [List.mem_append, List.mem_cons] at h ⊢
  rcases h with h | h | h
  · exact .inr (.inl h)
  · exact .inl h
  · exact .inr (.inr (.inr h))
/-- one operand becomes data -/
theorem RepS.keep {o1 o2 : Ops} (I : RepS F env (o1 ++ (v, r) :: o2) G σ H) (e : keep r env = some (d, env')) : ∃ G', Same G G' ∧ RepS F env' (o1 ++ (v, .val d) :: o2) G' σ H := by
  have setV : ∀ {G' : Hp} {en : En}, RepS F en (o1 ++ (v, r) :: o2) G' σ H → Dp F.K G' v d → RepS F en (o1 ++ (v, .val d) :: o2) G' σ H := fun {G' en} J hd => by
    refine ⟨?_, fun w q h => ?_, J.len⟩
    · have J1 := J.rep.addV (j := .inr o1.length) (d := d) (v := v) (fun z => z) hd
      rw [ix_mid en o1 o2 v r (.val d), ixv_mid σ o1 o2 v r (.val d)]
      have e1 : (fun k => if k = Sum.inr o1.length then some v else ixv σ (o1 ++ (v, r) :: o2) k) = ixv σ (o1 ++ (v, r) :: o2) := by
        funext k
        by_cases hk : k = .inr o1.length
        · subst hk; simp [ixv]
        · simp [hk]
      rw [e1] at J1
      exact J1
    · rcases mem_mid (q := (v, r)) h with h | h
      · cases h; trivial
      · exact J.opr w q h
  unfold ML.keep at e
  split at e
  · cases e
    exact ⟨G, Same.refl _, I⟩
  · rename_i ds
    cases e
    obtain ⟨G', s, J⟩ := I.rep.freeze (j := .inr o1.length) (b := .mu (.lst ds)) (ds := ds) (by simp [ix, R.toB]) rfl
    refine ⟨G', s, ?_, fun w q h => ?_, I.len⟩
    · rw [ix_mid env o1 o2 v (.new (.lst ds)) (.val (.list ds)), ixv_mid σ o1 o2 v (.new (.lst ds)) (.val (.list ds))]
      exact J
    · rcases mem_mid (q := (v, R.new (.lst ds))) h with h | h
      · cases h; trivial
      · exact I.opr w q h
  · rename_i i
    split at e
    · rename_i d' hi
      cases e
      have hd := (I.obj (v := v) (r := .bor i) (by simp) (b := .val d) hi).1 d rfl
      exact ⟨G, Same.refl _, setV I hd⟩
    · rename_i ds hi
      cases e
      obtain ⟨G', s, J⟩ := I.rep.freeze (j := .inl i) (b := .mu (.lst ds)) (ds := ds) (by simp [ix, hi]) rfl
      have hσ : σ[i]? = some (some v) := (show σ[i]? = some (some v) ∧ F.cv i = false from I.opr v (.bor i) (by simp)).1
      have hl : i < env.length := by
        rw [← I.len]; exact (List.getElem?_eq_some_iff.mp hσ).1
      have J2 : RepS F (env.set i (some (.val (.list ds)))) (o1 ++ (v, .bor i) :: o2) G' σ H := by
        refine ⟨?_, fun w q h => ?_, by rw [List.length_set]; exact I.len⟩
        · rw [ix_set _ _ _ _ hl]; exact J
        · have q1 := I.opr w q h
          cases q with
          | lkd j o =>
            obtain ⟨q2, q3⟩ := q1
            refine ⟨q2, ?_⟩
            by_cases hj : j = i
            · subst hj; rw [hi] at q3; cases q3
            · rw [List.getElem?_set_ne (Ne.symm hj)]; exact q3
          | bor j => exact q1
          | val d => trivial
          | new o => trivial
      have hd : Dp F.K G' v (.list ds) := (J2.obj (v := v) (r := .bor i) (by simp) (b := .val (.list ds)) (by simp [R.obj, hl])).1 _ rfl
      refine ⟨G', s, ?_, fun w q h => ?_, J2.len⟩
      · have J3 := J2.rep.addV (j := .inr o1.length) (d := .list ds) (v := v) (fun z => z) hd
        rw [ix_mid _ o1 o2 v (.bor i) (.val (.list ds)), ixv_mid σ o1 o2 v (.bor i) (.val (.list ds))]
        have e1 : (fun k => if k = Sum.inr o1.length then some v else ixv σ (o1 ++ (v, R.bor i) :: o2) k) = ixv σ (o1 ++ (v, R.bor i) :: o2) := by
          funext k
          by_cases hk : k = .inr o1.length
          · subst hk; simp [ixv]
          · simp [hk]
        rw [e1] at J3
        exact J3
      · rcases mem_mid (q := (v, R.bor i)) h with h | h
        · cases h; trivial
        · exact J2.opr w q h
    · cases e
  · cases e
def keepAll : List R → En → Option (List D × En)
  | [], env => some ([], env)
  | r :: rs, env => (keep r env).bind fun p => (keepAll rs p.2).map fun q => (p.1 :: q.1, q.2)
def vals : Ops → List D → Ops
  | (v, _) :: ps, d :: ds => (v, .val d) :: vals ps ds
  | _, _ => []
theorem RepS.keeps : ∀ {ps o1 o2 : Ops} {env env' : En} {G : Hp} {ds : List D}, RepS F env (o1 ++ (ps ++ o2)) G σ H → keepAll (ps.map (·.2)) env = some (ds, env') → ∃ G', Same G G' ∧ RepS F env' (o1 ++ (vals ps ds ++ o2)) G' σ H ∧ DpAll F.K G' (ps.map (·.1)) ds
  | [], o1, o2, env, env', G, ds, I, e => by
    cases e
    exact ⟨G, Same.refl _, I, .nil⟩
  | (v, r) :: ps, o1, o2, env, env', G, ds, I, e => by
    obtain ⟨⟨d, e1⟩, h1, h2⟩ := bind_some e
    obtain ⟨⟨ds', e2⟩, h3, h4⟩ := omap_some h2
    cases h4
    obtain ⟨G1, s1, I1⟩ := RepS.keep (o1 := o1) (o2 := ps ++ o2) I h1
    obtain ⟨G2, s2, I2, a2⟩ := RepS.keeps (ps := ps) (o1 := o1 ++ [(v, .val d)]) (o2 := o2) (by simpa using I1) h3
    refine ⟨G2, s1.trans s2, by simpa [vals] using I2, .cons ?_ a2⟩
    exact (I2.obj (v := v) (r := .val d) (by simp) (b := .val d) rfl).1 d rfl
theorem RepS.keeps0 {ds : List D} (I : RepS F env (ops ++ ps) G σ H) (e : keepAll (ps.map (·.2)) env = some (ds, env')) : ∃ G', Same G G' ∧ RepS F env' ops G' σ H ∧ DpAll F.K G' (ps.map (·.1)) ds := by
  obtain ⟨G', s, J, a⟩ := RepS.keeps (ps := ps) (o1 := ops) (o2 := []) (by simpa using I) e
  exact ⟨G', s, J.pop, a⟩
end

section
variable {X : Cx} {F : Fr} {pos : Pos} {e : Expr} {es : List Expr}
def eTup (f : FA) : FE := fun env => (f env).bind fun p => (keepAll p.1 p.2).bind fun q => if q.1.length ≤ sizeLine then some (.val (.tuple q.1), q.2) else none
def eLst (f : FA) : FE := fun env => (f env).bind fun p => (keepAll p.1 p.2).bind fun q => if q.1.length ≤ sizeLine then some (.new (.lst q.1), q.2) else none
theorem me_tup {k} {f : FA} (h : PA X es (tA F f)) : PE X (.Tuple es k pos) (tE F (eTup f)) := (pe_tupF h).wk fun σ H Q ⟨env, ops, G, r, env', I, e, q⟩ => by
  obtain ⟨⟨rs, e1⟩, h1, e⟩ := bind_some e
  obtain ⟨⟨ds, e2⟩, h2, e⟩ := bind_some e
  split at e
  · rename_i hl
    cases e
    refine ⟨env, ops, G, rs, e1, I, h1, fun ps G1 H1 hp s1 I1 => ?_⟩
    subst hp
    obtain ⟨G2, s2, I2, a2⟩ := I1.keeps0 h2
    refine ⟨by rw [dpAll_len a2]; exact hl, fun p q' hq' hp => ?_⟩
    obtain ⟨G3, s3, I3⟩ := I2.pushT hq' hp a2
    exact q _ G3 _ ((s1.trans s2).trans s3) I3
  · cases e
theorem me_lst {f : FA} (h : PA X es (tA F f)) : PE X (.List es pos) (tE F (eLst f)) := (pe_lst h).wk fun σ H Q ⟨env, ops, G, r, env', I, e, q⟩ => by
  obtain ⟨⟨rs, e1⟩, h1, e⟩ := bind_some e
  obtain ⟨⟨ds, e2⟩, h2, e⟩ := bind_some e
  split at e
  · rename_i hl
    cases e
    refine ⟨env, ops, G, rs, e1, I, h1, fun ps G1 H1 hp s1 I1 => ?_⟩
    subst hp
    obtain ⟨G2, s2, I2, a2⟩ := I1.keeps0 h2
    refine ⟨by rw [dpAll_len a2]; exact hl, fun p hp => ?_⟩
    exact q _ G2 _ (s1.trans s2) (I2.pushN (u := .lst ds) hp ⟨_, upd_same, a2⟩)
  · cases e

/-! ### calls of built-ins -/
def eN (g : GN) (f : FA) : FE := fun env => (f env).bind fun p => g p.1 p.2
theorem tE_call {rn : List V → Hp → VK → Prop} {g : GN} {f : FA} (hg : SN F rn g) (σ : St) (H : Hp) (Q : VK) (h : tE F (eN g f) σ H Q) : tCB rn (tA F f) σ H Q := by
  obtain ⟨env, ops, G, r, env', I, e, q⟩ := h
  obtain ⟨⟨rs, e1⟩, h1, h2⟩ := bind_some e
  refine ⟨env, ops, G, rs, e1, I, h1, fun ps G1 H1 hp s1 I1 => ?_⟩
  subst hp
  exact hg e1 ops ps G1 σ H1 r env' Q I1 h2 fun v G' H' s2 I2 => q v G' H' (s1.trans s2) I2
theorem me_callB {rn : List V → Hp → VK → Prop} {g : GN} {f : FA} {id : String} {x : Str} {p : Pos} (hc : CallR X (.builtin id) rn) (hg : SN F rn g) (hG : Gl X x) (hm : X.mg x = none) (hv : bootBuiltins x = some (.builtin id)) (ha : PA X (e :: es) (tA F f)) (hn : x ≠ "__name__" := by decide) (hdb : (x == ("__debug__" : Str)) = false := by decide)
    (he : starEach (e :: es) X.env = (false, eval e X.env) :: starEach es X.env := by rfl) (hpl : (backTo pos (starEach es X.env)).any (·.1) = false := by rfl) : PE X (.Call (.Name x p) (e :: es) [] pos) (tE F (eN g f)) :=
  (pe_callB hc hG hm hv ha hn hdb he hpl).wk (tE_call hg)
theorem me_callTy {rn : List V → Hp → VK → Prop} {g : GN} {f : FA} {T : String} {x : Str} {p : Pos} (hc : CallR X (.type T) rn) (hg : SN F rn g) (hG : Gl X x) (hm : X.mg x = none) (hv : bootBuiltins x = some (.type T)) (ha : PA X (e :: es) (tA F f)) (hn : x ≠ "__name__" := by decide) (hdb : (x == ("__debug__" : Str)) = false := by decide)
    (he : starEach (e :: es) X.env = (false, eval e X.env) :: starEach es X.env := by rfl) (hpl : (backTo pos (starEach es X.env)).any (·.1) = false := by rfl) : PE X (.Call (.Name x p) (e :: es) [] pos) (tE F (eN g f)) :=
  (pe_callTy hc hG hm hv ha hn hdb he hpl).wk (tE_call hg)
/-- a method: the receiver's kind is looked at as it comes -/
def eM (chk : R → En → Bool) (g : GL) (fo : FE) (f : FA) : FE := fun env => (fo env).bind fun p => if chk p.1 p.2 = true then (f p.2).bind fun q => g p.1 q.1 q.2 else none
def SChk (F : Fr) (T : String) (chk : R → En → Bool) : Prop := ∀ env ops x r G σ H, RepS F env (ops ++ [(x, r)]) G σ H → chk r env = true → tyV F.K T x H
theorem tE_meth {T : String} {chk : R → En → Bool} {rm : V → List V → Hp → VK → Prop} {g : GL} {fo : FE} {f : FA} (hk : SChk F T chk) (hg : SM F rm g) (σ : St) (H : Hp) (Q : VK) (h : tE F (eM chk g fo f) σ H Q) : tBM F.K T rm (tE F fo) (tA F f) σ H Q := by
  obtain ⟨env, ops, G, r, env', I, e, q⟩ := h
  obtain ⟨⟨ro, e1⟩, h1, e⟩ := bind_some e
  split at e
  · rename_i hc
    obtain ⟨⟨rs, e2⟩, h2, h3⟩ := bind_some e
    refine ⟨env, ops, G, ro, e1, I, h1, fun x G1 H1 s1 I1 => ?_⟩
    refine ⟨hk _ _ _ _ _ _ _ I1 hc, ?_⟩
    refine ⟨e1, _, G1, rs, e2, I1, h2, fun ps G2 H2 hp s2 I2 => ?_⟩
    subst hp
    exact hg e2 ops x ro ps G2 σ H2 r env' Q (by simpa using I2) h3 fun v G' H' s3 I3 => q v G' H' ((s1.trans s2).trans s3) I3
  · cases e
def chkL (r : R) (env : En) : Bool := (r.lst env).isSome
def chkO : Option B → Bool
  | some (.mu (.dK _)) => true
  | _ => false
def chkD (r : R) (env : En) : Bool := chkO (r.obj env)
def chkS (r : R) (env : En) : Bool := r.str.isSome
theorem s_chkL : SChk F "list" chkL := fun env ops x r G σ H I h => by
  obtain ⟨ds, e⟩ := Option.isSome_iff_exists.mp h
  obtain ⟨a, vs, rfl, q1, _⟩ := I.lst (r := r) (v := x) (by simp) e
  exact .inl ⟨rfl, vs, q1⟩
/-! ### len, list, tuple, all, any, min -/
theorem map1 {ps : Ops} {r : R} (h : ps.map (·.2) = [r]) : ∃ v, ps = [(v, r)] := by
  match ps, h with
  | [(v, r')], h => simp at h; subst h; exact ⟨v, rfl⟩
theorem map2 {ps : Ops} {r s : R} (h : ps.map (·.2) = [r, s]) : ∃ v w, ps = [(v, r), (w, s)] := by
  match ps, h with
  | [(v, r'), (w, s')], h => simp at h; obtain ⟨rfl, rfl⟩ := h; exact ⟨v, w, rfl⟩
def n1 (g : R → En → Option (R × En)) : GN := fun rs env => match rs with | [r] => g r env | _ => none
def n2 (g : R → R → En → Option (R × En)) : GN := fun rs env => match rs with | [r, s] => g r s env | _ => none
theorem sn1 {rn : List V → Hp → VK → Prop} {g : R → En → Option (R × En)} (h : ∀ env ops x ra G σ H r env' Q, RepS F env (ops ++ [(x, ra)]) G σ H → g ra env = some (r, env') → Cont F ops G σ r env' Q → rn [x] H Q) : SN F rn (n1 g) := by
  intro env ops ps G σ H r env' Q I e k
  unfold n1 at e
  split at e
  · rename_i ra hp
    obtain ⟨x, rfl⟩ := map1 hp
    exact h env ops x ra G σ H r env' Q I e k
  · cases e
theorem sn2 {rn : List V → Hp → VK → Prop} {g : R → R → En → Option (R × En)} (h : ∀ env ops x y ra rb G σ H r env' Q, RepS F env (ops ++ [(x, ra), (y, rb)]) G σ H → g ra rb env = some (r, env') → Cont F ops G σ r env' Q → rn [x, y] H Q) : SN F rn (n2 g) := by
  intro env ops ps G σ H r env' Q I e k
  unfold n2 at e
  split at e
  · rename_i ra rb hp
    obtain ⟨x, y, rfl⟩ := map2 hp
    exact h env ops x y ra rb G σ H r env' Q I e k
  · cases e
def rLenA (K : PySem.W.Frag) : List V → Hp → VK → Prop := fun xs H Q => (∃ x n, xs = [x] ∧ LenV K x H n ∧ Q (.int n) H) ∨ ∃ a kvs, xs = [.ref a] ∧ Rd H a (.dK kvs) ∧ Q (.int kvs.length) H
theorem call_lenA : CallR X (.builtin "len") (rLenA X.K) := by
  intro pins s σ H xs us Q I r h
  rcases h with h | ⟨a, kvs, rfl, e, q⟩
  · exact call_len pins s σ H xs us Q I r h
  · rw [Vals.ref1 r]
    exact d_len I e fun t s' I' => ⟨.int kvs.length, H, I', ⟨t, rfl⟩, q⟩
def gLen : GN := n1 fun r env => match r.dat env with
  | some (.list ds) => some (.val (.int ds.length), env)
  | some (.tuple ds) => some (.val (.int ds.length), env)
  | some (.str x) => if x.length ≤ sizeLine then some (.val (.int x.length), env) else none
  | some _ => none
  | none => (r.dk env).map fun kvs => (.val (.int kvs.length), env)
theorem kvr_len {K : PySem.W.Frag} {G : Hp} : ∀ {ws : List (Key × V)} {kvs : List (Key × D)}, KVr K G ws kvs → ws.length = kvs.length
  | _, _, .nil => rfl
  | _, _, .cons _ t => congrArg (· + 1) (kvr_len t)
theorem s_len : SN F (rLenA F.K) gLen := sn1 fun env ops x ra G σ H r env' Q I e k => by
  split at e
  · rename_i ds h
    cases e
    obtain ⟨a, vs, rfl, q1, q2⟩ := I.lst (r := ra) (v := x) (by simp) (ds := ds) (by unfold R.lst; rw [h])
    exact .inl ⟨_, _, rfl, .inl ⟨vs, q1, rfl⟩, by rw [dpAll_len q2]; exact I.retV k (.int _)⟩
  · rename_i ds h
    cases e
    obtain ⟨a, vs, rfl, q1, q2⟩ := I.tup (r := ra) (v := x) (by simp) (ds := ds) (by unfold R.tup; rw [h])
    exact .inl ⟨_, _, rfl, .inr ⟨vs, q1, rfl⟩, by rw [dpAll_len q2]; exact I.retV k (.int _)⟩
  · rename_i z h
    split at e
    · rename_i hz
      cases e
      obtain rfl := dp_str (I.dat (r := ra) (v := x) (by simp) h)
      exact .inl ⟨_, _, rfl, ⟨hz, rfl⟩, I.retV k (.int _)⟩
    · cases e
  · cases e
  · obtain ⟨kvs, h1, h2⟩ := omap_some e
    cases h2
    obtain ⟨a, ws, rfl, q1, q2⟩ := I.dk (r := ra) (v := x) (by simp) h1
    exact .inr ⟨a, ws, rfl, q1, by rw [kvr_len q2]; exact I.retV k (.int _)⟩
def seqOf (r : R) (env : En) : Option (List D) := match r.dat env with
  | some (.list ds) => some ds
  | some (.tuple ds) => some ds
  | _ => none
theorem RepS.seq {env : En} {ops : Ops} {G H : Hp} {σ : St} {v : V} {r : R} {ds : List D} (I : RepS F env ops G σ H) (hk : (v, r) ∈ ops) (e : seqOf r env = some ds) : ∃ a vs, v = .ref a ∧ (SqL F.K H a vs ∨ SqT F.K H a vs) ∧ DpAll F.K G vs ds := by
  unfold seqOf at e
  split at e
  · rename_i ds' h
    cases e
    obtain ⟨a, vs, rfl, q1, q2⟩ := I.lst (r := r) (v := v) hk (ds := ds) (by unfold R.lst; rw [h])
    exact ⟨a, vs, rfl, .inl q1, q2⟩
  · rename_i ds' h
    cases e
    obtain ⟨a, vs, rfl, q1, q2⟩ := I.tup (r := r) (v := v) hk (ds := ds) (by unfold R.tup; rw [h])
    exact ⟨a, vs, rfl, .inr q1, q2⟩
  · cases e
def gList : GN := n1 fun r env => (seqOf r env).map fun ds => (.new (.lst ds), env)
theorem s_list : SN F (fun xs H Q => ∃ p ys, xs = [.ref p] ∧ (SqL F.K H p ys ∨ SqT F.K H p ys) ∧ ∀ l, H l = none → Q (.ref l) (upd H l (.lst ys))) gList := sn1 fun env ops x ra G σ H r env' Q I e k => by
  obtain ⟨ds, h1, h2⟩ := omap_some e
  cases h2
  obtain ⟨a, vs, rfl, q1, q2⟩ := I.seq (r := ra) (v := x) (by simp) h1
  exact ⟨a, vs, rfl, q1, I.retL k q2⟩
def gTuple : GN := n1 fun r env => (seqOf r env).map fun ds => (.val (.tuple ds), env)
theorem s_tuple : SN F (fun xs H Q => ∃ p ys, xs = [.ref p] ∧ ((SqL F.K H p ys ∧ L2.tupQ H Q ys) ∨ (SqT F.K H p ys ∧ Q (.ref p) H))) gTuple := sn1 fun env ops x ra G σ H r env' Q I e k => by
  obtain ⟨ds, h1, h2⟩ := omap_some e
  cases h2
  unfold seqOf at h1
  split at h1
  · rename_i ds' h
    cases h1
    obtain ⟨a, vs, rfl, q1, q2⟩ := I.lst (r := ra) (v := x) (by simp) (ds := ds) (by unfold R.lst; rw [h])
    exact ⟨a, vs, rfl, .inl ⟨q1, I.retT k q2⟩⟩
  · rename_i ds' h
    cases h1
    obtain ⟨a, vs, rfl, q1, q2⟩ := I.tup (r := ra) (v := x) (by simp) (ds := ds) (by unfold R.tup; rw [h])
    have hd : Dp F.K G (.ref a) (.tuple ds) := by
      cases hb : ra.obj env with
      | none => unfold R.dat at h; rw [hb] at h; cases h
      | some b =>
        have hd' := h
        unfold R.dat at hd'; rw [hb] at hd'
        cases b with
        | val d =>
          cases hd'
          exact (I.obj (v := .ref a) (r := ra) (by simp) hb).1 _ rfl
        | mu o => cases o <;> cases hd'
        | lk o => cases o <;> cases hd'
    exact ⟨a, vs, rfl, .inr ⟨q1, I.retV k hd⟩⟩
  · cases h1
/-- all are truths -/
def bools : List D → Option (List Bool)
  | [] => some []
  | .bool b :: ds => (bools ds).map (b :: ·)
  | _ => none
theorem bools_eq : ∀ {ds : List D} {bs : List Bool}, bools ds = some bs → ds = bs.map PyData.bool
  | [], bs, h => by cases h; rfl
  | .bool b :: ds, bs, h => by
    obtain ⟨bs', h1, h2⟩ := omap_some (show (bools ds).map (b :: ·) = some bs from h)
    subst h2
    rw [bools_eq h1]; rfl
  | .none :: ds, bs, h => by cases h
  | .int _ :: ds, bs, h => by cases h
  | .str _ :: ds, bs, h => by cases h
  | .list _ :: ds, bs, h => by cases h
  | .tuple _ :: ds, bs, h => by cases h
  | .dict _ :: ds, bs, h => by cases h
def intsOf : List D → Option (List Int)
  | [] => some []
  | .int b :: ds => (intsOf ds).map (b :: ·)
  | _ => none
theorem intsOf_eq : ∀ {ds : List D} {bs : List Int}, intsOf ds = some bs → ds = bs.map PyData.int
  | [], bs, h => by cases h; rfl
  | .int b :: ds, bs, h => by
    obtain ⟨bs', h1, h2⟩ := omap_some (show (intsOf ds).map (b :: ·) = some bs from h)
    subst h2
    rw [intsOf_eq h1]; rfl
  | .none :: ds, bs, h => by cases h
  | .bool _ :: ds, bs, h => by cases h
  | .str _ :: ds, bs, h => by cases h
  | .list _ :: ds, bs, h => by cases h
  | .tuple _ :: ds, bs, h => by cases h
  | .dict _ :: ds, bs, h => by cases h
def gAll : GN := n1 fun r env => (r.lst env).bind fun ds => (bools ds).map fun bs => (.val (.bool (bs.all id)), env)
theorem s_all : SN F (rAll F.K) gAll := sn1 fun env ops x ra G σ H r env' Q I e k => by
  obtain ⟨ds, h1, e⟩ := bind_some e
  obtain ⟨bs, h2, h3⟩ := omap_some e
  cases h3
  obtain ⟨a, vs, rfl, q1, q2⟩ := I.lst (r := ra) (v := x) (by simp) h1
  rw [bools_eq h2] at q2
  rw [dpAll_bls q2] at q1
  exact ⟨a, bs, rfl, q1, I.retV k (.bl _)⟩

/-! ### sorted of intsOf -/
def insI (x : Int) : List Int → List Int
  | [] => [x]
  | y :: r => if x ≤ y then x :: y :: r else y :: insI x r
def isort : List Int → List Int
  | [] => []
  | x :: r => insI x (isort r)
theorem insI_perm (x : Int) : ∀ l : List Int, (insI x l).Perm (x :: l)
  | [] => .refl _
  | y :: r => by
    unfold insI
    split
    · exact .refl _
    · exact ((insI_perm x r).cons y).trans (.swap x y r)
theorem isort_perm : ∀ l : List Int, (isort l).Perm l
  | [] => .refl _
  | x :: r => (insI_perm x _).trans ((isort_perm r).cons x)
theorem insI_sorted (x : Int) : ∀ l : List Int, l.Pairwise (· ≤ ·) → (insI x l).Pairwise (· ≤ ·)
  | [], _ => by simp [insI]
  | y :: r, h => by
    unfold insI
    rw [List.pairwise_cons] at h
    split
    · rename_i hx
      refine List.pairwise_cons.mpr ⟨fun z hz => ?_, List.pairwise_cons.mpr h⟩
      rcases List.mem_cons.mp hz with rfl | hz
      · exact hx
      · exact Int.le_trans hx (h.1 z hz)
    · rename_i hx
      refine List.pairwise_cons.mpr ⟨fun z hz => ?_, insI_sorted x r h.2⟩
      have := (insI_perm x r).mem_iff.mp hz
      rcases List.mem_cons.mp this with rfl | hz
      · omega
      · exact h.1 z hz
theorem isort_sorted : ∀ l : List Int, (isort l).Pairwise (· ≤ ·)
  | [] => .nil
  | x :: r => insI_sorted x _ (isort_sorted r)
theorem isort_of {ns ms : List Int} (h : ns.Perm ms) (s : ns.Pairwise (· ≤ ·)) : ns = isort ms :=
  (h.trans (isort_perm ms).symm).eq_of_pairwise (fun x y _ _ h1 h2 => Int.le_antisymm h1 h2) s (isort_sorted ms)
/-- rising, each once -/
def insU (x : Int) : List Int → List Int
  | [] => [x]
  | y :: r => if x < y then x :: y :: r else if x = y then y :: r else y :: insU x r
def usort : List Int → List Int
  | [] => []
  | x :: r => insU x (usort r)
theorem insU_mem (x z : Int) : ∀ l : List Int, z ∈ insU x l ↔ z = x ∨ z ∈ l
  | [] => by simp [insU]
  | y :: r => by
    unfold insU
    split
    · simp
    · split
      · rename_i h; subst h; simp
      · simp only [List.mem_cons, insU_mem x z r]
        constructor
        · rintro (h | h | h) <;> simp [h]
        · rintro (h | h | h) <;> simp [h]
theorem usort_mem (z : Int) : ∀ l : List Int, z ∈ usort l ↔ z ∈ l
  | [] => by simp [usort]
  | x :: r => by rw [usort, insU_mem, usort_mem z r, List.mem_cons]
theorem insU_sorted (x : Int) : ∀ l : List Int, l.Pairwise (· < ·) → (insU x l).Pairwise (· < ·)
  | [], _ => by simp [insU]
  | y :: r, h => by
    unfold insU
    have h' := List.pairwise_cons.mp h
    split
    · rename_i hx
      refine List.pairwise_cons.mpr ⟨fun z hz => ?_, h⟩
      rcases List.mem_cons.mp hz with rfl | hz
      · exact hx
      · exact Int.lt_trans hx (h'.1 z hz)
    · split
      · exact h
      · rename_i hx hn
        refine List.pairwise_cons.mpr ⟨fun z hz => ?_, insU_sorted x r h'.2⟩
        rcases (insU_mem x z r).mp hz with rfl | hz
        · omega
        · exact h'.1 z hz
theorem usort_sorted : ∀ l : List Int, (usort l).Pairwise (· < ·)
  | [] => .nil
  | x :: r => insU_sorted x _ (usort_sorted r)
theorem rising_eq : ∀ {a b : List Int}, a.Pairwise (· < ·) → b.Pairwise (· < ·) → (∀ x, x ∈ a ↔ x ∈ b) → a = b
  | [], [], _, _, _ => rfl
  | [], y :: b, _, _, h => by have := (h y).mpr (by simp); simp at this
  | x :: a, [], _, _, h => by have := (h x).mp (by simp); simp at this
  | x :: a, y :: b, ha, hb, h => by
    have ha' := List.pairwise_cons.mp ha
    have hb' := List.pairwise_cons.mp hb
    have e : x = y := by
      rcases List.mem_cons.mp ((h x).mp (by simp)) with e | e
      · exact e
      · rcases List.mem_cons.mp ((h y).mpr (by simp)) with e2 | e2
        · exact e2.symm
        · have := ha'.1 y e2
          have := hb'.1 x e
          omega
    subst e
    congr 1
    refine rising_eq ha'.2 hb'.2 fun z => ?_
    have q := h z
    simp only [List.mem_cons] at q
    constructor
    · intro hz
      rcases q.mp (.inr hz) with rfl | h2
      · have := ha'.1 z hz; omega
      · exact h2
    · intro hz
      rcases q.mpr (.inr hz) with rfl | h2
      · have := hb'.1 z hz; omega
      · exact h2
theorem usort_of {ns ms : List Int} (s : ns.Pairwise (· < ·)) (h : ∀ x, x ∈ ns ↔ x ∈ ms) : ns = usort ms :=
  rising_eq s (usort_sorted ms) fun x => by rw [h, usort_mem]
theorem rising_nodup {a : List Int} (h : a.Pairwise (· < ·)) : a.Nodup := List.Pairwise.imp (fun h => Int.ne_of_lt h) h
def keyInts : List (Key × D) → Option (List Int)
  | [] => some []
  | (.inl i, _) :: r => (keyInts r).map (i :: ·)
  | _ => none
theorem keyInts_eq : ∀ {kvs : List (Key × D)} {ns : List Int}, keyInts kvs = some ns → kvs.map (·.1) = ns.map Sum.inl
  | [], ns, h => by cases h; rfl
  | (.inl i, d) :: r, ns, h => by
    obtain ⟨ns', h1, h2⟩ := omap_some (show (keyInts r).map (i :: ·) = some ns from h)
    subst h2
    simp [keyInts_eq h1]
  | (.inr _, _) :: r, ns, h => by cases h
theorem kvr_keys {K : PySem.W.Frag} {G : Hp} : ∀ {ws : List (Key × V)} {kvs : List (Key × D)}, KVr K G ws kvs → ws.map (·.1) = kvs.map (·.1)
  | _, _, .nil => rfl
  | _, _, .cons r t => by simp only [List.map_cons]; rw [kvr_keys t, r.1]
def rSortedA (K : PySem.W.Frag) (w : World) : List V → Hp → VK → Prop := fun xs H Q => (rSortedI K xs H Q ∨ rSortedSet w xs H Q) ∨
  (∃ (a : Addr) (kvs : List (Key × V)) (ks : List Int), xs = [.ref a] ∧ Rd H a (.dK kvs) ∧ kvs.map (·.1) = ks.map Sum.inl ∧ ks.length < 64 ∧ ∀ (ys : List Int) (p : Addr), ys.Perm ks → ys.Pairwise (· ≤ ·) → H p = none → Q (.ref p) (upd H p (.lst (ys.map V.int))))
theorem call_sortedA (hc : X.calm = true) : CallR X (.builtin "sorted") (rSortedA X.K X.w) := (cr_sortedI.or (cr_sortedSet hc)).or (call_sortedDI hc)
def gSorted : GN := n1 fun r env => match r.ownO env with
  | some (.sI ns) => if ns.length < 64 then some (.new (.lst ((usort ns).map .int)), env) else none
  | some (.dK kvs) => (keyInts kvs).bind fun ks => if ks.length < 64 then some (.new (.lst ((isort ks).map .int)), env) else none
  | _ => (r.lst env).bind fun ds => (intsOf ds).map fun ns => (.new (.lst ((isort ns).map .int)), env)
end
end ML

/-! ML5: statements, loops, a def's body, the call of a def. -/
namespace ML
open PySem PySem.Spec PyProof.Rows L2

inductive Fl where
  | nx | bk | ct | rt (r : R)
abbrev FS := En → Option (Fl × En)
def NoBor (ops : Ops) : Prop := ∀ v i, (v, R.bor i) ∉ ops
theorem NoBor.app {a b : Ops} (h : NoBor a) (h' : NoBor b) : NoBor (a ++ b) := fun v i hm => (List.mem_append.mp hm).elim (h v i) (h' v i)
/-- what is wanted behind a statement that ends so -/
def FlOk (F : Fr) (D : Ends) (ops : Ops) (G : Hp) (fl : Fl) (env' : En) : Prop := ∀ σ' G' H', Same G G' → match fl with
  | .nx => RepS F env' ops G' σ' H' → D.nx σ' H'
  | .bk => RepS F env' ops G' σ' H' → D.bk σ' H'
  | .ct => RepS F env' ops G' σ' H' → D.ct σ' H'
  | .rt r => ∀ v, RepS F env' (ops ++ [(v, r)]) G' σ' H' → D.rt v H'
def tS (F : Fr) (f : FS) : TS := fun D σ H => ∃ env ops G fl env', NoBor ops ∧ RepS F env ops G σ H ∧ f env = some (fl, env') ∧ FlOk F D ops G fl env'
theorem FlOk.mono {F : Fr} {D : Ends} {ops : Ops} {G G1 : Hp} {fl : Fl} {env' : En} (h : FlOk F D ops G fl env') (s : Same G G1) : FlOk F D ops G1 fl env' := fun σ' G' H' s' => h σ' G' H' (s.trans s')
section
variable {X : Cx} {F : Fr} {pos : Pos} {e : Expr} {es : List Expr} {st : Stmt} {rest : List Stmt} {f g : FS}

def sNil : FS := fun env => some (.nx, env)
def sSeq (f g : FS) : FS := fun env => (f env).bind fun p => match p.1 with
  | .nx => g p.2
  | fl => some (fl, p.2)
theorem mss_nil : PSs X [] (tS F sNil) := pss_nil.wk fun D σ H ⟨env, ops, G, fl, env', nb, I, e, k⟩ => by
  cases e
  exact k σ G H (Same.refl _) I
theorem mss_one (h : PS X st (tS F f)) : PSs X [st] (tS F f) := pss_one h
theorem mss_cons (h : PS X st (tS F f)) (hr : PSs X rest (tS F g)) : PSs X (st :: rest) (tS F (sSeq f g)) := (pss_cons h hr).wk fun D σ H ⟨env, ops, G, fl, env', nb, I, e, k⟩ => by
  obtain ⟨⟨fl1, e1⟩, h1, h2⟩ := bind_some e
  refine ⟨env, ops, G, fl1, e1, nb, I, h1, fun σ' G' H' s => ?_⟩
  cases fl1 with
  | nx => exact fun I' => ⟨e1, ops, G', fl, env', nb, I', h2, k.mono s⟩
  | bk => cases h2; exact fun I' => k σ' G' H' s I'
  | ct => cases h2; exact fun I' => k σ' G' H' s I'
  | rt r => cases h2; exact fun v I' => k σ' G' H' s v I'
def sBk : FS := fun env => some (.bk, env)
def sIf (t : FT) (f g : FS) : FS := fun env => (t env).bind fun p => if p.1 = true then f p.2 else g p.2
theorem ms_if {c : Expr} {a b : List Stmt} {t : FT} (hc : PT X c (tT F t)) (ha : PSs X a (tS F f)) (hb : PSs X b (tS F g)) : PS X (.If c a b pos) (tS F (sIf t f g)) := (ps_if hc ha hb).wk fun D σ H ⟨env, ops, G, fl, env', nb, I, e, k⟩ => by
  obtain ⟨⟨k1, e1⟩, h1, h2⟩ := bind_some e
  refine ⟨env, ops, G, k1, e1, I, h1, fun G1 H1 s1 I1 => ?_⟩
  cases k1 with
  | true => exact ⟨e1, ops, G1, fl, env', nb, I1, h2, k.mono s1⟩
  | false => exact ⟨e1, ops, G1, fl, env', nb, I1, h2, k.mono s1⟩
def sExpr (f : FE) : FS := fun env => (f env).map fun p => (.nx, p.2)
theorem ms_expr {f : FE} (h : PE X e (tE F f)) (hs : swapsWith e none pos.line X.env = pure false := by rfl) : PS X (.Expr e pos) (tS F (sExpr f)) := (ps_expr h hs).wk fun D σ H ⟨env, ops, G, fl, env', nb, I, e, k⟩ => by
  obtain ⟨⟨r, e1⟩, h1, h2⟩ := omap_some e
  cases h2
  exact ⟨env, ops, G, r, e1, I, h1, fun v G1 H1 s1 I1 => k σ G1 H1 s1 I1.pop⟩
/-- never come to -/
def sNever : FS := fun _ => none
theorem ms_never : PS X st (tS F sNever) := ps_never.wk fun D σ H ⟨env, ops, G, fl, env', nb, I, e, k⟩ => by cases e
/-! ### return -/
def sRet (np : Nat) (f : FE) : FS := fun env => (f env).bind fun p => match p.1 with
  | .val d => some (.rt (.val d), p.2)
  | .new o => some (.rt (.new o), p.2)
  | .bor i => if np ≤ i then (match p.2[i]?.join with
    | some (.mu o) => some (.rt (.new o), p.2.set i none)
    | _ => none) else none
  | _ => none
theorem RepS.move {env : En} {ops : Ops} {G H : Hp} {σ : St} {v : V} {i : Nat} {o : O} (I : RepS F env (ops ++ [(v, .bor i)]) G σ H) (nb : NoBor ops) (hi : env[i]?.join = some (.mu o)) (hp : F.args.length ≤ i) :
    RepS F (env.set i none) (ops ++ [(v, .new o)]) G σ H := by
  have hσ : σ[i]? = some (some v) := (show σ[i]? = some (some v) ∧ F.cv i = false from I.opr v (.bor i) (by simp)).1
  have hl : i < env.length := by
    rw [← I.len]; exact (List.getElem?_eq_some_iff.mp hσ).1
  refine ⟨?_, fun w q hq => ?_, by rw [List.length_set]; exact I.len⟩
  · have npar : ¬ F.par (.inl i) := fun z => by
      have z : i < F.args.length := z
      omega
    rw [ix_snoc, ix_set _ _ _ _ hl, ixv_snoc]
    refine I.rep.re (fun k => if k = .inr ops.length then .inl i else k) (fun k b e => ?_) (fun j j' b b' e e' q => ?_) (fun j w e => ?_)
    · by_cases h1 : k = .inr ops.length
      · simp only [h1, if_true] at e ⊢
        have e : some (B.mu o) = some b := e
        cases e
        exact ⟨by simp [ix, hi], by simp [ixv, hσ], fun z => (npar z).elim⟩
      · simp only [h1, if_false] at e ⊢
        by_cases h2 : k = .inl i
        · simp only [h2, if_true] at e; cases e
        · simp only [h2, if_false] at e
          refine ⟨?_, ?_, id⟩
          · rw [ix_snoc]; simp only [h1, if_false]; exact e
          · rw [ixv_snoc]; simp only [h1, if_false]
    · by_cases h1 : j = .inr ops.length
      · by_cases h2 : j' = .inr ops.length
        · rw [h1, h2]
        · simp only [h1, h2, if_true, if_false] at q e'
          rw [← q] at e'
          simp at e'
      · by_cases h2 : j' = .inr ops.length
        · simp only [h1, h2, if_true, if_false] at q e
          rw [q] at e
          simp at e
        · simp only [h1, h2, if_false] at q; exact q
    · have := I.rep.par j w e
      rw [ixv_snoc] at this
      simpa using this
  · rcases List.mem_append.mp hq with h | h
    · have q1 := I.opr w q (List.mem_append_left _ h)
      cases q with
      | lkd j u =>
        obtain ⟨q2, q3⟩ := q1
        refine ⟨q2, ?_⟩
        by_cases hj : j = i
        · subst hj; rw [hi] at q3; cases q3
        · rw [List.getElem?_set_ne (Ne.symm hj)]; exact q3
      | bor j => exact absurd h (nb w j)
      | val d => trivial
      | new o => trivial
    · simp at h; obtain ⟨rfl, rfl⟩ := h; trivial
theorem ms_ret {np : Nat} {f : FE} (hnp : F.args.length = np) (h : PE X e (tE F f)) : PS X (.Return (some e) pos) (tS F (sRet np f)) := (ps_ret h).wk fun D σ H ⟨env, ops, G, fl, env', nb, I, e, k⟩ => by
  obtain ⟨⟨r, e1⟩, h1, h2⟩ := bind_some e
  refine ⟨env, ops, G, r, e1, I, h1, fun v G1 H1 s1 I1 => ?_⟩
  cases r with
  | val d => cases h2; exact k σ G1 H1 s1 v I1
  | new o => cases h2; exact k σ G1 H1 s1 v I1
  | lkd i o => cases h2
  | bor i =>
    have h2 : (if np ≤ i then (match e1[i]?.join with
      | some (.mu o) => some (Fl.rt (.new o), e1.set i none)
      | _ => none) else none) = some (fl, env') := h2
    split at h2
    · rename_i hp
      split at h2
      · rename_i o ho
        cases h2
        exact k σ G1 H1 s1 v (I1.move nb ho (by omega))
      · cases h2
    · cases h2
/-! ### stores -/
/-- no operand that stands in a slot is left -/
def norm (r : R) (env : En) : Option (R × En) := match r with
  | .val d => some (.val d, env)
  | .new o => some (.new o, env)
  | .bor i => (keep (.bor i) env).map fun p => (.val p.1, p.2)
  | .lkd _ _ => none
def put (np i : Nat) (r : R) (env : En) : Option En := if i < np then none else if i < env.length then (match env[i]?.join with
  | some (.lk _) => none
  | _ => (match r with
    | .val d => some (env.set i (some (.val d)))
    | .new o => some (env.set i (some (.mu o)))
    | _ => none)) else none
theorem RepS.norm {env env' : En} {o1 o2 : Ops} {G H : Hp} {σ : St} {v : V} {r r' : R} (I : RepS F env (o1 ++ (v, r) :: o2) G σ H) (e : norm r env = some (r', env')) : ∃ G', Same G G' ∧ RepS F env' (o1 ++ (v, r') :: o2) G' σ H ∧ (∀ i, r' ≠ .bor i) := by
  unfold ML.norm at e
  cases r with
  | val d => cases e; exact ⟨G, Same.refl _, I, fun i h => nomatch h⟩
  | new o => cases e; exact ⟨G, Same.refl _, I, fun i h => nomatch h⟩
  | lkd i o => cases e
  | bor i =>
    obtain ⟨⟨d, e1⟩, h1, h2⟩ := omap_some e
    cases h2
    obtain ⟨G', s, J⟩ := I.keep h1
    exact ⟨G', s, J, fun i h => nomatch h⟩
/-- the last operand goes to its slot -/
theorem RepS.put {env env' : En} {ops : Ops} {G H : Hp} {σ : St} {v : V} {r : R} {i np : Nat} (I : RepS F env (ops ++ [(v, r)]) G σ H) (hnp : F.args.length = np) (nb : ∀ w, (w, R.bor i) ∉ ops) (e : put np i r env = some env') :
    RepS F env' ops G (σ.set i (some v)) H := by
  unfold ML.put at e
  split at e
  · cases e
  rename_i hp
  split at e
  case isFalse => cases e
  rename_i hl
  have key : (∃ b, r.toB = some b ∧ env' = env.set i (some b)) ∧ ∀ o, env[i]?.join ≠ some (.lk o) := by
    split at e
    · cases e
    · rename_i hk
      refine ⟨?_, fun o z => hk o z⟩
      split at e <;> first | (cases e; exact ⟨_, rfl, rfl⟩) | cases e
  obtain ⟨⟨b, hb, rfl⟩, nlk⟩ := key
  have hlσ : i < σ.length := by rw [I.len]; exact hl
  refine ⟨?_, fun w q hq => ?_, by rw [List.length_set, List.length_set]; exact I.len⟩
  · have npar : ¬ F.par (.inl i) := fun z => by
      have z : i < F.args.length := z
      omega
    rw [ix_set _ _ _ _ hl, ixv_set _ _ _ _ hlσ]
    refine I.rep.re (fun k => if k = .inl i then .inr ops.length else k) (fun k c e => ?_) (fun j j' c c' e e' q => ?_) (fun j w e => ?_)
    · by_cases h1 : k = .inl i
      · subst h1
        simp only [if_true] at e ⊢
        cases e
        exact ⟨by simp [ix, hb], by simp [ixv], fun z => z.elim⟩
      · simp only [h1, if_false] at e ⊢
        have h2 : k ≠ .inr ops.length := by
          rintro rfl
          simp [ix] at e
        refine ⟨?_, ?_, id⟩
        · rw [ix_snoc]; simp only [h2, if_false]; exact e
        · rw [ixv_snoc]; simp only [h2, if_false]
    · have off : ∀ {k : Ix} {c : B}, ¬ k = .inl i → (if k = .inl i then some b else ix env ops k) = some c → k ≠ .inr ops.length := fun {k c} h1 e => by
        rintro rfl
        simp [ix] at e
      by_cases h1 : j = .inl i
      · by_cases h2 : j' = .inl i
        · rw [h1, h2]
        · simp only [h1, h2, if_true, if_false] at q
          exact absurd q.symm (off h2 e')
      · by_cases h2 : j' = .inl i
        · simp only [h1, h2, if_true, if_false] at q
          exact absurd q (off h1 e)
        · simp only [h1, h2, if_false] at q; exact q
    · have hj : j < F.args.length := (List.getElem?_eq_some_iff.mp e).1
      have h1 : (Sum.inl j : Ix) ≠ .inl i := by
        intro z; cases z; omega
      have := I.rep.par j w e
      rw [ixv_snoc] at this
      simp only [h1, if_false]
      simpa using this
  · have q1 := I.opr w q (List.mem_append_left _ hq)
    cases q with
    | lkd j u =>
      obtain ⟨q2, q3⟩ := q1
      have hj : j ≠ i := by
        rintro rfl
        exact nlk u q3
      refine ⟨?_, ?_⟩
      · rw [List.getElem?_set_ne (Ne.symm hj)]; exact q2
      · rw [List.getElem?_set_ne (Ne.symm hj)]; exact q3
    | bor j =>
      have hj : j ≠ i := by
        rintro rfl
        exact nb w hq
      obtain ⟨q2, q3⟩ := q1
      exact ⟨by rw [List.getElem?_set_ne (Ne.symm hj)]; exact q2, q3⟩
    | val d => trivial
    | new o => trivial

/-- name = value -/
def sSet (np i : Nat) (f : FE) : FS := fun env => (f env).bind fun p => (norm p.1 p.2).bind fun q => (put np i q.1 q.2).map fun e => (.nx, e)
theorem ms_set {np i : Nat} {x : Str} {pos' : Pos} {f : FE} (hnp : F.args.length = np) (hN : X.N.Nodup) (hi : X.N[i]? = some x) (hx : Loc X.env.scope x) (h : PE X e (tE F f)) (hs : swapsWith e (some (.Name x pos')) pos.line X.env = pure false := by rfl)
    (hf : X.fn x = true ∨ X.env.scope.names.lookup x = some .local := by first | exact .inl rfl | exact .inr rfl | assumption) : PS X (.Assign [.Name x pos'] e pos) (tS F (sSet np i f)) :=
  (ps_set hN hi hx h hs hf).wk fun D σ H ⟨env, ops, G, fl, env', nb, I, e, k⟩ => by
    obtain ⟨⟨r, e1⟩, h1, e⟩ := bind_some e
    obtain ⟨⟨r', e2⟩, h2, e⟩ := bind_some e
    obtain ⟨e3, h3, h4⟩ := omap_some e
    cases h4
    refine ⟨env, ops, G, r, e1, I, h1, fun v G1 H1 s1 I1 => ?_⟩
    obtain ⟨G2, s2, I2, _⟩ := RepS.norm (o1 := ops) (o2 := []) I1 h2
    exact k _ G2 H1 (s1.trans s2) (RepS.put I2 hnp (fun w => nb w i) h3)

/-! ### targets -/
inductive Tg where
  | nm (i : Nat)
  | tp (ts : List Tg)
mutual
def Tg.slots : Tg → List Nat
  | .nm i => [i]
  | .tp ts => Tg.slotsL ts
def Tg.slotsL : List Tg → List Nat
  | [] => []
  | t :: ts => t.slots ++ Tg.slotsL ts
end
mutual
def setT (np : Nat) : Tg → D → En → Option En
  | .nm i, d, env => put np i (.val d) env
  | .tp ts, .tuple ds, env => setTs np ts ds env
  | .tp _, _, _ => none
def setTs (np : Nat) : List Tg → List D → En → Option En
  | [], [], env => some env
  | t :: ts, d :: ds, env => (setT np t d env).bind fun e => setTs np ts ds e
  | _, _, _ => none
end
def gT (F : Fr) (np : Nat) (t : Tg) : TG := fun v σ H Q => ∃ env ops G d env', (∀ w i, (w, R.bor i) ∈ ops → i ∉ t.slots) ∧ RepS F env (ops ++ [(v, .val d)]) G σ H ∧ setT np t d env = some env' ∧
  ∀ σ', (∀ j, j ∉ t.slots → σ'[j]? = σ[j]?) → σ'.length = σ.length → RepS F env' ops G σ' H → Q σ' H
def gTs (F : Fr) (np : Nat) (ts : List Tg) : TGs := fun vs σ H Q => ∃ env ops G ds env', (∀ w i, (w, R.bor i) ∈ ops → i ∉ Tg.slotsL ts) ∧ RepS F env ops G σ H ∧ DpAll F.K G vs ds ∧ setTs np ts ds env = some env' ∧
  ∀ σ', (∀ j, j ∉ Tg.slotsL ts → σ'[j]? = σ[j]?) → σ'.length = σ.length → RepS F env' ops G σ' H → Q σ' H
theorem _root_.L2.PG.wk {t : Expr} {g g' : TG} (h : PG X t g) (w : ∀ v σ H Q, g' v σ H Q → g v σ H Q) : PG X t g' := ⟨fun pins s σ H v u Q I r q => h.run pins s σ H v u Q I r (w _ _ _ _ q)⟩
theorem _root_.L2.PGs.wk {t : List Expr} {g g' : TGs} (h : PGs X t g) (w : ∀ v σ H Q, g' v σ H Q → g v σ H Q) : PGs X t g' := ⟨fun pins s σ H v u Q I r q => h.run pins s σ H v u Q I r (w _ _ _ _ q)⟩
theorem mg_name {np i : Nat} {x : Str} (hnp : F.args.length = np) (hN : X.N.Nodup) (hi : X.N[i]? = some x) (hx : Loc X.env.scope x) (hf : X.fn x = true ∨ X.env.scope.names.lookup x = some .local := by first | exact .inl rfl | exact .inr rfl | assumption) : PG X (.Name x pos) (gT F np (.nm i)) :=
  (pg_name hN hi hx hf).wk fun v σ H Q ⟨env, ops, G, d, env', nb, I, e, k⟩ => by
    refine k _ (fun j hj => ?_) (by rw [List.length_set]) (I.put hnp (fun w hm => nb w i hm (by simp [Tg.slots])) e)
    rw [List.getElem?_set_ne]
    rintro rfl
    simp [Tg.slots] at hj
theorem mgs_nil {np : Nat} : PGs X [] (gTs F np []) := pgs_nil.wk fun vs σ H Q ⟨env, ops, G, ds, env', nb, I, a, e, k⟩ => by
  cases a with
  | nil => cases e; exact ⟨rfl, k σ (fun _ _ => rfl) rfl I⟩
  | cons _ _ => cases e
theorem mgs_cons {np : Nat} {t : Expr} {ts : List Expr} {g : Tg} {gs : List Tg} (h : PG X t (gT F np g)) (hr : PGs X ts (gTs F np gs)) (hs : (assignEach (t :: ts) X.env).map (·.2) = assign t X.env :: (assignEach ts X.env).map (·.2) := by rfl) : PGs X (t :: ts) (gTs F np (g :: gs)) :=
  (pgs_cons h hr hs).wk fun vs σ H Q ⟨env, ops, G, ds, env', nb, I, a, e, k⟩ => by
    cases a with
    | nil => cases e
    | @cons v vs' d ds' a1 a2 =>
      obtain ⟨e1, h1, h2⟩ := bind_some (show (setT np g d env).bind (fun e => setTs np gs ds' e) = some env' by simpa [setTs] using e)
      refine ⟨v, vs', rfl, env, ops, G, d, e1, fun w i hm z => nb w i hm (by simp [Tg.slotsL, z]), I.pushV a1, h1, fun σ1 s1 l1 I1 => ?_⟩
      refine ⟨e1, ops, G, ds', env', fun w i hm z => nb w i hm (by simp [Tg.slotsL, z]), I1, a2, h2, fun σ2 s2 l2 I2 => k σ2 (fun j hj => ?_) (l2.trans l1) I2⟩
      simp only [Tg.slotsL, List.mem_append, not_or] at hj
      rw [s2 j hj.2, s1 j hj.1]
theorem setTs_len {np : Nat} : ∀ {ts : List Tg} {ds : List D} {env env' : En}, setTs np ts ds env = some env' → ds.length = ts.length
  | [], [], _, _, _ => rfl
  | [], _ :: _, _, _, h => by simp [setTs] at h
  | _ :: _, [], _, _, h => by simp [setTs] at h
  | t :: ts, d :: ds, env, env', h => by
    rw [setTs] at h
    obtain ⟨e1, h1, h2⟩ := bind_some h
    simp [setTs_len h2]
theorem RepS.dtup {env : En} {ops : Ops} {G H : Hp} {σ : St} {v : V} {ds : List D} (I : RepS F env (ops ++ [(v, .val (.tuple ds))]) G σ H) : ∃ a vs, v = .ref a ∧ SqT F.K H a vs ∧ DpAll F.K G vs ds := by
  obtain ⟨a, vs, h1, h2, h3⟩ := dp_tup ((I.obj (v := v) (r := .val (.tuple ds)) (by simp) (b := .val (.tuple ds)) rfl).1 _ rfl)
  exact ⟨a, vs, h1, same_sqT I.same h2, h3⟩
theorem mg_tup {np : Nat} {ts : List Expr} {k : Nat} {gs : List Tg} (hK : X.K = F.K) (hc : X.calm = true) (h : PGs X ts (gTs F np gs)) (hn : (assignEach ts X.env).length = gs.length := by rfl) (hst : (assignEach ts X.env).findIdx? (·.1) = none := by rfl) : PG X (.Tuple ts k pos) (gT F np (.tp gs)) :=
  (pg_tup (n := gs.length) hc h hn hst).wk fun v σ H Q ⟨env, ops, G, d, env', nb, I, e, q⟩ => by
    cases d with
    | tuple ds =>
      rw [setT] at e
      obtain ⟨a, vs, rfl, h2, h3⟩ := I.dtup
      rw [hK]
      refine ⟨a, vs, rfl, h2, by rw [dpAll_len h3, setTs_len e], env, ops, G, ds, env', fun w i hm => ?_, I.pop, h3, e, fun σ' s l I' => q σ' (fun j hj => ?_) l I'⟩
      · have := nb w i hm
        rw [Tg.slots] at this; exact this
      · rw [Tg.slots] at hj; exact s j hj
    | _ => rw [setT] at e; cases e; simp
/-- target = value, by any target -/
def sAsg (np : Nat) (t : Tg) (f : FE) : FS := fun env => (f env).bind fun p => (keep p.1 p.2).bind fun q => (setT np t q.1 q.2).map fun e => (.nx, e)
theorem ms_asg {np : Nat} {tg : Expr} {t : Tg} {f : FE} (h : PE X e (tE F f)) (hg : PG X tg (gT F np t)) (hs : swapsWithSole [tg] e pos.line X.env = pure false := by rfl) (hw : swappedStores [tg] e X.env = pure none := by rfl)
    (h1 : (assignEach [tg] X.env).map (·.2) = [assign tg X.env] := by rfl) : PS X (.Assign [tg] e pos) (tS F (sAsg np t f)) :=
  (ps_asg h hg hs hw h1).wk fun D σ H ⟨env, ops, G, fl, env', nb, I, e, k⟩ => by
    obtain ⟨⟨r, e1⟩, h1, e⟩ := bind_some e
    obtain ⟨⟨d, e2⟩, h2, e⟩ := bind_some e
    obtain ⟨e3, h3, h4⟩ := omap_some e
    cases h4
    refine ⟨env, ops, G, r, e1, I, h1, fun v G1 H1 s1 I1 => ?_⟩
    obtain ⟨G2, s2, I2⟩ := RepS.keep (o1 := ops) (o2 := []) I1 h2
    exact ⟨e2, ops, G2, d, env', fun w i hm => absurd hm (nb w i), I2, h3, fun σ' _ _ I' => k σ' G2 H1 (s1.trans s2) I'⟩

/-! ### a, b = x, y -/
def norms : List R → En → Option (List R × En)
  | [], env => some ([], env)
  | r :: rs, env => (norm r env).bind fun p => (norms rs p.2).map fun q => (p.1 :: q.1, q.2)
def sPar2 (np i j : Nat) (f : FA) : FS := fun env => (f env).bind fun p => (norms p.1 p.2).bind fun q => match q.1 with
  | [r, s] => (put np j s q.2).bind fun e => (put np i r e).map fun e' => (.nx, e')
  | _ => none
def sPar3 (np i j l : Nat) (f : FA) : FS := fun env => (f env).bind fun p => (norms p.1 p.2).bind fun q => match q.1 with
  | [r, s, t] => (put np l t q.2).bind fun e => (put np j s e).bind fun e => (put np i r e).map fun e' => (.nx, e')
  | _ => none
theorem RepS.norms : ∀ {ps o1 : Ops} {env env' : En} {G H : Hp} {σ : St} {rs : List R}, RepS F env (o1 ++ ps) G σ H → norms (ps.map (·.2)) env = some (rs, env') → NoBor o1 → ∃ G' ps', Same G G' ∧ RepS F env' (o1 ++ ps') G' σ H ∧ ps'.map (·.1) = ps.map (·.1) ∧ ps'.map (·.2) = rs ∧ NoBor (o1 ++ ps')
  | [], o1, env, env', G, H, σ, rs, I, e, nb => by
    cases e
    exact ⟨G, [], Same.refl _, I, rfl, rfl, by simpa using nb⟩
  | (v, r) :: ps, o1, env, env', G, H, σ, rs, I, e, nb => by
    obtain ⟨⟨r1, e1⟩, h1, e⟩ := bind_some e
    obtain ⟨⟨rs1, e2⟩, h2, h3⟩ := omap_some e
    cases h3
    obtain ⟨G1, s1, I1, n1⟩ := RepS.norm (o1 := o1) (o2 := ps) I h1
    obtain ⟨G2, ps', s2, I2, m1, m2, n2⟩ := RepS.norms (ps := ps) (o1 := o1 ++ [(v, r1)]) (by simpa using I1) h2 (nb.app fun w i hm => by
      simp at hm; exact n1 i hm.2.symm)
    exact ⟨G2, (v, r1) :: ps', s1.trans s2, by simpa using I2, by simp [m1], by simp [m2], by simpa using n2⟩
theorem nobor_left {a b : Ops} (h : NoBor (a ++ b)) : NoBor a := fun v i hm => h v i (List.mem_append_left _ hm)
theorem ms_par2 {np i j : Nat} {x y : Str} {a b : Expr} {px py pt : Pos} {kt k2 pt2} {f : FA} (hnp : F.args.length = np) (hc : X.calm = true) (hN : X.N.Nodup) (hi : X.N[i]? = some x) (hj : X.N[j]? = some y) (hij : i ≠ j)
    (hx : X.env.scope.names.lookup x = some .local) (hy : X.env.scope.names.lookup y = some .local) (ha : PA X [a, b] (tA F f))
    (hw : swappedStores [.Tuple [.Name x px, .Name y py] kt pt] (.Tuple [a, b] k2 pt2) X.env = pure (some [x, y]))
    (hs : swapsWithSole [.Tuple [.Name x px, .Name y py] kt pt] (.Tuple [a, b] k2 pt2) pos.line X.env = pure false := by rfl) :
    PS X (.Assign [.Tuple [.Name x px, .Name y py] kt pt] (.Tuple [a, b] k2 pt2) pos) (tS F (sPar2 np i j f)) :=
  (ps_par hc hN hi hj hij hx hy ha hw hs).wk fun D σ H ⟨env, ops, G, fl, env', nb, I, e, k⟩ => by
    obtain ⟨⟨rs, e1⟩, h1, e⟩ := bind_some e
    obtain ⟨⟨rs', e2⟩, h2, e⟩ := bind_some e
    split at e
    · rename_i r s hrs
      have hrs : rs' = [r, s] := hrs
      subst hrs
      obtain ⟨e3, h3, e⟩ := bind_some e
      obtain ⟨e4, h4, h5⟩ := omap_some e
      cases h5
      refine ⟨env, ops, G, rs, e1, I, h1, fun ps G1 H1 hp s1 I1 => ?_⟩
      subst hp
      obtain ⟨G2, ps', s2, I2, m1, m2, n2⟩ := RepS.norms I1 h2 nb
      obtain ⟨v, w, rfl⟩ := map2 m2
      refine ⟨v, w, by rw [← m1]; rfl, ?_⟩
      have I2' : RepS F e2 ((ops ++ [(v, r)]) ++ [(w, s)]) G2 σ H1 := by simpa using I2
      have n2' : NoBor ((ops ++ [(v, r)]) ++ [(w, s)]) := by simpa using n2
      have I3 := I2'.put hnp (fun u => nobor_left n2' u j) h3
      have I4 := I3.put hnp (fun u => nb u i) h4
      rw [List.set_comm _ _ (Ne.symm hij)] at I4
      exact k _ G2 H1 (s1.trans s2) I4
    · cases e
theorem map3 {ps : Ops} {r s t : R} (h : ps.map (·.2) = [r, s, t]) : ∃ v w z, ps = [(v, r), (w, s), (z, t)] := by
  match ps, h with
  | [(v, r'), (w, s'), (z, t')], h => simp at h; obtain ⟨rfl, rfl, rfl⟩ := h; exact ⟨v, w, z, rfl⟩
end
end ML

/-! ML6: loops; a def's body; the call of a def. -/
namespace ML
open PySem PySem.Spec PyProof.Rows L2

section
variable {X : Cx} {F : Fr} {pos : Pos} {e : Expr} {es : List Expr} {st : Stmt} {rest : List Stmt} {f g : FS}
theorem ms_par3 {np i j l : Nat} {x y z : Str} {a b c : Expr} {px py pz pt : Pos} {kt k2 pt2} {f : FA} (hnp : F.args.length = np) (hc : X.calm = true) (hN : X.N.Nodup) (hi : X.N[i]? = some x) (hj : X.N[j]? = some y) (hl : X.N[l]? = some z) (hij : i ≠ j) (hil : i ≠ l) (hjl : j ≠ l)
    (hx : X.env.scope.names.lookup x = some .local) (hy : X.env.scope.names.lookup y = some .local) (hz : X.env.scope.names.lookup z = some .local) (ha : PA X [a, b, c] (tA F f))
    (hw : swappedStores [.Tuple [.Name x px, .Name y py, .Name z pz] kt pt] (.Tuple [a, b, c] k2 pt2) X.env = pure (some [x, y, z]))
    (hs : swapsWithSole [.Tuple [.Name x px, .Name y py, .Name z pz] kt pt] (.Tuple [a, b, c] k2 pt2) pos.line X.env = pure false := by rfl) :
    PS X (.Assign [.Tuple [.Name x px, .Name y py, .Name z pz] kt pt] (.Tuple [a, b, c] k2 pt2) pos) (tS F (sPar3 np i j l f)) :=
  (ps_par3 hc hN hi hj hl hij hil hjl hx hy hz ha hw hs).wk fun D σ H ⟨env, ops, G, fl, env', nb, I, e, k⟩ => by
    obtain ⟨⟨rs, e1⟩, h1, e⟩ := bind_some e
    obtain ⟨⟨rs', e2⟩, h2, e⟩ := bind_some e
    split at e
    · rename_i r s t hrs
      have hrs : rs' = [r, s, t] := hrs
      subst hrs
      obtain ⟨e3, h3, e⟩ := bind_some e
      obtain ⟨e4, h4, e⟩ := bind_some e
      obtain ⟨e5, h5, h6⟩ := omap_some e
      cases h6
      refine ⟨env, ops, G, rs, e1, I, h1, fun ps G1 H1 hp s1 I1 => ?_⟩
      subst hp
      obtain ⟨G2, ps', s2, I2, m1, m2, n2⟩ := RepS.norms I1 h2 nb
      obtain ⟨u, v, w, rfl⟩ := map3 m2
      refine ⟨u, v, w, by rw [← m1]; rfl, ?_⟩
      have I2' : RepS F e2 ((ops ++ [(u, r), (v, s)]) ++ [(w, t)]) G2 σ H1 := by simpa using I2
      have n2' : NoBor ((ops ++ [(u, r), (v, s)]) ++ [(w, t)]) := by simpa using n2
      have I3 := I2'.put hnp (fun z => nobor_left n2' z l) h3
      have n3 : NoBor ((ops ++ [(u, r)]) ++ [(v, s)]) := by simpa using nobor_left n2'
      have I3' : RepS F e3 ((ops ++ [(u, r)]) ++ [(v, s)]) G2 (σ.set l (some w)) H1 := by simpa using I3
      have I4 := I3'.put hnp (fun z => nobor_left n3 z j) h4
      have I5 := I4.put hnp (fun z => nb z i) h5
      have e1 : (((σ.set l (some w)).set j (some v)).set i (some u)) = (((σ.set i (some u)).set j (some v)).set l (some w)) := by
        rw [List.set_comm _ _ (Ne.symm hij), List.set_comm (some w) (some u) (Ne.symm hil), List.set_comm (some w) (some v) (Ne.symm hjl)]
      rw [e1] at I5
      exact k _ G2 H1 (s1.trans s2) I5
    · cases e

/-! ### what a loop walks -/
/-- the items, the slot that is locked meanwhile -/
abbrev FI := En → Option ((List D × Option Nat) × En)
def IsIt (F : Fr) (J : It) (xs : List D) (ops ps : Ops) (G0 : Hp) : Prop := ∀ (more : Ops) env G σ H i, Same G0 G → RepS F env ((ops ++ ps) ++ more) G σ H →
  (∀ d, xs[i]? = some d → J.go i H ∧ ∀ x H', J.yld i H x H' → ∃ G', Same G G' ∧ RepS F env (((ops ++ ps) ++ more) ++ [(x, .val d)]) G' σ H') ∧ (xs.length ≤ i → J.stop i H)
/-- what is held beside a loop: the lock -/
def LkP (src : Option Nat) (ops ps : Ops) : Prop := match src with
  | none => True
  | some i => (∃ v o, ps = [(v, .lkd i o)] ∧ ∀ kvs, o ≠ .dK kvs) ∧ ∀ w o, (w, R.lkd i o) ∉ ops
def tI (F : Fr) (f : FI) : TI := fun σ H Q => ∃ env ops G xs src env', RepS F env ops G σ H ∧ f env = some ((xs, src), env') ∧ ∀ ps G' H' J, Same G G' → RepS F env' (ops ++ ps) G' σ H' → NoBor ps → LkP src ops ps → IsIt F J xs ops ps G' → Q J H'
theorem _root_.L2.PI.wk {tg i : Expr} {t t' : TI} (h : PI X tg i t) (w : ∀ σ H Q, t' σ H Q → t σ H Q) : PI X tg i t' := ⟨fun pins s σ H Q I q => h.run pins s σ H Q I (w _ _ _ q)⟩
theorem _root_.L2.PI.or {tg i : Expr} {t t' : TI} (h : PI X tg i t) (h' : PI X tg i t') : PI X tg i (fun σ H Q => t σ H Q ∨ t' σ H Q) := ⟨fun pins s σ H Q I q => q.elim (h.run pins s σ H Q I) (h'.run pins s σ H Q I)⟩
/-- a list or a tuple; a list that stands in a slot is locked -/
def lockR (r : R) (env : En) : Option ((List D × Option Nat) × En) := match r with
  | .val (.list ds) => some ((ds, none), env)
  | .val (.tuple ds) => some ((ds, none), env)
  | .new (.lst ds) => some ((ds, none), env)
  | .bor i => match env[i]?.join with
    | some (.mu (.lst ds)) => some ((ds, some i), env.set i (some (.lk (.lst ds))))
    | some (.lk (.lst ds)) => some ((ds, none), env)
    | _ => none
  | _ => none
def iSeq (f : FE) : FI := fun env => (f env).bind fun p => lockR p.1 p.2
theorem RepS.lockSlot {env : En} {ops : Ops} {G H : Hp} {σ : St} {v : V} {i : Nat} {o : O} (I : RepS F env (ops ++ [(v, .bor i)]) G σ H) (hi : env[i]?.join = some (.mu o)) (ho : ∀ kvs, o ≠ .dK kvs) : RepS F (env.set i (some (.lk o))) (ops ++ [(v, .lkd i o)]) G σ H := by
  have hσ : σ[i]? = some (some v) := (show σ[i]? = some (some v) ∧ F.cv i = false from I.opr v (.bor i) (by simp)).1
  have hl : i < env.length := by
    rw [← I.len]; exact (List.getElem?_eq_some_iff.mp hσ).1
  have I0 := I.pop
  refine ⟨?_, fun w q hq => ?_, by rw [List.length_set]; exact I.len⟩
  · have J := I0.rep.relabel (j := .inl i) (b := .mu o) (b' := .lk o) (u := o) (by simp [ix, hi]) rfl rfl fun a z => (hasB_lkmu ho).mpr z
    rw [ix_snoc, ixv_snoc, ix_set _ _ _ _ hl]
    refine J.re id (fun k b e => ?_) (fun _ _ _ _ _ _ z => z) (fun j w e => by simpa using J.par j w e)
    by_cases h1 : k = .inr ops.length
    · simp only [h1, if_true] at e; cases e
    · simp only [h1, if_false] at e ⊢; exact ⟨e, rfl, id⟩
  · rcases List.mem_append.mp hq with h | h
    · have q1 := I0.opr w q h
      cases q with
      | lkd j u =>
        obtain ⟨q2, q3⟩ := q1
        refine ⟨q2, ?_⟩
        by_cases hj : j = i
        · subst hj; rw [hi] at q3; cases q3
        · rw [List.getElem?_set_ne (Ne.symm hj)]; exact q3
      | bor j => exact q1
      | val d => trivial
      | new o => trivial
    · simp at h
      obtain ⟨rfl, rfl⟩ := h
      exact ⟨hσ, by simp [hl]⟩
theorem isIt_list' {G0 : Hp} {K : PySem.W.Frag} (hK : K = F.K) {a : Addr} {ds : List D} {ops ps : Ops} (h : ∀ env G σ H, RepS F env (ops ++ ps) G σ H → ∃ vs, SqL F.K H a vs ∧ DpAll F.K G vs ds) : IsIt F (Itl K a) ds ops ps G0 := by
  subst hK
  intro more env G σ H i _ I
  obtain ⟨vs, q1, q2⟩ := h env G σ H I.pop
  refine ⟨fun d hd => ?_, fun hl => ⟨vs, q1, by rw [dpAll_len q2]; exact hl⟩⟩
  obtain ⟨v, e1, e2⟩ := dpAll_get q2 hd
  refine ⟨⟨vs, v, q1, e1⟩, fun x H' hy => ?_⟩
  obtain ⟨rfl, hy⟩ := hy
  have := hy vs q1
  rw [e1] at this
  cases this
  exact ⟨G, Same.refl _, I.pushV e2⟩
theorem isIt_tup {G0 : Hp} {K : PySem.W.Frag} (hK : K = F.K) {a : Addr} {ds : List D} {ops ps : Ops} (h : ∀ env G σ H, RepS F env (ops ++ ps) G σ H → ∃ vs, SqT F.K H a vs ∧ DpAll F.K G vs ds) : IsIt F (Itt K a) ds ops ps G0 := by
  subst hK
  intro more env G σ H i _ I
  obtain ⟨vs, q1, q2⟩ := h env G σ H I.pop
  refine ⟨fun d hd => ?_, fun hl => ⟨vs, q1, by rw [dpAll_len q2]; exact hl⟩⟩
  obtain ⟨v, e1, e2⟩ := dpAll_get q2 hd
  refine ⟨⟨vs, v, q1, e1⟩, fun x H' hy => ?_⟩
  obtain ⟨rfl, hy⟩ := hy
  have := hy vs q1
  rw [e1] at this
  cases this
  exact ⟨G, Same.refl _, I.pushV e2⟩
theorem mi_seq {tg l : Expr} {f : FE} (hK : X.K = F.K) (hl : PE X l (tE F f)) : PI X tg l (tI F (iSeq f)) :=
  ((pi_list hl).or (pi_tup hl)).wk fun σ H Q ⟨env, ops, G, xs, src, env', I, e, q⟩ => by
    obtain ⟨⟨r, e1⟩, h1, h2⟩ := bind_some e
    replace h2 : lockR r e1 = some ((xs, src), env') := h2
    clear e
    have go : (∃ ds, r = .val (.tuple ds) ∧ xs = ds ∧ src = none ∧ env' = e1) ∨ (∀ v G1 H1, Same G G1 → RepS F e1 (ops ++ [(v, r)]) G1 σ H1 → ∃ a, v = .ref a ∧ (∃ ys, SqL X.K H1 a ys) ∧ Q (Itl X.K a) H1) := by
      unfold lockR at h2
      split at h2
      · rename_i ds
        cases h2
        refine .inr fun v G1 H1 s1 I1 => ?_
        obtain ⟨a, vs, rfl, q1, q2⟩ := I1.lst (r := .val (.list xs)) (v := v) (by simp) rfl
        refine ⟨a, rfl, ⟨vs, by rw [hK]; exact q1⟩, q _ G1 H1 _ s1 I1 (fun v i hm => by simp at hm) trivial (isIt_list' hK fun env G σ H J => ?_)⟩
        obtain ⟨a', vs', e', q1', q2'⟩ := J.lst (r := .val (.list xs)) (v := .ref a) (by simp) rfl
        cases e'
        exact ⟨vs', q1', q2'⟩
      · rename_i ds
        cases h2
        exact .inl ⟨xs, rfl, rfl, rfl, rfl⟩
      · rename_i ds
        cases h2
        refine .inr fun v G1 H1 s1 I1 => ?_
        obtain ⟨a, vs, rfl, q1, q2⟩ := I1.lst (r := .new (.lst xs)) (v := v) (by simp) rfl
        refine ⟨a, rfl, ⟨vs, by rw [hK]; exact q1⟩, q _ G1 H1 _ s1 I1 (fun v i hm => by simp at hm) trivial (isIt_list' hK fun env G σ H J => ?_)⟩
        obtain ⟨a', vs', e', q1', q2'⟩ := J.lst (r := .new (.lst xs)) (v := .ref a) (by simp) rfl
        cases e'
        exact ⟨vs', q1', q2'⟩
      · rename_i i
        split at h2
        · rename_i ds hi
          cases h2
          refine .inr fun v G1 H1 s1 I1 => ?_
          obtain ⟨a, vs, rfl, q1, q2⟩ := I1.lst (r := .bor i) (v := v) (by simp) (ds := xs) (by simp [R.lst, R.dat, R.obj, hi, B.dat])
          have I2 := I1.lockSlot hi fun _ z => by cases z
          refine ⟨a, rfl, ⟨vs, by rw [hK]; exact q1⟩, q _ G1 H1 _ s1 I2 (fun v i hm => by simp at hm) ⟨⟨_, _, rfl, fun _ z => by cases z⟩, fun w o hm => by
            have q3 := (show σ[i]? = some (some w) ∧ e1[i]?.join = some (.lk o) from I1.opr w (.lkd i o) (by simp [hm])).2
            rw [hi] at q3; cases q3⟩ (isIt_list' hK fun env G σ H J => ?_)⟩
          obtain ⟨a', vs', e', q1', q2'⟩ := J.lst (r := .lkd i (.lst xs)) (v := .ref a) (by simp) rfl
          cases e'
          exact ⟨vs', q1', q2'⟩
        · rename_i ds hi
          cases h2
          refine .inr fun v G1 H1 s1 I1 => ?_
          obtain ⟨a, vs, rfl, q1, q2⟩ := I1.lst (r := .bor i) (v := v) (by simp) (ds := xs) (by simp [R.lst, R.dat, R.obj, hi, B.dat])
          have hσ := (show σ[i]? = some (some (V.ref a)) ∧ F.cv i = false from I1.opr _ (.bor i) (by simp)).1
          have I2 : RepS F env' (ops ++ [(.ref a, .lkd i (.lst xs))]) G1 σ H1 := by
            have I0 := I1.pop
            refine ⟨?_, fun w q hq => ?_, I1.len⟩
            · rw [ix_snoc, ixv_snoc]
              refine I0.rep.re id (fun k b e => ?_) (fun _ _ _ _ _ _ z => z) (fun j w e => by simpa using I0.rep.par j w e)
              by_cases h1 : k = .inr ops.length
              · simp only [h1, if_true] at e; cases e
              · simp only [h1, if_false] at e ⊢; exact ⟨e, rfl, id⟩
            · rcases List.mem_append.mp hq with h | h
              · exact I0.opr w q h
              · simp at h
                obtain ⟨rfl, rfl⟩ := h
                exact ⟨hσ, hi⟩
          refine ⟨a, rfl, ⟨vs, by rw [hK]; exact q1⟩, q _ G1 H1 _ s1 I2 (fun v i hm => by simp at hm) trivial (isIt_list' hK fun env G σ H J => ?_)⟩
          obtain ⟨a', vs', e', q1', q2'⟩ := J.lst (r := .lkd i (.lst xs)) (v := .ref a) (by simp) rfl
          cases e'
          exact ⟨vs', q1', q2'⟩
        · cases h2
      · cases h2
    rcases go with ⟨ds, rfl, rfl, rfl, rfl⟩ | go
    · refine .inr ⟨env, ops, G, _, env', I, h1, fun v G1 H1 s1 I1 => ?_⟩
      obtain ⟨a, vs, rfl, q1, q2⟩ := I1.tup (r := .val (.tuple xs)) (v := v) (by simp) rfl
      refine ⟨a, rfl, ⟨vs, by rw [hK]; exact q1⟩, q _ G1 H1 _ s1 I1 (fun v i hm => by simp at hm) trivial (isIt_tup hK fun env G σ H J => ?_)⟩
      obtain ⟨a', vs', e', q1', q2'⟩ := J.tup (r := .val (.tuple xs)) (v := .ref a) (by simp) rfl
      cases e'
      exact ⟨vs', q1', q2'⟩
    · exact .inl ⟨env, ops, G, r, e1, I, h1, fun v G1 H1 s1 I1 => go v G1 H1 s1 I1⟩
/-- range(n), range(a, b) -/
def rangeD (a b : Int) : List D := (List.range (b - a).toNat).map fun i => .int (a + (i : Nat))
def iRng1 (f : FE) : FI := fun env => (f env).bind fun p => p.1.int.bind fun n => if -(2 ^ 62) ≤ n ∧ n < 2 ^ 62 then some ((rangeD 0 n, none), p.2) else none
def iRng2 (f g : FE) : FI := fun env => (f env).bind fun p => (g p.2).bind fun q => p.1.int.bind fun m => q.1.int.bind fun n => if -(2 ^ 62) ≤ m ∧ m < 2 ^ 62 ∧ -(2 ^ 62) ≤ n ∧ n < 2 ^ 62 then some ((rangeD m n, none), q.2) else none
theorem isIt_range {G0 : Hp} {a b : Int} {ops : Ops} : IsIt F (Itr a (b - a).toNat) (rangeD a b) ops [] G0 := by
  intro more env G σ H i _ I
  refine ⟨fun d hd => ?_, fun hl => ?_⟩
  · unfold rangeD at hd
    rw [List.getElem?_map] at hd
    obtain ⟨j, hj, rfl⟩ := omap_some hd
    obtain ⟨h1, h2⟩ := List.getElem?_eq_some_iff.mp hj
    rw [List.length_range] at h1
    rw [List.getElem_range] at h2
    subst h2
    exact ⟨h1, fun x H' hy => by
      obtain ⟨rfl, rfl⟩ := hy
      exact ⟨G, Same.refl _, I.pushV (.int _)⟩⟩
  · show (b - a).toNat ≤ i
    simpa [rangeD] using hl
theorem mi_range1 {tg a : Expr} {p : Pos} {f : FE} (hg : Gl X "range") (hm : X.mg "range" = none) (ha : PE X a (tE F f)) (hs : starEach [a] X.env = [(false, eval a X.env)] := by rfl) : PI X tg (.Call (.Name "range" p) [a] [] pos) (tI F (iRng1 f)) :=
  (pi_range1 hg hm (ma_cons ha ma_nil hs) hs).wk fun σ H Q ⟨env, ops, G, xs, src, env', I, e, q⟩ => by
    obtain ⟨⟨r, e1⟩, h1, e⟩ := bind_some e
    obtain ⟨n, h2, e⟩ := bind_some e
    split at e
    · rename_i hn
      cases e
      obtain rfl := R.int_eq h2
      refine ⟨env, ops, G, [.val (.int n)], e1, I, show aCons f aNil env = _ by simp [aCons, aNil, h1], fun ps G1 H1 hp s1 I1 => ?_⟩
      obtain ⟨v, rfl⟩ := map1 hp
      have ev := I1.vint (v := v) (i := n) (by simp)
      subst ev
      refine ⟨n, rfl, hn.1, hn.2, ?_⟩
      have := q [] G1 H1 (Itr 0 (n - 0).toNat) s1 (by simpa using I1.pop) (fun v i hm => by simp at hm) trivial isIt_range
      simpa using this
    · cases e
/-! ### for -/
def loopL (step : D → FS) : List D → FS
  | [], env => some (.nx, env)
  | d :: ds, env => (step d env).bind fun p => match p.1 with
    | .nx => loopL step ds p.2
    | .ct => loopL step ds p.2
    | .bk => some (.nx, p.2)
    | .rt r => some (.rt r, p.2)
def unlock (src : Option Nat) (env : En) : En := match src with
  | none => env
  | some i => match env[i]?.join with
    | some (.lk o) => env.set i (some (.mu o))
    | _ => env
def sFor (np : Nat) (fi : FI) (t : Tg) (body : FS) : FS := fun env => (fi env).bind fun p => (loopL (fun d e => (setT np t d e).bind body) p.1.1 p.2).map fun q => (q.1, match q.1 with | .rt _ => q.2 | _ => unlock p.1.2 q.2)
theorem RepS.unlock {env : En} {ops ps : Ops} {G H : Hp} {σ : St} {src : Option Nat} (I : RepS F env (ops ++ ps) G σ H) (nb : NoBor ops) (h : LkP src ops ps) : RepS F (unlock src env) ops G σ H := by
  cases src with
  | none => exact I.pop
  | some i =>
    obtain ⟨⟨v, o, rfl, ho⟩, no⟩ := h
    obtain ⟨hσ, hi⟩ : σ[i]? = some (some v) ∧ env[i]?.join = some (.lk o) := I.opr v (.lkd i o) (by simp)
    have hl : i < env.length := by
      rw [← I.len]; exact (List.getElem?_eq_some_iff.mp hσ).1
    have I0 := I.pop
    unfold ML.unlock
    simp only [hi]
    refine ⟨?_, fun w q hq => ?_, by rw [List.length_set]; exact I.len⟩
    · rw [ix_set _ _ _ _ hl]
      exact I0.rep.relabel (j := .inl i) (b := .lk o) (b' := .mu o) (u := o) (by simp [ix, hi]) rfl rfl (fun a z => (hasB_lkmu ho).mp z) fun kvs z => ho kvs (B.lk.inj z)
    · have q1 := I0.opr w q hq
      cases q with
      | lkd j u =>
        obtain ⟨q2, q3⟩ := q1
        refine ⟨q2, ?_⟩
        have hj : j ≠ i := by
          rintro rfl
          exact no w u hq
        rw [List.getElem?_set_ne (Ne.symm hj)]; exact q3
      | bor j => exact q1
      | val d => trivial
      | new o => trivial
theorem RepS.dropMid {env : En} {ops ps : Ops} {G H : Hp} {σ : St} {v : V} {r : R} (I : RepS F env ((ops ++ ps) ++ [(v, r)]) G σ H) : RepS F env (ops ++ [(v, r)]) G σ H := by
  refine ⟨I.rep.re (fun k => match k with | .inl i => .inl i | .inr k => if k < ops.length then .inr k else .inr (k + ps.length)) (fun k b e => ?_) (fun j j' b b' e e' q => ?_) (fun j w e => ?_), fun w q h => I.opr w q ?_, I.len⟩
  · cases k with
    | inl i => exact ⟨e, rfl, id⟩
    | inr k =>
      simp only
      by_cases h1 : k < ops.length
      · simp only [h1, if_true]
        refine ⟨?_, ?_, id⟩
        · simp only [ix] at e ⊢
          rw [List.getElem?_append_left h1] at e
          rw [List.append_assoc, List.getElem?_append_left h1]; exact e
        · simp only [ixv]
          rw [List.getElem?_append_left h1, List.append_assoc, List.getElem?_append_left h1]
      · simp only [h1, if_false]
        have h2 : (ops ++ [(v, r)])[k]? = ((ops ++ ps) ++ [(v, r)])[k + ps.length]? := by
          rw [List.getElem?_append_right (by omega), List.getElem?_append_right (by simp; omega)]
          congr 1
          simp; omega
        refine ⟨?_, ?_, id⟩
        · simp only [ix] at e ⊢
          rw [← h2]; exact e
        · simp only [ixv]
          rw [h2]
  · cases j with
    | inl i =>
      cases j' with
      | inl i' => exact q
      | inr k' =>
        simp only at q
        split at q <;> cases q
    | inr k =>
      cases j' with
      | inl i' =>
        simp only at q
        split at q <;> cases q
      | inr k' =>
        simp only at q
        have hk : k = k' := by
          split at q <;> split at q <;> (have q' := Sum.inr.inj q; omega)
        rw [hk]
  · exact I.rep.par j w e
  · simp only [List.mem_append] at h ⊢
    rcases h with h | h
    · exact .inl (.inl h)
    · exact .inr h
theorem ms_for {np : Nat} {tg iter : Expr} {body : List Stmt} {fi : FI} {t : Tg} {f : FS} (hp : PassesOwn (model X.prog X.w) X.A X.env X.xe) (hc : X.calm = true) (hi : PI X tg iter (tI F fi)) (hg : PG X tg (gT F np t)) (hb : PSs X body (tS F f))
    (hs : ∀ x, foldedSetIterable iter X.env x = pure x := by intro _; rfl) : PS X (.For tg iter body [] pos) (tS F (sFor np fi t f)) :=
  (ps_for hp hc hi hg hb hs).wk fun D σ H ⟨env, ops, G, fl, env', nb, I, e, k⟩ => by
    obtain ⟨⟨⟨xs, src⟩, e1⟩, h1, e⟩ := bind_some e
    obtain ⟨⟨fl1, e2⟩, h2, h3⟩ := omap_some e
    refine ⟨env, ops, G, xs, src, e1, I, h1, fun ps G1 H1 J s1 I1 nbp lp it => ?_⟩
    refine ⟨fun i m σ H => ∃ en G2, m = xs.length - i ∧ i ≤ xs.length ∧ Same G1 G2 ∧ RepS F en (ops ++ ps) G2 σ H ∧ loopL (fun d e => (setT np t d e).bind f) (xs.drop i) en = some (fl1, e2), ⟨_, e1, G1, rfl, Nat.zero_le _, Same.refl _, I1, h2⟩, ?_⟩
    rintro i m σ2 H2 ⟨en, G2, rfl, hi, s2, I2, h4⟩
    obtain ⟨go, stop⟩ := it [] en G2 σ2 H2 i s2 (by simpa using I2)
    by_cases hlt : i < xs.length
    · refine .inr ?_
      obtain ⟨go1, go2⟩ := go xs[i] (List.getElem?_eq_getElem hlt)
      rw [List.drop_eq_getElem_cons hlt] at h4
      obtain ⟨⟨fl3, e4⟩, h5, h6⟩ := bind_some h4
      obtain ⟨e3, h7, h8⟩ := bind_some h5
      refine ⟨go1, fun σ' H' => ∃ en G3, Same G1 G3 ∧ RepS F en (ops ++ ps) G3 σ' H' ∧ loopL (fun d e => (setT np t d e).bind f) (xs.drop (i + 1)) en = some (fl1, e2), fun σ' H' ⟨en, G3, s3, I3, h9⟩ => ⟨_, by omega, en, G3, rfl, hlt, s3, I3, h9⟩, fun x H3 hy => ?_⟩
      obtain ⟨G3, s3, I3⟩ := go2 x H3 hy
      simp only [List.append_nil] at I3
      have nb2 : NoBor (ops ++ ps) := nb.app nbp
      refine ⟨en, ops ++ ps, G3, xs[i], e3, fun w j hm => absurd hm (nb2 w j), I3, h7, fun σ' _ _ I4 => ?_⟩
      refine ⟨e3, ops ++ ps, G3, fl3, e4, nb2, I4, h8, fun σ5 G5 H5 s5 => ?_⟩
      have s15 : Same G1 G5 := (s2.trans s3).trans s5
      cases fl3 with
      | nx => exact fun I5 => ⟨e4, G5, s15, I5, h6⟩
      | ct => exact fun I5 => ⟨e4, G5, s15, I5, h6⟩
      | bk =>
        cases h6
        cases h3
        exact fun I5 => k σ5 G5 H5 (s1.trans s15) (I5.unlock nb lp)
      | rt r =>
        cases h6
        cases h3
        exact fun v I5 => k σ5 G5 H5 (s1.trans s15) v I5.dropMid
    · have : i = xs.length := by omega
      subst this
      rw [List.drop_length] at h4
      cases h4
      cases h3
      exact .inl ⟨stop (Nat.le_refl _), k σ2 G2 H2 (s1.trans s2) (I2.unlock nb lp)⟩

/-! ### while -/
def whileL (t : FT) (f : FS) : Nat → FS
  | 0, _ => none
  | n + 1, env => (t env).bind fun p => if p.1 = true then (f p.2).bind fun q => match q.1 with
      | .nx => whileL t f n q.2
      | .ct => whileL t f n q.2
      | .bk => some (.nx, q.2)
      | .rt r => some (.rt r, q.2)
    else some (.nx, p.2)
end
end ML

/-! ML7: a def's body; the call of a def. -/
namespace ML
open PySem PySem.Spec PyProof.Rows L2

/-- a def: from what its arguments are to what it hands back and what they are behind -/
abbrev Fn := List B → Option (R × List B)
def R.out (r : R) : Bool := match r with | .val _ => true | .new _ => true | _ => false
def ixB (bs : List B) : Ix → Option B
  | .inl i => bs[i]?
  | .inr _ => none
def ixR (bs : List B) (r : R) : Ix → Option B
  | .inl i => bs[i]?
  | .inr 0 => r.toB
  | .inr _ => none
def ixV (vs : List V) (v : Option V) : Ix → Option V
  | .inl i => vs[i]?
  | .inr 0 => v
  | .inr _ => none
/-- the promise of a def that does f -/
def spF (K : PySem.W.Frag) (w : World) (n : Nat) (f : Fn) (T : List (Addr × Str) := []) : Sp := fun vs H Q _ => ∃ G bs r bs' bor, vs.length = n ∧ bs.length = n ∧ Rep ⟨K, w, H, G, vs, bor, fun _ => false, T⟩ (ixB bs) (ixV vs none) G H ∧ f bs = some (r, bs') ∧
  ∀ v G' H', r.out = true → bs'.length = n → Rep ⟨K, w, H, G, vs, bor, fun _ => false, T⟩ (ixR bs' r) (ixV vs (some v)) G' H' → Q v H'
theorem Rep.cv {T : List (Addr × Str)} {K : PySem.W.Frag} {w : World} {H0 G0 : Hp} {args : List V} {bor : List Addr} {c c' : Nat → Bool} {L : Ix → Option B} {vs : Ix → Option V} {G H : Hp} (I : Rep ⟨K, w, H0, G0, args, bor, c, T⟩ L vs G H) : Rep ⟨K, w, H0, G0, args, bor, c', T⟩ L vs G H := by
  have h : ∀ a o, hasO ⟨K, w, H0, G0, args, bor, c, T⟩ G H a o → hasO ⟨K, w, H0, G0, args, bor, c', T⟩ G H a o := fun a o z => by cases o <;> exact z
  refine ⟨I.g0, I.sub, I.fr, I.bh, I.bh0, I.gn, I.gp, I.ft, I.tb, I.val, fun i b o e eo => ?_, I.dis, I.par⟩
  obtain ⟨a, h1, h2, h3, h4⟩ := I.own i b o e eo
  exact ⟨a, h1, hasB_of (h a) (fun _ q ws z1 z2 z3 => ⟨q, ws, z1, z2, z3⟩) h2, h3, h4⟩
def allSome : List (Option B) → Option (List B)
  | [] => some []
  | some b :: r => (allSome r).map (b :: ·)
  | none :: _ => none
theorem allSome_get : ∀ {l : List (Option B)} {bs : List B}, allSome l = some bs → l = bs.map some
  | [], bs, h => by cases h; rfl
  | some b :: r, bs, h => by
    obtain ⟨bs', h1, h2⟩ := omap_some (show (allSome r).map (b :: ·) = some bs from h)
    subst h2
    rw [allSome_get h1]; rfl
  | none :: _, bs, h => by cases h
/-- a def's body: np parameters, n names -/
def fnBody (np n : Nat) (body : FS) : Fn := fun bs => (body (bs.map some ++ List.replicate (n - np) none)).bind fun p => (match p.1 with
  | .rt r => if r.out = true then some r else none
  | .nx => some (.val .none)
  | _ => none).bind fun r => (allSome (p.2.take np)).map fun bs' => (r, bs')
section
variable {P : Program} {w : World} {K : PySem.W.Frag} {mg : Str → Option Value} {base : Heap}
/-- what a body's reading has to begin with -/
theorem body_tS {T : List (Addr × Str)} {N : List Str} {np n : Nat} {body : FS} {c : Nat → Bool} {vs : List V} {H : Hp} {Q : VK} {E : XK} (hn : N.length = n) (hle : np ≤ n) (h : spF K w np (fnBody np n body) T vs H Q E) :
    ∃ (G : Hp) (bor : List Addr), vs.length = np ∧ tS ⟨K, w, H, G, vs, bor, c, T⟩ body { nx := fun _ H' => Q .non H', rt := Q } (L2.start N vs) H := by
  obtain ⟨G, bs, r, bs', bor, hl, hbl, I, e, q⟩ := h
  refine ⟨G, bor, hl, ?_⟩
  obtain ⟨⟨fl, env'⟩, h1, e⟩ := bind_some e
  obtain ⟨r', h2, e⟩ := bind_some e
  obtain ⟨bs', h3, h4⟩ := omap_some e
  cases h4
  have I0 : RepS ⟨K, w, H, G, vs, bor, c, T⟩ (bs.map some ++ List.replicate (n - np) none) [] G (L2.start N vs) H := by
    refine ⟨?_, fun w q h => by simp at h, ?_⟩
    · refine (I.cv (c' := c)).re id (fun j b e => ?_) (fun _ _ _ _ _ _ z => z) (fun i v e => ?_)
      · cases j with
        | inr k => simp [ix] at e
        | inl i =>
          simp only [ix] at e
          have hi : i < bs.length := by
            by_cases hi : i < bs.length
            · exact hi
            · rw [List.getElem?_append_right (by simpa using hi), List.getElem?_replicate] at e
              split at e <;> cases e
          rw [List.getElem?_append_left (by simpa using hi), List.getElem?_map] at e
          refine ⟨?_, ?_, id⟩
          · simp only [ixB, id]
            cases hb : bs[i]? with
            | none => rw [hb] at e; cases e
            | some b' => rw [hb] at e; exact e
          · simp only [ixv, ixV, L2.start, id]
            rw [List.getElem?_append_left (by rw [List.length_map]; omega), List.getElem?_map]
            cases vs[i]? <;> rfl
      · have hi : i < vs.length := (List.getElem?_eq_some_iff.mp e).1
        simp only [ixv, L2.start]
        rw [List.getElem?_append_left (by rw [List.length_map]; exact hi), List.getElem?_map, e]
        rfl
    · simp [L2.start]; omega
  refine ⟨_, [], G, fl, env', fun v i h => by simp at h, I0, h1, fun σ' G' H' s' => ?_⟩
  have outs := allSome_get h3
  have fin : ∀ {σ' : St} {G' H' : Hp} {v : V} {ops : Ops} {r : R}, RepS ⟨K, w, H, G, vs, bor, c, T⟩ env' (ops ++ [(v, r)]) G' σ' H' → (∀ i, r ≠ .bor i) → Rep ⟨K, w, H, G, vs, bor, fun _ => false, T⟩ (ixR bs' r) (ixV vs (some v)) G' H' := fun {σ' G' H' v ops r} J nb => by
    refine (J.rep.re (fun k => match k with | .inl i => .inl i | .inr k => .inr ops.length) (fun j b e => ?_) (fun j j' b b' e e' q => ?_) (fun i v e => e)).cv
    · cases j with
      | inl i =>
        have e : bs'[i]? = some b := e
        have h5 : (env'.take np)[i]? = some (some b) := by rw [outs, List.getElem?_map, e]; rfl
        have hi : i < np := by
          have := (List.getElem?_eq_some_iff.mp h5).1
          rw [List.length_take] at this; omega
        rw [List.getElem?_take_of_lt hi] at h5
        refine ⟨by simp [ix, h5], ?_, id⟩
        have hv : i < vs.length := by omega
        have e2 := J.rep.par i (vs[i]'hv) (List.getElem?_eq_getElem hv)
        simp only [ixV]
        rw [e2, List.getElem?_eq_getElem (show i < vs.length by omega)]
      | inr k =>
        cases k with
        | zero =>
          have e : r.toB = some b := e
          exact ⟨by simp [ix, e], by simp [ixv, ixV], fun z => z.elim⟩
        | succ k => simp [ixR] at e
    · cases j with
      | inl i =>
        cases j' with
        | inl i' => exact q
        | inr k => simp at q
      | inr k =>
        cases j' with
        | inl i' => simp at q
        | inr k' =>
          cases k with
          | zero =>
            cases k' with
            | zero => rfl
            | succ k' => simp [ixR] at e'
          | succ k => simp [ixR] at e
  have hlen : ∀ {σ' : St} {G' H' : Hp} {ops : Ops}, RepS ⟨K, w, H, G, vs, bor, c, T⟩ env' ops G' σ' H' → bs'.length = np := fun {σ' G' H' ops} J => by
    have h5 : (env'.take np).length = (bs'.map some).length := congrArg List.length outs
    rw [List.length_map, List.length_take] at h5
    by_cases h0 : np = 0
    · omega
    · have hv : np - 1 < vs.length := by omega
      have e2 := J.rep.par (np - 1) (vs[np - 1]'hv) (List.getElem?_eq_getElem hv)
      have h6 : np - 1 < σ'.length := by
        by_cases h7 : np - 1 < σ'.length
        · exact h7
        · simp only [ixv] at e2
          rw [List.getElem?_eq_none (by omega)] at e2
          cases e2
      have h8 : σ'.length = env'.length := J.len
      omega
  cases fl with
  | nx =>
    cases h2
    refine fun J => q .non G' H' rfl (hlen J) (fin (ops := []) (J.pushV .non) (fun i h => nomatch h))
  | rt r2 =>
    have h2 : (if r2.out = true then some r2 else none) = some r := h2
    split at h2
    case isFalse => cases h2
    rename_i ho
    cases h2
    exact fun v J => q v G' H' ho (hlen J) (fin (ops := []) J (fun i h => by rw [h] at ho; cases ho))
  | bk => cases h2
  | ct => cases h2
end

/-! ### calls -/
def argB (r : R) (env : En) : Option B := match r with
  | .val d => some (.val d)
  | .new o => some (.mu o)
  | .bor i => match env[i]?.join with
    | some (.mu o) => some (.mu o)
    | some (.val d) => some (.val d)
    | _ => none
  | .lkd _ _ => none
def argsB : List R → En → Option (List B)
  | [], _ => some []
  | r :: rs, env => (argB r env).bind fun b => (argsB rs env).map (b :: ·)
def borIx : List R → List Nat
  | [] => []
  | .bor i :: rs => i :: borIx rs
  | _ :: rs => borIx rs
def isMu : Option B → Bool
  | some (.mu _) => true
  | _ => false
def putBack : List R → List B → En → En
  | .bor i :: rs, b :: bs, env => if isMu env[i]?.join = true then putBack rs bs (env.set i (some b)) else putBack rs bs env
  | _ :: rs, _ :: bs, env => putBack rs bs env
  | _, _, env => env
theorem argsB_get : ∀ {rs : List R} {bs : List B} {env : En}, argsB rs env = some bs → bs.length = rs.length ∧ ∀ (j : Nat) (b : B), bs[j]? = some b → ∃ r, rs[j]? = some r ∧ argB r env = some b
  | [], bs, env, h => by cases h; exact ⟨rfl, fun j b e => by simp at e⟩
  | r :: rs, bs, env, h => by
    obtain ⟨b, h1, h2⟩ := bind_some h
    obtain ⟨bs', h3, h4⟩ := omap_some h2
    subst h4
    obtain ⟨l, g⟩ := argsB_get h3
    refine ⟨by simp [l], fun j c e => ?_⟩
    cases j with
    | zero => simp at e; subst e; exact ⟨r, rfl, h1⟩
    | succ j =>
      obtain ⟨r', e1, e2⟩ := g j c (by simpa using e)
      exact ⟨r', by simpa using e1, e2⟩
theorem borIx_mem : ∀ {rs : List R} {i : Nat}, i ∈ borIx rs ↔ ∃ j : Nat, rs[j]? = some (.bor i)
  | [], i => by simp [borIx]
  | r :: rs, i => by
    have ih := borIx_mem (rs := rs) (i := i)
    have st : (∃ j : Nat, (r :: rs)[j]? = some (R.bor i)) ↔ r = .bor i ∨ ∃ j : Nat, rs[j]? = some (R.bor i) := by
      constructor
      · rintro ⟨j, h⟩
        cases j with
        | zero => simp at h; exact .inl h
        | succ j => exact .inr ⟨j, by simpa using h⟩
      · rintro (h | ⟨j, h⟩)
        · exact ⟨0, by simp [h]⟩
        · exact ⟨j + 1, by simpa using h⟩
    rw [st, ← ih]
    cases r with
    | bor k =>
      simp only [borIx, List.mem_cons, R.bor.injEq]
      constructor
      · rintro (h | h)
        · exact .inl h.symm
        · exact .inr h
      · rintro (h | h)
        · exact .inl h.symm
        · exact .inr h
    | val d => simp [borIx]
    | new o => simp [borIx]
    | lkd k o => simp [borIx]
theorem putBack_len : ∀ {rs : List R} {bs : List B} {env : En}, (putBack rs bs env).length = env.length
  | [], _, _ => by simp [putBack]
  | .bor i :: rs, [], _ => by simp [putBack]
  | .bor i :: rs, b :: bs, env => by
    rw [putBack]
    split
    · rw [putBack_len, List.length_set]
    · rw [putBack_len]
  | .val _ :: rs, [], _ => by simp [putBack]
  | .new _ :: rs, [], _ => by simp [putBack]
  | .lkd _ _ :: rs, [], _ => by simp [putBack]
  | .val _ :: rs, b :: bs, env => by rw [putBack]; exact putBack_len; simp
  | .new _ :: rs, b :: bs, env => by rw [putBack]; exact putBack_len; simp
  | .lkd _ _ :: rs, b :: bs, env => by rw [putBack]; exact putBack_len; simp
theorem putBack_off : ∀ {rs : List R} {bs : List B} {env : En} {i : Nat}, (i ∉ borIx rs ∨ isMu env[i]?.join = false) → (putBack rs bs env)[i]? = env[i]?
  | [], _, _, _, _ => by simp [putBack]
  | .bor k :: rs, [], _, _, _ => by simp [putBack]
  | .bor k :: rs, b :: bs, env, i, h => by
    rw [putBack]
    split
    · rename_i hk
      have hne : k ≠ i := by
        rintro rfl
        rcases h with h | h
        · simp [borIx] at h
        · rw [hk] at h; cases h
      rw [putBack_off (h.imp (fun h => by simp [borIx] at h; exact h.2) (fun h => by rw [List.getElem?_set_ne hne]; exact h)), List.getElem?_set_ne hne]
    · exact putBack_off (h.imp (fun h => by simp [borIx] at h; exact h.2) id)
  | .val _ :: rs, [], _, _, _ => by simp [putBack]
  | .new _ :: rs, [], _, _, _ => by simp [putBack]
  | .lkd _ _ :: rs, [], _, _, _ => by simp [putBack]
  | .val _ :: rs, b :: bs, env, i, h => by rw [putBack]; exact putBack_off (h.imp (fun h => by simpa [borIx] using h) id); simp
  | .new _ :: rs, b :: bs, env, i, h => by rw [putBack]; exact putBack_off (h.imp (fun h => by simpa [borIx] using h) id); simp
  | .lkd _ _ :: rs, b :: bs, env, i, h => by rw [putBack]; exact putBack_off (h.imp (fun h => by simpa [borIx] using h) id); simp
theorem putBack_on : ∀ {rs : List R} {bs : List B} {env : En} {i j : Nat} {b : B}, (borIx rs).Nodup → rs[j]? = some (.bor i) → bs[j]? = some b → isMu env[i]?.join = true → (putBack rs bs env)[i]? = some (some b)
  | [], _, _, _, _, _, _, h, _, _ => by simp at h
  | .bor k :: rs, [], _, _, _, _, _, _, h, _ => by simp at h
  | .bor k :: rs, c :: bs, env, i, j, b, nd, h1, h2, h3 => by
    rw [borIx, List.nodup_cons] at nd
    have hl : i < env.length := by
      by_cases hl : i < env.length
      · exact hl
      · rw [List.getElem?_eq_none (by omega)] at h3; cases h3
    rw [putBack]
    cases j with
    | zero =>
      simp at h1 h2
      subst h1; subst h2
      rw [if_pos h3, putBack_off (.inl nd.1)]
      simp [hl]
    | succ j =>
      have hr : rs[j]? = some (.bor i) := by simpa using h1
      have hne : k ≠ i := by
        rintro rfl
        exact nd.1 (borIx_mem.mpr ⟨j, hr⟩)
      split
      · exact putBack_on (j := j) nd.2 hr (by simpa using h2) (by rw [List.getElem?_set_ne hne]; exact h3)
      · exact putBack_on (j := j) nd.2 hr (by simpa using h2) h3
  | .val d :: rs, [], _, _, _, _, _, _, h, _ => by simp at h
  | .new d :: rs, [], _, _, _, _, _, _, h, _ => by simp at h
  | .lkd _ d :: rs, [], _, _, _, _, _, _, h, _ => by simp at h
  | .val d :: rs, c :: bs, env, i, j, b, nd, h1, h2, h3 => by
    cases j with
    | zero => simp at h1
    | succ j => rw [putBack]; exact putBack_on (j := j) (by simpa [borIx] using nd) (by simpa using h1) (by simpa using h2) h3; simp
  | .new d :: rs, c :: bs, env, i, j, b, nd, h1, h2, h3 => by
    cases j with
    | zero => simp at h1
    | succ j => rw [putBack]; exact putBack_on (j := j) (by simpa [borIx] using nd) (by simpa using h1) (by simpa using h2) h3; simp
  | .lkd _ d :: rs, c :: bs, env, i, j, b, nd, h1, h2, h3 => by
    cases j with
    | zero => simp at h1
    | succ j => rw [putBack]; exact putBack_on (j := j) (by simpa [borIx] using nd) (by simpa using h1) (by simpa using h2) h3; simp
def borOf : List V → List B → List Addr
  | .ref a :: vs, b :: bs => if b.own.isSome = true then a :: borOf vs bs else borOf vs bs
  | _ :: vs, _ :: bs => borOf vs bs
  | _, _ => []
theorem borOf_mem {a : Addr} : ∀ {vs : List V} {bs : List B}, a ∈ borOf vs bs ↔ ∃ (j : Nat) (b : B) (o : O), vs[j]? = some (.ref a) ∧ bs[j]? = some b ∧ b.own = some o
  | [], bs => by simp [borOf]
  | v :: vs, [] => by
    have e : borOf (v :: vs) [] = [] := by cases v <;> rfl
    rw [e]
    simp
  | v :: vs, b :: bs => by
    have ih := borOf_mem (a := a) (vs := vs) (bs := bs)
    have st : (∃ (j : Nat) (c : B) (o : O), (v :: vs)[j]? = some (.ref a) ∧ (b :: bs)[j]? = some c ∧ c.own = some o) ↔ (v = .ref a ∧ ∃ o, b.own = some o) ∨ ∃ (j : Nat) (c : B) (o : O), vs[j]? = some (.ref a) ∧ bs[j]? = some c ∧ c.own = some o := by
      constructor
      · rintro ⟨j, c, o, h1, h2, h3⟩
        cases j with
        | zero => simp at h1 h2; subst h2; exact .inl ⟨h1, o, h3⟩
        | succ j => exact .inr ⟨j, c, o, by simpa using h1, by simpa using h2, h3⟩
      · rintro (⟨h, o, h3⟩ | ⟨j, c, o, h1, h2, h3⟩)
        · exact ⟨0, b, o, by simp [h], rfl, h3⟩
        · exact ⟨j + 1, c, o, by simpa using h1, by simpa using h2, h3⟩
    rw [st, ← ih]
    cases v with
    | ref p =>
      rw [borOf]
      cases hb : b.own with
      | none => simp
      | some o => simp [eq_comm]
    | _ => simp [borOf]
end ML

/-! ML8: the call of a def. -/
namespace ML
open PySem PySem.Spec PyProof.Rows L2

section
variable {F : Fr} {env : En} {ops ps : Ops} {G G' H H' : Hp} {σ : St} {v : V} {r : R} {bs bs' : List B}
/-- where argument j stands -/
def plc (ops : Ops) (rs : List R) (j : Nat) : Ix := match rs[j]? with
  | some (.bor i) => .inl i
  | _ => .inr (ops.length + j)
theorem arg_at (I : RepS F env (ops ++ ps) G σ H) (h : argsB (ps.map (·.2)) env = some bs) {j : Nat} {b : B} (hb : bs[j]? = some b) :
    ix env (ops ++ ps) (plc ops (ps.map (·.2)) j) = some b ∧ ∃ w, (ps.map (·.1))[j]? = some w ∧ ixv σ (ops ++ ps) (plc ops (ps.map (·.2)) j) = some w := by
  obtain ⟨hl, hg⟩ := argsB_get h
  obtain ⟨q, h1, h2⟩ := hg j b hb
  rw [List.getElem?_map] at h1
  obtain ⟨⟨w, q'⟩, h3, h4⟩ := omap_some h1
  have h4 : q' = q := h4
  subst h4
  have hp : (ops ++ ps)[ops.length + j]? = some (w, q') := by
    rw [List.getElem?_append_right (by omega), Nat.add_sub_cancel_left]; exact h3
  have hw : (ps.map (·.1))[j]? = some w := by rw [List.getElem?_map, h3]; rfl
  have hr : (ps.map (·.2))[j]? = some q' := by rw [List.getElem?_map, h3]; rfl
  cases q' with
  | val d =>
    have e : plc ops (ps.map (·.2)) j = .inr (ops.length + j) := by unfold plc; rw [hr]
    rw [e]
    cases h2
    exact ⟨by simp only [ix]; rw [hp]; rfl, w, hw, by simp only [ixv]; rw [hp]; rfl⟩
  | new o =>
    have e : plc ops (ps.map (·.2)) j = .inr (ops.length + j) := by unfold plc; rw [hr]
    rw [e]
    cases h2
    exact ⟨by simp only [ix]; rw [hp]; rfl, w, hw, by simp only [ixv]; rw [hp]; rfl⟩
  | lkd i o => cases h2
  | bor i =>
    have e : plc ops (ps.map (·.2)) j = .inl i := by unfold plc; rw [hr]
    rw [e]
    have hσ : σ[i]? = some (some w) := (show σ[i]? = some (some w) ∧ F.cv i = false from I.opr w (.bor i) (by
      exact List.mem_append_right _ (List.mem_of_getElem? h3))).1
    refine ⟨?_, w, hw, by simp [ixv, hσ]⟩
    simp only [ix]
    have h2 : (match env[i]?.join with
      | some (.mu o) => some (.mu o)
      | some (.val d) => some (.val d)
      | _ => none) = some b := h2
    split at h2
    · rename_i o ho; cases h2; exact ho
    · rename_i d hd; cases h2; exact hd
    · cases h2
theorem plc_inj {rs : List R} (nd : (borIx rs).Nodup) {j j' : Nat} (h : plc ops rs j = plc ops rs j') : j = j' := by
  unfold plc at h
  split at h
  · rename_i i h1
    split at h
    · rename_i i' h2
      cases h
      -- the same slot twice
      have key : ∀ {rs : List R} {j j' : Nat}, (borIx rs).Nodup → rs[j]? = some (.bor i) → rs[j']? = some (.bor i) → j = j' := by
        intro rs
        induction rs with
        | nil => intro j j' _ h; simp at h
        | cons r rs ih =>
          intro j j' nd h1 h2
          cases j with
          | zero =>
            simp at h1; subst h1
            rw [borIx, List.nodup_cons] at nd
            cases j' with
            | zero => rfl
            | succ j' => exact absurd (borIx_mem.mpr ⟨j', by simpa using h2⟩) nd.1
          | succ j =>
            cases j' with
            | zero =>
              simp at h2; subst h2
              rw [borIx, List.nodup_cons] at nd
              exact absurd (borIx_mem.mpr ⟨j, by simpa using h1⟩) nd.1
            | succ j' =>
              have nd' : (borIx rs).Nodup := by
                cases r with
                | bor k => rw [borIx, List.nodup_cons] at nd; exact nd.2
                | val d => simpa [borIx] using nd
                | new d => simpa [borIx] using nd
                | lkd k d => simpa [borIx] using nd
              exact congrArg (· + 1) (ih nd' (by simpa using h1) (by simpa using h2))
      exact key nd h1 h2
    · cases h
  · split at h
    · cases h
    · have h := Sum.inr.inj h
      omega
abbrev frOf (F : Fr) (ps : Ops) (bs : List B) (G H : Hp) : Fr := ⟨F.K, F.w, H, G, ps.map (·.1), borOf (ps.map (·.1)) bs, fun _ => false, F.tb⟩
theorem hasO_fr {F1 F2 : Fr} {G H : Hp} {a : Addr} {o : O} (hK : F1.K = F2.K) (hw : F1.w = F2.w) (h : hasO F1 G H a o) : hasO F2 G H a o := by
  obtain ⟨K1, w1, _, _, _, _, _, _⟩ := F1
  obtain ⟨K2, w2, _, _, _, _, _, _⟩ := F2
  have hK : K1 = K2 := hK
  have hw : w1 = w2 := hw
  subst hK; subst hw
  cases o <;> exact h
theorem hasB_fr {F1 F2 : Fr} {G H : Hp} {a : Addr} {b : B} (hK : F1.K = F2.K) (hw : F1.w = F2.w) (h : hasB F1 G H a b) : hasB F2 G H a b :=
  hasB_of (fun o z => hasO_fr hK hw z) (fun _ q ws z1 z2 z3 => ⟨q, ws, z1, z2, by rw [← hK]; exact z3⟩) h
theorem RepS.callIn (I : RepS F env (ops ++ ps) G σ H) (h : argsB (ps.map (·.2)) env = some bs) (nd : (borIx (ps.map (·.2))).Nodup) :
    Rep (frOf F ps bs G H) (ixB bs) (ixV (ps.map (·.1)) none) G H := by
  have own : ∀ (j : Nat) (b : B) (o : O), bs[j]? = some b → b.own = some o → ∃ a, (ps.map (·.1))[j]? = some (.ref a) ∧ hasB F G H a b ∧ noG G a b := fun j b o hb ho => by
    obtain ⟨h1, w, h2, h3⟩ := arg_at I h hb
    obtain ⟨a, e1, e2, e3, _⟩ := I.rep.own _ b o h1 ho
    rw [h3] at e1; cases e1
    exact ⟨a, h2, e2, e3⟩
  have bh : ∀ b ∈ borOf (ps.map (·.1)) bs, ∃ o, H b = some o := fun a ha => by
    obtain ⟨j, b, o, h1, h2, h3⟩ := borOf_mem.mp ha
    obtain ⟨a', e1, e2, _⟩ := own j b o h2 h3
    rw [h1] at e1; cases e1
    exact hasB_some h3 e2
  refine ⟨Same.refl _, I.rep.sub, fun b o e _ _ => e, bh, bh, fun b u e => .inl e, I.rep.gp, fun _ h => h, I.rep.tb, fun i d e => ?_, fun i b o e eo => ?_, fun i j b c o o' a e1 e2 eo eo' h1 h2 => ?_, fun i w e => e⟩
  · cases i with
    | inr k => cases e
    | inl i =>
      obtain ⟨h1, w, h2, h3⟩ := arg_at I h (show bs[i]? = some (.val d) from e)
      obtain ⟨w', e1, e2⟩ := I.rep.val _ d h1
      rw [h3] at e1; cases e1
      exact ⟨w, h2, e2⟩
  · cases i with
    | inr k => cases e
    | inl i =>
      have e : bs[i]? = some b := e
      obtain ⟨a, h1, h2, h3⟩ := own i b o e eo
      exact ⟨a, h1, hasB_fr rfl rfl h2, h3, .inl ⟨(List.getElem?_eq_some_iff.mp h1).1, borOf_mem.mpr ⟨i, b, o, h1, e, eo⟩⟩⟩
  · cases i with
    | inr k => cases e1
    | inl i =>
      cases j with
      | inr k => cases e2
      | inl j =>
        obtain ⟨p1, w1, p2, p3⟩ := arg_at I h (show bs[i]? = some b from e1)
        obtain ⟨q1, w2, q2, q3⟩ := arg_at I h (show bs[j]? = some c from e2)
        have h1 : (ps.map (·.1))[i]? = some (.ref a) := h1
        have h2 : (ps.map (·.1))[j]? = some (.ref a) := h2
        rw [h1] at p2; cases p2
        rw [h2] at q2; cases q2
        rw [plc_inj nd (I.rep.dis _ _ b c o o' a p1 q1 eo eo' p3 q3)]
theorem RepS.callOut (I : RepS F env (ops ++ ps) G σ H) (h : argsB (ps.map (·.2)) env = some bs) (nd : (borIx (ps.map (·.2))).Nodup) (ro : r.out = true) (hl : bs'.length = bs.length)
    (J : Rep (frOf F ps bs G H) (ixR bs' r) (ixV (ps.map (·.1)) (some v)) G' H') : RepS F (putBack (ps.map (·.2)) bs' env) (ops ++ [(v, r)]) G' σ H' := by
  obtain ⟨hal, hag⟩ := argsB_get h
  have len : (putBack (ps.map (·.2)) bs' env).length = env.length := putBack_len
  -- what stands behind in a slot: as it was, or put back
  have slot : ∀ i, (putBack (ps.map (·.2)) bs' env)[i]? = env[i]? ∨ ∃ (j : Nat) (b : B) (w : V) (o : O), bs'[j]? = some b ∧ (ps.map (·.1))[j]? = some w ∧ ixv σ (ops ++ ps) (.inl i) = some w ∧ (putBack (ps.map (·.2)) bs' env)[i]? = some (some b) ∧ env[i]?.join = some (.mu o) ∧ bs[j]? = some (.mu o) ∧ plc ops (ps.map (·.2)) j = .inl i := fun i => by
    by_cases hm : i ∈ borIx (ps.map (·.2))
    · cases hmu : isMu env[i]?.join with
      | false => exact .inl (putBack_off (.inr hmu))
      | true =>
        obtain ⟨j, hj⟩ := borIx_mem.mp hm
        have hjl : j < bs.length := by
          rw [hal]; exact (List.getElem?_eq_some_iff.mp hj).1
        obtain ⟨h1, w, h2, h3⟩ := arg_at I h (List.getElem?_eq_getElem hjl)
        have hp : plc ops (ps.map (·.2)) j = .inl i := by unfold plc; rw [hj]
        rw [hp] at h1 h3
        obtain ⟨o, ho⟩ : ∃ o, env[i]?.join = some (.mu o) := by
          cases hx : env[i]?.join with
          | none => rw [hx] at hmu; cases hmu
          | some b =>
            rw [hx] at hmu
            cases b with
            | mu o => exact ⟨o, rfl⟩
            | val d => cases hmu
            | lk o => cases hmu
        refine .inr ⟨j, bs'[j]'(by omega), w, o, List.getElem?_eq_getElem _, h2, h3, putBack_on nd hj (List.getElem?_eq_getElem _) hmu, ho, ?_, hp⟩
        have h1 : env[i]?.join = some bs[j] := h1
        rw [ho] at h1
        rw [List.getElem?_eq_getElem hjl]
        exact h1.symm
    · exact .inl (putBack_off (.inl hm))
  -- an own address of the caller's that was handed in
  have given : ∀ {k : Ix} {b : B} {o : O} {a : Addr}, ix env (ops ++ ps) k = some b → b.own = some o → ixv σ (ops ++ ps) k = some (.ref a) → a ∈ borOf (ps.map (·.1)) bs → ∃ j : Nat, plc ops (ps.map (·.2)) j = k ∧ ∃ c, bs[j]? = some c := fun {k b o a} e eo hv ha => by
    obtain ⟨j, c, u, h1, h2, h3⟩ := borOf_mem.mp ha
    obtain ⟨q1, w, q2, q3⟩ := arg_at I h h2
    rw [h1] at q2; cases q2
    exact ⟨j, I.rep.dis _ _ c b u o a q1 e h3 eo q3 hv, c, h2⟩
  have notg : ∀ {k : Ix} {b : B} {o : O} {a : Addr}, ix env (ops ++ ps) k = some b → b.own = some o → ixv σ (ops ++ ps) k = some (.ref a) → a ∉ borOf (ps.map (·.1)) bs → H' a = H a ∧ noG G' a b := fun {k b o a} e eo hv ha => by
    obtain ⟨a', e1, e2, e3, e4⟩ := I.rep.own k b o e eo
    rw [hv] at e1; cases e1
    obtain ⟨u, hu⟩ := hasB_some eo e2
    refine ⟨by rw [hu]; exact J.fr a u hu ha fun ps z => hasB_ntbl eo e2 ps (by rw [hu, z]), noG_mono (fun e3 => ?_) e3⟩
    cases hg : G' a with
    | none => rfl
    | some u' =>
      rcases J.gn a u' hg with z | z | z
      · have z : G a = some u' := z
        rw [e3] at z; cases z
      · have z : H a = none := z
        rw [hu] at z; cases z
      · exact absurd z ha
  have parBor : ∀ b, b ∈ borOf (ps.map (·.1)) bs → b ∈ F.bor ∨ F.H0 b = none := fun a ha => by
    obtain ⟨j, c, u, h1, h2, h3⟩ := borOf_mem.mp ha
    obtain ⟨q1, w, q2, q3⟩ := arg_at I h h2
    rw [h1] at q2; cases q2
    obtain ⟨a', e1, e2, e3, e4⟩ := I.rep.own _ c u q1 h3
    rw [q3] at e1; cases e1
    exact e4.imp (fun z => z.2) id
  have opsI : ∀ {k : Nat} {b : B}, ix (putBack (ps.map (·.2)) bs' env) (ops ++ [(v, r)]) (.inr k) = some b → (k < ops.length ∧ ix env (ops ++ ps) (.inr k) = some b ∧ ixv σ (ops ++ [(v, r)]) (.inr k) = ixv σ (ops ++ ps) (.inr k)) ∨ (k = ops.length ∧ r.toB = some b ∧ ixv σ (ops ++ [(v, r)]) (.inr k) = some v) := fun {k b} e => by
    by_cases hk : k < ops.length
    · refine .inl ⟨hk, ?_, ?_⟩
      · simp only [ix] at e ⊢
        rw [List.getElem?_append_left hk] at e ⊢; exact e
      · simp only [ixv]
        rw [List.getElem?_append_left hk, List.getElem?_append_left hk]
    · refine .inr ?_
      have hk2 : k = ops.length := by
        simp only [ix] at e
        rw [List.getElem?_append_right (by omega)] at e
        by_cases h0 : k - ops.length = 0
        · omega
        · rw [List.getElem?_eq_none (by simp; omega)] at e; cases e
      subst hk2
      refine ⟨rfl, ?_, by simp [ixv]⟩
      simp [ix] at e; exact e
  refine ⟨⟨I.rep.g0.trans J.g0, J.sub, fun b o e nb nt => ?_, fun b hb => ?_, I.rep.bh0, fun b u e => ?_, J.gp, fun b h => J.ft b (I.rep.ft b h), J.tb, fun i d e => ?_, fun i b o e eo => ?_, fun i j b c o o' a e1 e2 eo eo' h1 h2 => ?_, fun i w e => ?_⟩, fun w q hq => ?_, by rw [len]; exact I.len⟩
  · refine J.fr b o (I.rep.fr b o e nb nt) (fun z => ?_) nt
    rcases parBor b z with z | z
    · exact nb z
    · rw [e] at z; cases z
  · by_cases hz : b ∈ borOf (ps.map (·.1)) bs
    · exact J.bh b hz
    · obtain ⟨o, ho⟩ := I.rep.bh b hb
      exact Option.ne_none_iff_exists'.mp (J.ft b (show H b ≠ none by rw [ho]; simp))
  · rcases J.gn b u e with z | z | z
    · exact I.rep.gn b u z
    · exact .inr (.inl (I.rep.fresh z))
    · exact .inr ((parBor b z).symm.imp id id)
  · cases i with
    | inr k =>
      rcases opsI e with ⟨hk, h1, h2⟩ | ⟨rfl, h1, h2⟩
      · obtain ⟨w, e1, e2⟩ := I.rep.val _ d h1
        exact ⟨w, by rw [h2]; exact e1, dp_mono J.g0 _ _ e2⟩
      · obtain ⟨w, e1, e2⟩ := J.val (.inr 0) d h1
        have e1 : some v = some w := e1
        cases e1
        exact ⟨v, h2, e2⟩
    | inl i =>
      rcases slot i with hs | ⟨j, b, w, o, h1, h2, h3, h4, _⟩
      · have e : env[i]?.join = some (.val d) := by rw [← hs]; exact e
        obtain ⟨w, e1, e2⟩ := I.rep.val (.inl i) d e
        exact ⟨w, e1, dp_mono J.g0 _ _ e2⟩
      · simp only [ix, h4] at e
        have e : some b = some (B.val d) := e
        cases e
        obtain ⟨w', e1, e2⟩ := J.val (.inl j) d h1
        have e1 : (ps.map (·.1))[j]? = some w' := e1
        rw [h2] at e1; cases e1
        exact ⟨w, h3, e2⟩
  · cases i with
    | inr k =>
      rcases opsI e with ⟨hk, h1, h2⟩ | ⟨rfl, h1, h2⟩
      · obtain ⟨a, e1, e2, e3, e4⟩ := I.rep.own _ b o h1 eo
        have na : a ∉ borOf (ps.map (·.1)) bs := fun z => by
          obtain ⟨j, q1, c, q2⟩ := given h1 eo e1 z
          unfold plc at q1
          split at q1
          · cases q1
          · have := Sum.inr.inj q1; omega
        obtain ⟨q1, q2⟩ := notg h1 eo e1 na
        exact ⟨a, by rw [h2]; exact e1, hasB_mono J.g0 q1 e2, q2, e4⟩
      · obtain ⟨a, e1, e2, e3, e4⟩ := J.own (.inr 0) b o h1 eo
        have e1 : some v = some (.ref a) := e1
        cases e1
        refine ⟨a, h2, hasB_fr rfl rfl e2, e3, .inr ?_⟩
        rcases e4 with z | z
        · exact z.1.elim
        · exact I.rep.fresh z
    | inl i =>
      rcases slot i with hs | ⟨j, b', w, u, h1, h2, h3, h4, h5, h6, h7⟩
      · have e : env[i]?.join = some b := by rw [← hs]; exact e
        obtain ⟨a, e1, e2, e3, e4⟩ := I.rep.own (.inl i) b o e eo
        by_cases na : a ∈ borOf (ps.map (·.1)) bs
        · -- it was handed in, so it was put back
          obtain ⟨j, q1, c, q2⟩ := given (k := .inl i) e eo e1 na
          obtain ⟨q3, w, q4, q5⟩ := arg_at I h q2
          rw [q1] at q3 q5
          have q3 : env[i]?.join = some c := q3
          rw [e] at q3; cases q3
          have hr : (ps.map (·.2))[j]? = some (.bor i) := by
            unfold plc at q1
            split at q1
            · rename_i i' hi'
              cases q1; exact hi'
            · cases q1
          have hmu : isMu env[i]?.join = true := by
            obtain ⟨r', g1, g2⟩ := hag j b q2
            rw [hr] at g1; cases g1
            have g2 : (match env[i]?.join with
              | some (.mu o) => some (.mu o)
              | some (.val d) => some (.val d)
              | _ => none) = some b := g2
            split at g2
            · rename_i o' ho'; rw [ho']; rfl
            · rename_i d hd; cases g2; cases eo
            · cases g2
          have hjl : j < bs'.length := by
            rw [hl]; exact (List.getElem?_eq_some_iff.mp q2).1
          have hp := putBack_on (bs := bs') nd hr (List.getElem?_eq_getElem hjl) hmu
          rw [hs] at hp
          rw [hp] at e
          have e : some bs'[j] = some b := e
          cases e
          obtain ⟨a', g1, g2, g3, g4⟩ := J.own (.inl j) bs'[j] o (List.getElem?_eq_getElem hjl) eo
          have g1 : (ps.map (·.1))[j]? = some (.ref a') := g1
          rw [q4] at g1
          cases g1
          rw [e1] at q5
          cases q5
          exact ⟨a, e1, hasB_fr rfl rfl g2, g3, e4⟩
        · obtain ⟨q1, q2⟩ := notg (k := .inl i) e eo e1 na
          exact ⟨a, e1, hasB_mono J.g0 q1 e2, q2, e4⟩
      · simp only [ix, h4] at e
        have e : some b' = some b := e
        cases e
        obtain ⟨a, e1, e2, e3, e4⟩ := J.own (.inl j) b o h1 eo
        have e1 : (ps.map (·.1))[j]? = some (.ref a) := e1
        rw [h2] at e1; cases e1
        obtain ⟨a', g1, g2, g3, g4⟩ := I.rep.own (.inl i) (.mu u) u h5 rfl
        rw [h3] at g1; cases g1
        exact ⟨a, h3, hasB_fr rfl rfl e2, e3, g4⟩
  · -- two own objects stand apart
    have cases1 : ∀ {k : Ix} {b : B} {o : O}, ix (putBack (ps.map (·.2)) bs' env) (ops ++ [(v, r)]) k = some b → b.own = some o → ixv σ (ops ++ [(v, r)]) k = some (.ref a) →
        (∃ b0 o0, k ≠ .inr ops.length ∧ ix env (ops ++ ps) k = some b0 ∧ b0.own = some o0 ∧ ixv σ (ops ++ ps) k = some (.ref a)) ∨ (k = .inr ops.length ∧ H a = none) := fun {k b o} e eo hv => by
      cases k with
      | inr k =>
        rcases opsI e with ⟨hk, g1, g2⟩ | ⟨rfl, g1, g2⟩
        · exact .inl ⟨b, o, fun z => (by have := Sum.inr.inj z; omega), g1, eo, by rw [← g2]; exact hv⟩
        · refine .inr ⟨rfl, ?_⟩
          obtain ⟨a', q1, q2, q3, q4⟩ := J.own (.inr 0) b o g1 eo
          have q1 : some v = some (.ref a') := q1
          cases q1
          rw [g2] at hv; cases hv
          rcases q4 with z | z
          · exact z.1.elim
          · exact z
      | inl i =>
        rcases slot i with hs | ⟨j, b', w, u, g1, g2, g3, g4, g5, g6, g7⟩
        · exact .inl ⟨b, o, (fun z => nomatch z), (show env[i]?.join = some b by rw [← hs]; exact e), eo, hv⟩
        · exact .inl ⟨.mu u, u, (fun z => nomatch z), g5, rfl, hv⟩
    have there : ∀ {k : Ix} {b0 : B} {o0 : O}, ix env (ops ++ ps) k = some b0 → b0.own = some o0 → ixv σ (ops ++ ps) k = some (.ref a) → H a ≠ none := fun {k b0 o0} e eo hv z => by
      obtain ⟨a', q1, q2, _⟩ := I.rep.own k b0 o0 e eo
      rw [hv] at q1; cases q1
      obtain ⟨u, hu⟩ := hasB_some eo q2
      rw [z] at hu; cases hu
    rcases cases1 e1 eo h1 with ⟨b0, o0, _, p1, p2, p3⟩ | ⟨p1, p2⟩
    · rcases cases1 e2 eo' h2 with ⟨b1, o1, _, q1, q2, q3⟩ | ⟨q1, q2⟩
      · exact I.rep.dis i j b0 b1 o0 o1 a p1 q1 p2 q2 p3 q3
      · exact absurd q2 (there p1 p2 p3)
    · rcases cases1 e2 eo' h2 with ⟨b1, o1, _, q1, q2, q3⟩ | ⟨q1, q2⟩
      · exact absurd p2 (there q1 q2 q3)
      · rw [p1, q1]
  · exact I.rep.par i w e
  · rcases List.mem_append.mp hq with hm | hm
    · have q1 := I.opr w q (List.mem_append_left _ hm)
      cases q with
      | lkd j u =>
        obtain ⟨q2, q3⟩ := q1
        refine ⟨q2, ?_⟩
        rw [putBack_off (.inr (by rw [q3]; rfl))]
        exact q3
      | bor j => exact q1
      | val d => trivial
      | new o => trivial
    · simp at hm
      obtain ⟨rfl, rfl⟩ := hm
      cases q with
      | val d => trivial
      | new o => trivial
      | bor i => cases ro
      | lkd i o => cases ro
end

section
variable {X : Cx} {F : Fr} {x : Str} {p pos : Pos} {e : Expr} {es : List Expr} {k : Nat} {fa : Addr} {fd : FuncData} {pars : List Str} {n : Nat} {f : Fn}
/-- f(..): the written arguments, then the defaults ds -/
def eCall (n : Nat) (f : Fn) (ds : List D) (fa : FA) : FE := fun env => (fa env).bind fun p => (argsB (p.1 ++ ds.map R.val) p.2).bind fun bs => if (borIx (p.1 ++ ds.map R.val)).Nodup ∧ bs.length = n then (f bs).bind fun q => some (q.1, putBack (p.1 ++ ds.map R.val) q.2 p.2) else none
theorem pushVs {F : Fr} {env : En} {G H : Hp} {σ : St} : ∀ {ds : List D} {dvs : List V} {ops : Ops}, RepS F env ops G σ H → DpAll F.K G dvs ds → ∃ ps : Ops, ps.map (·.1) = dvs ∧ ps.map (·.2) = ds.map R.val ∧ RepS F env (ops ++ ps) G σ H
  | [], _, ops, I, h => by cases h; exact ⟨[], rfl, rfl, by simpa using I⟩
  | d :: ds, _, ops, I, h => by
    cases h with
    | @cons v vs _ _ h1 h2 =>
      obtain ⟨ps, e1, e2, J⟩ := pushVs (I.pushV h1) h2
      exact ⟨(v, .val d) :: ps, by simp [e1], by simp [e2], by simpa using J⟩
/-- a call of an own def, by what the layer beneath says of it -/
theorem me_callP {dvs : List V} {ds : List D} {g : FA} (hK : X.K = F.K) (hw : X.w = F.w) (hcall : PE X (.Call (.Name x p) (e :: es) [] pos) (tCall (spF X.K X.w n f F.tb) dvs E0 (tA F g))) (hd : ∀ G, DpAll F.K G dvs ds) : PE X (.Call (.Name x p) (e :: es) [] pos) (tE F (eCall n f ds g)) :=
  hcall.wk fun σ H Q ⟨env, ops, G, r, env', I, e, q⟩ => by
    obtain ⟨⟨rs, e1⟩, h1, e⟩ := bind_some e
    obtain ⟨bs, h2, e⟩ := bind_some e
    split at e
    case isFalse => cases e
    rename_i hn
    obtain ⟨⟨r', bs'⟩, h3, h4⟩ := bind_some e
    cases h4
    refine ⟨env, ops, G, rs, e1, I, h1, fun ps G1 H1 hp s1 I1 => ?_⟩
    subst hp
    obtain ⟨p2, m1, m2, I2⟩ := pushVs I1 (hd G1)
    have I3 : RepS F e1 (ops ++ (ps ++ p2)) G1 σ H1 := by simpa using I2
    have em : (ps ++ p2).map (·.2) = ps.map (·.2) ++ ds.map R.val := by rw [List.map_append, m2]
    have ev : (ps ++ p2).map (·.1) = ps.map (·.1) ++ dvs := by rw [List.map_append, m1]
    have h2' : argsB ((ps ++ p2).map (·.2)) e1 = some bs := by rw [em]; exact h2
    have nd : (borIx ((ps ++ p2).map (·.2))).Nodup := by rw [em]; exact hn.1
    obtain ⟨hl, _⟩ := argsB_get h2'
    rw [hK, hw, ← ev]
    refine ⟨G1, bs, r', bs', borOf ((ps ++ p2).map (·.1)) bs, ?_, hn.2, I3.callIn h2' nd, h3, fun v G' H' ho hl' J => ?_⟩
    · rw [List.length_map, ← hn.2, hl, List.length_map]
    · have J2 := I3.callOut h2' nd ho (by rw [hl', hn.2]) J
      rw [em] at J2
      exact q v G' H' (s1.trans J.g0) J2
end
end ML

/-! ML9: list comprehensions. -/
namespace ML
open PySem PySem.Spec PyProof.Rows L2

def wipeE (env : En) : List Nat → En
  | [] => env
  | v :: vs => (wipeE env vs).set v none
/-- behind the block: its own names as they were -/
def restE (e1 e2 : En) : List Nat → En
  | [] => e2
  | v :: vs => (restE e1 e2 vs).set v e1[v]?.join
def isOwn : Option B → Bool
  | some (.mu _) => true
  | some (.lk _) => true
  | _ => false
theorem wipeE_len (env : En) : ∀ vs, (wipeE env vs).length = env.length
  | [] => rfl
  | v :: vs => by rw [wipeE, List.length_set, wipeE_len env vs]
theorem restE_len (e1 e2 : En) : ∀ vs, (restE e1 e2 vs).length = e2.length
  | [] => rfl
  | v :: vs => by rw [restE, List.length_set, restE_len e1 e2 vs]
theorem wipeE_get (env : En) (j : Nat) : ∀ vs, (wipeE env vs)[j]? = if j ∈ vs then (if j < env.length then some none else none) else env[j]?
  | [] => by simp [wipeE]
  | v :: vs => by
    rw [wipeE]
    by_cases h : v = j
    · subst h
      rw [if_pos (by simp)]
      by_cases hl : v < env.length
      · rw [List.getElem?_set_self (by rw [wipeE_len]; exact hl), if_pos hl]
      · rw [List.getElem?_eq_none (by rw [List.length_set, wipeE_len]; omega), if_neg hl]
    · rw [List.getElem?_set_ne h, wipeE_get env j vs]
      have : j ∈ v :: vs ↔ j ∈ vs := by simp [Ne.symm h]
      simp only [this]
theorem wipe_get (σ : St) (j : Nat) : ∀ vs, (wipe σ vs)[j]? = if j ∈ vs then (if j < σ.length then some none else none) else σ[j]?
  | [] => by simp [wipe]
  | v :: vs => by
    rw [wipe]
    by_cases h : v = j
    · subst h
      rw [if_pos (by simp)]
      by_cases hl : v < σ.length
      · rw [List.getElem?_set_self (by rw [wipe_length]; exact hl), if_pos hl]
      · rw [List.getElem?_eq_none (by rw [List.length_set, wipe_length]; omega), if_neg hl]
    · rw [List.getElem?_set_ne h, wipe_get σ j vs]
      have : j ∈ v :: vs ↔ j ∈ vs := by simp [Ne.symm h]
      simp only [this]
theorem restE_get (e1 e2 : En) (j : Nat) : ∀ vs, (restE e1 e2 vs)[j]? = if j ∈ vs then (if j < e2.length then some e1[j]?.join else none) else e2[j]?
  | [] => by simp [restE]
  | v :: vs => by
    rw [restE]
    by_cases h : v = j
    · subst h
      rw [if_pos (by simp)]
      by_cases hl : v < e2.length
      · rw [List.getElem?_set_self (by rw [restE_len]; exact hl), if_pos hl]
      · rw [List.getElem?_eq_none (by rw [List.length_set, restE_len]; omega), if_neg hl]
    · rw [List.getElem?_set_ne h, restE_get e1 e2 j vs]
      have : j ∈ v :: vs ↔ j ∈ vs := by simp [Ne.symm h]
      simp only [this]

section
variable {F : Fr} {env env' e1 e2 : En} {ops ps : Ops} {G G1 G' H H' H1 : Hp} {σ : St} {v : V} {r : R} {d : D} {own : List Nat}
theorem RepS.wipe (I : RepS F env ops G σ H) (hcv : ∀ i ∈ own, F.cv i = true) (hnp : ∀ i ∈ own, F.args.length ≤ i) (hlk : ∀ w i o, (w, R.lkd i o) ∈ ops → i ∉ own) : RepS F (wipeE env own) ops G (L2.wipe σ own) H := by
  refine ⟨I.rep.re id (fun j b e => ?_) (fun _ _ _ _ _ _ z => z) (fun i w e => ?_), fun w q h => ?_, by rw [wipe_length, wipeE_len]; exact I.len⟩
  · cases j with
    | inr k => exact ⟨e, rfl, id⟩
    | inl i =>
      simp only [ix] at e
      rw [wipeE_get] at e
      by_cases hi : i ∈ own
      · rw [if_pos hi] at e
        split at e <;> cases e
      · rw [if_neg hi] at e
        refine ⟨e, ?_, id⟩
        simp only [ixv]
        rw [wipe_get, if_neg hi]
        rfl
  · have hi : i ∉ own := fun z => by
      have := hnp i z
      have := (List.getElem?_eq_some_iff.mp e).1
      omega
    have := I.rep.par i w e
    simp only [ixv] at this ⊢
    rw [wipe_get, if_neg hi]
    exact this
  · have q1 := I.opr w q h
    cases q with
    | bor i =>
      obtain ⟨q2, q3⟩ := q1
      refine ⟨?_, q3⟩
      rw [wipe_get, if_neg (fun z => by rw [hcv i z] at q3; cases q3)]
      exact q2
    | lkd i o =>
      obtain ⟨q2, q3⟩ := q1
      have hi := hlk w i o h
      refine ⟨?_, ?_⟩
      · rw [wipe_get, if_neg hi]; exact q2
      · rw [wipeE_get, if_neg hi]; exact q3
    | val d => trivial
    | new o => trivial
theorem RepS.rest (I1 : RepS F e1 ps G1 σ H1) (s : Same G1 G) (I : RepS F e2 ops G (L2.wipe σ own) H) (hcv : ∀ i ∈ own, F.cv i = true) (hno : ∀ i ∈ own, isOwn e1[i]?.join = false) (hlk : ∀ w i o, (w, R.lkd i o) ∈ ops → i ∉ own) (hnp : ∀ i ∈ own, F.args.length ≤ i) : RepS F (restE e1 e2 own) ops G σ H := by
  have hl2 : e2.length = σ.length := by rw [← I.len, wipe_length]
  have slot : ∀ {i : Nat} {b : B}, ix (restE e1 e2 own) ops (.inl i) = some b → (i ∉ own ∧ ix e2 ops (.inl i) = some b ∧ ixv (L2.wipe σ own) ops (.inl i) = ixv σ ops (.inl i)) ∨ (i ∈ own ∧ ∃ d, b = .val d ∧ e1[i]?.join = some (.val d)) := fun {i b} e => by
    simp only [ix] at e
    rw [restE_get] at e
    by_cases hi : i ∈ own
    · rw [if_pos hi] at e
      have e3 : e1[i]?.join = some b := by
        split at e
        · exact e
        · cases e
      have e2 := hno i hi
      rw [e3] at e2
      refine .inr ⟨hi, ?_⟩
      cases b with
      | val d => exact ⟨d, rfl, e3⟩
      | mu o => cases e2
      | lk o => cases e2
    · rw [if_neg hi] at e
      refine .inl ⟨hi, e, ?_⟩
      simp only [ixv]
      rw [wipe_get, if_neg hi]
  have opv : ∀ k, ixv (L2.wipe σ own) ops (.inr k) = ixv σ ops (.inr k) := fun k => rfl
  refine ⟨⟨I.rep.g0, I.rep.sub, I.rep.fr, I.rep.bh, I.rep.bh0, I.rep.gn, I.rep.gp, I.rep.ft, I.rep.tb, fun i d e => ?_, fun i b o e eo => ?_, fun i j b c o o' a e1' e2' eo eo' h1 h2 => ?_, fun i w e => ?_⟩, fun w q h => ?_, by rw [restE_len]; exact hl2.symm⟩
  · cases i with
    | inr k => exact I.rep.val (.inr k) d e
    | inl i =>
      rcases slot e with ⟨h1, h2, h3⟩ | ⟨h1, d', h2, h3⟩
      · obtain ⟨v, q1, q2⟩ := I.rep.val (.inl i) d h2
        exact ⟨v, by rw [← h3]; exact q1, q2⟩
      · cases h2
        obtain ⟨v, q1, q2⟩ := I1.rep.val (.inl i) d (by simp [ix, h3])
        exact ⟨v, q1, dp_mono s _ _ q2⟩
  · cases i with
    | inr k => exact I.rep.own (.inr k) b o e eo
    | inl i =>
      rcases slot e with ⟨h1, h2, h3⟩ | ⟨h1, d', h2, h3⟩
      · obtain ⟨a, q1, q2⟩ := I.rep.own (.inl i) b o h2 eo
        exact ⟨a, by rw [← h3]; exact q1, q2⟩
      · subst h2; cases eo
  · have back : ∀ {k : Ix} {b : B} {o : O}, ix (restE e1 e2 own) ops k = some b → b.own = some o → ixv σ ops k = some (.ref a) → ix e2 ops k = some b ∧ ixv (L2.wipe σ own) ops k = some (.ref a) := fun {k b o} e eo hv => by
      cases k with
      | inr k => exact ⟨e, hv⟩
      | inl i =>
        rcases slot e with ⟨h1, h2, h3⟩ | ⟨h1, d', h2, h3⟩
        · exact ⟨h2, by rw [h3]; exact hv⟩
        · subst h2; cases eo
    obtain ⟨p1, p2⟩ := back e1' eo h1
    obtain ⟨q1, q2⟩ := back e2' eo' h2
    exact I.rep.dis i j b c o o' a p1 q1 eo eo' p2 q2
  · exact I1.rep.par i w e
  · have q1 := I.opr w q h
    cases q with
    | bor i =>
      obtain ⟨q2, q3⟩ := q1
      refine ⟨?_, q3⟩
      rw [wipe_get, if_neg (fun z => by rw [hcv i z] at q3; cases q3)] at q2
      exact q2
    | lkd i o =>
      obtain ⟨q2, q3⟩ := q1
      have hi := hlk w i o h
      rw [wipe_get, if_neg hi] at q2
      exact ⟨q2, by rw [restE_get, if_neg hi]; exact q3⟩
    | val d => trivial
    | new o => trivial
/-- an own list that stands as an operand grows -/
theorem RepS.growOp {p : Addr} {acc : List D} {xs : List V} (I : RepS F env (ops ++ [(.ref p, .new (.lst acc)), (v, .val d)]) G σ H) (hH : H p = some (.lst xs)) : RepS F env (ops ++ [(.ref p, .new (.lst (acc ++ [d])))]) G σ (upd H p (.lst (xs ++ [v]))) ∧ xs.length = acc.length := by
  have hd : Dp F.K G v d := (I.obj (v := v) (r := .val d) (by simp) (b := .val d) rfl).1 d rfl
  obtain ⟨a, ha, ⟨ws, q1, q2⟩, _⟩ := (I.obj (v := .ref p) (r := .new (.lst acc)) (by simp) (b := .mu (.lst acc)) rfl).2 _ rfl
  cases ha
  rw [hH] at q1; cases q1
  have I1 : RepS F env (ops ++ [(.ref p, .new (.lst acc))]) G σ H := RepS.pop (ps := [(v, .val d)]) (by simpa using I)
  refine ⟨⟨?_, fun w q h => ?_, I.len⟩, dpAll_len q2⟩
  · have J := I1.rep.write (j := .inr ops.length) (b := .mu (.lst acc)) (b' := .mu (.lst (acc ++ [d]))) (u := .lst acc) (u' := .lst (acc ++ [d])) (p := p) (o := .lst (xs ++ [v])) (by simp [ix, R.toB]) rfl (by simp [ixv]) rfl ⟨_, upd_same, dpAll_app q2 (.cons hd .nil)⟩
    rw [ix_snoc, ixv_snoc] at J
    rw [ix_snoc, ixv_snoc]
    have e : (fun k => if k = Sum.inr ops.length then some (B.mu (O.lst (acc ++ [d]))) else (if k = Sum.inr ops.length then (R.new (O.lst acc)).toB else ix env ops k)) = (fun k => if k = Sum.inr ops.length then (R.new (O.lst (acc ++ [d]))).toB else ix env ops k) := by
      funext k
      by_cases hk : k = .inr ops.length
      · simp [hk, R.toB]
      · simp [hk]
    rw [e] at J
    exact J
  · rcases List.mem_append.mp h with h | h
    · exact I.opr w q (List.mem_append_left _ h)
    · simp at h; obtain ⟨rfl, rfl⟩ := h; trivial
end

section
variable {X : Cx} {F : Fr} {pos : Pos}
theorem _root_.L2.PTs.wk {e : List Expr} {t t' : TT} (h : PTs X e t) (w : ∀ σ H Q, t' σ H Q → t σ H Q) : PTs X e t' := ⟨fun pins s σ H Q I q => h.run pins s σ H Q I (w _ _ _ q)⟩
def tTrue : FT := fun env => some (true, env)
theorem mts_nil : PTs X [] (tT F tTrue) := pts_nil.wk fun σ H Q ⟨env, ops, G, b, env', I, e, q⟩ => by
  cases e
  exact q G H (Same.refl _) I
theorem mts_one {c : Expr} {f : FT} (h : PT X c (tT F f)) : PTs X [c] (tT F f) := pts_one h
def lcL (np : Nat) (own : List Nat) (t : Tg) (tst : FT) (elt : FE) : List D → En → Option (List D × En)
  | [], env => some ([], env)
  | d :: ds, env => (setT np t d env).bind fun e1 => (tst e1).bind fun p => if p.1 = true then (elt p.2).bind fun q => (keep q.1 q.2).bind fun s => (lcL np own t tst elt ds (wipeE s.2 own)).map fun u => (s.1 :: u.1, u.2)
    else lcL np own t tst elt ds (wipeE p.2 own)
def lcOk (own : List Nat) (t : Tg) (env : En) : Bool := own.all (fun i => !isOwn env[i]?.join) && t.slots.all (fun i => own.contains i)
def eLc (np : Nat) (own : List Nat) (fi : FI) (t : Tg) (tst : FT) (elt : FE) : FE := fun env => (fi env).bind fun p => if lcOk own t p.2 = true then (lcL np own t tst elt p.1.1 (wipeE p.2 own)).bind fun q => if q.1.length ≤ sizeLine then some (.new (.lst q.1), unlock p.1.2 (restE p.2 q.2 own)) else none else none
/-- the lock goes, what was made stays -/
theorem RepS.unlock1 {env : En} {ops ps : Ops} {G H : Hp} {σ : St} {src : Option Nat} {v : V} {r : R} (I : RepS F env ((ops ++ ps) ++ [(v, r)]) G σ H) (ro : ∀ i o, r ≠ .lkd i o) (h : LkP src ops ps) : RepS F (ML.unlock src env) (ops ++ [(v, r)]) G σ H := by
  cases src with
  | none => exact I.dropMid
  | some i =>
    obtain ⟨⟨w, o, rfl, ho⟩, no⟩ := h
    obtain ⟨hσ, hi⟩ : σ[i]? = some (some w) ∧ env[i]?.join = some (.lk o) := I.opr w (.lkd i o) (by simp)
    have hl : i < env.length := by
      rw [← I.len]; exact (List.getElem?_eq_some_iff.mp hσ).1
    have I0 := I.dropMid
    unfold ML.unlock
    simp only [hi]
    refine ⟨?_, fun w' q hq => ?_, by rw [List.length_set]; exact I.len⟩
    · rw [ix_set _ _ _ _ hl]
      exact I0.rep.relabel (j := .inl i) (b := .lk o) (b' := .mu o) (u := o) (by simp [ix, hi]) rfl rfl (fun a z => (hasB_lkmu ho).mp z) fun kvs z => ho kvs (B.lk.inj z)
    · have q1 := I0.opr w' q hq
      cases q with
      | lkd j u =>
        obtain ⟨q2, q3⟩ := q1
        refine ⟨q2, ?_⟩
        have hj : j ≠ i := by
          rintro rfl
          rcases List.mem_append.mp hq with h | h
          · exact no w' u h
          · simp at h; exact ro _ _ h.2.symm
        rw [List.getElem?_set_ne (Ne.symm hj)]; exact q3
      | bor j => exact q1
      | val d => trivial
      | new o => trivial
theorem tE_lc {np : Nat} {own : List Nat} {fi : FI} {t : Tg} {tst : FT} {elt : FE} (hcv : ∀ i ∈ own, F.cv i = true) (hnp : ∀ i ∈ own, F.args.length ≤ i) (σ : St) (H : Hp) (Q : VK) (h : tE F (eLc np own fi t tst elt) σ H Q) :
    tLc (tI F fi) (gT F np t) (tT F tst) (tE F elt) own σ H Q := by
  obtain ⟨env, ops, G, r, env', I, e, q⟩ := h
  obtain ⟨⟨⟨xs, src⟩, e1⟩, h1, e⟩ := bind_some e
  split at e
  case isFalse => cases e
  rename_i hok
  obtain ⟨⟨tot, e2⟩, h2, e⟩ := bind_some e
  split at e
  case isFalse => cases e
  rename_i hsz
  cases e
  unfold lcOk at hok
  rw [Bool.and_eq_true, List.all_eq_true, List.all_eq_true] at hok
  obtain ⟨hno, hsl⟩ := hok
  have hno : ∀ i ∈ own, isOwn e1[i]?.join = false := fun i hi => by simpa using hno i hi
  have hsl : ∀ i ∈ t.slots, i ∈ own := fun i hi => by simpa using hsl i hi
  refine ⟨env, ops, G, xs, src, e1, I, h1, fun ps G1 H1 J s1 I1 nbp lp it Da hD => ?_⟩
  have hlk : ∀ w i o, (w, R.lkd i o) ∈ ops ++ ps → i ∉ own := fun w i o hm z => by
    obtain ⟨_, q3⟩ := (show σ[i]? = some (some w) ∧ e1[i]?.join = some (.lk o) from I1.opr w (.lkd i o) hm)
    have := hno i z
    rw [q3] at this; cases this
  have I2 : RepS F e1 ((ops ++ ps) ++ [(.ref Da, .new (.lst []))]) G1 σ (upd H1 Da (.lst [])) := I1.pushN (u := .lst []) hD ⟨[], upd_same, .nil⟩
  have hlk2 : ∀ (acc : List D), ∀ w i o, (w, R.lkd i o) ∈ (ops ++ ps) ++ [(V.ref Da, R.new (.lst acc))] → i ∉ own := fun acc w i o hm => by
    rcases List.mem_append.mp hm with hm | hm
    · exact hlk w i o hm
    · simp at hm
  have I3 := I2.wipe hcv hnp (hlk2 [])
  refine ⟨fun i m H => ∃ en G2 acc rest, m = xs.length - i ∧ i ≤ xs.length ∧ Same G1 G2 ∧ RepS F en ((ops ++ ps) ++ [(.ref Da, .new (.lst acc))]) G2 (L2.wipe σ own) H ∧ lcL np own t tst elt (xs.drop i) en = some (rest, e2) ∧ acc ++ rest = tot,
    ⟨_, wipeE e1 own, G1, [], tot, rfl, Nat.zero_le _, Same.refl _, I3, h2, rfl⟩, ?_⟩
  rintro i m H2 ⟨en, G2, acc, rest, rfl, hi, s2, J2, h4, hacc⟩
  obtain ⟨go, stop⟩ := it [(.ref Da, .new (.lst acc))] en G2 _ H2 i s2 J2
  by_cases hlt : i < xs.length
  · refine .inr ?_
    obtain ⟨go1, go2⟩ := go xs[i] (List.getElem?_eq_getElem hlt)
    rw [List.drop_eq_getElem_cons hlt] at h4
    obtain ⟨e3, h5, h4⟩ := bind_some h4
    obtain ⟨⟨b, e4⟩, h6, h4⟩ := bind_some h4
    refine ⟨go1, fun H' => ∃ en G3 acc rest, Same G1 G3 ∧ RepS F en ((ops ++ ps) ++ [(.ref Da, .new (.lst acc))]) G3 (L2.wipe σ own) H' ∧ lcL np own t tst elt (xs.drop (i + 1)) en = some (rest, e2) ∧ acc ++ rest = tot, fun H' ⟨en, G3, acc, rest, s3, J3, h9, h10⟩ => ⟨_, by omega, en, G3, acc, rest, rfl, hlt, s3, J3, h9, h10⟩, fun x H3 hy => ?_⟩
    obtain ⟨G3, s3, J3⟩ := go2 x H3 hy
    refine ⟨en, (ops ++ ps) ++ [(.ref Da, .new (.lst acc))], G3, xs[i], e3, fun w j hm hj => ?_, J3, h5, fun σ2 hs2 hl2 J4 => ?_⟩
    · have q1 := (show _ ∧ F.cv j = false from J2.opr w (.bor j) hm).2
      rw [hcv j (hsl j hj)] at q1; cases q1
    · have hw : L2.wipe σ2 own = L2.wipe σ own := by
        apply List.ext_getElem?
        intro j
        rw [wipe_get, wipe_get]
        rw [wipe_length] at hl2
        by_cases hj : j ∈ own
        · rw [if_pos hj, if_pos hj, hl2]
        · rw [if_neg hj, if_neg hj, hs2 j (fun z => hj (hsl j z)), wipe_get, if_neg hj]
      refine ⟨hw, e3, _, G3, b, e4, J4, h6, fun G4 H4 s4 J5 => ?_⟩
      have s14 : Same G1 G4 := (s2.trans s3).trans s4
      cases b with
      | false =>
        show (if false = true then _ else _)
        rw [if_neg Bool.false_ne_true]
        have J6 := J5.wipe hcv hnp (hlk2 acc)
        rw [hw] at J6
        exact ⟨_, G4, acc, rest, s14, J6, h4, hacc⟩
      | true =>
        show (if true = true then _ else _)
        rw [if_pos rfl]
        obtain ⟨⟨y, e5⟩, h7, h4⟩ := bind_some h4
        obtain ⟨⟨dy, e6⟩, h8, h4⟩ := bind_some h4
        obtain ⟨⟨rest', e7⟩, h9, h10⟩ := omap_some h4
        cases h10
        refine ⟨e4, _, G4, y, e5, J5, h7, fun yv G5 H5 s5 J6 => ?_⟩
        obtain ⟨G6, s6, J7⟩ := RepS.keep (o2 := []) J6 h8
        have J8 : RepS F e6 ((ops ++ ps) ++ [(.ref Da, .new (.lst acc)), (yv, .val dy)]) G6 σ2 H5 := by simpa using J7
        obtain ⟨a, ha, ⟨ws, q1, q2⟩, _⟩ := (J8.obj (v := .ref Da) (r := .new (.lst acc)) (by simp) (b := .mu (.lst acc)) rfl).2 _ rfl
        cases ha
        obtain ⟨J9, hlen⟩ := J8.growOp q1
        refine ⟨ws, q1, ?_, ?_⟩
        · rw [hlen]
          have hz : tot.length ≤ sizeLine := hsz
          have hacc2 : acc ++ dy :: rest' = tot := hacc
          have hl := congrArg List.length hacc2
          rw [List.length_append, List.length_cons] at hl
          omega
        · have J10 := J9.wipe hcv hnp (hlk2 (acc ++ [dy]))
          rw [hw] at J10
          exact ⟨_, G6, acc ++ [dy], rest', (s14.trans s5).trans s6, J10, h9, by simp [← hacc]⟩
  · have : i = xs.length := by omega
    subst this
    rw [List.drop_length] at h4
    cases h4
    rw [List.append_nil] at hacc
    subst hacc
    refine .inl ⟨stop (Nat.le_refl _), ?_⟩
    have J3 := RepS.rest I2 s2 J2 hcv hno (hlk2 acc) hnp
    exact q _ G2 H2 (s1.trans s2) (J3.unlock1 (fun i o h => nomatch h) lp)
theorem me_lc {np : Nat} {elt tg iter : Expr} {ifs : List Expr} {scope : Scope} {own : List (Str × Nat)} {fi : FI} {t : Tg} {tst : FT} {fe : FE} (hc : X.calm = true) (hN : X.N.Nodup) (hcv : ∀ i ∈ own.map (·.2), F.cv i = true) (hnp : ∀ i ∈ own.map (·.2), F.args.length ≤ i) (hi : PI X tg iter (tI F fi)) (ok : BlkOk X.N X.env.scope scope own)
    (hg : ∀ (s : Shared) (H : Hp) (C : Addr) (cl : List (Str × Addr)) (fp : List Addr), PG (X.blk s H scope (compEnvC scope cl C X.env) fp) tg (gT F np t)) (ht : ∀ (s : Shared) (H : Hp) (C : Addr) (cl : List (Str × Addr)) (fp : List Addr), PTs (X.blk s H scope (compEnvC scope cl C X.env) fp) ifs (tT F tst))
    (he : ∀ (s : Shared) (H : Hp) (C : Addr) (cl : List (Str × Addr)) (fp : List Addr), PE (X.blk s H scope (compEnvC scope cl C X.env) fp) elt (tE F fe)) (hs : ∀ x, foldedSetIterable iter X.env x = pure x := by intro _; rfl) :
    PE X (.ListComp elt [⟨tg, iter, ifs, 0⟩] scope pos) (tE F (eLc np (own.map (·.2)) fi t tst fe)) := (pe_lc hc hN hi ok hg ht he hs).wk (tE_lc hcv hnp)
end
end ML

/-! ML10: methods of lists and dicts; stores by subscript. -/
namespace ML
open PySem PySem.Spec PyProof.Rows L2

section
variable {F : Fr} {env env' : En} {ops ps : Ops} {G G1 G' H H' H1 : Hp} {σ : St} {v : V} {r : R} {d : D} {own : List Nat}
/-- the object of a slot is changed -/
theorem RepS.writeSlot {i : Nat} {p : Addr} {u u' : O} {o : HO} (I : RepS F env ops G σ H) (hσ : σ[i]? = some (some (.ref p))) (hi : env[i]?.join = some (.mu u)) (ho : hasO F G (upd H p o) p u') : RepS F (env.set i (some (.mu u'))) ops G σ (upd H p o) := by
  have hl : i < env.length := by
    rw [← I.len]; exact (List.getElem?_eq_some_iff.mp hσ).1
  refine ⟨?_, fun w q h => ?_, by rw [List.length_set]; exact I.len⟩
  · rw [ix_set _ _ _ _ hl]
    exact I.rep.write (j := .inl i) (b := .mu u) (b' := .mu u') (by simp [ix, hi]) rfl (by simp [ixv, hσ]) rfl ho
  · have q1 := I.opr w q h
    cases q with
    | lkd j z =>
      obtain ⟨q2, q3⟩ := q1
      refine ⟨q2, ?_⟩
      have hj : j ≠ i := by
        rintro rfl
        rw [hi] at q3; cases q3
      rw [List.getElem?_set_ne (Ne.symm hj)]; exact q3
    | bor j => exact q1
    | val d => trivial
    | new o => trivial
theorem RepS.borAt {i : Nat} (I : RepS F env (ops ++ ps) G σ H) (hm : (v, R.bor i) ∈ ops ++ ps) : σ[i]? = some (some v) := (show σ[i]? = some (some v) ∧ F.cv i = false from I.opr v (.bor i) hm).1
end

section
variable {X : Cx} {F : Fr} {pos : Pos} {o e : Expr} {es : List Expr}
theorem me_bm {T id : String} {name : Str} {apos cpos : Pos} {rm : V → List V → Hp → VK → Prop} {chk : R → En → Bool} {g : GL} {fo : FE} {f : FA} (hK : X.K = F.K) (pa : PlainAttrs T) (slot : Slot T name id) (hty : typeOf (.builtin id) = pure (.type "method_descriptor")) (hm : MtR X id rm) (hk : SChk F T chk) (hg : SM F rm g) (ho : PE X o (tE F fo)) (ha : PA X (e :: es) (tA F f))
    (hbase : attributeBase o name X.env (eval o X.env) = eval o X.env := by rfl)
    (hfew : ((backTo cpos (starEach (e :: es) X.env)).all (fun x => !x.1) && (backToKw cpos (keywordEach [] X.env)).all (fun x => x.1.isSome)
      && decide ((e :: es).length + ([] : List Keyword).length + (if ([] : List Keyword).isEmpty then 0 else 1) < 30)) = true := by rfl)
    (hline : (apos.endLine == cpos.line) = true := by rfl) (hs : starEach (e :: es) X.env = (false, eval e X.env) :: starEach es X.env := by rfl) (hplain : (backTo cpos (starEach es X.env)).any (·.1) = false := by rfl) :
    PE X (.Call (.Attribute o name apos) (e :: es) [] cpos) (tE F (eM chk g fo f)) := (pe_bm pa slot hty hm ho ha hbase hfew hline hs hplain).wk fun σ H Q h => by rw [hK]; exact tE_meth hk hg σ H Q h
/-! ### lists -/
def gAppend : GL := fun r rs env => match r, rs with
  | .bor i, [a] => (keep a env).bind fun p => match p.2[i]?.join with
    | some (.mu (.lst ds)) => if ds.length < sizeLine then some (.val .none, p.2.set i (some (.mu (.lst (ds ++ [p.1]))))) else none
    | _ => none
  | _, _ => none
theorem s_append : SM F rAppend gAppend := by
  intro env ops x ra ps G σ H r env' Q I e k
  unfold gAppend at e
  split at e
  · rename_i i a hps
    obtain ⟨y, rfl⟩ := map1 hps
    obtain ⟨⟨d, e1⟩, h1, e⟩ := bind_some e
    split at e
    · rename_i ds hi
      split at e
      · rename_i hl
        cases e
        obtain ⟨G1, s1, I1⟩ := RepS.keep (o1 := ops ++ [(x, .bor i)]) (o2 := []) (by simpa using I) h1
        have hσ : σ[i]? = some (some x) := I1.borAt (by simp)
        obtain ⟨p, rfl, ⟨vs, q1, q2⟩, _⟩ := (I1.obj (v := x) (r := .bor i) (by simp) (b := .mu (.lst ds)) hi).2 _ rfl
        have hd : Dp F.K G1 y d := (I1.obj (v := y) (r := .val d) (by simp) (b := .val d) rfl).1 d rfl
        refine ⟨p, vs, y, rfl, rfl, q1, by rw [dpAll_len q2]; exact hl, ?_⟩
        have I2 := I1.writeSlot (u' := .lst (ds ++ [d])) hσ hi ⟨_, upd_same, dpAll_app q2 (.cons hd .nil)⟩
        have I3 : RepS F _ ops G1 σ _ := RepS.pop (ps := [(.ref p, .bor i), (y, .val d)]) (by simpa using I2)
        exact k _ G1 _ s1 (I3.pushV .non)
      · cases e
    · cases e
  · cases e
/-- an own list as an operand -/
def ownL (r : R) (env : En) : Option (List D) := match r.ownO env with
  | some (.lst ds) => some ds
  | _ => none
theorem ownL_eq {r : R} {env : En} {ds : List D} (h : ownL r env = some ds) : r.ownO env = some (.lst ds) := by
  unfold ownL at h; split at h <;> first | (cases h; assumption) | cases h
def gExtend : GL := fun r rs env => match r, rs with
  | .bor i, [a] => (ownL a env).bind fun zs => match env[i]?.join with
    | some (.mu (.lst ds)) => if ds.length + zs.length ≤ sizeLine then some (.val .none, env.set i (some (.mu (.lst (ds ++ zs))))) else none
    | _ => none
  | _, _ => none
theorem s_extend : SM F rExtend gExtend := by
  intro env ops x ra ps G σ H r env' Q I e k
  unfold gExtend at e
  split at e
  · rename_i i a hps
    obtain ⟨y, rfl⟩ := map1 hps
    obtain ⟨zs, h1, e⟩ := bind_some e
    split at e
    · rename_i ds hi
      split at e
      · rename_i hl
        cases e
        have I1 : RepS F env ((ops ++ [(x, .bor i)]) ++ [(y, a)]) G σ H := by simpa using I
        have hσ : σ[i]? = some (some x) := I1.borAt (by simp)
        obtain ⟨p, rfl, ⟨vs, q1, q2⟩, _⟩ := (I1.obj (v := x) (r := .bor i) (by simp) (b := .mu (.lst ds)) hi).2 _ rfl
        obtain ⟨b, rfl, ⟨ws, g1, g2⟩, _⟩ := I1.ownO (v := y) (r := a) (by simp) (ownL_eq h1)
        refine ⟨p, b, vs, ws, rfl, rfl, q1, g1, by rw [dpAll_len q2, dpAll_len g2]; exact hl, ?_⟩
        have I2 := I1.writeSlot (u' := .lst (ds ++ zs)) hσ hi ⟨_, upd_same, dpAll_app q2 g2⟩
        have I3 : RepS F _ ops G σ _ := RepS.pop (ps := [(.ref p, .bor i), (.ref b, a)]) (by simpa using I2)
        exact k _ G _ (Same.refl _) (I3.pushV .non)
      · cases e
    · cases e
  · cases e
def gPop : GL := fun r rs env => match r, rs with
  | .bor i, [] => match env[i]?.join with
    | some (.mu (.lst ds)) => (ds[ds.length - 1]?).map fun d => (.val d, env.set i (some (.mu (.lst ds.dropLast))))
    | _ => none
  | _, _ => none
def gPopAt : GL := fun r rs env => match r, rs with
  | .bor i, [.val (.int n)] => match env[i]?.join with
    | some (.mu (.lst ds)) => if -(2 ^ 63) ≤ n ∧ n < 2 ^ 63 then (seqIndex? n ds.length).bind fun j => (ds[j]?).map fun d => (.val d, env.set i (some (.mu (.lst (ds.eraseIdx j))))) else none
    | _ => none
  | _, _ => none
theorem s_popAt : SM F rPopAt gPopAt := by
  intro env ops x ra ps G σ H r env' Q I e k
  unfold gPopAt at e
  split at e
  · rename_i i n hps
    obtain ⟨y, rfl⟩ := map1 hps
    split at e
    · rename_i ds hi
      split at e
      · rename_i hn
        obtain ⟨j, h0, e⟩ := bind_some e
        obtain ⟨d, h1, h2⟩ := omap_some e
        cases h2
        have I1 : RepS F env ((ops ++ [(x, .bor i)]) ++ [(y, .val (.int n))]) G σ H := by simpa using I
        have hσ : σ[i]? = some (some x) := I1.borAt (by simp)
        have ey : y = .int n := I1.vint (by simp)
        obtain ⟨p, rfl, ⟨vs, q1, q2⟩, _⟩ := (I1.obj (v := x) (r := .bor i) (by simp) (b := .mu (.lst ds)) hi).2 _ rfl
        obtain ⟨z, g1, g2⟩ := dpAll_get q2 h1
        refine ⟨p, vs, n, j, z, rfl, by rw [← ey]; rfl, q1, hn.1, hn.2, by rw [dpAll_len q2]; exact h0, g1, ?_⟩
        have I2 := I1.writeSlot (u' := .lst (ds.eraseIdx j)) hσ hi ⟨_, upd_same, dpAll_erase j q2⟩
        have I3 : RepS F _ ops G σ _ := RepS.pop (ps := [(.ref p, .bor i), (y, .val (.int n))]) (by simpa using I2)
        exact k _ G _ (Same.refl _) (I3.pushV g2)
      · cases e
    · cases e
  · cases e

/-! ### xs[i] = v, d[k] = v -/
/-- a dict with a value put -/
def putD (kvs : List (Key × D)) (k : Key) (d : D) : List (Key × D) := if (kvs.any fun kv => decide (kv.1 = k)) = true then kvs.map (fun kv => if kv.1 = k then (kv.1, d) else kv) else kvs ++ [(k, d)]
theorem kvr_any {K : PySem.W.Frag} {G : Hp} (k : Key) : ∀ {ws : List (Key × V)} {kvs : List (Key × D)}, KVr K G ws kvs → (ws.any fun kv => decide (kv.1 = k)) = kvs.any fun kv => decide (kv.1 = k)
  | _, _, .nil => rfl
  | _, _, .cons r t => by simp only [List.any_cons]; rw [kvr_any k t, r.1]
theorem kvr_app {K : PySem.W.Frag} {G : Hp} : ∀ {ws ws' : List (Key × V)} {kvs kvs' : List (Key × D)}, KVr K G ws kvs → KVr K G ws' kvs' → KVr K G (ws ++ ws') (kvs ++ kvs')
  | _, _, _, _, .nil, h => h
  | _, _, _, _, .cons r t, h => .cons r (kvr_app t h)
theorem kvr_put {K : PySem.W.Frag} {G : Hp} {k : Key} {v : V} {d : D} (hd : Dp K G v d) {ws : List (Key × V)} {kvs : List (Key × D)} (h : KVr K G ws kvs) : KVr K G (putK ws k v) (putD kvs k d) := by
  unfold putK putD
  rw [kvr_any k h]
  split
  · have go : ∀ {ws : List (Key × V)} {kvs : List (Key × D)}, KVr K G ws kvs → KVr K G (ws.map fun kv => if kv.1 = k then (kv.1, v) else kv) (kvs.map fun kv => if kv.1 = k then (kv.1, d) else kv) := by
      intro ws kvs h
      induction h with
      | nil => exact .nil
      | @cons a b l1 l2 r t ih =>
        refine .cons ?_ ih
        obtain ⟨r1, r2⟩ := r
        by_cases hk : a.1 = k
        · have hk2 : b.1 = k := r1 ▸ hk
          simp only [hk, hk2, if_true]; exact ⟨trivial, hd⟩
        · have hk2 : ¬ b.1 = k := r1 ▸ hk
          simp only [hk, hk2, if_false]; exact ⟨r1, r2⟩
    exact go h
  · exact kvr_app h (.cons ⟨rfl, hd⟩ .nil)
def rSetD : TSet := fun o i v H Q => ∃ a H4, o = .ref a ∧ DPut H a i v H4 ∧ Q H4
theorem set_dict (hu : X.A.units + 1 < cLine) : PSet X rSetD := by
  intro pins s σ H o i v ov iv u Q I ro ri rv h
  obtain ⟨a, H4, rfl, g, q⟩ := h
  cases ro
  exact d_setItem hu I g ri rv fun s' I' => ⟨H4, I', q⟩
def rSetA : TSet := fun o i v H Q => rSetL o i v H Q ∨ rSetD o i v H Q
theorem set_any (hu : X.A.units + 1 < cLine) : PSet X rSetA := by
  intro pins s σ H o i v ov iv u Q I ro ri rv h
  rcases h with h | h
  · exact set_list pins s σ H o i v ov iv u Q I ro ri rv h
  · exact set_dict hu pins s σ H o i v ov iv u Q I ro ri rv h
/-- the store itself: the slot i of the container, the index, the data -/
def setAt (i : Nat) (ri : R) (d : D) (env : En) : Option En := match env[i]?.join with
  | some (.mu (.lst ds)) => ri.int.bind fun n => (ixN ds.length n).map fun j => env.set i (some (.mu (.lst (ds.set j d))))
  | some (.mu (.dK kvs)) => (ri.dat env).bind fun k => (keyD k).bind fun k => if kvs.length < sizeLine then some (env.set i (some (.mu (.dK (putD kvs k d))))) else none
  | _ => none
theorem RepS.setAt {env env' : En} {ops : Ops} {G H : Hp} {σ : St} {x y v : V} {i : Nat} {ri : R} {d : D} {Q : Hp → Prop} (I : RepS F env ops G σ H) (mv : (v, R.val d) ∈ ops) (mx : (x, R.bor i) ∈ ops) (my : (y, ri) ∈ ops) (e : setAt i ri d env = some env') (q : ∀ H', RepS F env' ops G σ H' → Q H') : rSetA x y v H Q := by
  have hσ : σ[i]? = some (some x) := (show σ[i]? = some (some x) ∧ F.cv i = false from I.opr x (.bor i) mx).1
  have hd : Dp F.K G v d := (I.obj (v := v) (r := .val d) mv (b := .val d) rfl).1 d rfl
  unfold ML.setAt at e
  split at e
  · rename_i ds hi
    obtain ⟨n, h1, e⟩ := bind_some e
    obtain ⟨j, h2, h3⟩ := omap_some e
    subst h3
    obtain rfl := R.int_eq h1
    have ey : y = .int n := I.vint my
    obtain ⟨p, rfl, ⟨vs, q1, q2⟩, _⟩ := (I.obj (v := x) (r := .bor i) mx (b := .mu (.lst ds)) hi).2 _ rfl
    refine .inl ⟨p, vs, n, j, rfl, ey, q1, by rw [dpAll_len q2]; exact h2, q _ ?_⟩
    exact (I.writeSlot (u' := .lst (ds.set j d)) hσ hi ⟨_, upd_same, dpAll_set hd j q2⟩)
  · rename_i kvs hi
    obtain ⟨kd, h1, e⟩ := bind_some e
    obtain ⟨k, h2, e⟩ := bind_some e
    split at e
    · rename_i hl
      cases e
      obtain ⟨p, rfl, ⟨ws, q1, q2⟩, _⟩ := (I.obj (v := x) (r := .bor i) mx (b := .mu (.dK kvs)) hi).2 _ rfl
      have ey := keyD_of (I.dat (v := y) (r := ri) my h1) h2
      refine .inr ⟨p, _, rfl, by rw [ey]; exact DPut.k q1 (by rw [kvr_len q2]; exact hl), q _ ?_⟩
      exact (I.writeSlot (u' := .dK (putD kvs k d)) hσ hi ⟨_, upd_same, kvr_put hd q2⟩)
    · cases e
  · cases e
/-- o[i] = v: first the value, then o, then i -/
def sSetIx (fv fo fi : FE) : FS := fun env => (fv env).bind fun p => (fo p.2).bind fun q => (fi q.2).bind fun s => (keep p.1 s.2).bind fun d => match q.1 with
  | .bor i => (setAt i s.1 d.1 d.2).map fun e => (.nx, e)
  | _ => none
theorem ms_setIx {a b : Expr} {tp : Pos} {fv fo fi : FE} (hu : X.A.units + 1 < cLine) (hv : PE X e (tE F fv)) (ho : PE X a (tE F fo)) (hi : PE X b (tE F fi))
    (ha : ∀ v, assign (.Subscript a b tp) X.env v = (do
      let ov ← holding [v] (eval a X.env)
      let iv ← holding [v, ov] (eval b X.env)
      standAt tp
      holding [v, ov, iv] (setItem ov iv v)
      release [v, ov, iv] []) := by intro _; rfl)
    (hs : swapsWithSole [.Subscript a b tp] e pos.line X.env = pure false := by rfl) (hw : swappedStores [.Subscript a b tp] e X.env = pure none := by rfl)
    (h1 : (assignEach [.Subscript a b tp] X.env).map (·.2) = [assign (.Subscript a b tp) X.env] := by rfl) : PS X (.Assign [.Subscript a b tp] e pos) (tS F (sSetIx fv fo fi)) :=
  (ps_asg hv (pg_sub ho hi (set_any hu) ha) hs hw h1).wk fun D σ H ⟨env, ops, G, fl, env', nb, I, e, k⟩ => by
    obtain ⟨⟨rv, e1⟩, h1, e⟩ := bind_some e
    obtain ⟨⟨ro, e2⟩, h2, e⟩ := bind_some e
    obtain ⟨⟨ri, e3⟩, h3, e⟩ := bind_some e
    obtain ⟨⟨d, e4⟩, h4, e⟩ := bind_some e
    split at e
    · rename_i i hro
      obtain ⟨e5, h5, h6⟩ := omap_some e
      cases h6
      have hro : ro = .bor i := hro
      subst hro
      refine ⟨env, ops, G, rv, e1, I, h1, fun v G1 H1 s1 I1 => ?_⟩
      refine ⟨e1, _, G1, _, e2, I1, h2, fun x G2 H2 s2 I2 => ?_⟩
      refine ⟨e2, _, G2, ri, e3, I2, h3, fun y G3 H3 s3 I3 => ?_⟩
      obtain ⟨G4, s4, I4⟩ := RepS.keep (o1 := ops) (v := v) (r := rv) (o2 := [(x, .bor i), (y, ri)]) (by simpa using I3) h4
      exact RepS.setAt I4 (by simp) (by simp) (by simp) h5 fun H' I5 => k σ G4 H' (((s1.trans s2).trans s3).trans s4) I5.pop
    · cases e

/-! ### o[i] op= v, lists of data at places from 0 on -/
/-- xs[i] += e, xs[i] -= e of ints: o, i, the old one, e -/
def sAugIx (f : Int → Int → Int) (fo fi fe : FE) : FS := fun env => (fo env).bind fun p => (fi p.2).bind fun q => match p.1, q.1 with
  | .bor i, .val (.int n) => (match q.2[i]?.join with
    | some (.mu (.lst ds)) => if 0 ≤ n then (match ds[n.toNat]? with
      | some (.int a) => (fe q.2).bind fun s => s.1.int.bind fun b => (setAt i (.val (.int n)) (.int (f a b)) s.2).map fun e => (.nx, e)
      | _ => none) else none
    | _ => none)
  | _, _ => none
end
end ML

/-! ML12: dicts: get, update, dict(..), displays; ranges as tuples and lists. -/
namespace ML
open PySem PySem.Spec PyProof.Rows L2
section
variable {X : Cx} {F : Fr} {pos : Pos} {o e : Expr} {es : List Expr}
/-- d.get(k, x) -/
def eGet2 (fo fk fd : FE) : FE := fun env => (fo env).bind fun p => if chkD p.1 p.2 = true then (fk p.2).bind fun q => (fd q.2).bind fun s => (p.1.dk s.2).bind fun kvs => (q.1.dat s.2).bind fun kd => (keyD kd).bind fun k => match lkD kvs k with
    | some d => some (.val d, s.2)
    | none => some (s.1, s.2)
  else none
/-- the pairs of a list of pairs -/
def pairsOf : List D → Option (List (Key × D))
  | [] => some []
  | .tuple [k, d] :: r => (keyD k).bind fun k => (pairsOf r).map fun s => (k, d) :: s
  | _ => none
theorem pairsOf_dp {K : PySem.W.Frag} {G : Hp} : ∀ {ds : List D} {vs : List V} {kvs : List (Key × D)}, DpAll K G vs ds → pairsOf ds = some kvs → ∃ (ps : List Addr) (ws : List (Key × V)), vs = ps.map V.ref ∧ Paired (fun p kv => SqT K G p [kV kv.1, kv.2]) ps ws ∧ KVr K G ws kvs
  | [], vs, kvs, h, e => by
    cases h; cases e
    exact ⟨[], [], rfl, .nil, .nil⟩
  | d :: ds, vs, kvs, h, e => by
    unfold pairsOf at e
    split at e
    · rename_i h0; cases h0
    · rename_i d0 k d' r h0
      cases h0
      obtain ⟨kk, h1, e⟩ := bind_some e
      obtain ⟨s, h2, h3⟩ := omap_some e
      subst h3
      cases h with
      | cons a1 a2 =>
        obtain ⟨a, us, rfl, q1, q2⟩ := dp_tup a1
        cases q2 with
        | cons b1 b2 =>
          cases b2 with
          | cons c1 c2 =>
            cases c2
            obtain ⟨ps, ws, rfl, g1, g2⟩ := pairsOf_dp a2 h2
            have := keyD_of b1 h1
            subst this
            exact ⟨a :: ps, (kk, _) :: ws, rfl, .cons q1 g1, .cons ⟨rfl, c1⟩ g2⟩
    · cases e
def mergeD (kvs more : List (Key × D)) : List (Key × D) := more.foldl (fun acc kv => putD acc kv.1 kv.2) kvs
theorem kvr_merge {K : PySem.W.Frag} {G : Hp} {more : List (Key × V)} {mored : List (Key × D)} (hm : KVr K G more mored) : ∀ {ws : List (Key × V)} {kvs : List (Key × D)}, KVr K G ws kvs → KVr K G (mergeK ws more) (mergeD kvs mored) := by
  induction hm with
  | nil => exact fun h => h
  | @cons p q l1 l2 r t ih =>
    intro ws kvs h
    obtain ⟨k, v⟩ := p
    obtain ⟨k2, d⟩ := q
    obtain ⟨r1, r2⟩ := r
    have r1 : k = k2 := r1
    subst r1
    exact ih (kvr_put r2 h)
theorem paired_mono {K : PySem.W.Frag} {G H : Hp} (s : Same G H) {ps : List Addr} {ws : List (Key × V)} (h : Paired (fun p kv => SqT K G p [kV kv.1, kv.2]) ps ws) : Paired (fun p kv => SqT K H p [kV kv.1, kv.2]) ps ws := Paired.mapP h fun _ _ z => same_sqT s z
def gDict : GN := n1 fun r env => (r.lst env).bind fun ds => (pairsOf ds).map fun kvs => (.new (.dK (mergeD [] kvs)), env)
def gUpdate : GL := fun r rs env => match r, rs with
  | .bor i, [a] => (a.lst env).bind fun ds => (pairsOf ds).bind fun more => match env[i]?.join with
    | some (.mu (.dK kvs)) => if kvs.length + more.length ≤ sizeLine then some (.val .none, env.set i (some (.mu (.dK (mergeD kvs more))))) else none
    | _ => none
  | _, _ => none
/-! ### displays -/
def eNewD : FE := fun env => some (.new (.dK []), env)
def pairsE : List (FE × FE) → En → Option (List (Key × D) × En)
  | [], env => some ([], env)
  | (fk, fv) :: r, env => (fk env).bind fun p => match p.1 with
    | .val kd => (keyD kd).bind fun k => (fv p.2).bind fun q => (keep q.1 q.2).bind fun d => (pairsE r d.2).map fun s => ((k, d.1) :: s.1, s.2)
    | _ => none
theorem pairs_sound : ∀ (l : List (FE × FE)) (env env' : En) (ops : Ops) (G : Hp) (σ : St) (H : Hp) (kvs : List (Key × D)) (Q : List (V × V) → Hp → Prop), RepS F env ops G σ H → pairsE l env = some (kvs, env') →
    (∀ G' H' (ws : List (Key × V)), Same G G' → RepS F env' ops G' σ H' → KVr F.K G' ws kvs → Q (ws.map fun kv => (kV kv.1, kv.2)) H') → tPairs (l.map fun p => (tE F p.1, tE F p.2)) σ H Q
  | [], env, env', ops, G, σ, H, kvs, Q, I, e, k => by
    cases e
    exact k G H [] (Same.refl _) I .nil
  | (fk, fv) :: l, env, env', ops, G, σ, H, kvs, Q, I, e, k => by
    obtain ⟨⟨rk, e1⟩, h1, e⟩ := bind_some e
    split at e
    · rename_i kd hk
      have hk : rk = .val kd := hk
      subst hk
      obtain ⟨kk, h2, e⟩ := bind_some e
      obtain ⟨⟨rv, e2⟩, h3, e⟩ := bind_some e
      obtain ⟨⟨d, e3⟩, h4, e⟩ := bind_some e
      obtain ⟨⟨kvs', e4⟩, h5, h6⟩ := omap_some e
      cases h6
      refine ⟨env, ops, G, _, e1, I, h1, fun x G1 H1 s1 I1 => ?_⟩
      have ex := keyD_of (I1.dat (v := x) (r := .val kd) (by simp) rfl) h2
      refine ⟨e1, _, G1, rv, e2, I1.pop, h3, fun y G2 H2 s2 I2 => ?_⟩
      obtain ⟨G3, s3, I3⟩ := RepS.keep (o1 := ops) (o2 := []) I2 h4
      have hd : Dp F.K G3 y d := (I3.obj (v := y) (r := .val d) (by simp) (b := .val d) rfl).1 d rfl
      refine pairs_sound l e3 _ ops G3 σ H2 kvs' _ (RepS.pop I3) h5 fun G4 H4 ws s4 I4 hw => ?_
      have := k G4 H4 ((kk, y) :: ws) (((s1.trans s2).trans s3).trans s4) I4 (.cons ⟨rfl, dp_mono s4 _ _ hd⟩ hw)
      rw [ex]
      exact this
    · cases e
def eDisp (l : List (FE × FE)) : FE := fun env => (pairsE l env).bind fun p => if p.1.length ≤ 15 then some (.new (.dK (mergeD [] p.1)), p.2) else none
theorem me_disp {keys : List (Option Expr)} {values : List Expr} {l : List (FE × FE)} (h : PPs X pos keys values (l.map fun p => (tE F p.1, tE F p.2))) (hall : keys.all (·.isSome) = true) (hl : keys.length = values.length) (h0 : keys ≠ [])
    (h15 : keys.length ≤ 15) : PE X (.Dict keys values pos) (tE F (eDisp l)) := (pe_disp h hall hl h0 h15).wk fun σ H Q ⟨env, ops, G, r, env', I, e, q⟩ => by
  obtain ⟨⟨kvs, e1⟩, h1, e⟩ := bind_some e
  split at e
  case isFalse => cases e
  rename_i hlen
  cases e
  intro p hp
  have I1 : RepS F env (ops ++ [(.ref p, .new (.dK []))]) G σ (upd H p (.dK [])) := I.pushN (u := .dK []) hp ⟨[], upd_same, .nil⟩
  refine pairs_sound l env e1 _ G σ _ kvs _ I1 h1 fun G' H' ws s' I2 hw => ?_
  obtain ⟨a, ea, ⟨ws0, q1, q2⟩, _⟩ := (I2.obj (v := .ref p) (r := .new (.dK [])) (by simp) (b := .mu (.dK [])) rfl).2 _ rfl
  cases ea
  cases q2
  refine ⟨q1, ws, rfl, by rw [kvr_len hw]; exact hlen, ?_⟩
  refine q _ G' _ s' ⟨?_, fun w r h => ?_, I2.len⟩
  · have J := I2.rep.write (j := .inr ops.length) (b := .mu (.dK [])) (b' := .mu (.dK (mergeD [] kvs))) (u := .dK []) (u' := .dK (mergeD [] kvs)) (p := p) (o := .dK (mergeK [] ws)) (by simp [ix, R.toB]) rfl (by simp [ixv]) rfl ⟨_, upd_same, kvr_merge hw .nil⟩
    rw [ix_snoc, ixv_snoc] at J
    rw [ix_snoc, ixv_snoc]
    refine J.re id (fun k b e => ⟨?_, rfl, id⟩) (fun _ _ _ _ _ _ z => z) (fun i v e => J.par i v e)
    by_cases hk : k = .inr ops.length
    · simp only [hk, if_true, id] at e ⊢; exact e
    · simp only [hk, if_false, id] at e ⊢; exact e
  · rcases List.mem_append.mp h with h | h
    · exact I2.opr w r (List.mem_append_left _ h)
    · simp at h; obtain ⟨rfl, rfl⟩ := h; trivial

/-! ### tuple(range(..)), list(range(..)) -/
def rgOk (a b : Int) : Bool := decide (-(2 ^ 62) ≤ a ∧ a < 2 ^ 62 ∧ -(2 ^ 62) ≤ b ∧ b < 2 ^ 62 ∧ (b - a).toNat ≤ 2 ^ 24)
def eTupRg1 (f : FE) : FE := fun env => (f env).bind fun p => p.1.int.bind fun n => if rgOk 0 n = true then some (.val (.tuple (rangeD 0 n)), p.2) else none
def eLstRg1 (f : FE) : FE := fun env => (f env).bind fun p => p.1.int.bind fun n => if rgOk 0 n = true then some (.new (.lst (rangeD 0 n)), p.2) else none
end
end ML

/-! ML11: set(..) of ints. -/
namespace ML
open PySem PySem.Spec PyProof.Rows L2
section
variable {P : Program} {w : World} {A : Around} {E : Value → Shared → Prop} {s : Shared}
/-- the empty set as it is made -/
abbrev emptySet (w : World) : Obj := { cls := .type "set", dict := none, data := .set #[] 0 (.fresh 0 0 (!w.params.followText "set-order")) }
set_option maxHeartbeats 3200000 in
theorem setOfList {l : Addr} {its : Array Value} (ns : List Int) {Q : Value → Shared → Prop} (hh : A.handled = none) (hl : s.heap.IsList l its) (hit : IntsAre its.toList ns) (hb : ns.length + 1 < scanBound)
    (h : ∀ (h' : Heap) (tk c : Nat), SetR w h' s.heap.objs.size (fun j => decide (j ∈ ns)) c → c ≤ ns.length → (∀ b o, s.heap.get? b = some o → h'.get? b = some o) → Q (.ref s.heap.objs.size) { s with heap := h', toks := tk }) :
    wpAny (model P w) A (call (.type "set") [.ref l]) Q E s := by
  have size : its.size = ns.length := by simpa using hit.length
  obtain ⟨c0, tl, hmro⟩ := PySem.F.called_set.mro
  have hmade := PySem.F.called_set.made; have hsub := PySem.F.called_set.sub
  refine wpAny_call (codeAny_of_tree (show wpAny _ _ (callAny (.type "set") _) _ _ _ from ?_))
  refine wpAny_pure (And.intro (Code.quiet_builtin _ (by decide +kernel)) (codeAny_builtin PySem.F.entry_type_call ?_))
  rw [Around.under_plain (weight_type_call_type "set" [Value.ref l] ([] : List (Str × Value))) rfl]
  have h1 := PySem.F.called_set.notType; have h2 := PySem.F.called_set.canCreate; have hct := PySem.F.typeCall_set_1 (.ref l)
  repeat (any_goals (first | assumption | wp_step))
  refine codeAny_mono (code_set_led1 (.ref l) (E := E) (Q₁ := fun ob s₁ => ob = .ref s.heap.objs.size ∧ s₁ = { s with heap := s.heap.push (emptySet w) }) (And.intro rfl rfl)) fun r s₁ hr => ?_
  cases r with
  | error e => exact hr
  | ok fl =>
    cases fl with
    | ret ob =>
      obtain ⟨rfl, rfl⟩ := hr
      have hS : (s.heap.push (emptySet w)).get? s.heap.objs.size = some (emptySet w) := Heap.get?_push_size _ rfl
      have hT : Shared.TypeIs { s with heap := s.heap.push (emptySet w) } (.ref s.heap.objs.size) "set" := ⟨_, hS, rfl⟩
      have hli := PySem.F.called_set.init.lookup; have hbi := PySem.F.called_set.init.bind (.ref s.heap.objs.size)
      repeat (any_goals (first | assumption | wp_step))
      refine codeAny_mono (codeAny_call_builtin (R := wants (fun r s₂ => r = .none ∧ ∃ h' tk c, s₂ = { s with heap := h', toks := tk } ∧ SetR w h' s.heap.objs.size (fun j => decide (j ∈ ns)) c ∧ c ≤ ns.length ∧ ∀ b o, s.heap.get? b = some o → h'.get? b = some o) E)
        PySem.F.called_set.init.plain PySem.F.entry_set_init (check_set_init_1 hT ?_)) fun r₂ s₂ hr₂ => ?_
      · obtain ⟨ol, hol, hcl, nl, hdl⟩ := hl
        obtain ⟨ocls, odict, odata, oslots⟩ := ol
        simp only at hcl hdl
        subst hcl hdl
        have hol' : (s.heap.push (emptySet w)).get? l = some { cls := .type "list", dict := odict, data := .seq its nl, slots := oslots } := Heap.get?_push_of_some _ hol
        have hsls := PySem.F.sub_list_set; have hslf := PySem.F.sub_list_frozenset
        have hne : (Value.type "list" == Value.type "dict") = false := by decide
        have hl1 : (s.heap.push (emptySet w)).IsList l its := ⟨_, hol', rfl, nl, rfl⟩
        unfold Builtin.«set.__init__» noKeywords Builtin.Frozenset.updateFrom
        generalize hPI : pyIter = PI
        wp_walk
        subst hPI
        refine wpAny_pyIter_list hl1 (wpAny_bind (wpAny_runValue ?_))
        have hlS := Heap.lt_size hol
        have hlS : l < s.heap.objs.size := hlS
        have zz : (s.heap.push (emptySet w)).objs.size = s.heap.objs.size + 1 := Heap.size_push ..
        have hneI : l ≠ (s.heap.push (emptySet w)).objs.size := zz ▸ Nat.ne_of_lt (Nat.lt_succ_of_lt hlS)
        have hSf : s.heap.objs.size ∉ [(s.heap.push (emptySet w)).objs.size, l] := fun z => by
          rcases List.mem_cons.mp z with z | z
          · rw [zz] at z; exact Nat.ne_of_lt (Nat.lt_succ_self _) z
          · exact Nat.ne_of_gt hlS (List.mem_singleton.mp z)
        have hval : ∀ (i : Nat) (v : Value), its[i]? = some v → ∃ k t, ns[i]? = some k ∧ v = .int k t := fun i v hv => by
          obtain ⟨t, e⟩ := PyProof.Rows.IntsAre.int_at hit i v (by simpa using hv)
          have hi : i < ns.length := size ▸ (Array.getElem?_eq_some_iff.mp hv).1
          exact ⟨ns[i], t, by simp [hi], by rw [e]; simp [hi]⟩
        have hh3 : A.in1.in1.in1.handled = none := by simp [hh]
        refine set_update_ints ((Walks.list hh3 _ l hneI its).toS) s.heap.objs.size hSf ns size hb hval (its.size - 0) 0 _ (by omega) (Nat.zero_le _) ⟨⟨_, Heap.get?_push_size _ rfl, rfl, rfl⟩, (hl1.push _)⟩ ⟨0, Nat.le_refl 0, setR_new_at (Heap.get?_push_of_some _ hS)⟩ ?_
        intro s' c' hm hc' hS'
        obtain ⟨h', g2, d', tk', os'⟩ := s'
        obtain rfl : g2 = s.gens := hm.gens
        obtain rfl : d' = s.drawn := hm.drawn
        obtain rfl : os' = s.os := hm.os
        refine (show wpAny _ _ _ _ _ _ from wpAny_pure (show wpAny _ _ (ret Value.none) _ _ _ from wpAny_pure ⟨rfl, h', tk', c', rfl, hS', by rw [← size]; exact hc', fun b o e => ?_⟩))
        have hb0 := Heap.lt_size e
        have hb0 : b < s.heap.objs.size := hb0
        exact hm.heap b o (fun z => by
          rcases List.mem_cons.mp z with z | z
          · exact Nat.ne_of_lt hb0 z
          · have z := List.mem_singleton.mp z
            rw [zz] at z
            exact Nat.ne_of_lt (Nat.lt_succ_of_lt hb0) z) (Heap.get?_push_of_some _ (Heap.get?_push_of_some _ e))
      · cases r₂ with
        | error e => exact hr₂
        | ok fl₂ =>
          cases fl₂ with
          | ret r =>
            obtain ⟨rfl, h', tk, c', rfl, hS', hc', hk'⟩ := hr₂
            repeat (any_goals (first | assumption | wp_step))
            exact h _ _ _ hS' hc' hk'
          | _ => exact hr₂.elim
    | _ => exact hr.elim
end
end ML

/-! ML13: set(..) of ints as a value. -/
namespace ML
open PySem PySem.Spec PyProof.Rows L2
theorem setR_count {w : World} {h : Heap} {a : Addr} {ns : List Int} {c : Nat} (R : SetR w h a (fun j => decide (j ∈ ns)) c) : c = (usort ns).length := by
  obtain ⟨o, es, ep, t, ho, hex, hdt, g, nd, hm, hb, hf, hn, _⟩ := R
  have e : (es.toList.map keyOf).Perm (usort ns) := (List.perm_ext_iff_of_nodup nd (rising_nodup (usort_sorted ns))).mpr fun k => by
    rw [← hm k, usort_mem]; simp
  have := e.length_eq
  rw [List.length_map, Array.length_toList] at this
  omega
theorem setR_usort {w : World} {h : Heap} {a : Addr} {ns : List Int} {c : Nat} (R : SetR w h a (fun j => decide (j ∈ ns)) c) : SetR w h a (fun j => decide (j ∈ usort ns)) (usort ns).length := by
  have e := setR_count R
  subst e
  exact R.congr fun k => by simp only [usort_mem]
def rSetOf (K : PySem.W.Frag) (w : World) : List V → Hp → VK → Prop := fun xs H Q => ∃ (a : Addr) (ns : List Int), xs = [.ref a] ∧ (SqL K H a (ns.map V.int) ∨ SqT K H a (ns.map V.int)) ∧ ns.length ≤ 1000 ∧
  ∀ p, H p = none → Q (.ref p) (upd H p (SetO w p (fun k => decide (k ∈ usort ns)) (usort ns).length))
section
variable {X : Cx}
theorem call_setOf (hc : X.calm = true) : CallR X (.type "set") (rSetOf X.K X.w) := by
  intro pins s σ H xs us Q I r h
  obtain ⟨a, ns, rfl, hs, hl, q⟩ := h
  obtain rfl := Vals.ref1 r
  have hh : X.A.handled = none := I.ok.hd hc
  have hb : ns.length + 1 < scanBound := by unfold scanBound; omega
  rcases hs with hs | hs
  · obtain ⟨its, rv, hls, hz⟩ := I.list hs
    refine setOfList ns hh hls.isList rv.ints hb fun h' tk c R1 hcn k => ?_
    exact ⟨.ref _, _, I.laid (t' := tk) k (Nat.le_refl _) (setO_new (setR_usort R1)), rfl, q _ (I.hok.fresh (Nat.le_refl _))⟩
  · obtain ⟨its, rv, pt, hz⟩ := I.tuple hs
    have hi : IntsAre its.toArray.toList ns := ints_of_vals rv
    refine call_set_tupI ns hh (show s.heap.IsTuple a its.toArray from pt) hi hb fun h' tk c R1 hcn k => ?_
    exact ⟨.ref _, _, I.laid (t' := tk) k (Nat.le_refl _) (setO_new (setR_usort R1)), rfl, q _ (I.hok.fresh (Nat.le_refl _))⟩
end
section
variable {F : Fr}
def seqInts (r : R) (env : En) : Option (List Int) := match r.dat env with
  | some (.list ds) => intsOf ds
  | some (.tuple ds) => intsOf ds
  | _ => none
def gSet : GN := n1 fun r env => (seqInts r env).bind fun ns => if ns.length ≤ 1000 then some (.new (.sI (usort ns)), env) else none
theorem s_set : SN F (rSetOf F.K F.w) gSet := sn1 fun env ops x ra G σ H r env' Q I e k => by
  obtain ⟨ns, h1, e⟩ := bind_some e
  split at e
  case isFalse => cases e
  rename_i hl
  cases e
  have go : ∀ (a : Addr), x = .ref a → (SqL F.K H a (ns.map V.int) ∨ SqT F.K H a (ns.map V.int)) → rSetOf F.K F.w [x] H Q := fun a e h => ⟨a, ns, by rw [e], h, hl, fun p hp => k _ G _ (Same.refl _) (I.pop.pushN hp ⟨upd_same, rising_nodup (usort_sorted ns)⟩)⟩
  unfold seqInts at h1
  split at h1
  · rename_i ds hd
    obtain ⟨a, vs, rfl, q1, q2⟩ := I.lst (r := ra) (v := x) (by simp) (show R.lst ra env = some ds by unfold R.lst; rw [hd])
    rw [intsOf_eq h1] at q2
    rw [dpAll_ints q2] at q1
    exact go a rfl (.inl q1)
  · rename_i ds hd
    obtain ⟨a, vs, rfl, q1, q2⟩ := I.tup (r := ra) (v := x) (by simp) (show R.tup ra env = some ds by unfold R.tup; rw [hd])
    rw [intsOf_eq h1] at q2
    rw [dpAll_ints q2] at q1
    exact go a rfl (.inr q1)
  · cases h1
end
end ML

/-! ML14: a law's own end. -/
namespace ML
open PySem PySem.Spec PyProof.Rows L2
theorem law_endT {T : List (Addr × Str)} {K : PySem.W.Frag} {w : World} {f : Fn} {H G : Hp} {a : Addr} {ns : List Int} (sub : Same G H) (hS : SqL K G a (ns.map V.int)) (hgp : GPure G) (tb : LamX.Tabs T H) (h : ∃ bs', f [.val (.list (ns.map PyData.int))] = some (.val (.bool true), bs')) {E : XK} :
    spF K w 1 f T [.ref a] H (fun v _ => v = .bl true) E := by
  obtain ⟨bs', h⟩ := h
  refine ⟨G, [.val (.list (ns.map PyData.int))], _, bs', [], rfl, rfl, ⟨Same.refl _, sub, fun _ _ e _ _ => e, fun _ h => by simp at h, fun _ h => by simp at h, fun _ _ e => .inl e, hgp, fun _ h => h, tb, fun i d e => ?_, fun i b o e eo => ?_, fun i j b c o o' a' e1 e2 eo eo' h1 h2 => ?_, fun i v e => ?_⟩, h, fun v G' H' _ _ J => ?_⟩
  · cases i with
    | inr k => simp [ixB] at e
    | inl i =>
      cases i with
      | zero =>
        simp [ixB] at e
        subst e
        exact ⟨.ref a, rfl, .lst hS (dpAll_of_ints ns)⟩
      | succ i => simp [ixB] at e
  · cases i with
    | inr k => simp [ixB] at e
    | inl i =>
      cases i with
      | zero => simp [ixB] at e; subst e; cases eo
      | succ i => simp [ixB] at e
  · cases i with
    | inr k => simp [ixB] at e1
    | inl i =>
      cases i with
      | zero => simp [ixB] at e1; subst e1; cases eo
      | succ i => simp [ixB] at e1
  · exact e
  · obtain ⟨v', e1, e2⟩ := J.val (.inr 0) (.bool true) rfl
    have e1 : v = v' := by simpa [ixV] using e1
    subst e1
    cases e2
    rfl
theorem law_end {K : PySem.W.Frag} {w : World} {f : Fn} {H : Hp} {a : Addr} {ns : List Int} (hS : SqL K H a (ns.map V.int)) (hgp : GPure H) (h : ∃ bs', f [.val (.list (ns.map PyData.int))] = some (.val (.bool true), bs')) {E : XK} :
    spF K w 1 f [] [.ref a] H (fun v _ => v = .bl true) E := law_endT (Same.refl _) hS hgp (fun p hp => absurd hp (by simp)) h
end ML

/-! ML15: the plain side: evaluating what a def does; the laws' own feed and draw. -/
namespace ML
open PySem PySem.Spec PyProof.Rows L2
/-- bind, written so that what follows is not looked at before what comes first is known -/
abbrev Wt {α β : Type} (_ : α → Option β) : Type := Option α
def bnd {α β : Type} (f : α → Option β) (x : Wt f) : Option β := Option.bind x f
theorem bnd_some {α β : Type} (f : α → Option β) (a : α) : bnd f (some a) = f a := rfl
theorem atI_0 {α : Type} (a : α) (l : List α) : atI (a :: l) 0 = some a := by simp [atI, ixN]
theorem atI_1 {α : Type} (a b : α) (l : List α) : atI (a :: b :: l) 1 = some b := by
  have : (1 : Int) < (l.length : Int) + 1 + 1 := by omega
  simp [atI, ixN, this]
theorem atI_2 {α : Type} (a b c : α) (l : List α) : atI (a :: b :: c :: l) 2 = some c := by
  have : (2 : Int) < (l.length : Int) + 1 + 1 + 1 := by omega
  simp [atI, ixN, this]
theorem atI_3 {α : Type} (a b c d : α) (l : List α) : atI (a :: b :: c :: d :: l) 3 = some d := by
  have : (3 : Int) < (l.length : Int) + 1 + 1 + 1 + 1 := by omega
  simp [atI, ixN, this]
/-- data or nothing: what a slot may hold that nobody looks at -/
def jk (o : Option D) : Option B := o.map B.val
def isLk : Option B → Bool
  | some (.lk _) => true
  | _ => false
theorem put_val (np i : Nat) (d : D) (env : En) : put np i (.val d) env = if i < np then none else if i < env.length then (if isLk env[i]?.join = true then none else some (env.set i (some (.val d)))) else none := by
  unfold put
  split
  · rfl
  · split
    · cases h : env[i]?.join with
      | none => rfl
      | some b => cases b <;> rfl
    · rfl
theorem put_new (np i : Nat) (o : O) (env : En) : put np i (.new o) env = if i < np then none else if i < env.length then (if isLk env[i]?.join = true then none else some (env.set i (some (.mu o)))) else none := by
  unfold put
  split
  · rfl
  · split
    · cases h : env[i]?.join with
      | none => rfl
      | some b => cases b <;> rfl
    · rfl
theorem isLk_jk (o : Option D) : isLk (jk o) = false := by cases o <;> rfl
theorem isLk_none : isLk none = false := rfl
theorem isLk_val (d : D) : isLk (some (.val d)) = false := rfl
theorem isLk_mu (o : O) : isLk (some (.mu o)) = false := rfl
theorem setT_nm (np i : Nat) (d : D) (env : En) : setT np (.nm i) d env = put np i (.val d) env := by rw [setT]
theorem setT_tp (np : Nat) (ts : List Tg) (ds : List D) (env : En) : setT np (.tp ts) (.tuple ds) env = setTs np ts ds env := by rw [setT]
theorem setTs_nil (np : Nat) (env : En) : setTs np [] [] env = some env := by rw [setTs]
theorem setTs_cons (np : Nat) (t : Tg) (ts : List Tg) (d : D) (ds : List D) (env : En) : setTs np (t :: ts) (d :: ds) env = (setT np t d env).bind fun e => setTs np ts ds e := by rw [setTs]
def rgI (n : Int) : Bool := decide (-(2 ^ 62) ≤ n ∧ n < 2 ^ 62)
theorem iRng1_eq (f : FE) (env : En) : iRng1 f env = (f env).bind fun p => p.1.int.bind fun n => if rgI n = true then some ((rangeD 0 n, none), p.2) else none := by
  unfold iRng1 rgI
  cases f env with
  | none => rfl
  | some p =>
    simp only [Option.bind_some]
    cases p.1.int with
    | none => rfl
    | some n => simp only [Option.bind_some, decide_eq_true_eq]
theorem iRng2_eq (f g : FE) (env : En) : iRng2 f g env = (f env).bind fun p => (g p.2).bind fun q => p.1.int.bind fun m => q.1.int.bind fun n => if (rgI m && rgI n) = true then some ((rangeD m n, none), q.2) else none := by
  unfold iRng2 rgI
  cases f env with
  | none => rfl
  | some p =>
    simp only [Option.bind_some]
    cases g p.2 with
    | none => rfl
    | some q =>
      simp only [Option.bind_some]
      cases p.1.int with
      | none => rfl
      | some m =>
        simp only [Option.bind_some]
        cases q.1.int with
        | none => rfl
        | some n => simp only [Option.bind_some, Bool.and_eq_true, decide_eq_true_eq, and_assoc]
theorem rgI_of {n : Int} (h : -1000000 ≤ n) (h2 : n ≤ 1000000) : rgI n = true := decide_eq_true ⟨by omega, by omega⟩
theorem natAbs10 : Int.natAbs 10 = 10 := rfl
theorem sl_le {n : Nat} (h : n ≤ 1000000) : n ≤ sizeLine := Nat.le_trans h (by decide)
theorem sl_lt {n : Nat} (h : n ≤ 1000000) : n < sizeLine := Nat.lt_of_le_of_lt h (by decide)
/-! ### what each word says of what is plainly there -/
section
variable {env : En} {i : Nat} {d : D} {ds : List D} {kvs : List (Key × D)} {r : R} {rs : List R} {bs : List B} {b : B} {o : O} {n m : Int}
theorem v_obj_val : R.obj (.val d) env = some (.val d) := rfl
theorem v_obj_new : R.obj (.new o) env = some (.mu o) := rfl
theorem v_obj_bor : R.obj (.bor i) env = env[i]?.join := rfl
def datO : Option B → Option D
  | some b => b.dat
  | none => none
theorem v_dat_val : R.dat (.val d) env = some d := rfl
theorem v_dat_new : R.dat (.new (.lst ds)) env = some (.list ds) := rfl
theorem v_dat_newK : R.dat (.new (.dK kvs)) env = none := rfl
theorem v_dat_bor : R.dat (.bor i) env = datO env[i]?.join := by
  show (env[i]?.join).bind B.dat = datO _
  cases env[i]?.join <;> rfl
theorem v_datO_val : datO (some (.val d)) = some d := rfl
theorem v_datO_mu : datO (some (.mu (.lst ds))) = some (.list ds) := rfl
theorem v_datO_lk : datO (some (.lk (.lst ds))) = some (.list ds) := rfl
theorem v_datO_dK : datO (some (.mu (.dK kvs))) = none := rfl
theorem v_int : R.int (.val (.int n)) = some n := rfl
theorem v_bl {b : Bool} : R.bl (.val (.bool b)) = some b := rfl
def dkO : Option B → Option (List (Key × D))
  | some b => (match b.own with | some (.dK kvs) => some kvs | _ => none)
  | none => none
theorem v_dk_new : R.dk (.new (.dK kvs)) env = some kvs := rfl
theorem v_dk_bor : R.dk (.bor i) env = dkO env[i]?.join := by
  unfold R.dk R.ownO
  rw [v_obj_bor]
  cases env[i]?.join <;> rfl
theorem v_dkO : dkO (some (.mu (.dK kvs))) = some kvs := rfl
def lstD : Option D → Option (List D)
  | some (.list ds) => some ds
  | _ => none
theorem v_lst : R.lst r env = lstD (r.dat env) := rfl
theorem v_lstD : lstD (some (.list ds)) = some ds := rfl
def seqD : Option D → Option (List D)
  | some (.list ds) => some ds
  | some (.tuple ds) => some ds
  | _ => none
theorem v_seqD_l : seqD (some (.list ds)) = some ds := rfl
theorem v_seqD_t : seqD (some (.tuple ds)) = some ds := rfl
def evO (i : Nat) (env : En) : Option B → Option (R × En)
  | some (.val d) => some (.val d, env)
  | some _ => some (.bor i, env)
  | none => none
theorem v_eV : eV i env = evO i env env[i]?.join := rfl
theorem v_evO_val : evO i env (some (.val d)) = some (.val d, env) := rfl
theorem v_evO_mu : evO i env (some (.mu o)) = some (.bor i, env) := rfl
theorem v_evO_lk : evO i env (some (.lk o)) = some (.bor i, env) := rfl
def ecO (env : En) : Option B → Option (R × En)
  | some (.val d) => some (.val d, env)
  | _ => none
theorem v_eC : eC i env = ecO env env[i]?.join := rfl
theorem v_ecO : ecO env (some (.val d)) = some (.val d, env) := rfl
def keepO (i : Nat) (env : En) : Option B → Option (D × En)
  | some (.val d) => some (d, env)
  | some (.mu (.lst ds)) => some (.list ds, env.set i (some (.val (.list ds))))
  | _ => none
theorem v_keep_val : keep (.val d) env = some (d, env) := rfl
theorem v_keep_new : keep (.new (.lst ds)) env = some (.list ds, env) := rfl
theorem v_keep_bor : keep (.bor i) env = keepO i env env[i]?.join := rfl
theorem v_keepO_val : keepO i env (some (.val d)) = some (d, env) := rfl
theorem v_keepO_mu : keepO i env (some (.mu (.lst ds))) = some (.list ds, env.set i (some (.val (.list ds)))) := rfl
theorem v_norm_val : norm (.val d) env = some (.val d, env) := rfl
theorem v_norm_new : norm (.new o) env = some (.new o, env) := rfl
theorem v_norm_bor : norm (.bor i) env = (keepO i env env[i]?.join).map fun p => (.val p.1, p.2) := rfl
def ixD (ra rb : R) (env : En) : Option D → Option (R × En)
  | some (.list ds) => rb.int.bind fun i => (atI ds i).map fun d => (.val d, env)
  | some (.tuple ds) => rb.int.bind fun i => (atI ds i).map fun d => (.val d, env)
  | some (.str x) => rb.int.bind fun i => if x.length ≤ sizeLine then (atI x.cps.toList i).map fun c => (.val (.str ⟨#[c]⟩), env) else none
  | some _ => none
  | none => (ra.dk env).bind fun kvs => (rb.dat env).bind fun d => (keyD d).bind fun k => (lkD kvs k).map fun d => (.val d, env)
theorem v_gIx {ra rb : R} : gIx ra rb env = ixD ra rb env (ra.dat env) := by
  unfold gIx
  cases ra.dat env with
  | none => rfl
  | some d => cases d <;> rfl
theorem v_ixD_l {ra rb : R} : ixD ra rb env (some (.list ds)) = (bnd (fun i => (atI ds i).map fun d => (.val d, env)) (rb.int)) := rfl
theorem v_ixD_t {ra rb : R} : ixD ra rb env (some (.tuple ds)) = (bnd (fun i => (atI ds i).map fun d => (.val d, env)) (rb.int)) := rfl
theorem v_ixD_n {ra rb : R} : ixD ra rb env none = (bnd (fun kvs => (bnd (fun d => (bnd (fun k => (lkD kvs k).map fun d => (.val d, env)) (keyD d))) (rb.dat env))) (ra.dk env)) := rfl
def lenD (r : R) (env : En) : Option D → Option (R × En)
  | some (.list ds) => some (.val (.int ds.length), env)
  | some (.tuple ds) => some (.val (.int ds.length), env)
  | some (.str x) => if x.length ≤ sizeLine then some (.val (.int x.length), env) else none
  | some _ => none
  | none => (r.dk env).map fun kvs => (.val (.int kvs.length), env)
theorem v_gLen : gLen [r] env = lenD r env (r.dat env) := rfl
theorem v_lenD_l : lenD r env (some (.list ds)) = some (.val (.int ds.length), env) := rfl
theorem v_lenD_t : lenD r env (some (.tuple ds)) = some (.val (.int ds.length), env) := rfl
theorem v_lenD_n : lenD r env none = (r.dk env).map fun kvs => (.val (.int kvs.length), env) := rfl
def addO (env : En) : Option B → Option B → Option (R × En)
  | some (.val (.int i)), some (.val (.int j)) => some (.val (.int (i + j)), env)
  | some (.val (.str x)), some (.val (.str y)) => if x.length + y.length ≤ sizeLine then some (.val (.str (x ++ y)), env) else none
  | some (.val (.tuple xs)), some (.val (.tuple ys)) => if xs.length + ys.length ≤ sizeLine then some (.val (.tuple (xs ++ ys)), env) else none
  | some b, some c => match b.own, c.own with
    | some (.lst xs), some (.lst ys) => if xs.length + ys.length ≤ sizeLine then some (.new (.lst (xs ++ ys)), env) else none
    | _, _ => none
  | _, _ => none
theorem v_gAdd {ra rb : R} : gAdd ra rb env = addO env (ra.obj env) (rb.obj env) := rfl
theorem v_add_i : addO env (some (.val (.int n))) (some (.val (.int m))) = some (.val (.int (n + m)), env) := rfl
theorem v_add_t {xs ys : List D} : addO env (some (.val (.tuple xs))) (some (.val (.tuple ys))) = if xs.length + ys.length ≤ sizeLine then some (.val (.tuple (xs ++ ys)), env) else none := rfl
theorem v_add_l {xs ys : List D} : addO env (some (.mu (.lst xs))) (some (.mu (.lst ys))) = if xs.length + ys.length ≤ sizeLine then some (.new (.lst (xs ++ ys)), env) else none := rfl
def eqD (neg : Bool) (env : En) : Option D → Option D → Option (R × En)
  | some d, some e => if SeqAt.shaped d = true ∧ SeqAt.shaped e = true then some (.val (.bool (if neg = true then !PyData.eqv d e else PyData.eqv d e)), env) else none
  | _, _ => none
theorem v_gEq {neg : Bool} {ra rb : R} : gEq neg ra rb env = eqD neg env (ra.dat env) (rb.dat env) := rfl
theorem v_eqD {neg : Bool} {d e : D} : eqD neg env (some d) (some e) = if SeqAt.shaped d = true ∧ SeqAt.shaped e = true then some (.val (.bool (if neg = true then !PyData.eqv d e else PyData.eqv d e)), env) else none := rfl
def inD (neg : Bool) (rb : R) (env : En) : Option D → Option D → Option (R × En)
  | none, _ => none
  | some d, some (.list ds) => if SeqAt.shaped d = true ∧ SeqAt.shaped (.list ds) = true then some (.val (.bool (bneg neg (ds.any fun z => PyData.eqv z d))), env) else none
  | some d, some (.tuple ds) => if flatD d = true ∧ ds.all flatD = true then some (.val (.bool (bneg neg (ds.any fun z => PyData.eqv z d))), env) else none
  | some d, some _ => none
  | some d, none => match rb.dk env, keyD d with
      | some kvs, some k => some (.val (.bool (bneg neg (lkD kvs k).isSome)), env)
      | _, _ => none
theorem v_gIn {neg : Bool} {ra rb : R} : gIn neg ra rb env = inD neg rb env (ra.dat env) (rb.dat env) := by
  unfold gIn inD
  cases ra.dat env with
  | none => rfl
  | some d =>
    cases rb.dat env with
    | none => rfl
    | some e => cases e <;> rfl
theorem v_inD_l {neg : Bool} {rb : R} : inD neg rb env (some d) (some (.list ds)) = if SeqAt.shaped d = true ∧ SeqAt.shaped (.list ds) = true then some (.val (.bool (bneg neg (ds.any fun z => PyData.eqv z d))), env) else none := rfl
theorem v_inD_t {neg : Bool} {rb : R} : inD neg rb env (some d) (some (.tuple ds)) = if flatD d = true ∧ ds.all flatD = true then some (.val (.bool (bneg neg (ds.any fun z => PyData.eqv z d))), env) else none := rfl
def inK (neg : Bool) (env : En) : Option (List (Key × D)) → Option Key → Option (R × En)
  | some kvs, some k => some (.val (.bool (bneg neg (lkD kvs k).isSome)), env)
  | _, _ => none
theorem v_inD_n {neg : Bool} {rb : R} : inD neg rb env (some d) none = inK neg env (rb.dk env) (keyD d) := rfl
theorem v_inK {neg : Bool} {k : Key} : inK neg env (some kvs) (some k) = some (.val (.bool (bneg neg (lkD kvs k).isSome)), env) := rfl
theorem v_key_i : keyD (.int n) = some (.inl n) := rfl
theorem v_key_s {x : Str} : keyD (.str x) = some (.inr x) := rfl
theorem v_bneg_t (b : Bool) : bneg true b = !b := rfl
theorem v_bneg_f (b : Bool) : bneg false b = b := rfl
def slD (lo hi : Option Int) (env : En) : Option D → Option (R × En)
  | some (.list ds) => some (.new (.lst (cutD ds lo hi)), env)
  | some (.tuple ds) => some (.val (.tuple (cutD ds lo hi)), env)
  | some (.str x) => if x.length ≤ sizeLine then some (.val (.str (cutS x lo hi)), env) else none
  | _ => none
theorem v_gSl {lo hi : Option Int} : gSl r lo hi env = slD lo hi env (r.dat env) := rfl
theorem v_slD_l {lo hi : Option Int} : slD lo hi env (some (.list ds)) = some (.new (.lst (cutD ds lo hi)), env) := rfl
theorem v_slD_t {lo hi : Option Int} : slD lo hi env (some (.tuple ds)) = some (.val (.tuple (cutD ds lo hi)), env) := rfl
theorem v_slD_s {x : Str} {lo hi : Option Int} : slD lo hi env (some (.str x)) = if x.length ≤ sizeLine then some (.val (.str (cutS x lo hi)), env) else none := rfl
theorem v_ixD_s {x : Str} {ra rb : R} : ixD ra rb env (some (.str x)) = (bnd (fun i => if x.length ≤ sizeLine then (atI x.cps.toList i).map fun c => (.val (.str ⟨#[c]⟩), env) else none) (rb.int)) := rfl
theorem v_add_s {x y : Str} : addO env (some (.val (.str x))) (some (.val (.str y))) = if x.length + y.length ≤ sizeLine then some (.val (.str (x ++ y)), env) else none := rfl
theorem v_gList : gList [r] env = (seqD (r.dat env)).map fun ds => (.new (.lst ds), env) := rfl
theorem v_gTuple : gTuple [r] env = (seqD (r.dat env)).map fun ds => (.val (.tuple ds), env) := rfl
def g2O (c : Int → Int → Bool) (f : Int → Int → D) (env : En) : Option Int → Option Int → Option (R × En)
  | some i, some j => if c i j = true then some (.val (f i j), env) else none
  | _, _ => none
theorem v_g2O {c : Int → Int → Bool} {f : Int → Int → D} : g2O c f env (some n) (some m) = if c n m = true then some (.val (f n m), env) else none := rfl
theorem v_gSub {ra rb : R} : gSub ra rb env = g2O (fun _ _ => true) (fun i j => .int (i - j)) env ra.int rb.int := rfl
theorem v_gMul {ra rb : R} : gMul ra rb env = g2O mulOk (fun i j => .int (i * j)) env ra.int rb.int := rfl
theorem v_gDiv {ra rb : R} : gDiv ra rb env = g2O (fun i j => decide (0 < j ∧ j < 1073741824)) (fun i j => .int (i / j)) env ra.int rb.int := rfl
theorem v_gMod {ra rb : R} : gMod ra rb env = g2O (fun i j => decide (0 < j)) (fun i j => .int (i % j)) env ra.int rb.int := rfl
theorem v_gPow {ra rb : R} : gPow ra rb env = g2O (fun i j => decide (0 ≤ j ∧ j ≤ 1000000 ∧ i.natAbs < 2 ^ 64)) (fun i j => .int (i ^ j.toNat)) env ra.int rb.int := rfl
theorem v_gLt {ra rb : R} : gLt ra rb env = g2O (fun _ _ => true) (fun i j => .bool (decide (i < j))) env ra.int rb.int := rfl
theorem v_gLe {ra rb : R} : gLe ra rb env = g2O (fun _ _ => true) (fun i j => .bool (decide (i ≤ j))) env ra.int rb.int := rfl
theorem v_gGt {ra rb : R} : gGt ra rb env = g2O (fun _ _ => true) (fun i j => .bool (decide (j < i))) env ra.int rb.int := rfl
theorem v_gGe {ra rb : R} : gGe ra rb env = g2O (fun _ _ => true) (fun i j => .bool (decide (j ≤ i))) env ra.int rb.int := rfl
theorem v_gNeg {ra : R} : gNeg ra env = ra.int.map fun i => (.val (.int (-i)), env) := rfl
theorem v_argsB_nil : argsB [] env = some [] := rfl
theorem v_argsB_cons : argsB (r :: rs) env = (bnd (fun b => (argsB rs env).map (b :: ·)) (argB r env)) := rfl
def argO : Option B → Option B
  | some (.mu o) => some (.mu o)
  | some (.val d) => some (.val d)
  | _ => none
theorem v_argB_val : argB (.val d) env = some (.val d) := rfl
theorem v_argB_new : argB (.new o) env = some (.mu o) := rfl
theorem v_argB_bor : argB (.bor i) env = argO env[i]?.join := rfl
theorem v_argO_mu : argO (some (.mu o)) = some (.mu o) := rfl
theorem v_argO_val : argO (some (.val d)) = some (.val d) := rfl
theorem v_borIx_nil : borIx [] = [] := rfl
theorem v_borIx_val : borIx (.val d :: rs) = borIx rs := rfl
theorem v_borIx_new : borIx (.new o :: rs) = borIx rs := rfl
theorem v_borIx_bor : borIx (.bor i :: rs) = i :: borIx rs := rfl
theorem v_nodup1 : [i].Nodup := by simp
theorem v_isMu_mu : isMu (some (.mu o)) = true := rfl
theorem v_isMu_val : isMu (some (.val d)) = false := rfl
theorem v_pb_nil : putBack [] bs env = env := by rw [putBack] <;> simp
theorem v_pb_val : putBack (.val d :: rs) (b :: bs) env = putBack rs bs env := by rw [putBack]; simp
theorem v_pb_new : putBack (.new o :: rs) (b :: bs) env = putBack rs bs env := by rw [putBack]; simp
theorem v_pb_bor : putBack (.bor i :: rs) (b :: bs) env = if isMu env[i]?.join = true then putBack rs bs (env.set i (some b)) else putBack rs bs env := by rw [putBack]
def retO (i : Nat) (env : En) : Option B → Option (Fl × En)
  | some (.mu o) => some (.rt (.new o), env.set i none)
  | _ => none
def retK (np : Nat) (env : En) : R → Option (Fl × En)
  | .val d => some (.rt (.val d), env)
  | .new o => some (.rt (.new o), env)
  | .bor i => if np ≤ i then retO i env env[i]?.join else none
  | _ => none
theorem v_sRet {np : Nat} {f : FE} : sRet np f env = (bnd (fun p => retK np p.2 p.1) (f env)) := by
  unfold sRet
  congr 1
theorem v_ret_val {np : Nat} : retK np env (.val d) = some (.rt (.val d), env) := rfl
theorem v_ret_new {np : Nat} : retK np env (.new o) = some (.rt (.new o), env) := rfl
theorem v_ret_bor {np : Nat} : retK np env (.bor i) = if np ≤ i then retO i env env[i]?.join else none := rfl
theorem v_retO : retO i env (some (.mu o)) = some (.rt (.new o), env.set i none) := rfl
def seqK (g : FS) : Fl × En → Option (Fl × En)
  | (.nx, e) => g e
  | (fl, e) => some (fl, e)
theorem v_sSeq {f g : FS} : sSeq f g env = (f env).bind (seqK g) := by
  unfold sSeq
  congr 1
  funext p
  obtain ⟨a, b⟩ := p
  cases a <;> rfl
theorem v_seqK_nx {g : FS} : seqK g (.nx, env) = g env := rfl
theorem v_seqK_rt {g : FS} : seqK g (.rt r, env) = some (.rt r, env) := rfl
theorem v_seqK_bk {g : FS} : seqK g (.bk, env) = some (.bk, env) := rfl
theorem v_seqK_ct {g : FS} : seqK g (.ct, env) = some (.ct, env) := rfl
def finR : Fl → Option R
  | .rt r => if r.out = true then some r else none
  | .nx => some (.val .none)
  | _ => none
theorem v_fnBody {np k : Nat} {body : FS} {bs : List B} : fnBody np k body bs = (bnd (fun p => (bnd (fun r => (allSome (p.2.take np)).map fun bs' => (r, bs')) (finR p.1))) (body (bs.map some ++ List.replicate (k - np) none))) := by
  unfold fnBody
  congr 1
theorem v_fin_nx : finR .nx = some (.val .none) := rfl
theorem v_fin_val : finR (.rt (.val d)) = some (.val d) := rfl
theorem v_fin_new : finR (.rt (.new o)) = some (.new o) := rfl
theorem v_allSome_nil : allSome [] = some [] := rfl
theorem v_allSome_cons {l : List (Option B)} : allSome (some b :: l) = (allSome l).map (b :: ·) := rfl
def setO (i : Nat) (ri : R) (d : D) (env : En) : Option B → Option En
  | some (.mu (.lst ds)) => ri.int.bind fun n => (ixN ds.length n).map fun j => env.set i (some (.mu (.lst (ds.set j d))))
  | some (.mu (.dK kvs)) => (ri.dat env).bind fun k => (keyD k).bind fun k => if kvs.length < sizeLine then some (env.set i (some (.mu (.dK (putD kvs k d))))) else none
  | _ => none
theorem v_setAt {ri : R} : setAt i ri d env = setO i ri d env env[i]?.join := rfl
theorem v_setO_l {ri : R} : setO i ri d env (some (.mu (.lst ds))) = (bnd (fun n => (ixN ds.length n).map fun j => env.set i (some (.mu (.lst (ds.set j d))))) (ri.int)) := rfl
theorem v_setO_d {ri : R} : setO i ri d env (some (.mu (.dK kvs))) = (bnd (fun k => (bnd (fun k => if kvs.length < sizeLine then some (env.set i (some (.mu (.dK (putD kvs k d))))) else none) (keyD k))) (ri.dat env)) := rfl
def sixK (ri : R) (d : D) (env : En) : R → Option (Fl × En)
  | .bor i => (setAt i ri d env).map fun e => (.nx, e)
  | _ => none
theorem v_sSetIx {fv fo fi : FE} : sSetIx fv fo fi env = (bnd (fun p => (bnd (fun q => (bnd (fun s => (bnd (fun d => sixK s.1 d.1 d.2 q.1) (keep p.1 s.2))) (fi q.2))) (fo p.2))) (fv env)) := by
  unfold sSetIx
  congr 1
theorem v_sixK {ri : R} : sixK ri d env (.bor i) = (setAt i ri d env).map fun e => (.nx, e) := rfl
def augD (f : Int → Int → Int) (fe : FE) (i : Nat) (n : Int) (env : En) : Option D → Option (Fl × En)
  | some (.int a) => (fe env).bind fun s => s.1.int.bind fun b => (setAt i (.val (.int n)) (.int (f a b)) s.2).map fun e => (.nx, e)
  | _ => none
def augO (f : Int → Int → Int) (fe : FE) (i : Nat) (n : Int) (env : En) : Option B → Option (Fl × En)
  | some (.mu (.lst ds)) => if 0 ≤ n then augD f fe i n env ds[n.toNat]? else none
  | _ => none
def augK (f : Int → Int → Int) (fe : FE) (env : En) : R → R → Option (Fl × En)
  | .bor i, .val (.int n) => augO f fe i n env env[i]?.join
  | _, _ => none
theorem v_sAugIx {f : Int → Int → Int} {fo fi fe : FE} : sAugIx f fo fi fe env = (bnd (fun p => (bnd (fun q => augK f fe q.2 p.1 q.1) (fi p.2))) (fo env)) := by
  unfold sAugIx
  congr 1
theorem v_augK {f : Int → Int → Int} {fe : FE} : augK f fe env (.bor i) (.val (.int n)) = augO f fe i n env env[i]?.join := rfl
theorem v_augO {f : Int → Int → Int} {fe : FE} : augO f fe i n env (some (.mu (.lst ds))) = if 0 ≤ n then augD f fe i n env ds[n.toNat]? else none := rfl
theorem v_augD {f : Int → Int → Int} {fe : FE} : augD f fe i n env (some (.int m)) = (bnd (fun s => (bnd (fun b => (setAt i (.val (.int n)) (.int (f m b)) s.2).map fun e => (.nx, e)) (s.1.int))) (fe env)) := rfl
def lockO (i : Nat) (env : En) : Option B → Option ((List D × Option Nat) × En)
  | some (.mu (.lst ds)) => some ((ds, some i), env.set i (some (.lk (.lst ds))))
  | some (.lk (.lst ds)) => some ((ds, none), env)
  | _ => none
theorem v_iSeq {f : FE} : iSeq f env = (bnd (fun p => lockR p.1 p.2) (f env)) := rfl
theorem v_lock_l : lockR (.val (.list ds)) env = some ((ds, none), env) := rfl
theorem v_lock_t : lockR (.val (.tuple ds)) env = some ((ds, none), env) := rfl
theorem v_lock_n : lockR (.new (.lst ds)) env = some ((ds, none), env) := rfl
theorem v_lock_b : lockR (.bor i) env = lockO i env env[i]?.join := rfl
theorem v_lockO_mu : lockO i env (some (.mu (.lst ds))) = some ((ds, some i), env.set i (some (.lk (.lst ds)))) := rfl
theorem v_lockO_lk : lockO i env (some (.lk (.lst ds))) = some ((ds, none), env) := rfl
def unlO (i : Nat) (env : En) : Option B → En
  | some (.lk o) => env.set i (some (.mu o))
  | _ => env
theorem v_unl_none : unlock none env = env := rfl
theorem v_unl_some : unlock (some i) env = unlO i env env[i]?.join := rfl
theorem v_unlO : unlO i env (some (.lk o)) = env.set i (some (.mu o)) := rfl
def appO (i : Nat) (d : D) (env : En) : Option B → Option (R × En)
  | some (.mu (.lst ds)) => if ds.length < sizeLine then some (.val .none, env.set i (some (.mu (.lst (ds ++ [d]))))) else none
  | _ => none
theorem v_gAppend : gAppend (.bor i) [r] env = (bnd (fun p => appO i p.1 p.2 p.2[i]?.join) (keep r env)) := rfl
theorem v_appO : appO i d env (some (.mu (.lst ds))) = if ds.length < sizeLine then some (.val .none, env.set i (some (.mu (.lst (ds ++ [d]))))) else none := rfl
def extO (i : Nat) (zs : List D) (env : En) : Option B → Option (R × En)
  | some (.mu (.lst ds)) => if ds.length + zs.length ≤ sizeLine then some (.val .none, env.set i (some (.mu (.lst (ds ++ zs))))) else none
  | _ => none
theorem v_gExtend {zs : List D} : gExtend (.bor i) [.new (.lst zs)] env = extO i zs env env[i]?.join := rfl
theorem v_extO {zs : List D} : extO i zs env (some (.mu (.lst ds))) = if ds.length + zs.length ≤ sizeLine then some (.val .none, env.set i (some (.mu (.lst (ds ++ zs))))) else none := rfl
def popO (i : Nat) (env : En) : Option B → Option (R × En)
  | some (.mu (.lst ds)) => (ds[ds.length - 1]?).map fun d => (.val d, env.set i (some (.mu (.lst ds.dropLast))))
  | _ => none
theorem v_gPop : gPop (.bor i) [] env = popO i env env[i]?.join := rfl
theorem v_popO : popO i env (some (.mu (.lst (ds ++ [d])))) = some (.val d, env.set i (some (.mu (.lst ds)))) := by
  show (((ds ++ [d])[(ds ++ [d]).length - 1]?).map _) = _
  simp
theorem v_chkL : chkL r env = (lstD (r.dat env)).isSome := rfl
theorem v_chkD : chkD r env = chkO (r.obj env) := rfl
theorem v_chkO : chkO (some (.mu (.dK kvs))) = true := rfl
theorem v_datO_lkK : datO (some (.lk (.dK kvs))) = none := rfl
theorem v_dkO_lk : dkO (some (.lk (.dK kvs))) = some kvs := rfl
theorem v_gAll : gAll [r] env = (bnd (fun ds => (bools ds).map fun bs => (.val (.bool (bs.all id)), env)) (lstD (r.dat env))) := rfl
theorem v_gDict : gDict [r] env = (bnd (fun ds => (pairsOf ds).map fun kvs => (.new (.dK (mergeD [] kvs)), env)) (lstD (r.dat env))) := rfl
def updO (i : Nat) (more : List (Key × D)) (env : En) : Option B → Option (R × En)
  | some (.mu (.dK kvs)) => if kvs.length + more.length ≤ sizeLine then some (.val .none, env.set i (some (.mu (.dK (mergeD kvs more))))) else none
  | _ => none
theorem v_gUpdate : gUpdate (.bor i) [r] env = (bnd (fun ds => (bnd (fun more => updO i more env env[i]?.join) (pairsOf ds))) (lstD (r.dat env))) := rfl
theorem v_updO {more : List (Key × D)} : updO i more env (some (.mu (.dK kvs))) = if kvs.length + more.length ≤ sizeLine then some (.val .none, env.set i (some (.mu (.dK (mergeD kvs more))))) else none := rfl
def siD (env : En) : Option D → Option (R × En)
  | some (.list ds) => (intsOf ds).bind fun ns => if ns.length ≤ 1000 then some (.new (.sI (usort ns)), env) else none
  | some (.tuple ds) => (intsOf ds).bind fun ns => if ns.length ≤ 1000 then some (.new (.sI (usort ns)), env) else none
  | _ => none
theorem v_gSet : gSet [r] env = siD env (r.dat env) := by
  show ((seqInts r env).bind _) = _
  unfold seqInts siD
  cases r.dat env with
  | none => rfl
  | some d => cases d <;> rfl
theorem v_siD_l : siD env (some (.list ds)) = (bnd (fun ns => if ns.length ≤ 1000 then some (.new (.sI (usort ns)), env) else none) (intsOf ds)) := rfl
theorem v_siD_t : siD env (some (.tuple ds)) = (bnd (fun ns => if ns.length ≤ 1000 then some (.new (.sI (usort ns)), env) else none) (intsOf ds)) := rfl
theorem v_sorted_s {ns : List Int} : gSorted [.new (.sI ns)] env = if ns.length < 64 then some (.new (.lst ((usort ns).map .int)), env) else none := rfl
theorem v_sorted_d : gSorted [.new (.dK kvs)] env = (bnd (fun ks => if ks.length < 64 then some (.new (.lst ((isort ks).map .int)), env) else none) (keyInts kvs)) := rfl
theorem v_sorted_l : gSorted [.new (.lst ds)] env = (intsOf ds).map fun ns => (.new (.lst ((isort ns).map .int)), env) := rfl
def par2K (np i j : Nat) (env : En) : List R → Option (Fl × En)
  | [r, s] => (put np j s env).bind fun e => (put np i r e).map fun e' => (.nx, e')
  | _ => none
theorem v_sPar2 {np j : Nat} {f : FA} : sPar2 np i j f env = (bnd (fun p => (bnd (fun q => par2K np i j q.2 q.1) (norms p.1 p.2))) (f env)) := rfl
theorem v_par2K {np j : Nat} {s : R} : par2K np i j env [r, s] = (bnd (fun e => (put np i r e).map fun e' => (.nx, e')) (put np j s env)) := rfl
def par3K (np i j l : Nat) (env : En) : List R → Option (Fl × En)
  | [r, s, t] => (put np l t env).bind fun e => (put np j s e).bind fun e => (put np i r e).map fun e' => (.nx, e')
  | _ => none
theorem v_sPar3 {np j l : Nat} {f : FA} : sPar3 np i j l f env = (bnd (fun p => (bnd (fun q => par3K np i j l q.2 q.1) (norms p.1 p.2))) (f env)) := rfl
theorem v_par3K {np j l : Nat} {s t : R} : par3K np i j l env [r, s, t] = (bnd (fun e => (bnd (fun e => (put np i r e).map fun e' => (.nx, e')) (put np j s e))) (put np l t env)) := rfl
def get2K (s : R × En) : Option D → Option (R × En)
  | some d => some (.val d, s.2)
  | none => some (s.1, s.2)
theorem v_eGet2 {fo fk fd : FE} : eGet2 fo fk fd env = (bnd (fun p => if chkD p.1 p.2 = true then (bnd (fun q => (bnd (fun s => (bnd (fun kvs => (bnd (fun kd => (bnd (fun k => get2K s (lkD kvs k)) (keyD kd))) (q.1.dat s.2))) (p.1.dk s.2))) (fd q.2))) (fk p.2)) else none) (fo env)) := by
  unfold eGet2
  congr 1
theorem v_get2_some {s : R × En} : get2K s (some d) = some (.val d, s.2) := rfl
theorem v_get2_none {s : R × En} : get2K s none = some (s.1, s.2) := rfl
def pairK (fv : FE) (l : List (FE × FE)) (env : En) : R → Option (List (Key × D) × En)
  | .val kd => (keyD kd).bind fun k => (fv env).bind fun q => (keep q.1 q.2).bind fun d => (pairsE l d.2).map fun s => ((k, d.1) :: s.1, s.2)
  | _ => none
theorem v_pairsE_nil : pairsE [] env = some ([], env) := rfl
theorem v_pairsE_cons {fk fv : FE} {l : List (FE × FE)} : pairsE ((fk, fv) :: l) env = (bnd (fun p => pairK fv l p.2 p.1) (fk env)) := by
  rw [pairsE]
  congr 1
theorem v_pairK {fv : FE} {l : List (FE × FE)} : pairK fv l env (.val d) = (bnd (fun k => (bnd (fun q => (bnd (fun d => (pairsE l d.2).map fun s => ((k, d.1) :: s.1, s.2)) (keep q.1 q.2))) (fv env))) (keyD d)) := rfl
theorem v_wipe_nil : wipeE env [] = env := rfl
theorem v_wipe_cons {v : Nat} {vs : List Nat} : wipeE env (v :: vs) = (wipeE env vs).set v none := rfl
end

/-! == of texts, whatever signs they have -/
def gEqA (neg : Bool) : G2 := fun ra rb env => match ra.dat env, rb.dat env with
  | some (.str x), some (.str y) => some (.val (.bool (if neg = true then !(x == y) else x == y)), env)
  | _, _ => gEq neg ra rb env
def eqA (neg : Bool) (env : En) : Option D → Option D → Option (R × En)
  | some (.str x), some (.str y) => some (.val (.bool (if neg = true then !(x == y) else x == y)), env)
  | a, b => eqD neg env a b
section
variable {env : En} {neg : Bool} {e : D} {ds : List D} {x y : Str} {n : Int} {b : Bool}
theorem v_gEqA {ra rb : R} : gEqA neg ra rb env = eqA neg env (ra.dat env) (rb.dat env) := by
  unfold gEqA eqA
  split
  · rfl
  · rw [v_gEq]
theorem v_eqA_ss : eqA neg env (some (.str x)) (some (.str y)) = some (.val (.bool (if neg = true then !(x == y) else x == y)), env) := rfl
theorem v_eqA_l : eqA neg env (some (.list ds)) (some e) = eqD neg env (some (.list ds)) (some e) := by cases e <;> rfl
theorem v_eqA_t : eqA neg env (some (.tuple ds)) (some e) = eqD neg env (some (.tuple ds)) (some e) := by cases e <;> rfl
theorem v_eqA_i : eqA neg env (some (.int n)) (some e) = eqD neg env (some (.int n)) (some e) := by cases e <;> rfl
theorem v_eqA_b : eqA neg env (some (.bool b)) (some e) = eqD neg env (some (.bool b)) (some e) := by cases e <;> rfl
theorem v_eqA_n : eqA neg env (some .none) (some e) = eqD neg env (some .none) (some e) := by cases e <;> rfl
end
/-! the words themselves -/
section
variable {env : En} {np i : Nat} {f g : FE} {fs gs : FS} {t u : FT} {a b : FA}
theorem v_sSet : sSet np i f env = (bnd (fun p => (bnd (fun q => (put np i q.1 q.2).map fun e => (.nx, e)) (norm p.1 p.2))) (f env)) := rfl
theorem v_sIf : sIf t fs gs env = (bnd (fun p => if p.1 = true then fs p.2 else gs p.2) (t env)) := rfl
theorem v_rB : rB f env = (bnd (fun p => p.1.bl.map fun b => (b, p.2)) (f env)) := rfl
theorem v_e2 {h : G2} : e2 h f g env = (bnd (fun p => (bnd (fun q => h p.1 q.1 q.2) (g p.2))) (f env)) := rfl
theorem v_e1 {h : G1} : e1 h f env = (bnd (fun p => h p.1 p.2) (f env)) := rfl
theorem v_sExpr : sExpr f env = (f env).map fun p => (.nx, p.2) := rfl
theorem v_sAsg {tg : Tg} : sAsg np tg f env = (bnd (fun p => (bnd (fun q => (setT np tg q.1 q.2).map fun e => (.nx, e)) (keep p.1 p.2))) (f env)) := rfl
theorem v_norms_nil : norms [] env = some ([], env) := rfl
theorem v_norms_cons {r : R} {rs : List R} : norms (r :: rs) env = (bnd (fun p => (norms rs p.2).map fun q => (p.1 :: q.1, q.2)) (norm r env)) := rfl
theorem v_eIf : eIf t f g env = (bnd (fun p => if p.1 = true then f p.2 else g p.2) (t env)) := rfl
theorem v_eAnd : eAnd f g env = (bnd (fun p => (bnd (fun b => if b = true then g p.2 else some (.val (.bool false), p.2)) (p.1.bl))) (f env)) := rfl
theorem v_eOr : eOr f g env = (bnd (fun p => (bnd (fun b => if b = true then some (.val (.bool true), p.2) else g p.2) (p.1.bl))) (f env)) := rfl
theorem v_eNot : eNot f env = (bnd (fun p => p.1.bl.map fun b => (.val (.bool !b), p.2)) (f env)) := rfl
theorem v_eN {h : GN} : eN h a env = (bnd (fun p => h p.1 p.2) (a env)) := rfl
theorem v_eM {chk : R → En → Bool} {h : GL} : eM chk h f a env = (bnd (fun p => if chk p.1 p.2 = true then (bnd (fun q => h p.1 q.1 q.2) (a p.2)) else none) (f env)) := rfl
theorem v_eCall {n : Nat} {h : Fn} {ds : List D} : eCall n h ds a env = (bnd (fun p => (bnd (fun bs => if (borIx (p.1 ++ ds.map R.val)).Nodup ∧ bs.length = n then (bnd (fun q => some (q.1, putBack (p.1 ++ ds.map R.val) q.2 p.2)) (h bs)) else none) (argsB (p.1 ++ ds.map R.val) p.2))) (a env)) := rfl
theorem v_aCons : aCons f a env = (bnd (fun p => (a p.2).map fun q => (p.1 :: q.1, q.2)) (f env)) := rfl
theorem v_fAnd : fAnd t u env = (bnd (fun p => if p.1 = true then u p.2 else some (false, p.2)) (t env)) := rfl
theorem v_fOr : fOr t u env = (bnd (fun p => if p.1 = true then some (true, p.2) else u p.2) (t env)) := rfl
theorem v_fNot : fNot t env = (t env).map fun p => (!p.1, p.2) := rfl
theorem v_eTup : eTup a env = (bnd (fun p => (bnd (fun q => if q.1.length ≤ sizeLine then some (.val (.tuple q.1), q.2) else none) (keepAll p.1 p.2))) (a env)) := rfl
theorem v_eLst : eLst a env = (bnd (fun p => (bnd (fun q => if q.1.length ≤ sizeLine then some (.new (.lst q.1), q.2) else none) (keepAll p.1 p.2))) (a env)) := rfl
theorem v_kAll_nil : keepAll [] env = some ([], env) := rfl
theorem v_kAll_cons {r : R} {rs : List R} : keepAll (r :: rs) env = (bnd (fun p => (keepAll rs p.2).map fun q => (p.1 :: q.1, q.2)) (keep r env)) := rfl
theorem v_eDisp {l : List (FE × FE)} : eDisp l env = (bnd (fun p => if p.1.length ≤ 15 then some (.new (.dK (mergeD [] p.1)), p.2) else none) (pairsE l env)) := rfl
theorem v_eSl {x y : FO} : eSl f x y env = (bnd (fun p => (bnd (fun q => (bnd (fun s => gSl p.1 q.1 s.1 s.2) (y q.2))) (x p.2))) (f env)) := rfl
theorem v_oSome : oSome f env = (bnd (fun p => p.1.int.map fun i => (some i, p.2)) (f env)) := rfl
theorem v_rng1 : iRng1 f env = (bnd (fun p => (bnd (fun n => if rgI n = true then some ((rangeD 0 n, none), p.2) else none) (p.1.int))) (f env)) := iRng1_eq f env
theorem v_rng2 : iRng2 f g env = (bnd (fun p => (bnd (fun q => (bnd (fun m => (bnd (fun n => if (rgI m && rgI n) = true then some ((rangeD m n, none), q.2) else none) (q.1.int))) (p.1.int))) (g p.2))) (f env)) := iRng2_eq f g env
theorem v_tupRg1 : eTupRg1 f env = (bnd (fun p => (bnd (fun n => if rgOk 0 n = true then some (.val (.tuple (rangeD 0 n)), p.2) else none) (p.1.int))) (f env)) := rfl
theorem v_lstRg1 : eLstRg1 f env = (bnd (fun p => (bnd (fun n => if rgOk 0 n = true then some (.new (.lst (rangeD 0 n)), p.2) else none) (p.1.int))) (f env)) := rfl
end
end ML
local macro_rules
  | `(tactic| simp_arith [$ls,*]) => `(tactic| simp -implicitDefEqProofs only [ML.v_fnBody, ML.v_fin_nx, ML.v_fin_val, ML.v_fin_new, ML.v_allSome_nil, ML.v_allSome_cons, ML.v_sSeq, ML.v_seqK_nx, ML.v_seqK_rt, ML.v_seqK_bk, ML.v_seqK_ct, ML.v_sSet, ML.v_sIf, ML.v_rB, ML.v_e2, ML.v_e1, ML.v_eV, ML.v_evO_val, ML.v_evO_mu, ML.v_evO_lk, ML.v_eC, ML.v_ecO, ML.eK, ML.sNil, ML.v_sRet, ML.v_ret_val, ML.v_ret_new, ML.v_ret_bor, ML.v_retO, ML.v_sExpr, ML.v_sAugIx, ML.v_augK, ML.v_augO, ML.v_augD, ML.v_sSetIx, ML.v_sixK, ML.v_setAt, ML.v_setO_l, ML.v_setO_d, ML.v_sAsg, ML.v_sPar2, ML.v_par2K, ML.v_sPar3, ML.v_par3K, ML.v_norms_nil, ML.v_norms_cons, ML.setT_nm, ML.setT_tp, ML.setTs_nil, ML.setTs_cons, ML.v_eIf, ML.v_eAnd, ML.v_eOr, ML.v_eNot, ML.v_eN, ML.v_eM, ML.v_eCall, ML.v_aCons, ML.aNil, ML.v_fAnd, ML.v_fOr, ML.v_fNot, ML.v_eLst, ML.v_eTup, ML.v_kAll_nil, ML.v_kAll_cons, ML.v_keep_val, ML.v_keep_new, ML.v_keep_bor, ML.v_keepO_val, ML.v_keepO_mu, ML.v_norm_val, ML.v_norm_new, ML.v_norm_bor, ML.put_val, ML.put_new, ML.isLk_jk, ML.isLk_none, ML.isLk_val, ML.isLk_mu, ML.v_int, ML.v_bl, ML.v_obj_val, ML.v_obj_new, ML.v_obj_bor, ML.v_dat_val, ML.v_dat_new, ML.v_dat_newK, ML.v_dat_bor, ML.v_datO_val, ML.v_datO_mu, ML.v_datO_lk, ML.v_datO_dK, ML.v_dk_new, ML.v_dk_bor, ML.v_dkO, ML.v_lst, ML.v_lstD, ML.v_seqD_l, ML.v_seqD_t, ML.v_gIx, ML.v_ixD_l, ML.v_ixD_t, ML.v_ixD_n, ML.v_gLen, ML.v_lenD_l, ML.v_lenD_t, ML.v_lenD_n, ML.v_gGt, ML.v_gGe, ML.v_gLt, ML.v_gLe, ML.v_gMod, ML.v_gDiv, ML.v_gPow, ML.v_gMul, ML.v_gSub, ML.v_gNeg, ML.v_g2O, ML.v_gAdd, ML.v_add_i, ML.v_add_t, ML.v_add_l, ML.v_gEq, ML.v_gEqA, ML.v_eqA_ss, ML.v_eqA_l, ML.v_eqA_t, ML.v_eqA_i, ML.v_eqA_b, ML.v_eqA_n, ML.v_eqD, ML.v_gIn, ML.v_inD_l, ML.v_inD_t, ML.v_inD_n, ML.v_inK, ML.v_key_i, ML.v_key_s, ML.v_bneg_t, ML.v_bneg_f, ML.v_argsB_nil, ML.v_argsB_cons, ML.v_argB_val, ML.v_argB_new, ML.v_argB_bor, ML.v_argO_mu, ML.v_argO_val, ML.v_borIx_nil, ML.v_borIx_val, ML.v_borIx_new, ML.v_borIx_bor, ML.v_nodup1, ML.v_isMu_mu, ML.v_isMu_val, ML.v_pb_nil, ML.v_pb_val, ML.v_pb_new, ML.v_pb_bor, L2.ixN, ML.atI_0, ML.atI_1, ML.atI_2, ML.atI_3, ML.v_chkL, ML.v_chkD, ML.v_chkO, ML.v_datO_lkK, ML.v_dkO_lk, ML.v_gAppend, ML.v_appO, ML.v_gExtend, ML.v_extO, ML.v_gPop, ML.v_popO, ML.v_gTuple, ML.v_gList, ML.v_gAll, ML.v_gDict, ML.v_gUpdate, ML.v_updO, ML.v_gSet, ML.v_siD_l, ML.v_siD_t, ML.v_sorted_s, ML.v_sorted_d, ML.v_sorted_l, ML.v_eGet2, ML.v_get2_some, ML.v_get2_none, ML.v_eDisp, ML.v_pairsE_nil, ML.v_pairsE_cons, ML.v_pairK, ML.v_eSl, ML.oNone, ML.v_oSome, ML.v_gSl, ML.v_slD_l, ML.v_slD_t, ML.eNewD, ML.v_iSeq, ML.v_lock_l, ML.v_lock_t, ML.v_lock_n, ML.v_lock_b, ML.v_lockO_mu, ML.v_lockO_lk, ML.v_unl_none, ML.v_unl_some, ML.v_unlO, ML.v_rng1, ML.v_rng2, ML.v_tupRg1, ML.v_lstRg1, ML.bnd_some, ML.sl_le, ML.sl_lt, ML.v_wipe_nil, ML.v_wipe_cons, ↓reduceIte, Option.bind_some, Option.map_some, Option.join_some, Option.isSome_some, List.getElem?_cons_zero, List.getElem?_cons_succ, List.set_cons_zero, List.set_cons_succ, List.map_cons, List.map_nil, List.length_cons, List.length_nil, List.length_map, List.replicate, List.cons_append, List.nil_append, List.append_nil, List.take_succ_cons, List.take_zero, List.take_nil, List.nodup_nil, Nat.reduceSub, Nat.reduceAdd, Nat.reduceLT, Nat.reduceLeDiff, Nat.lt_irrefl, Int.reduceNeg, Int.reduceLE, Int.reduceLT, Int.reduceToNat, Int.reducePow, ML.natAbs10, Nat.reducePow, Int.cast_ofNat_Int, decide_true, decide_false, Bool.true_eq_false, Bool.false_eq_true, Bool.not_true, Bool.not_false, and_self, and_true, true_and, $ls,*])
namespace ML
open PySem PySem.Spec PyProof.Rows L2


/-! ### data -/
theorem mulOk_of {i j : Int} (hi : i.natAbs < 2 ^ 64) (hj : j.natAbs < 2 ^ 64) : mulOk i j = true := by
  have h : ∀ n : Nat, n < 2 ^ 64 → n.log2 < 64 := fun n hn => by
    by_cases h0 : n = 0
    · subst h0; decide
    · exact (Nat.log2_lt h0).mpr hn
  have := h _ hi
  have := h _ hj
  exact decide_eq_true (by omega)
theorem canLay_ints : ∀ ns : List Int, PyData.canLayAll0 (ns.map PyData.int) = true
  | [] => by simp [PyData.canLayAll0]
  | n :: ns => by simp [PyData.canLayAll0, PyData.canLay0, canLay_ints ns]
theorem depth_ints : ∀ ns : List Int, PyData.depthAll (ns.map PyData.int) = 0
  | [] => by simp [PyData.depthAll]
  | n :: ns => by simp [PyData.depthAll, PyData.depth, depth_ints ns]
theorem shaped_ints (ns : List Int) : SeqAt.shaped (.list (ns.map PyData.int)) = true := by
  simp [SeqAt.shaped, PyData.canLay0, PyData.depth, canLay_ints, depth_ints]
theorem shaped_nil : SeqAt.shaped (.list []) = true := shaped_ints []
theorem atI_ints {ns : List Int} {i : Int} (h0 : 0 ≤ i) (h1 : i < ns.length) : ∃ c, atI (ns.map PyData.int) i = some (.int c) := by
  have hj : i.toNat < ns.length := by omega
  refine ⟨ns[i.toNat], ?_⟩
  simp [atI, ixN, h0, h1, hj]

/-! ### the laws' feed and draw -/
def drawF : Fn := fnBody 2 6
    (sSeq (sAugIx (fun i j => i + j) (eV 0) (eK (.int 3)) (eK (.int 1)))
    (sSeq (sIf (rB (e2 gGt (e2 gIx (eV 0) (eK (.int 2))) (eK (.int 0)))) (sSeq (sSet 2 2 (e2 gMod (e2 gIx (eV 0) (eK (.int 2))) (eV 1)))
    (sSeq (sSetIx (e2 gDiv (e2 gIx (eV 0) (eK (.int 2))) (eV 1)) (eV 0) (eK (.int 2)))
    (sRet 2 (eV 2)))) sNil)
    (sSeq (sSet 2 3 (eIf (rB (e2 (gEqA false) (e2 gIx (eV 0) (eK (.int 0))) (eLst aNil))) (eK (.int 7)) (e2 gIx (e2 gIx (eV 0) (eK (.int 0))) (e2 gMod (e2 gIx (eV 0) (eK (.int 1))) (eN gLen (aCons (e2 gIx (eV 0) (eK (.int 0))) aNil))))))
    (sSeq (sAugIx (fun i j => i + j) (eV 0) (eK (.int 1)) (eK (.int 1)))
    (sSeq (sIf (fAnd (rB (e2 gGe (eV 3) (e2 gPow (eK (.int 10)) (eK (.int 18))))) (rB (e2 gLe (e2 gIx (eV 0) (eK (.int 1))) (eN gLen (aCons (e2 gIx (eV 0) (eK (.int 0))) aNil))))) (sSeq (sSetIx (e2 gDiv (eV 3) (eV 1)) (eV 0) (eK (.int 2)))
    (sRet 2 (e2 gMod (eV 3) (eV 1)))) sNil)
    (sSeq (sSet 2 4 (e2 gIx (eV 0) (eK (.int 3))))
    (sSeq (sSet 2 5 (e2 gMod (e2 gAdd (e2 gAdd (e2 gMod (eV 3) (eK (.int 2147483629))) (e2 gMul (e2 gMul (eK (.int 69621)) (eV 4)) (eV 4))) (e2 gMul (eK (.int 7)) (eV 4))) (eK (.int 2147483629))))
    (sSeq (sSet 2 5 (e2 gMod (e2 gAdd (e2 gMul (eV 5) (eV 5)) (e2 gMul (eK (.int 48271)) (eV 4))) (eK (.int 2147483647))))
    (sSeq (sSet 2 5 (e2 gMod (e2 gAdd (e2 gMul (eV 5) (eV 5)) (e2 gMul (eK (.int 16807)) (eV 4))) (eK (.int 2147483587))))
    (sRet 2 (e2 gMod (e2 gDiv (e2 gMod (e2 gAdd (e2 gMul (eV 5) (eV 5)) (eV 4)) (eK (.int 2147483629))) (eK (.int 131))) (eV 1))))))))))))
/-- the feed as it stands -/
def feedB (cells : List Int) (p l t : Int) : B := .mu (.lst [.list (cells.map PyData.int), .int p, .int l, .int t])
theorem mod_small (x k : Int) (h : 0 < k) (hk : k < 2 ^ 63) : (x % k).natAbs < 2 ^ 64 := by
  have h1 := Int.emod_nonneg x (by omega : k ≠ 0)
  have h2 := Int.emod_lt_of_pos x h
  omega
theorem eqv_nil_cons (a : D) (l : List D) : PyData.eqv (.list (a :: l)) (.list []) = false := by simp [PyData.eqv, PyData.eqvAll]
theorem eqv_nil_nil : PyData.eqv (.list []) (.list []) = true := by simp [PyData.eqv, PyData.eqvAll]
def mixD (c t : Int) : Int :=
  let x := (c % 2147483629 + 69621 * t * t + 7 * t) % 2147483629
  let y := (x * x + 48271 * t) % 2147483647
  let z := (y * y + 16807 * t) % 2147483587
  (z * z + t) % 2147483629 / 131
theorem drawF_spec (cells : List Int) (p l t m : Int) (hp : 0 ≤ p) (hm : 0 < m) (hm2 : m < 1000) (ht : 0 ≤ t) (ht2 : t < 1000000) :
    ∃ r p' l', drawF [feedB cells p l t, .val (.int m)] = some (.val (.int r), [feedB cells p' l' (t + 1), .val (.int m)]) ∧ 0 ≤ r ∧ r < m ∧ 0 ≤ p' := by
  have hm3 : m < 1073741824 := by omega
  have hmne : m ≠ 0 := by omega
  have rm : ∀ x : Int, 0 ≤ x % m ∧ x % m < m := fun x => ⟨Int.emod_nonneg x hmne, Int.emod_lt_of_pos x hm⟩
  unfold feedB
  by_cases hl : 0 < l
  · refine ⟨l % m, p, l / m, ?_, (rm _).1, (rm _).2, hp⟩
    simp_arith [drawF, hl, hm, hm3]
  · have M1 : mulOk 69621 (t + 1) = true := mulOk_of (by decide) (by omega)
    have M2 : mulOk (69621 * (t + 1)) (t + 1) = true := mulOk_of (by omega) (by omega)
    have M3 : mulOk 7 (t + 1) = true := mulOk_of (by decide) (by omega)
    have M4 : mulOk 48271 (t + 1) = true := mulOk_of (by decide) (by omega)
    have M5 : mulOk 16807 (t + 1) = true := mulOk_of (by decide) (by omega)
    have A1 : ∀ x : Int, mulOk (x % 2147483629) (x % 2147483629) = true := fun x => mulOk_of (mod_small _ _ (by decide) (by decide)) (mod_small _ _ (by decide) (by decide))
    have A2 : ∀ x : Int, mulOk (x % 2147483647) (x % 2147483647) = true := fun x => mulOk_of (mod_small _ _ (by decide) (by decide)) (mod_small _ _ (by decide) (by decide))
    have A3 : ∀ x : Int, mulOk (x % 2147483587) (x % 2147483587) = true := fun x => mulOk_of (mod_small _ _ (by decide) (by decide)) (mod_small _ _ (by decide) (by decide))
    cases cells with
    | nil =>
      refine ⟨mixD 7 (t + 1) % m, p + 1, l, ?_, (rm _).1, (rm _).2, by omega⟩
      simp_arith [drawF, hl, hm, hm3, M1, M2, M3, M4, M5, A1, A2, A3, shaped_nil, eqv_nil_nil]
      rfl
    | cons z zs =>
      have hlen : (0 : Int) < ((z :: zs).length : Int) := by simp
      obtain ⟨c, hc⟩ := atI_ints (ns := z :: zs) (i := p % ((z :: zs).length : Int)) (Int.emod_nonneg _ (by omega)) (Int.emod_lt_of_pos _ hlen)
      have hs := shaped_ints (z :: zs)
      simp only [List.map_cons, List.length_cons] at hc hs hlen
      by_cases hg : (10 : Int) ^ 18 ≤ c
      · by_cases hq : p + 1 ≤ ((zs.length + 1 : Nat) : Int)
        · refine ⟨c % m, p + 1, c / m, ?_, (rm _).1, (rm _).2, by omega⟩
          have hg : (1000000000000000000 : Int) ≤ c := hg
          simp_arith [drawF, hl, hm, hm3, hc, hs, hlen, shaped_nil, eqv_nil_cons, hg, hq]
        · have hg : (1000000000000000000 : Int) ≤ c := hg
          refine ⟨mixD c (t + 1) % m, p + 1, l, ?_, (rm _).1, (rm _).2, by omega⟩
          simp_arith [drawF, hl, hm, hm3, hc, hs, hlen, shaped_nil, eqv_nil_cons, hg, hq, M1, M2, M3, M4, M5, A1, A2, A3]
          rfl
      · have hg : ¬ (1000000000000000000 : Int) ≤ c := hg
        refine ⟨mixD c (t + 1) % m, p + 1, l, ?_, (rm _).1, (rm _).2, by omega⟩
        simp_arith [drawF, hl, hm, hm3, hc, hs, hlen, shaped_nil, eqv_nil_cons, hg, M1, M2, M3, M4, M5, A1, A2, A3]
        rfl
end ML

/-! ML16: the plain side: loops. -/
namespace ML
open PySem PySem.Spec PyProof.Rows L2
def lcS (np : Nat) (own : List Nat) (t : Tg) (tst : FT) (elt : FE) (env : En) (d : D) : Option (Option D × En) :=
  (setT np t d env).bind fun e1 => (tst e1).bind fun p => if p.1 = true then (elt p.2).bind fun q => (keep q.1 q.2).bind fun s => some (some s.1, wipeE s.2 own) else some (none, wipeE p.2 own)
theorem v_lcS {np : Nat} {own : List Nat} {t : Tg} {tst : FT} {elt : FE} {env : En} {d : D} : lcS np own t tst elt env d =
    bnd (fun e1 => bnd (fun p => if p.1 = true then bnd (fun q => bnd (fun s => some (some s.1, wipeE s.2 own)) (keep q.1 q.2)) (elt p.2) else some (none, wipeE p.2 own)) (tst e1)) (setT np t d env) := rfl
theorem lcL_run {np : Nat} {own : List Nat} {t : Tg} {tst : FT} {elt : FE} {env : En} {g : D → Option D} : ∀ {ds : List D}, (∀ d ∈ ds, lcS np own t tst elt env d = some (g d, env)) → lcL np own t tst elt ds env = some (ds.filterMap g, env)
  | [], _ => rfl
  | d :: ds, h => by
    have ih := lcL_run (np := np) (own := own) (t := t) (tst := tst) (elt := elt) (env := env) (g := g) (ds := ds) fun d hd => h d (List.mem_cons_of_mem _ hd)
    have h1 := h d (List.mem_cons_self ..)
    unfold lcS at h1
    obtain ⟨e1, q1, h1⟩ := bind_some h1
    obtain ⟨⟨b, e2⟩, q2, h1⟩ := bind_some h1
    unfold lcL
    rw [q1]
    simp only [Option.bind_some, q2]
    cases b with
    | true =>
      obtain ⟨⟨r, e3⟩, q3, h1⟩ := bind_some (show (elt e2).bind _ = _ from h1)
      obtain ⟨⟨v, e4⟩, q4, h1⟩ := bind_some h1
      have h1 : (some v, wipeE e4 own) = (g d, env) := Option.some.inj h1
      have e : g d = some v := (congrArg Prod.fst h1).symm
      have e' : wipeE e4 own = env := congrArg Prod.snd h1
      simp only [↓reduceIte, q3, q4, Option.bind_some, e', ih, Option.map_some, List.filterMap_cons, e]
    | false =>
      have h1 : (none, wipeE e2 own) = (g d, env) := Option.some.inj h1
      have e : g d = none := (congrArg Prod.fst h1).symm
      have e' : wipeE e2 own = env := congrArg Prod.snd h1
      simp only [Bool.false_eq_true, ↓reduceIte, e', ih, List.filterMap_cons, e]
theorem rest_wipe (e : En) (own : List Nat) : restE e (wipeE e own) own = e := by
  apply List.ext_getElem?
  intro j
  rw [restE_get, wipeE_get, wipeE_len]
  by_cases h : j ∈ own
  · simp only [h, if_true]
    by_cases hl : j < e.length
    · simp [hl]
    · simp [hl]
  · simp [h]
theorem lcL_of {np : Nat} {own : List Nat} {t : Tg} {tst : FT} {elt : FE} {env : En} {α : Type} (k : α → D) (p : α → Bool) (v : α → D) : ∀ (xs : List α), (∀ x ∈ xs, lcS np own t tst elt env (k x) = some (if p x = true then some (v x) else none, env)) →
    lcL np own t tst elt (xs.map k) env = some ((xs.filter p).map v, env)
  | [], _ => rfl
  | x :: xs, h => by
    have ih := lcL_of (np := np) (own := own) (t := t) (tst := tst) (elt := elt) (env := env) k p v xs fun y hy => h y (List.mem_cons_of_mem _ hy)
    have h1 := h x (List.mem_cons_self ..)
    have e1 := lcL_run (np := np) (own := own) (t := t) (tst := tst) (elt := elt) (env := env) (g := fun _ => if p x = true then some (v x) else none) (ds := [k x]) fun d hd => by rw [List.mem_singleton.mp hd]; exact h1
    rw [List.map_cons, List.filter_cons]
    unfold lcL at e1 ⊢
    obtain ⟨q, q1, e1⟩ := bind_some e1
    rw [q1]
    obtain ⟨b, q2, e1⟩ := bind_some e1
    simp only [Option.bind_some, q2]
    cases hb : b.1 with
    | true =>
      simp only [hb, ↓reduceIte] at e1 ⊢
      obtain ⟨r, q3, e1⟩ := bind_some e1
      obtain ⟨s, q4, e1⟩ := bind_some e1
      obtain ⟨u, q5, e1⟩ := omap_some e1
      unfold lcL at q5
      have q5 : u = ([], wipeE s.2 own) := (Option.some.inj q5).symm
      subst q5
      simp only [q3, q4, Option.bind_some]
      have e2 : wipeE s.2 own = env := congrArg Prod.snd e1
      have e3 : [s.1] = [k x].filterMap (fun _ => if p x = true then some (v x) else none) := congrArg Prod.fst e1
      rw [e2, ih]
      cases hp : p x with
      | true =>
        simp only [hp, ↓reduceIte, List.filterMap_cons, List.filterMap_nil] at e3
        have e3 := List.head_eq_of_cons_eq e3
        simp [e3]
      | false => simp [hp] at e3
    | false =>
      simp only [hb, Bool.false_eq_true, ↓reduceIte] at e1 ⊢
      unfold lcL at e1
      have e2 : wipeE b.2 own = env := congrArg Prod.snd (Option.some.inj e1)
      have e3 : [] = [k x].filterMap (fun _ => if p x = true then some (v x) else none) := congrArg Prod.fst (Option.some.inj e1)
      rw [e2, ih]
      cases hp : p x with
      | true => simp [hp] at e3
      | false => simp
theorem eLc_of {np : Nat} {own : List Nat} {fi : FI} {t : Tg} {tst : FT} {elt : FE} {env env1 : En} {src : Option Nat} {α : Type} (xs : List α) (k : α → D) (p : α → Bool) (v : α → D) (hi : fi env = some ((xs.map k, src), env1)) (ok : lcOk own t env1 = true)
    (h : ∀ x ∈ xs, lcS np own t tst elt (wipeE env1 own) (k x) = some (if p x = true then some (v x) else none, wipeE env1 own)) (hl : xs.length ≤ 1000000) : eLc np own fi t tst elt env = some (.new (.lst ((xs.filter p).map v)), unlock src env1) := by
  have hl2 : ((xs.filter p).map v).length ≤ sizeLine := by
    rw [List.length_map]
    exact sl_le (Nat.le_trans (List.length_filter_le ..) hl)
  unfold eLc
  rw [hi]
  simp only [Option.bind_some, ok, ↓reduceIte, lcL_of k p v xs h, hl2, rest_wipe]
theorem loopL_inv {step : D → FS} (P : List D → En → Prop) (h : ∀ d ds env, P (d :: ds) env → ∃ env', step d env = some (.nx, env') ∧ P ds env') : ∀ {ds : List D} {env : En}, P ds env → ∃ env', loopL step ds env = some (.nx, env') ∧ P [] env'
  | [], env, p => ⟨env, rfl, p⟩
  | d :: ds, env, p => by
    obtain ⟨e1, q1, q2⟩ := h d ds env p
    obtain ⟨e2, q3, q4⟩ := loopL_inv P h q2
    exact ⟨e2, by unfold loopL; rw [q1]; exact q3, q4⟩
theorem sFor_inv {np : Nat} {fi : FI} {t : Tg} {body : FS} {env env1 : En} {ds : List D} {src : Option Nat} (P : List D → En → Prop) (hi : fi env = some ((ds, src), env1)) (p : P ds env1)
    (h : ∀ d ds env, P (d :: ds) env → ∃ e1 env', setT np t d env = some e1 ∧ body e1 = some (.nx, env') ∧ P ds env') : ∃ env', sFor np fi t body env = some (.nx, unlock src env') ∧ P [] env' := by
  obtain ⟨e2, q1, q2⟩ := loopL_inv (step := fun d e => (setT np t d e).bind body) P (fun d ds env p => by
    obtain ⟨e1, e2, q1, q2, q3⟩ := h d ds env p
    exact ⟨e2, by show (setT np t d env).bind body = _; rw [q1]; exact q2, q3⟩) p
  exact ⟨e2, by unfold sFor; rw [hi]; simp only [Option.bind_some, q1, Option.map_some], q2⟩
theorem whileL_inv {t : FT} {f : FS} {Q : En → Prop} (P : Nat → En → Prop) (h : ∀ m env, P m env → (t env = some (false, env) ∧ Q env) ∨ (t env = some (true, env) ∧ ∃ m' env', f env = some (.nx, env') ∧ m' < m ∧ P m' env')) :
    ∀ {n m : Nat} {env : En}, P m env → m < n → ∃ env', whileL t f n env = some (.nx, env') ∧ Q env'
  | 0, m, env, p, hn => absurd hn (Nat.not_lt_zero _)
  | n + 1, m, env, p, hn => by
    rcases h m env p with ⟨q1, q2⟩ | ⟨q1, m', e', q2, q3, q4⟩
    · exact ⟨env, by unfold whileL; rw [q1]; rfl, q2⟩
    · obtain ⟨e2, q5, q6⟩ := whileL_inv P h (n := n) q4 (by omega)
      exact ⟨e2, by unfold whileL; rw [q1]; simp only [Option.bind_some, ↓reduceIte, q2, q5], q6⟩
end ML

/-! ML17: defs that run where nothing is being shown (no guard stands): repr can be told to the letter there. -/
namespace ML
open PySem PySem.Spec PyProof.Rows L2
structure RoomG (k : Nat) (A : Around) : Prop extends Room k A where
  gd : A.guards = some []
theorem RoomG.less {j k : Nat} {A : Around} (r : RoomG k A) (h : j ≤ k) : RoomG j A := ⟨r.toRoom.mono h, r.gd⟩
theorem RoomG.inner {k : Nat} {A : Around} (r : RoomG (k + 1) A) (env : Env) : RoomG k (A.deeper env) := ⟨r.toRoom.deeper env, r.gd⟩
structure FnG (P : Program) (w : World) (K : PySem.W.Frag) (mg : Str → Option Value) (base : Heap) (k : Nat) (f : Addr) (fd : FuncData) (ps : List Str) (sp : Sp) : Prop where
  many : ∀ vs H Q, sp vs H Q E0 → vs.length = ps.length
  go : ∀ (A : Around) (below : List Env) (s : Shared) (H : Hp) (given : Args) (us : List Value) (vs : List V) (Q : VK), RoomG k A → Env0 P w K mg base A below s H → BindsTo s fd given (ps.zip us) → Vals vs us → sp vs H Q E0 →
    codeAny (model P w) A (.call (.ref f) given) (CR CX0 below P w H s Q E0) s
section
variable {P : Program} {w : World} {K : PySem.W.Frag} {mg : Str → Option Value} {base : Heap}
/-- a def's rule, where no guard stands -/
theorem fn_okG {T : List (Addr × Str)} {x qual : Str} {st : Stmt} {f : Addr} {fd : FuncData} {N ps : List Str} {k np n : Nat} {body : FS} {c : Nat → Bool} (Fx : Fun K x qual st f fd) (S : FnScope N ps (defScope st)) (hnp : ps.length = np) (hn : N.length = n) (hle : np ≤ n)
    (hb : ∀ (cdv : Value) (A : Around) (below : List Env) (s : Shared) (H G : Hp) (vs : List V) (bor : List Addr), RoomG k (A.deeper (envOfC qual (defScope st) s.heap.objs.size f cdv)) → vs.length = np →
      PSs (cxOf CX0 P w K mg base N qual (defScope st) f cdv A below s H E0).nox (defBody st) (tS ⟨K, w, H, G, vs, bor, c, T⟩ body)) : FnG P w K mg base (k + 1) f fd ps (spF K w np (fnBody np n body) T) := by
  obtain ⟨vcls, vdic, vkw, vdoc, vpm, van, vcode, vct, vsl, efd, at_f, isCode⟩ := Fx.ex
  subst efd
  have cnt : ∀ vs H Q, spF K w np (fnBody np n body) T vs H Q E0 → vs.length = ps.length := fun vs H Q h => by
    obtain ⟨_, _, _, _, _, z, _⟩ := h
    omega
  refine ⟨cnt, fun A below s H given us vs Q room env bind rel h => ?_⟩
  obtain ⟨G, bor, hl, start⟩ := body_tS (N := N) (c := c) hn hle h
  have written : K.In s.heap := env.mod.kin.keeps fun b o e => (env.bs b o e).1
  have kinds : ∀ y ∈ ps.zip us, (defScope st).names.lookup y.1 = some .local ∨ ((defScope st).names.lookup y.1 = some .cell ∧ ((cellsFrom (s.heap.objs.size + 1) (defScope st).names []).lookup y.1).isSome = true) := fun y hy =>
    (S.par y.1 (List.of_mem_zip hy).1).imp id fun z => ⟨z, PySem.W.cellsFrom_some _ _ _ (.inl z)⟩
  refine codeAny_call_function room.toRoom.depth (written _ _ at_f) rfl S.co S.gen rfl (PySem.W.codeRec_of written isCode) (bind _ _ _ _ ?_)
  refine wpAny_newFunctionEnv_cells S.kind kinds fun envN eN sN inside => ?_
  subst eN
  have free : sN.heap.NoLimit := (env.mod.nolimit.keeps fun b o e => (env.bs b o e).1).keeps inside.toInCall.keep
  refine ⟨free, codeAny_func ?_⟩
  have runs := (hb vcode A below s H G vs bor (room.inner _) hl).nox
  have I := inv_start (CX := CX0) (E := E0) (cd := vcode) (qual := qual) (f := f) S room.toRoom.hd env (cnt _ _ _ h) rel inside
  refine wpAny_mono (runs.run [] sN (L2.start N vs) H _ I start) (fun fl sE hE => ?_) fun _ _ z => z
  have leave : ∀ {τ : St} {H2 : Hp} {v : V} {u : Value}, Inv (cxOf CX0 P w K mg base N qual (defScope st) f vcode A below s H E0) [] τ H2 sE → RelV v u → Q v H2 → CE below P w H s Q u sE := fun J rv q => ⟨_, _, J.os, J.bare, J.base, J.hok, rv, q⟩
  match fl, hE with
  | .ret u, ⟨v, τ, H2, J, rv, q⟩ => exact leave J rv q
  | .next, ⟨τ, H2, J, q⟩ => exact leave (v := V.non) (u := Value.none) J rfl q
  | .brk, ⟨_, _, _, q⟩ => exact q.elim
  | .cont, ⟨_, _, _, q⟩ => exact q.elim
end
section
variable {X : Cx} {F : Fr} {x : Str} {p pos : Pos} {e : Expr} {es : List Expr} {n k : Nat} {f : Fn} {fa : Addr} {fd : FuncData} {pars : List Str}
theorem callG_run {pins : List (Addr × Obj)} {σ : St} {H : Hp} {s : Shared} {Q : VK} {us dus : List Value} {vs dvs : List V} {sp : Sp} (Ff : FnG X.prog X.w X.K X.mg X.base k fa fd pars sp) (hr : RoomG k X.A) (hb : Binds X.K fd pars dus) (hdv : Vals dvs dus)
    (I : Inv X pins σ H s) (r : Vals vs us) (h : sp (vs ++ dvs) H Q E0) : wpAny (model X.prog X.w) X.A (call (.ref fa) us) (EP X pins σ Q) X.xe s := by
  have rr : Vals (vs ++ dvs) (us ++ dus) := r.append hdv
  have cnt : (us ++ dus).length = pars.length := rr.length.symm.trans (Ff.many _ _ _ h)
  refine wpAny_call (codeAny_mono (Ff.go X.A X.stack s H ⟨us, []⟩ _ _ Q hr I.env0 (hb s us I.kIn cnt) rr h) fun res sE hE => ?_)
  match res, hE with
  | .ok (.ret u), z => exact I.after z
  | .error _, z => exact (pass0 (X := X) pins σ H s _ sE I z)
theorem me_callGG {dvs : List V} {ds : List D} {dus : List Value} {g : FA} (hK : X.K = F.K) (hw : X.w = F.w) (Ff : FnG X.prog X.w X.K X.mg X.base k fa fd pars (spF X.K X.w n f F.tb)) (hr : RoomG k X.A) (hG : Gl X x) (hm : X.mg x = some (.ref fa)) (hkp : PySem.W.keepIn X.K (.ref fa) = true)
    (hb : Binds X.K fd pars dus) (hdv : Vals dvs dus) (hd : ∀ G, DpAll F.K G dvs ds) (ha : PA X (e :: es) (tA F g)) (hdb : (x == ("__debug__" : Str)) = false := by decide)
    (he : starEach (e :: es) X.env = (false, eval e X.env) :: starEach es X.env := by rfl) (hpl : (backTo pos (starEach es X.env)).any (·.1) = false := by rfl) : PE X (.Call (.Name x p) (e :: es) [] pos) (tE F (eCall n f ds g)) :=
  me_callP hK hw ⟨fun pins s σ H Q I h => wpAny_Call_Name_kw (ld_glob I hG hm (PySem.W.callWith_K (h₀ := X.base) I.ok.mod.kin hkp (thn (ha.run pos pins s σ H _ I h) fun us s1 ⟨vs, H1, I1, r, q⟩ => ⟨I1.kIn, callG_run Ff hr hb hdv I1 r q⟩) he hpl) hdb)⟩ hd
end
/-! ### a law's own end, where no guard stands -/
theorem law_callG {P : Program} {w : World} {K : PySem.W.Frag} {mg mb : Str → Option Value} {k : Nat} {fa a : Addr} {fd : FuncData} {x : Str} {f : Fn} {s₁ : Shared} {vs : List Value} {ns : List Int}
    (KX : K.In s₁.heap) (hns : s₁.heap.Ns mainGlobals mg) (hb : s₁.heap.Ns builtinsNs mb) (hbb : ∀ x : Str, x ≠ "__name__" → mb x = bootBuiltins x) (hlim : s₁.heap.NoLimit) (hg : s₁.gens = #[])
    (ha : s₁.heap.get? a = some { cls := .type "list", data := .seq vs.toArray }) (hi : IntsAre vs ns) (hl : ns.length ≤ sizeLine) (hr : RoomG k callerA)
    (F : ∀ base : Heap, K.In base → base.Ns mainGlobals mg → FnG P w K mg base k fa fd [x] (spF K w 1 f)) (hbind : ∀ (s : Shared) (u : Value), BindsTo s fd ⟨[u], []⟩ [(x, u)])
    (law : ∃ bs', f [.val (.list (ns.map PyData.int))] = some (.val (.bool true), bs')) :
    codeAny (model P w) callerA (.call (.ref fa) ⟨[.ref a], []⟩) (fun r s' => r = .ok (.ret (.bool true)) ∧ OldK s₁.heap s'.heap ∧ s'.os = s₁.os ∧ AllBare s'.gens) s₁ := by
  have rel := vals_ints hi
  -- the script's own place: tracked, unless the module has it already
  obtain ⟨H, seen, good, lone, apart⟩ : ∃ H : Hp, SqL K H a (ns.map V.int) ∧ HOk P w H s₁.heap ∧ (∀ b u, H b = some u → b = a ∧ u = .frz { cls := .type "list", data := .seq vs.toArray } (.lst (ns.map V.int))) ∧ (H a ≠ none → K.lookup a = none) := by
    cases own : K.lookup a with
    | some o =>
      have same : o = { cls := .type "list", data := .seq vs.toArray } := Option.some.inj ((KX a o own).symm.trans ha)
      subst same
      exact ⟨fun _ => none, .inr ⟨_, vs.toArray, _, own, rfl, rfl, rfl, by rw [List.size_toArray, hi.length]; exact hl, by simpa using rel⟩, fun b u z => (nomatch (z : (none : Option HO) = some u)), fun b u z => (nomatch (z : (none : Option HO) = some u)), fun z => absurd rfl z⟩
    | none =>
      refine ⟨fun b => if b = a then some (.frz { cls := .type "list", data := .seq vs.toArray } (.lst (ns.map V.int))) else none, .inl (.inr ⟨_, if_pos rfl⟩), fun b u z => ?_, fun b u z => ?_, fun _ => rfl⟩
      · by_cases hba : b = a
        · subst hba
          have z := (if_pos rfl).symm.trans z
          obtain rfl := Option.some.inj z
          exact ⟨ha, by simpa using hl, vs, _, rel, ha⟩
        · cases (if_neg hba).symm.trans z
      · by_cases hba : b = a
        · exact ⟨hba, (Option.some.inj ((if_pos hba).symm.trans z)).symm⟩
        · cases (if_neg hba).symm.trans z
  have untr : ∀ {b : Addr} {o : Obj}, s₁.heap.get? b = some o → (∀ it n, o.data ≠ .seq it n) → H b = none := fun {b o} e nd => by
    cases hb : H b with
    | none => rfl
    | some u =>
      obtain ⟨rfl, _⟩ := lone b u hb
      rw [ha] at e
      exact absurd (congrArg Obj.data (Option.some.inj e)).symm (nd _ _)
  have spaces : ∀ {b : Addr} {m : Str → Option Value}, s₁.heap.Ns b m → (hidT s₁.heap H).Ns b m := fun ⟨o, es, ep, e, d, r⟩ => ⟨o, es, ep, hidT_get e (untr e fun it n z => by rw [d] at z; cases z), d, r⟩
  have inB : K.In (hidT s₁.heap H) := fun b o e => hidT_get (KX b o e) (by
    cases hb : H b with
    | none => rfl
    | some u =>
      obtain ⟨rfl, _⟩ := lone b u hb
      rw [apart (by rw [hb]; exact fun z => nomatch z)] at e; cases e)
  have env : Env0 P w K mg (hidT s₁.heap H) callerA [] s₁ H := by
    refine ⟨rfl, ⟨inB, spaces hns, ⟨mb, spaces hb, hbb⟩, ?_⟩, fun b o e => of_hidT e, Nat.le_of_eq (hidT_size _ _), trivial, fun b z => (nomatch z), good, .of_eq hg⟩
    obtain ⟨mc, l1, l2⟩ := hlim
    exact ⟨mc, spaces l1, l2⟩
  have runs := (F _ inB (spaces hns)).go callerA [] s₁ H ⟨[.ref a], []⟩ [.ref a] [.ref a] (fun v _ => v = .bl true) hr env (hbind s₁ (.ref a)) (.cons rfl .nil) (law_end seen ⟨(fun b xs z => by cases (lone b _ z).2), (fun b o u z => by cases (lone b _ z).2; rfl), (fun b ps z => by cases (lone b _ z).2)⟩ law)
  refine codeAny_mono runs fun res sE hE => ?_
  match res, hE with
  | .ok (.ret u), ⟨v, H2, os, bare, un, ok2, rv, q⟩ =>
    have q : v = .bl true := q
    subst q
    obtain rfl : u = Value.bool true := rv
    refine ⟨rfl, OldK.of_keep fun b o e => ?_, os, bare⟩
    cases hb : H b with
    | none => exact un.keep b o e hb (fun z => nomatch z) (fun z => nomatch z)
    | some u =>
      obtain ⟨_, rfl⟩ := lone b u hb
      have o1 : s₁.heap.get? b = some _ := (good b _ hb).1
      have o2 : sE.heap.get? b = some _ := (ok2 b _ (un.frzs b _ _ hb)).1
      rw [e] at o1
      rw [o2, ← o1]
theorem walk_ofG {l : PySem.W.OpenLaw} {n k : Nat} {q : Program} {loose : List Str} {XP : (Str → Option Value) → Heap → Prop} {YP : World → Heap → Prop} {d : DefRec} {K : Params → PySem.W.Frag} {f : Fn} {x : Str}
    (most : l.most = some n) (small : n ≤ sizeLine) (plain : d.params.defaults = []) (room : RoomG k callerA) (part : ∀ (w : World) (h : Heap), YP w h → (K w.params).In h)
    (F : ∀ (w : World) (mg : Str → Option Value) (fa : Addr) (h : Heap), (K w.params).In h → h.Ns mainGlobals mg → mg d.name = some (.ref fa) →
      ∃ fd : FuncData, (∀ (s : Shared) (u : Value), BindsTo s fd ⟨[u], []⟩ [(x, u)]) ∧ ∀ base : Heap, (K w.params).In base → base.Ns mainGlobals mg → FnG l.prog w (K w.params) mg base k fa fd [x] (spF (K w.params) w 1 f))
    (law : ∀ ns : List Int, ns.length ≤ n → ∃ bs', f [.val (.list (ns.map PyData.int))] = some (.val (.bool true), bs')) :
    PySem.W.WalkO q loose XP YP l.row.toRowW d [] (fun g vs => PySem.call g vs) :=
  Att.attach_call most plain fun w s₀ s₁ mg mb fa o pm cd doc a vs ns ground Y ho hd hcd hmg hobj hints hlen hg => by
    have inK := part w _ Y
    obtain ⟨fd, binds, fn⟩ := F w mg fa _ inK ground.T.g hmg
    exact law_callG inK ground.T.g ground.T.b ground.T.builtins ground.T.nolimit hg hobj hints (Nat.le_trans hlen small) room fn binds (law ns hlen)
end ML

/-! ML18: isinstance(x, T), repr(x). -/
namespace ML
open PySem PySem.Spec PyProof.Rows L2
section
variable {X : Cx} {F : Fr} {pos p q : Pos} {e : Expr}
theorem pe_tyName {T : String} {x : Str} (hg : Gl X x) (hm : X.mg x = none) (hv : bootBuiltins x = some (.type T)) (hn : x ≠ "__name__" := by decide) (hdb : (x == ("__debug__" : Str)) = false := by decide) : PE X (.Name x pos) (tC (.ty T)) :=
  ⟨fun pins s σ H Q I h => ld_blt I hg hm hv ⟨.ty T, H, I, rfl, h⟩ hn hdb⟩
def tyD : D → String
  | .none => "NoneType"
  | .bool _ => "bool"
  | .int _ => "int"
  | .str _ => "str"
  | .list _ => "list"
  | .tuple _ => "tuple"
  | .dict _ => "dict"
def tyO : Option B → Option String
  | some (.val d) => some (tyD d)
  | some (.mu (.lst _)) => some "list"
  | some (.lk (.lst _)) => some "list"
  | some (.mu (.dK _)) => some "dict"
  | _ => none
theorem dp_ty {K : PySem.W.Frag} {H : Hp} {v : V} {d : D} (h : Dp K H v d) : TyX K H v (.type (tyD d)) := by
  cases h with
  | non => exact .base .non
  | bl b => exact .base (.bl b)
  | int i => exact .base (.int i)
  | str x => exact .base (.str x)
  | lst hs _ =>
    rcases hs with (h | ⟨o, h⟩) | ⟨o, its, n, h1, h2, _⟩
    · exact .base (.lst h)
    · exact .base (.frz h)
    · exact .kList h1 h2
  | tup hs _ =>
    rcases hs with (h | ⟨o, h⟩) | ⟨o, its, n, h1, h2, _⟩
    · exact .base (.tup h)
    · exact .fTuple h
    · exact .kTuple h1 h2
def eIsi (T : String) (f : FE) : FE := fun env => (f env).bind fun p => (tyO (p.1.obj p.2)).bind fun t => (kitB t T).map fun b => (.val (.bool b), p.2)
theorem me_isi {T : String} {x : Str} {f : FE} (hK : X.K = F.K) (hg : Gl X "isinstance") (hm : X.mg "isinstance" = none) (hgT : Gl X x) (hmT : X.mg x = none) (hv : bootBuiltins x = some (.type T)) (he : PE X e (tE F f)) (hn : x ≠ "__name__" := by decide) (hdb : (x == ("__debug__" : Str)) = false := by decide)
    (hs : starEach [e, .Name x q] X.env = (false, eval e X.env) :: starEach [.Name x q] X.env := by rfl) (hs2 : starEach [.Name x q] X.env = (false, eval (.Name x q) X.env) :: starEach [] X.env := by rfl) (hpl : (backTo pos (starEach [.Name x q] X.env)).any (·.1) = false := by rfl) :
    PE X (.Call (.Name "isinstance" p) [e, .Name x q] [] pos) (tE F (eIsi T f)) :=
  (pe_callB call_isi hg hm PyProof.Rows.boot_isinstance (pa_cons he (pa_cons (pe_tyName hgT hmT hv hn hdb) pa_nil hs2) hs) (by decide) (by decide) hs hpl).wk fun σ H Q ⟨env, ops, G, r, env', I, e, k⟩ => by
    obtain ⟨⟨ra, e1⟩, h1, e⟩ := bind_some e
    obtain ⟨t, h2, e⟩ := bind_some e
    obtain ⟨b, h3, h4⟩ := omap_some e
    cases h4
    refine ⟨env, ops, G, ra, _, I, h1, fun v G1 H1 s1 I1 => ?_⟩
    have hm : (v, ra) ∈ ops ++ [(v, ra)] := by simp
    have ty : TyX X.K H1 v (.type t) := by
      rw [hK]
      cases ho : ra.obj e1 with
      | none => rw [ho] at h2; cases h2
      | some bb =>
        rw [ho] at h2
        obtain ⟨g1, g2⟩ := I1.obj hm ho
        cases bb with
        | val d => cases h2; exact dp_ty (dp_mono I1.same _ _ (g1 d rfl))
        | mu o =>
          cases o with
          | lst ds => cases h2; obtain ⟨a, rfl, ⟨vs, q1, _⟩, _⟩ := g2 _ rfl; exact .base (.lst q1)
          | dK kvs => cases h2; obtain ⟨a, rfl, ⟨vs, q1, _⟩, _⟩ := g2 _ rfl; exact .base (.dK q1)
          | sI ns => cases h2
          | dA kvs => cases h2
          | tq ps => cases h2
        | lk o =>
          cases o with
          | lst ds => cases h2; obtain ⟨a, rfl, ⟨vs, q1, _⟩, _⟩ := g2 _ rfl; exact .base (.lst q1)
          | dK kvs => cases h2
          | sI ns => cases h2
          | dA kvs => cases h2
          | tq ps => cases h2
    exact ⟨v, .ty T, .type t, .type T, b, rfl, .ty T, ty, kit_ty h3, k _ G1 H1 s1 (I1.pop.pushV (.bl b))⟩
/-! ### repr -/
def reprOk (d : D) : Bool := PyData.layable0 d && PyData.intsShort 13 d && PyData.showable d
def rReprD (K : PySem.W.Frag) : List V → Hp → VK → Prop := fun xs H Q => ∃ v d, xs = [v] ∧ Dp K H v d ∧ reprOk d = true ∧ Q (.str d.shown) H
theorem call_reprD (hg : X.A.guards = some []) (hu : X.A.units + 65 < cLine) : CallR X (.builtin "repr") (rReprD X.K) := by
  intro pins s σ H xs us Q I r h
  obtain ⟨v, d, rfl, hd, ok, k⟩ := h
  obtain ⟨u, rfl, rv⟩ := vals1 r
  unfold reprOk at ok
  rw [Bool.and_eq_true, Bool.and_eq_true] at ok
  obtain ⟨⟨ok1, ok2⟩, ok3⟩ := ok
  have short : d.shown.length ≤ sizeLine := Nat.le_trans (shown_le13 ok1 ok2) (by decide)
  obtain ⟨as, rd⟩ := Dp.reads I d v u hd rv
  have ref : ∀ a, u = .ref a → wpAny (model X.prog X.w) X.A (call (.builtin "repr") [u]) (EP X pins σ Q) X.xe s := fun a ea => by
    subst ea
    exact repr_of_reads' rd ok3 (PyData.noDict_hsm (PyData.hasDict_of_layable ok1)) hg (room_of_layable ok1 hu) (fun _ _ z => z) (fun h' t tk hk => ⟨.str d.shown, H, I.kept hk, ⟨_, rfl⟩, k⟩) short
  cases hd with
  | non =>
    obtain rfl : u = Value.none := rv
    exact PySem.P.repr_of_none ⟨.str _, H, I.tok _, ⟨_, rfl⟩, k⟩
  | bl b =>
    obtain rfl : u = Value.bool b := rv
    exact PySem.P.repr_of_bool ⟨.str _, H, I.tok _, ⟨_, rfl⟩, k⟩
  | int i =>
    obtain ⟨t, rfl⟩ := (show ∃ t, u = Value.int i t from rv)
    exact PySem.P.repr_of_int (of_decide_eq_true (by simpa [PyData.showable] using ok3)) ⟨.str _, H, I.tok _, ⟨_, rfl⟩, k⟩
  | str x =>
    obtain ⟨t, rfl⟩ := (show ∃ t, u = Value.str x t from rv)
    exact PySem.P.repr_of_str ⟨.str _, H, I.tok _, ⟨_, rfl⟩, k⟩ short
  | lst hs _ => exact ref _ rv
  | tup hs _ => exact ref _ rv
end
section
variable {F : Fr}
def gRepr : GN := n1 fun r env => (r.dat env).bind fun d => if reprOk d = true then some (.val (.str d.shown), env) else none
end
/-! what they say of what is plainly there -/
theorem v_eIsi {T : String} {f : FE} {env : En} : eIsi T f env = bnd (fun p => bnd (fun t => (kitB t T).map fun b => (.val (.bool b), p.2)) (tyO (p.1.obj p.2))) (f env) := rfl
theorem v_tyO_val {d : D} : tyO (some (.val d)) = some (tyD d) := rfl
theorem v_gRepr {r : R} {env : En} : gRepr [r] env = bnd (fun d => if reprOk d = true then some (.val (.str d.shown), env) else none) (r.dat env) := rfl
/-! ### == of texts, whatever signs they have -/
def rEqA (K : PySem.W.Frag) : R2 := fun x y H Q => rEq x y H Q ∨ rEqD K x y H Q
def rNeA (K : PySem.W.Frag) : R2 := fun x y H Q => rNe x y H Q ∨ rNeD K x y H Q
theorem op_eqA {X : Cx} (hu : X.A.units + 64 < cLine) : OpR X (compareOp .Eq) (rEqA X.K) := op_eq.or (op_eqD hu)
theorem op_neA {X : Cx} (hu : X.A.units + 64 < cLine) : OpR X (compareOp .NotEq) (rNeA X.K) := op_ne.or (op_neD hu)
theorem dec_txt (x y : Str) : decide (V.str x = V.str y) = (x == y) := by
  rw [Bool.eq_iff_iff]
  simp
section
variable {F : Fr}
theorem s_eqA : S2 F (rEqA F.K) (gEqA false) := by
  intro env ops G σ H x y ra rb r env' Q I h k
  unfold gEqA at h
  split at h
  · rename_i a b h1 h2
    cases h
    obtain rfl := dp_str (I.dat (r := ra) (v := x) (by simp) h1)
    obtain rfl := dp_str (I.dat (r := rb) (v := y) (by simp) h2)
    exact .inl ⟨rfl, by rw [dec_txt]; exact I.retV k (.bl _)⟩
  · exact .inr (s_eq env ops G σ H x y ra rb r env' Q I h k)
theorem s_neA : S2 F (rNeA F.K) (gEqA true) := by
  intro env ops G σ H x y ra rb r env' Q I h k
  unfold gEqA at h
  split at h
  · rename_i a b h1 h2
    cases h
    obtain rfl := dp_str (I.dat (r := ra) (v := x) (by simp) h1)
    obtain rfl := dp_str (I.dat (r := rb) (v := y) (by simp) h2)
    exact .inl ⟨rfl, by rw [dec_txt]; exact I.retV k (.bl _)⟩
  · exact .inr (s_ne env ops G σ H x y ra rb r env' Q I h k)
end
theorem boot_repr : bootBuiltins "repr" = some (.builtin "repr") := by decide +kernel
end ML

/-! ML19: t[::-1], enumerate(t), at the library's level. -/
namespace HT
open PySem PySem.Spec PyProof.Rows L2
open PySem.Sem (wp)
section
variable {prog : Program} {w : World} {A : Around} {E : Value → Shared → Prop} {s : Shared}
theorem sliceApplied_rev {sl : Addr} {n : Nat} {vs : Value} {Q : Int × Int × Nat → Shared → Prop} (hs : s.heap.IsSliceOf sl .none .none vs) (ps : IsPart vs (some (-1)))
    (h : Q ((n : Int) - 1, -1, n) s) : wpAny (model prog w) A (Builtin.Slice.sliceApplied (.ref sl) (pure (n : Int))) Q E s := by
  obtain ⟨os, hos, hcs, hds⟩ := id hs
  unfold Builtin.Slice.sliceApplied Builtin.Slice.sliceFields
  refine wpAny_bind (wpAny_bind (wpAny_field hos hds (x := .none) rfl (wpAny_bind (wpAny_field hos hds (x := .none) rfl (wpAny_bind (wpAny_field hos hds (x := vs) rfl (wpAny_pure ?_)))))))
  refine wpAny_bind (slicePart_ ps ?_)
  show wpAny _ _ (if ((-1 : Int) == 0) = true then _ else _) _ _ s
  rw [if_neg (by decide)]
  refine wpAny_bind (slicePart_none (wpAny_bind (slicePart_none (wpAny_bind (wpAny_pure ?_)))))
  show wpAny _ _ (match Builtin.Slice.sliceAdjust none none (-1) (n : Int) with | (lo, hi) => pure (lo, (-1 : Int), Builtin.Slice.slicePlaces lo hi (-1))) _ _ s
  have e1 : Builtin.Slice.sliceAdjust none none (-1) (n : Int) = ((n : Int) - 1, -1) := by
    unfold Builtin.Slice.sliceAdjust
    simp
  rw [e1]
  show wpAny _ _ (pure ((n : Int) - 1, (-1 : Int), Builtin.Slice.slicePlaces ((n : Int) - 1) (-1) (-1))) _ _ s
  have e2 : Builtin.Slice.slicePlaces ((n : Int) - 1) (-1) (-1) = n := by
    unfold Builtin.Slice.slicePlaces
    have h1 : ¬ ((-1 : Int) > 0) := by decide
    simp only [h1, if_false]
    rw [show (- -1 : Int) = 1 by decide, Int.ediv_one]
    split <;> omega
  rw [e2]
  exact wpAny_pure h
theorem fm_congr {α β : Type} {f g : α → Option β} : ∀ {l : List α}, (∀ x ∈ l, f x = g x) → l.filterMap f = l.filterMap g
  | [], _ => rfl
  | x :: l, h => by
    rw [List.filterMap_cons, List.filterMap_cons, h x (List.mem_cons_self ..), fm_congr fun y hy => h y (List.mem_cons_of_mem _ hy)]
theorem pick_rev (xs : Array Value) : ((List.range xs.size).filterMap fun (m : Nat) => xs[(((xs.size : Int) - 1) + (m : Int) * (-1)).toNat]?).toArray = xs.toList.reverse.toArray := by
  have e : (List.range xs.size).filterMap (fun (m : Nat) => xs[(((xs.size : Int) - 1) + (m : Int) * (-1)).toNat]?) = ((List.range xs.size).map fun k => xs.size - 1 - k).filterMap (xs[·]?) := by
    rw [List.filterMap_map]
    refine fm_congr fun m hm => ?_
    have := List.mem_range.mp hm
    have e : (((xs.size : Int) - 1) + (m : Int) * (-1)).toNat = xs.size - 1 - m := by omega
    rw [e]; rfl
  rw [e, PySem.W.krv_range, List.filterMap_reverse, PySem.W.krv_all]
theorem getItem_tuple_rev {t sl : Addr} {items : Array Value} {vs : Value} {Q : Value → Shared → Prop} (ht : IsTup s.heap t items) (hs : s.heap.IsSliceOf sl .none .none vs) (ps : IsPart vs (some (-1)))
    (h : Q (.ref s.heap.objs.size) { s with heap := s.heap.push { cls := .type "tuple", data := .seq items.toList.reverse.toArray } })
    (hsz : items.size ≤ sizeLine) : wpAny (model prog w) A (getItem (.ref t) (.ref sl)) Q E s := by
  have htake : sizeOk (.seq items.toList.reverse.toArray) := by
    show items.toList.reverse.toArray.size ≤ sizeLine
    rw [List.size_toArray, List.length_reverse, Array.length_toList]
    exact hsz
  obtain ⟨os, hos, hcs, hds⟩ := id hs
  have hTs : s.TypeIs (.ref sl) "slice" := ⟨os, hos, hcs⟩
  unfold getItem
  try with_reducible refine wpAny_holding ?_
  first | refine wpAny_bind (wpAny_pure ?_) | skip
  refine wpAny_bind (wpAny_sequenceKey ht.typeIs (by decide) ?_)
  refine wpAny_bind (wpAny_callSpecial?_slot (name := Str.ofString "__getitem__") ht.typeIs PyProof.Rows.slot_tuple_getitem
    (wpAny_call_entry PyProof.Rows.slot_tuple_getitem ht.typeIs entry_tuple_getitem ?_ (args_tuple_getitem _ _)))
  show wpAny _ _ (Builtin.Tuple.tupleItemsOf (.ref t) >>= _) _ _ s
  refine wpAny_bind (tupleItemsOf_ ht ?_)
  refine wpAny_bind (wpAny_typeOf hTs ?_)
  rw [if_pos (by decide)]
  refine wpAny_bind (sliceApplied_rev hs ps ?_)
  have hno : ¬ ((((items.size : Int) - 1) == 0 && (-1 : Int) == 1 && items.size == items.size) = true) := by
    intro q
    rw [Bool.and_eq_true, Bool.and_eq_true] at q
    exact absurd q.1.2 (by decide)
  show wpAny _ _ (if (((items.size : Int) - 1) == 0 && (-1 : Int) == 1 && items.size == items.size) = true then _ else _) _ _ s
  rw [if_neg hno, pick_rev]
  first
    | exact wpAny_bind (m := Builtin.Tuple.tupleExact _) (wpAny_newObj_type (wpAny_pure ⟨_, rfl, wpAny_pure h⟩) htake)
    | exact wpAny_bind (m := Builtin.Tuple.tupleExact _) (wpAny_newObj_type (wpAny_bind (wpAny_pure (wpAny_pure ⟨_, rfl, wpAny_pure h⟩))) htake)
    | exact wpAny_bind (wpAny_bind (m := Builtin.Tuple.tupleExact _) (wpAny_newObj_type (wpAny_pure (wpAny_pure ⟨_, rfl, wpAny_pure h⟩)) htake))
    | exact wpAny_bind (wpAny_bind (m := Builtin.Tuple.tupleExact _) (wpAny_newObj_type (wpAny_pure ⟨_, rfl, wpAny_pure h⟩) htake))
/-! ### enumerate(t) -/
theorem meets_enumerate_newT (l : Addr) (items : Array Value) (n : Nat) (dct : Option Addr) (sl : Array (Option Value)) :
    Meets (Builtin.«enumerate.__new__» ⟨[.type "enumerate", .ref l], []⟩) (fun _ R s => s.heap.get? l = some { cls := .type "tuple", dict := dct, data := .seq items n, slots := sl } ∧
      R (.ok (.ret (.ref (s.heap.push { cls := .type "tuple_iterator", data := .fields #[.ref l, .int 0 0] }).objs.size)))
        { s with heap := (s.heap.push { cls := .type "tuple_iterator", data := .fields #[.ref l, .int 0 0] }).push { cls := .type "enumerate", data := .fields #[.none, .bool false, .ref s.heap.objs.size, rawInt 0, .none, .none] } }) :=
  .of_wp fun prog w A R s h => by
    obtain ⟨hp, g, d, tk, os⟩ := s; obtain ⟨hl, h⟩ := h
    have hsub := sub_enumerate
    have hL : Heap.IsTuple (Shared.heap ⟨hp, g, d, tk, os⟩) l items := ⟨_, hl, rfl, n, rfl⟩
    wp_walk using AutoSeq1.wpAny_loadPart' hl
    refine wpAny_stack_any fun st => wpAny_pure ?_
    split
    · rename_i c _ _ _ _ _
      cases (c == Value.type "enumerate")
      · wp_walk using AutoSeq1.wpAny_loadPart' hl, wpAny_pyIter_tuple hL
        exact ⟨_, rfl, h⟩
      · wp_walk using AutoSeq1.wpAny_loadPart' hl, wpAny_pyIter_tuple hL
        exact ⟨_, rfl, h⟩
    · wp_walk using AutoSeq1.wpAny_loadPart' hl, wpAny_pyIter_tuple hL
      exact ⟨_, rfl, h⟩
theorem call_enumerate_tuple {l : Addr} {items : Array Value} {Q : Value → Shared → Prop} (hL : s.heap.IsTuple l items)
    (h : ∀ h', IsEnum h' (s.heap.objs.size + 1) s.heap.objs.size 0 .none → h'.IsTupleIter s.heap.objs.size l 0 → h'.objs.size = s.heap.objs.size + 2 →
      (∀ b o, s.heap.get? b = some o → h'.get? b = some o) → Q (.ref (s.heap.objs.size + 1)) { s with heap := h' }) :
    wpAny (model prog w) A (call (.type "enumerate") [.ref l]) Q E s := by
  obtain ⟨⟨c, dct, dt, sl⟩, hl, hc, n, hd⟩ := hL
  replace hc : c = .type "tuple" := hc
  replace hd : dt = .seq items n := hd
  subst hc hd
  refine callType_new F.called_enumerate (by decide) (F.typeCall_enumerate_1 _) (F.newCall_enumerate_1 _) (fun obj => F.args_object_init_2 obj _) F.entry_enumerate_new
    (meets_enumerate_newT l items n dct sl) ⟨hl, ?_⟩
  have hz : (s.heap.push { cls := .type "tuple_iterator", data := .fields #[.ref l, .int 0 0] }).objs.size = s.heap.objs.size + 1 := Heap.size_push ..
  show _ ∧ _
  rw [hz]
  have he : IsEnum ((s.heap.push { cls := .type "tuple_iterator", data := .fields #[.ref l, .int 0 0] }).push
      { cls := .type "enumerate", data := .fields #[.none, .bool false, .ref s.heap.objs.size, rawInt 0, .none, .none] }) (s.heap.objs.size + 1) s.heap.objs.size 0 .none := by
    have := Heap.get?_push_size (s.heap.push { cls := .type "tuple_iterator", data := .fields #[.ref l, .int 0 0] })
      (o := { cls := .type "enumerate", data := .fields #[.none, .bool false, .ref s.heap.objs.size, rawInt 0, .none, .none] }) rfl
    rw [hz] at this; exact this
  refine ⟨⟨_, he, rfl⟩, h _ he ⟨_, Heap.get?_push_of_some _ (Heap.get?_push_size _ rfl), rfl, rfl⟩ (by rw [Heap.size_push, hz]) fun b o x => Heap.get?_push_of_some _ (Heap.get?_push_of_some _ x)⟩
end
theorem Draws.tuple {prog : Program} {w : World} {A : Around} (hh : A.handled = none) (it l : Addr) (hne : l ≠ it) (items : Array Value) :
    Draws prog w A it [it, l] items.size (fun i v => items[i]? = some v) (fun i h => h.IsTupleIter it l i ∧ h.IsTuple l items) where
  live := fun _ _ st => let ⟨o, ho, _⟩ := st.1; ⟨o, ho⟩
  frame := fun _ _ _ st hk => ⟨st.1.at fun o e => hk it (by simp) o e, st.2.at fun o e => hk l (by simp) o e⟩
  item := fun i s Q E hi st hQ => by
    refine RZ.nextOf_tuple_item st.1 st.2 (x := items[i]) (by simp [hi]) fun h' hit' hs' => ?_
    exact hQ _ h' s.toks (by simp [hi]) ⟨hit', st.2.at fun o q => (hs'.2 l hne).trans q⟩ hs'
  done := fun s Q E st hE => RZ.nextOf_tuple_end hh st.1 st.2 (by simp) hE
end HT
namespace L2
open PySem PySem.Spec PyProof.Rows
/-! ### enumerate, zip: of lists, of tuples; the pairs are bare -/
section
variable (K : PySem.W.Frag) (b : Bool)
/-- the sequence at a: a tuple (b), a list -/
def SqB (H : Hp) (a : Addr) (xs : List V) : Prop := cond b (SqT K H a xs) (SqL K H a xs)
def ItrB (h : Heap) (it a : Addr) (i : Nat) : Prop := cond b (h.IsTupleIter it a i) (h.IsListIter it a i)
def IsB (h : Heap) (a : Addr) (items : Array Value) : Prop := cond b (h.IsTuple a items) (h.IsList a items)
def pairQ (H : Hp) (v : V) (x y : V) (H' : Hp) : Prop := ∃ T q, v = .ref T ∧ q.dict = none ∧ H T = none ∧ H' = upd H T (.frz q (.tup [x, y]))
def IeF (a : Addr) : It :=
  ⟨fun i H => ∃ (xs : List V) (x : V), SqB K b H a xs ∧ xs[i]? = some x, fun i H v H' => ∃ x, pairQ H v (.int (i : Nat)) x H' ∧ ∀ xs, SqB K b H a xs → xs[i]? = some x, fun i H => ∃ xs : List V, SqB K b H a xs ∧ xs.length ≤ i⟩
end
section
variable {b : Bool} {h h' : Heap} {a it : Addr} {i : Nat}
theorem ItrB.at (st : ItrB b h it a i) (k : ∀ o, h.get? it = some o → h'.get? it = some o) : ItrB b h' it a i := by
  cases b with
  | true => exact Heap.IsTupleIter.at st k
  | false => exact Heap.IsListIter.at st k
theorem ItrB.obj (st : ItrB b h it a i) : ∃ o, h.get? it = some o ∧ ∀ v, o.data ≠ .cell v := by
  cases b with
  | true => obtain ⟨o, e, _, d⟩ := st; exact ⟨o, e, fun v q => by rw [d] at q; cases q⟩
  | false => obtain ⟨o, e, _, d⟩ := st; exact ⟨o, e, fun v q => by rw [d] at q; cases q⟩
variable {X : Cx} {pins : List (Addr × Obj)} {σ : St} {H : Hp} {s : Shared}
theorem Inv.seqB (I : Inv X pins σ H s) {xs : List V} (q : SqB X.K b H a xs) : ∃ its : List Value, Vals xs its ∧ IsB b s.heap a its.toArray ∧ xs.length ≤ sizeLine ∧ a < s.heap.objs.size := by
  cases b with
  | true => obtain ⟨its, r, p, z⟩ := I.tuple q; exact ⟨its, r, p, z, by obtain ⟨_, e, _⟩ := p; exact Heap.lt_size e⟩
  | false => obtain ⟨its, r, p, z⟩ := I.list q; exact ⟨its, r, p.isList, z, p.lt⟩
theorem Inv.seqB_inj (I : Inv X pins σ H s) {xs ys : List V} (q : SqB X.K b H a xs) (q' : SqB X.K b H a ys) : xs = ys := by
  cases b with
  | true => exact I.tuple_inj q q'
  | false => exact I.list_inj q q'
/-- a new pair laid while iterators turn -/
theorem Inv.pairNew {ch : List Addr} {tk : Nat} {x y : V} {u w : Value} (I : Inv X pins σ H s) (k : ∀ b o, b ∉ ch → s.heap.get? b = some o → h'.get? b = some o) (hf : ∀ b ∈ ch, FpOk X pins H b)
    (hT : h'.get? s.heap.objs.size = some { cls := .type "tuple", data := .seq #[u, w] }) (r1 : RelV x u) (r2 : RelV y w) :
    Inv X pins σ (upd H s.heap.objs.size (.frz (bareT [u, w]) (.tup [x, y]))) { s with heap := h', toks := tk } ∧ pairQ H (.ref s.heap.objs.size) x y (upd H s.heap.objs.size (.frz (bareT [u, w]) (.tup [x, y]))) :=
  ⟨I.turnedNew (t' := tk) (ch := ch) k hf (Nat.le_refl _) ⟨hT, by show 2 ≤ sizeLine; decide, [u, w], .cons r1 (.cons r2 .nil), ⟨_, hT, rfl, _, rfl⟩⟩, _, _, rfl, rfl, I.hok.fresh (Nat.le_refl _), rfl⟩
/-- what draws -/
theorem drawsB {prog : Program} {w : World} {A : Around} (hh : A.handled = none) (it a : Addr) (hne : a ≠ it) (items : Array Value) :
    Draws prog w A it [it, a] items.size (fun i v => items[i]? = some v) (fun i h => ItrB b h it a i ∧ IsB b h a items) := by
  cases b with
  | true => exact HT.Draws.tuple hh it a hne items
  | false => exact Draws.list hh it a hne items
theorem turn_enumF {P : Program} {w : World} {K : PySem.W.Frag} {elts : List Expr} {kk : Nat} {tpos : Pos} (a e it : Addr) :
    Turn P w K (.Tuple elts kk tpos) (IeF K b a) [e, it] e (fun i h => (∃ old, IsEnum h e it ((i : Nat) : Int) old) ∧ ItrB b h it a i ∧ e ≠ it ∧ e ≠ a ∧ a ≠ it) where
  mem := by simp
  obj := fun i h st c hc => by
    obtain ⟨⟨old, he⟩, hi, _⟩ := st
    rcases (show c = e ∨ c = it by simpa using hc) with z | z
    · rw [z]; exact ⟨_, he, fun v q => nomatch q⟩
    · rw [z]; exact hi.obj
  keep := fun i h h' st k => let ⟨⟨old, he⟩, hi, hne⟩ := st; ⟨⟨old, k e (by simp) _ he⟩, hi.at fun o q => k it (by simp) o q, hne⟩
  item := by
    intro X hP hw hK hc i pins s σ H E I hf st hg
    subst hP hw hK
    obtain ⟨⟨old, he⟩, hit, hne, hea, hai⟩ := st
    obtain ⟨xs, x, hq, hx⟩ := hg
    obtain ⟨its, rv, p, hz, hal⟩ := I.seqB hq
    obtain ⟨u, hu, ru⟩ := rv.get hx
    have hel : e < s.heap.objs.size := Heap.lt_size he
    have hil : it < s.heap.objs.size := by obtain ⟨o, q, _⟩ := hit.obj; exact Heap.lt_size q
    have hu' : its.toArray[i]? = some u := by simpa using hu
    have hlt : i < its.toArray.size := by
      have := (List.getElem?_eq_some_iff.mp hu).1
      simpa using this
    refine wpAny_pyNext_enum_itemD (drawsB (b := b) (A := X.A.in1) (show X.A.in1.handled = none from I.ok.hd hc) it a hai its.toArray) he ⟨hit, p⟩ hlt hne (by simp [hne, hea]) fun x' h' tk hx' ho hst' hT hsz hk => ?_
    obtain ⟨hit', _⟩ := hst'
    have ex : x' = u := by rw [hu'] at hx'; exact (Option.some.inj hx').symm
    subst ex
    refine ⟨_, rfl, wpAny_letOwnedTupleGo_enum (s := { s with heap := h', toks := tk + 1 }) ho fun h'' he' sb => ?_⟩
    obtain ⟨I1, py⟩ := I.pairNew (tk := tk + 1) (h' := h'') (x := .int (i : Nat)) (ch := [e, it]) (fun c ob hb q => (sb.2 c (fun z => hb (by simp [z]))).trans (hk c ob (fun z => hb (by simp [z])) (fun z => hb (by simp [z])) q)) hf ((sb.2 _ (Nat.ne_of_gt hel)).trans hT) ⟨_, rfl⟩ ru
    refine ⟨.ref s.heap.objs.size, _, I1, rfl, ⟨x, py, fun ys hy => by rw [I.seqB_inj hy hq]; exact hx⟩, ⟨⟨x', ?_⟩, hit'.at fun o q => (sb.2 it (Ne.symm hne)).trans q, hne, hea, hai⟩, fun c hb => ?_⟩
    · have e1 : ((i + 1 : Nat) : Int) = (i : Int) + 1 := by omega
      rw [e1]; exact he'
    · have hb' : c < s.heap.objs.size := by
        rcases (show c = e ∨ c = it by simpa using hb) with z | z
        · rw [z]; exact hel
        · rw [z]; exact hil
      rw [upd_ne (Nat.ne_of_lt hb')]
      exact (hf c hb).1
  done := by
    intro X hP hw hK hc i pins s σ H E I hf st hg
    subst hP hw hK
    obtain ⟨⟨old, he⟩, hit, hne, hea, hai⟩ := st
    obtain ⟨xs, hq, hx⟩ := hg
    obtain ⟨its, rv, p, hz, _⟩ := I.seqB hq
    obtain ⟨f0, f1, f2, f3, f4, f5⟩ := hf it (by simp)
    have hl := rv.length
    have hend : ∀ {Q E}, (∀ h' e, Heap.ExtBut it s.heap h' → (∃ o, h'.get? e = some o ∧ o.cls = .type "StopIteration") → E (.ref e) { s with heap := h' }) →
        wpAny (model X.prog X.w) X.A.in1 (Builtin.SmallTypes.nextOf (.ref it)) Q E s := fun {Q E} hE => by
      cases b with
      | true => exact RZ.nextOf_tuple_end (I.ok.hd hc) hit p (by simp; omega) hE
      | false => exact wpAny_nextOf_list_end (I.ok.hd hc) hit p (by simp; omega) hE
    have hT : s.TypeIs (.ref e) "enumerate" := ⟨_, he, rfl⟩
    unfold pyNext
    refine wpAny_bind (wpAny_attempt (wpAny_callSpecial?_slot (name := Str.ofString "__next__") hT F.slot_enumerate_next
      (wpAny_call_entry F.slot_enumerate_next hT F.entry_enumerate_next ?_ (F.args_enumerate_next_1 _))))
    show wpAny _ _ (field (.ref e) 2 >>= _) _ _ _
    refine wpAny_bind (wpAny_field he rfl (x := .ref it) rfl ?_)
    refine wpAny_bind (hend fun h' x he' hx' => ?_)
    obtain ⟨o, ho, hc⟩ := hx'
    refine wpAny_bind (wpAny_isInstance (T := "StopIteration") (b := true) ⟨o, ho, hc⟩ isSubtype_stop ?_)
    exact wpAny_pure ⟨rfl, I.turned (t' := s.toks) (fun b o hb q => he' b o hb q) f0 f1 f3 f4 f5⟩
  self := fun A i s Q E st h => let ⟨⟨_, he⟩, _⟩ := st; wpAny_pyIter_enum he h
end
def iEnumF (K : PySem.W.Frag) (ta : TA) : TI := fun σ H R => ta σ H fun vs H1 => ∃ a b xs, vs = [.ref a] ∧ SqB K b H1 a xs ∧ R (IeF K b a) H1
theorem pi_enumF {X : Cx} {e : Expr} {ta : TA} {p pos tpos : Pos} {elts : List Expr} {kk : Nat} (hg : Gl X "enumerate") (hm : X.mg "enumerate" = none) (ha : PA X [e] ta) (hs : starEach [e] X.env = [(false, eval e X.env)] := by rfl) :
    PI X (.Tuple elts kk tpos) (.Call (.Name "enumerate" p) [e] [] pos) (iEnumF X.K ta) := by
  refine ⟨fun pins s σ H R I h => ?_⟩
  refine Call_ (ld_blt I hg hm boot_enumerate (PyProof.Rows.callWith_type1 (thn (ha.run pos pins s σ H _ I h) fun us s1 ⟨vs, H1, I1, r1, q1⟩ => ?_) hs rfl))
  obtain ⟨a, b, xs, ex, hq, q⟩ := q1
  subst ex
  obtain ⟨u, rfl, r⟩ := vals1 r1
  cases r
  obtain ⟨its, rv, p', hz, ha⟩ := I1.seqB hq
  have key : ∀ {Q E}, (∀ h', IsEnum h' (s1.heap.objs.size + 1) s1.heap.objs.size 0 .none → ItrB b h' s1.heap.objs.size a 0 → (∀ b o, s1.heap.get? b = some o → h'.get? b = some o) → Q (.ref (s1.heap.objs.size + 1)) { s1 with heap := h' }) →
      wpAny (model X.prog X.w) X.A (call (.type "enumerate") [.ref a]) Q E s1 := fun {Q E} k => by
    cases b with
    | true => exact HT.call_enumerate_tuple p' fun h' a1 a2 _ a3 => k h' a1 a2 a3
    | false => exact call_enumerate_list p' fun h' a1 a2 _ a3 => k h' a1 a2 a3
  refine key fun h' he hit hk => wpAny_pyIter_enum he ?_
  have I2 : Inv X pins σ H1 { s1 with heap := h' } := I1.kept (t' := s1.toks) hk
  refine ⟨s1.heap.objs.size + 1, [s1.heap.objs.size + 1, s1.heap.objs.size], _, _, H1, rfl, I2, turn_enumF a (s1.heap.objs.size + 1) s1.heap.objs.size, ⟨⟨.none, he⟩, hit, Nat.succ_ne_self _, Ne.symm (Nat.ne_of_lt (Nat.lt_succ_of_lt ha)), Nat.ne_of_lt ha⟩, fun d hd => ?_, q⟩
  have hle : s1.heap.objs.size ≤ d := by
    rcases (show d = s1.heap.objs.size + 1 ∨ d = s1.heap.objs.size by simpa using hd) with z | z
    · rw [z]; exact Nat.le_add_right _ _
    · rw [z]; exact Nat.le_refl _
  exact I1.fpOk hle (I1.hok.fresh hle)
/-! ### t[::-1] -/
def tRevT (K : PySem.W.Frag) (te : TE) : TE := fun σ H Q => te σ H fun x H1 => ∃ a xs, x = .ref a ∧ SqT K H1 a xs ∧ tupQ H1 Q xs.reverse
theorem pe_revT {X : Cx} {e : Expr} {te : TE} {k : Nat} {p1 p2 p3 pos : Pos} (he : PE X e te) : PE X (.Subscript e (.Slice none none (some (.UnaryOp .USub (.Constant (.int 1) k p1) p2)) p3) pos) (tRevT X.K te) := by
  refine ⟨fun pins s σ H Q I h => ?_⟩
  refine Subscript_ (thn (he.run pins s σ H _ I h) fun v s1 ⟨x, H1, I1, r1, q1⟩ => ?_)
  obtain ⟨a, xs, ex, hx, q⟩ := q1
  subst ex
  cases r1
  have hst : PO X (some (.UnaryOp .USub (.Constant (.int 1) k p1) p2)) (tPart (tUn (rU fun i => .int (-i)) (tC (.int 1)))) := po_some (pe_un un_neg pe_int)
  refine wpAny_Slice (thn (po_none.run pins s1 σ H1 (fun o H2 => o = none ∧ H2 = H1) I1 ⟨rfl, rfl⟩) fun vl s2 ⟨l, H2, I2, pl, el, e2⟩ => ?_)
  subst el e2
  refine thn (po_none.run pins s2 σ H2 (fun o H3 => o = none ∧ H3 = H2) I2 ⟨rfl, rfl⟩) fun vu s3 ⟨u, H3, I3, pu, eu, e3⟩ => ?_
  subst eu e3
  refine thn (hst.run pins s3 σ H3 (fun o H4 => o = some (-1) ∧ H4 = H3) I3 ⟨1, rfl, -1, rfl, rfl, rfl⟩) fun vs s4 ⟨o, H4, I4, ps, eo, e4⟩ => ?_
  subst eo e4
  have I5 : Inv X pins σ H4 { s4 with heap := s4.heap.push { cls := .type "slice", data := .fields #[vl, vu, vs] } } := I4.kept (t' := s4.toks) fun b ob q => Heap.get?_push_of_some _ q
  obtain ⟨its, r, ht, hz⟩ := I5.tuple hx
  have hlen := r.length
  cases pl
  cases pu
  show wpAny (model X.prog X.w) X.A (subscriptTail e (.Slice none none (some (.UnaryOp .USub (.Constant (.int 1) k p1) p2)) p3) (.ref a) (.ref s4.heap.objs.size)) (EP X pins σ Q) X.xe { s4 with heap := s4.heap.push { cls := .type "slice", data := .fields #[.none, .none, vs] } }
  refine tail_any (ops := [.ref a, .ref s4.heap.objs.size]) ht.typeIs (PyProof.Rows.slot_tuple_getitem.lookup) ?_ (by with_unfolding_all rfl)
  refine HT.getItem_tuple_rev ht (Heap.IsSliceOf.new _ .none .none vs) ps ?_ (by rw [List.size_toArray]; omega)
  exact ⟨.ref _, _, I5.laidF r.reverse (by rw [List.length_reverse]; exact hz), rfl, q.at I5 _⟩
end L2

/-! ML20: x[::-1], enumerate, zip, a < b < c, n += e. -/
namespace ML
open PySem PySem.Spec PyProof.Rows L2
theorem _root_.L2.PE.or {X : Cx} {e : Expr} {t t' : TE} (h : PE X e t) (h' : PE X e t') : PE X e (fun σ H Q => t σ H Q ∨ t' σ H Q) := ⟨fun pins s σ H Q I q => q.elim (h.run pins s σ H Q I) (h'.run pins s σ H Q I)⟩
section
variable {X : Cx} {F : Fr} {pos : Pos} {e : Expr} {es : List Expr} {st : Stmt} {rest : List Stmt}
/-! ### x[::-1] -/
def revD (env : En) : Option D → Option (R × En)
  | some (.list ds) => some (.new (.lst ds.reverse), env)
  | some (.tuple ds) => some (.val (.tuple ds.reverse), env)
  | _ => none
def eRev (f : FE) : FE := fun env => (f env).bind fun p => revD p.2 (p.1.dat p.2)
theorem me_rev {a : Expr} {k : Nat} {p1 p2 p3 : Pos} {f : FE} (hK : X.K = F.K) (ha : PE X a (tE F f)) : PE X (.Subscript a (.Slice none none (some (.UnaryOp .USub (.Constant (.int 1) k p1) p2)) p3) pos) (tE F (eRev f)) :=
  ((pe_revL ha).or (pe_revT ha)).wk fun σ H Q ⟨env, ops, G, r, env', I, e, q⟩ => by
    obtain ⟨⟨ra, ea⟩, h1, e⟩ := bind_some e
    have e : revD ea (ra.dat ea) = some (r, env') := e
    unfold revD at e
    split at e
    · rename_i ds hd
      cases e
      refine .inl ⟨env, ops, G, ra, _, I, h1, fun v G1 H1 s1 I1 => ?_⟩
      obtain ⟨a, vs, rfl, q1, q2⟩ := I1.lst (r := ra) (v := v) (by simp) (ds := ds) (by unfold R.lst; rw [hd])
      exact ⟨a, vs, rfl, by rw [hK]; exact q1, I1.retL (fun v G' H' s4 I4 => q v G' H' (s1.trans s4) I4) (dpAll_rev q2)⟩
    · rename_i ds hd
      cases e
      refine .inr ⟨env, ops, G, ra, _, I, h1, fun v G1 H1 s1 I1 => ?_⟩
      obtain ⟨a, vs, rfl, q1, q2⟩ := I1.tup (r := ra) (v := v) (by simp) (ds := ds) (by unfold R.tup; rw [hd])
      exact ⟨a, vs, rfl, by rw [hK]; exact q1, I1.retT (fun v G' H' s4 I4 => q v G' H' (s1.trans s4) I4) (dpAll_rev q2)⟩
    · cases e
/-! ### enumerate -/
def enumD (ds : List D) : List D := ds.zipIdx.map fun p => .tuple [.int (p.2 : Nat), p.1]
theorem enumD_get {ds : List D} {i : Nat} {d : D} (h : (enumD ds)[i]? = some d) : ∃ z, ds[i]? = some z ∧ d = .tuple [.int (i : Nat), z] := by
  unfold enumD at h
  rw [List.getElem?_map, List.getElem?_zipIdx] at h
  cases e : ds[i]? with
  | none => rw [e] at h; cases h
  | some z => rw [e] at h; simp at h; exact ⟨z, rfl, h.symm⟩
theorem enumD_len (ds : List D) : (enumD ds).length = ds.length := by simp [enumD]
def seqT : D → Option (List D)
  | .list ds => some ds
  | .tuple ds => some ds
  | _ => none
def iEnu (f : FE) : FI := fun env => (f env).bind fun p => (keep p.1 p.2).bind fun q => (seqT q.1).map fun ds => ((enumD ds, none), q.2)
def sqOf (b : Bool) (ds : List D) : D := cond b (.tuple ds) (.list ds)
theorem RepS.sqB {env : En} {ops : Ops} {G H : Hp} {σ : St} {v : V} {b : Bool} {ds : List D} {r : R} (I : RepS F env ops G σ H) (hk : (v, r) ∈ ops) (hr : r = .val (sqOf b ds)) : ∃ a vs, v = .ref a ∧ SqB F.K b H a vs ∧ DpAll F.K G vs ds := by
  subst hr
  cases b with
  | true => exact I.tup hk rfl
  | false => exact I.lst hk rfl
theorem RepS.pair {env : En} {ops : Ops} {G H H' : Hp} {σ : St} {v x y : V} {c d : D} (I : RepS F env ops G σ H) (h : pairQ H v x y H') (h1 : Dp F.K G x c) (h2 : Dp F.K G y d) :
    ∃ G', Same G G' ∧ RepS F env (ops ++ [(v, .val (.tuple [c, d]))]) G' σ H' := by
  obtain ⟨T, q, rfl, hq, hT, rfl⟩ := h
  exact I.pushT hq hT (.cons h1 (.cons h2 .nil))
theorem seqT_some {d : D} {ds : List D} (h : seqT d = some ds) : ∃ b, d = sqOf b ds := by
  cases d with
  | list => cases h; exact ⟨false, rfl⟩
  | tuple => cases h; exact ⟨true, rfl⟩
  | none => cases h
  | bool => cases h
  | int => cases h
  | str => cases h
  | dict => cases h
theorem isIt_enum {G0 : Hp} {K : PySem.W.Frag} (hK : K = F.K) {a : Addr} {b : Bool} {ds : List D} {ops ps : Ops} (h : ∀ env G σ H, RepS F env (ops ++ ps) G σ H → ∃ vs, SqB F.K b H a vs ∧ DpAll F.K G vs ds) : IsIt F (IeF K b a) (enumD ds) ops ps G0 := by
  subst hK
  intro more env G σ H i _ I
  obtain ⟨vs, q1, q2⟩ := h env G σ H I.pop
  refine ⟨fun d hd => ?_, fun hl => ⟨vs, q1, by rw [dpAll_len q2, ← enumD_len]; exact hl⟩⟩
  obtain ⟨z, hz, rfl⟩ := enumD_get hd
  obtain ⟨v, e1, e2⟩ := dpAll_get q2 hz
  refine ⟨⟨vs, v, q1, e1⟩, fun x H' hy => ?_⟩
  obtain ⟨x', hp, hy⟩ := hy
  have := hy vs q1
  rw [e1] at this
  cases this
  exact I.pair hp (.int _) e2
theorem mi_enum {a : Expr} {p tpos : Pos} {elts : List Expr} {kk : Nat} {f : FE} (hK : X.K = F.K) (hg : Gl X "enumerate") (hm : X.mg "enumerate" = none) (ha : PE X a (tE F f)) (hs : starEach [a] X.env = [(false, eval a X.env)] := by rfl) :
    PI X (.Tuple elts kk tpos) (.Call (.Name "enumerate" p) [a] [] pos) (tI F (iEnu f)) :=
  (pi_enumF hg hm (ma_cons ha ma_nil hs) hs).wk fun σ H Q ⟨env, ops, G, xs, src, env', I, e, q⟩ => by
    obtain ⟨⟨r, e1⟩, h1, e⟩ := bind_some e
    obtain ⟨⟨d, e2⟩, h2, e⟩ := bind_some e
    obtain ⟨ds, h3, e⟩ := omap_some e
    cases e
    have ag : aCons f aNil env = some ([r], e1) := show aCons f aNil env = _ by simp [aCons, aNil, h1]
    obtain ⟨b, rfl⟩ := seqT_some h3
    refine ⟨env, ops, G, [r], e1, I, ag, fun ps G1 H1 hp s1 I1 => ?_⟩
    obtain ⟨v, rfl⟩ := map1 hp
    obtain ⟨G2, s2, I2⟩ := RepS.keep (o1 := ops) (o2 := []) I1 h2
    obtain ⟨a, vs, rfl, q1, q2⟩ := I2.sqB (r := .val (sqOf b ds)) (v := v) (by simp) rfl
    refine ⟨a, b, vs, rfl, by rw [hK]; exact q1, q [(.ref a, .val (sqOf b ds))] G2 H1 _ (s1.trans s2) (by simpa using I2) (fun v i hm => by simp at hm) trivial (isIt_enum hK fun env G σ H J => ?_)⟩
    obtain ⟨a', vs', e', q1', q2'⟩ := J.sqB (r := .val (sqOf b ds)) (v := .ref a) (by simp) rfl
    cases e'
    exact ⟨vs', q1', q2'⟩
/-! ### zip -/
def zipD (xs ys : List D) : List D := List.zipWith (fun x y => .tuple [x, y]) xs ys
def zipT : List D → Option (List D)
  | [.list xs, .list ys] => some (zipD xs ys)
  | [.tuple xs, .tuple ys] => some (zipD xs ys)
  | _ => none
def iZip (f : FA) : FI := fun env => (f env).bind fun p => (keepAll p.1 p.2).bind fun q => (zipT q.1).map fun ds => ((ds, none), q.2)
/-! ### a < b < c -/
def eChain (g g' : G2) (fa fb fc : FE) : FE := fun env => (fa env).bind fun p => (fb p.2).bind fun q => match q.1 with
  | .val d => (g p.1 (.val d) q.2).bind fun s => s.1.bl.bind fun k => if k = true then (fc s.2).bind fun t => g' (.val d) t.1 t.2 else some (.val (.bool false), s.2)
  | _ => none
theorem tE_chain {r r' : R2} {g g' : G2} {fa fb fc : FE} (hg : S2 F r g) (hg' : S2 F r' g') (σ : St) (H : Hp) (Q : VK) (h : tE F (eChain g g' fa fb fc) σ H Q) : tChain r r' (tE F fa) (tE F fb) (tE F fc) σ H Q := by
  obtain ⟨env, ops, G, re, env', I, e, q⟩ := h
  obtain ⟨⟨ra, e1⟩, h1, e⟩ := bind_some e
  obtain ⟨⟨rb, e2⟩, h2, e⟩ := bind_some e
  cases rb with
  | val d =>
    obtain ⟨⟨rk, e3⟩, h3, e⟩ := bind_some e
    obtain ⟨k, h4, e⟩ := bind_some e
    obtain rfl := R.bl_eq h4
    refine ⟨env, ops, G, ra, e1, I, h1, fun x G1 H1 s1 I1 => ?_⟩
    refine ⟨e1, _, G1, _, e2, I1, h2, fun y G2 H2 s2 I2 => ?_⟩
    have I2 : RepS F e2 (ops ++ [(x, ra), (y, .val d)]) G2 σ H2 := by simpa using I2
    have hy : Dp F.K G2 y d := by
      obtain ⟨w, w1, w2⟩ := I2.rep.val (.inr (ops.length + 1)) d (by simp [ix, R.toB])
      simp [ixv] at w1
      subst w1; exact w2
    refine hg e2 ops G2 σ H2 x y ra (.val d) (.val (.bool k)) e3 _ I2 h3 fun z G3 H3 s3 I3 => ?_
    have ez : z = .bl k := I3.vbl (by simp)
    refine ⟨k, ez, ?_⟩
    cases k with
    | true =>
      simp only [↓reduceIte] at e ⊢
      obtain ⟨⟨rc, e4⟩, h5, e⟩ := bind_some e
      have I4 : RepS F e3 (ops ++ [(y, .val d)]) G3 σ H3 := (I3.pop).pushV (dp_mono s3 _ _ hy)
      refine ⟨e3, _, G3, rc, e4, I4, h5, fun w G4 H4 s4 I5 => ?_⟩
      exact hg' e4 ops G4 σ H4 y w (.val d) rc re env' _ (by simpa using I5) e fun v G' H' s5 I6 => q v G' H' ((((s1.trans s2).trans s3).trans s4).trans s5) I6
    | false =>
      simp only [Bool.false_eq_true, ↓reduceIte] at e ⊢
      cases e
      exact q _ G3 H3 ((s1.trans s2).trans s3) ((I3.pop).pushV (.bl false))
  | new _ => cases e
  | bor _ => cases e
  | lkd _ _ => cases e
/-! ### n += e -/
def sAugN (np i : Nat) (f : Int → Int → Int) (fe : FE) : FS := fun env => match env[i]?.join with
  | some (.val (.int a)) => (fe env).bind fun s => s.1.int.bind fun b => (put np i (.val (.int (f a b))) s.2).map fun e => (.nx, e)
  | _ => none
end
/-! ### what they say -/
section
variable {env : En} {i : Nat} {d : D} {ds : List D} {r : R} {n : Int}
theorem v_eRev {f : FE} : eRev f env = bnd (fun p => revD p.2 (p.1.dat p.2)) (f env) := rfl
theorem v_revD_l : revD env (some (.list ds)) = some (.new (.lst ds.reverse), env) := rfl
theorem v_revD_t : revD env (some (.tuple ds)) = some (.val (.tuple ds.reverse), env) := rfl
theorem v_iEnu {f : FE} : iEnu f env = bnd (fun p => bnd (fun q => (seqT q.1).map fun ds => ((enumD ds, none), q.2)) (keep p.1 p.2)) (f env) := rfl
theorem v_seqT_l : seqT (.list ds) = some ds := rfl
theorem v_seqT_t : seqT (.tuple ds) = some ds := rfl
theorem v_iZip {f : FA} : iZip f env = bnd (fun p => bnd (fun q => (zipT q.1).map fun ds => ((ds, none), q.2)) (keepAll p.1 p.2)) (f env) := rfl
theorem v_zipT_l {xs ys : List D} : zipT [.list xs, .list ys] = some (zipD xs ys) := rfl
theorem v_zipT_t {xs ys : List D} : zipT [.tuple xs, .tuple ys] = some (zipD xs ys) := rfl
def chK (g g' : G2) (fc : FE) (ra : R) (env : En) : R → Option (R × En)
  | .val d => bnd (fun s => bnd (fun k => if k = true then bnd (fun t => g' (.val d) t.1 t.2) (fc s.2) else some (.val (.bool false), s.2)) s.1.bl) (g ra (.val d) env)
  | _ => none
theorem v_eChain {g g' : G2} {fa fb fc : FE} : eChain g g' fa fb fc env = bnd (fun p => bnd (fun q => chK g g' fc p.1 q.2 q.1) (fb p.2)) (fa env) := by
  unfold eChain
  congr 1
theorem v_chK {g g' : G2} {fc : FE} {ra : R} : chK g g' fc ra env (.val d) = bnd (fun s => bnd (fun k => if k = true then bnd (fun t => g' (.val d) t.1 t.2) (fc s.2) else some (.val (.bool false), s.2)) s.1.bl) (g ra (.val d) env) := rfl
def augNO (np i : Nat) (f : Int → Int → Int) (fe : FE) (env : En) : Option B → Option (Fl × En)
  | some (.val (.int a)) => bnd (fun s => bnd (fun b => (put np i (.val (.int (f a b))) s.2).map fun e => (.nx, e)) s.1.int) (fe env)
  | _ => none
theorem v_sAugN {np : Nat} {f : Int → Int → Int} {fe : FE} : sAugN np i f fe env = augNO np i f fe env env[i]?.join := by
  unfold sAugN augNO
  split <;> rfl
theorem v_augNO {np : Nat} {f : Int → Int → Int} {fe : FE} : augNO np i f fe env (some (.val (.int n))) = bnd (fun s => bnd (fun b => (put np i (.val (.int (f n b))) s.2).map fun e => (.nx, e)) s.1.int) (fe env) := rfl
end
section
variable {env : En} {i : Nat} {ds : List D} {kvs : List (Key × D)} {ns : List Int}
/-- sorted of what stands in a slot -/
def srtB (env : En) (b : Option B) : Option (R × En) := match b.bind B.own with
  | some (.sI ns) => if ns.length < 64 then some (.new (.lst ((usort ns).map .int)), env) else none
  | some (.dK kvs) => (keyInts kvs).bind fun ks => if ks.length < 64 then some (.new (.lst ((isort ks).map .int)), env) else none
  | _ => (lstD (datO b)).bind fun ds => (intsOf ds).map fun ns => (.new (.lst ((isort ns).map .int)), env)
theorem v_srt : gSorted [.bor i] env = srtB env env[i]?.join := by
  have e2 : R.lst (.bor i) env = lstD (datO env[i]?.join) := by rw [v_lst, v_dat_bor]
  show (match R.ownO (.bor i) env with
    | some (.sI ns) => if ns.length < 64 then some (R.new (.lst ((usort ns).map PyData.int)), env) else none
    | some (.dK kvs) => (keyInts kvs).bind fun ks => if ks.length < 64 then some (.new (.lst ((isort ks).map .int)), env) else none
    | _ => (R.lst (.bor i) env).bind fun ds => (intsOf ds).map fun ns => (.new (.lst ((isort ns).map .int)), env)) = _
  rw [e2]
  rfl
theorem v_srt_s : srtB env (some (.mu (.sI ns))) = if ns.length < 64 then some (.new (.lst ((usort ns).map .int)), env) else none := rfl
theorem v_srt_d : srtB env (some (.mu (.dK kvs))) = bnd (fun ks => if ks.length < 64 then some (.new (.lst ((isort ks).map .int)), env) else none) (keyInts kvs) := rfl
theorem v_srt_l : srtB env (some (.mu (.lst ds))) = (intsOf ds).map fun ns => (.new (.lst ((isort ns).map .int)), env) := rfl
theorem v_srt_v : srtB env (some (.val (.list ds))) = (intsOf ds).map fun ns => (.new (.lst ((isort ns).map .int)), env) := rfl
end
/-! ### x is True, x is None -/
section
variable {X : Cx} {F : Fr}
def isDb (b : Bool) : D → Bool
  | .bool c => c == b
  | _ => false
def rIsBD (K : PySem.W.Frag) (neg : Bool) : R2 := fun x y H Q => ∃ b d, y = .bl b ∧ Dp K H x d ∧ Q (.bl (bneg neg (isDb b d))) H
theorem op_isBD : OpR X (compareOp .Is) (rIsBD X.K false) := by
  intro pins s σ H x y v u Q I rx ry h
  obtain ⟨b, d, rfl, hd, q⟩ := h
  cases (show u = Value.bool b from ry)
  cases hd with
  | bl c =>
    cases (show v = Value.bool c from rx)
    by_cases e : c = b
    · subst e
      exact wpAny_is_self rfl ⟨.bl true, H, I, rfl, by simpa [isDb, bneg] using q⟩
    · exact wpAny_is_other rfl (fun z => e (Value.bool.inj z)) ⟨.bl false, H, I, rfl, by rw [show isDb b (.bool c) = false from beq_eq_false_iff_ne.mpr e] at q; exact q⟩
  | non => cases rx; exact wpAny_is_other rfl (fun z => nomatch z) ⟨.bl false, H, I, rfl, q⟩
  | int i => obtain ⟨t, rfl⟩ := rx; exact wpAny_is_other rfl (fun z => nomatch z) ⟨.bl false, H, I, rfl, q⟩
  | str i => obtain ⟨t, rfl⟩ := rx; exact wpAny_is_other rfl (fun z => nomatch z) ⟨.bl false, H, I, rfl, q⟩
  | lst _ _ => cases rx; exact wpAny_is_other rfl (fun z => nomatch z) ⟨.bl false, H, I, rfl, q⟩
  | tup _ _ => cases rx; exact wpAny_is_other rfl (fun z => nomatch z) ⟨.bl false, H, I, rfl, q⟩
theorem op_notBD : OpR X (compareOp .IsNot) (rIsBD X.K true) := by
  intro pins s σ H x y v u Q I rx ry h
  obtain ⟨b, d, rfl, hd, q⟩ := h
  cases (show u = Value.bool b from ry)
  cases hd with
  | bl c =>
    cases (show v = Value.bool c from rx)
    by_cases e : c = b
    · subst e
      exact wpAny_isNot_self rfl ⟨.bl false, H, I, rfl, by simpa [isDb, bneg] using q⟩
    · exact wpAny_isNot_other rfl (fun z => e (Value.bool.inj z)) ⟨.bl true, H, I, rfl, by rw [show isDb b (.bool c) = false from beq_eq_false_iff_ne.mpr e] at q; exact q⟩
  | non => cases rx; exact wpAny_isNot_other rfl (fun z => nomatch z) ⟨.bl true, H, I, rfl, q⟩
  | int i => obtain ⟨t, rfl⟩ := rx; exact wpAny_isNot_other rfl (fun z => nomatch z) ⟨.bl true, H, I, rfl, q⟩
  | str i => obtain ⟨t, rfl⟩ := rx; exact wpAny_isNot_other rfl (fun z => nomatch z) ⟨.bl true, H, I, rfl, q⟩
  | lst _ _ => cases rx; exact wpAny_isNot_other rfl (fun z => nomatch z) ⟨.bl true, H, I, rfl, q⟩
  | tup _ _ => cases rx; exact wpAny_isNot_other rfl (fun z => nomatch z) ⟨.bl true, H, I, rfl, q⟩
def isNo : D → Bool
  | .none => true
  | _ => false
def isA (neg : Bool) (env : En) : Option D → Option D → Option (R × En)
  | some d, some .none => some (.val (.bool (bneg neg (isNo d))), env)
  | some d, some (.bool b) => some (.val (.bool (bneg neg (isDb b d))), env)
  | _, _ => none
def gIsA (neg : Bool) : G2 := fun ra rb env => isA neg env (ra.dat env) (rb.dat env)
def rIsA (K : PySem.W.Frag) : R2 := fun x y H Q => (y = .non ∧ Q (.bl (decide (x = .non))) H) ∨ rIsBD K false x y H Q
def rNotA (K : PySem.W.Frag) : R2 := fun x y H Q => (y = .non ∧ Q (.bl (!decide (x = .non))) H) ∨ rIsBD K true x y H Q
theorem op_isA : OpR X (compareOp .Is) (rIsA X.K) := op_isN.or op_isBD
theorem op_notA : OpR X (compareOp .IsNot) (rNotA X.K) := op_notN.or op_notBD
theorem s_isA : S2 F (rIsA F.K) (gIsA false) := by
  intro env ops G σ H x y ra rb r env' Q I h k
  unfold gIsA isA at h
  split at h
  · rename_i d h1 h2
    cases h
    have q1 := I.dat (r := ra) (v := x) (by simp) h1
    have q2 := I.dat (r := rb) (v := y) (by simp) h2
    cases q2
    refine .inl ⟨rfl, ?_⟩
    cases q1 <;> exact I.retV k (.bl _)
  · rename_i d b h1 h2
    cases h
    have q1 := I.dat (r := ra) (v := x) (by simp) h1
    have q2 := I.dat (r := rb) (v := y) (by simp) h2
    cases q2
    exact .inr ⟨b, d, rfl, q1, I.retV k (.bl _)⟩
  · cases h
theorem s_notA : S2 F (rNotA F.K) (gIsA true) := by
  intro env ops G σ H x y ra rb r env' Q I h k
  unfold gIsA isA at h
  split at h
  · rename_i d h1 h2
    cases h
    have q1 := I.dat (r := ra) (v := x) (by simp) h1
    have q2 := I.dat (r := rb) (v := y) (by simp) h2
    cases q2
    refine .inl ⟨rfl, ?_⟩
    cases q1 <;> exact I.retV k (.bl _)
  · rename_i d b h1 h2
    cases h
    have q1 := I.dat (r := ra) (v := x) (by simp) h1
    have q2 := I.dat (r := rb) (v := y) (by simp) h2
    cases q2
    exact .inr ⟨b, d, rfl, q1, I.retV k (.bl _)⟩
  · cases h
theorem v_gIsA {neg : Bool} {ra rb : R} {env : En} : gIsA neg ra rb env = isA neg env (ra.dat env) (rb.dat env) := rfl
theorem v_isA_n {neg : Bool} {env : En} {d : D} : isA neg env (some d) (some .none) = some (.val (.bool (bneg neg (isNo d))), env) := rfl
theorem v_isA_b {neg : Bool} {env : En} {d : D} {b : Bool} : isA neg env (some d) (some (.bool b)) = some (.val (.bool (bneg neg (isDb b d))), env) := rfl
end
theorem v_tt : (true == true) = true := rfl
theorem v_tf : (true == false) = false := rfl
theorem v_ft : (false == true) = false := rfl
theorem v_ff : (false == false) = true := rfl
end ML
local macro_rules
  | `(tactic| simp_arith! [$ls,*]) => `(tactic| simp_arith [ML.v_eRev, ML.v_revD_l, ML.v_revD_t, ML.v_iEnu, ML.v_seqT_l, ML.v_seqT_t, ML.v_iZip, ML.v_zipT_l, ML.v_zipT_t, ML.v_eChain, ML.v_chK, ML.v_sAugN, ML.v_augNO, ML.v_eIsi, ML.v_tyO_val, ML.v_gRepr, ML.v_srt, ML.v_srt_s, ML.v_srt_d, ML.v_srt_l, ML.v_srt_v, ML.v_gIsA, ML.v_isA_n, ML.v_isA_b, ML.isNo, ML.isDb, ML.v_tt, ML.v_tf, ML.v_ft, ML.v_ff, beq_self_eq_true, $ls,*])
namespace ML
open PySem PySem.Spec PyProof.Rows L2

end ML

/-! ML21: the plain side: comprehensions whose elements change what stands around; loops over a list. -/
namespace ML
open PySem PySem.Spec PyProof.Rows L2
theorem lcL_step {np : Nat} {own : List Nat} {t : Tg} {tst : FT} {elt : FE} {d : D} {ds : List D} {env env2 : En} {o : Option D} (h : lcS np own t tst elt env d = some (o, env2)) :
    lcL np own t tst elt (d :: ds) env = (lcL np own t tst elt ds env2).map fun u => (o.toList ++ u.1, u.2) := by
  unfold lcS at h
  obtain ⟨e1, q1, h1⟩ := bind_some h
  obtain ⟨⟨b, e2⟩, q2, h1⟩ := bind_some h1
  rw [lcL, q1]
  simp only [Option.bind_some, q2]
  cases b with
  | true =>
    obtain ⟨⟨r, e3⟩, q3, h1⟩ := bind_some (show (elt e2).bind _ = _ from h1)
    obtain ⟨⟨v, e4⟩, q4, h1⟩ := bind_some h1
    have h1 : (some v, wipeE e4 own) = (o, env2) := Option.some.inj h1
    obtain ⟨rfl, rfl⟩ := Prod.mk.inj h1
    simp only [↓reduceIte, q3, q4, Option.bind_some]
    rfl
  | false =>
    have h1 : (none, wipeE e2 own) = (o, env2) := Option.some.inj h1
    obtain ⟨rfl, rfl⟩ := Prod.mk.inj h1
    simp only [Bool.false_eq_true, ↓reduceIte]
    cases lcL np own t tst elt ds (wipeE e2 own) <;> rfl
theorem lcL_inv {np : Nat} {own : List Nat} {t : Tg} {tst : FT} {elt : FE} (P : List D → List D → En → Prop)
    (h : ∀ d ds acc env, P (d :: ds) acc env → ∃ o env', lcS np own t tst elt env d = some (o, env') ∧ P ds (acc ++ o.toList) env') :
    ∀ {ds acc : List D} {env : En}, P ds acc env → ∃ out env', lcL np own t tst elt ds env = some (out, env') ∧ P [] (acc ++ out) env'
  | [], acc, env, p => ⟨[], env, rfl, by simpa using p⟩
  | d :: ds, acc, env, p => by
    obtain ⟨o, e1, q1, q2⟩ := h d ds acc env p
    obtain ⟨out, e2, q3, q4⟩ := lcL_inv P h q2
    exact ⟨o.toList ++ out, e2, by rw [lcL_step q1, q3]; rfl, by simpa using q4⟩
theorem eLc_inv {np : Nat} {own : List Nat} {fi : FI} {t : Tg} {tst : FT} {elt : FE} {env env1 : En} {ds : List D} {src : Option Nat} (P : List D → List D → En → Prop) (hi : fi env = some ((ds, src), env1)) (ok : lcOk own t env1 = true)
    (p : P ds [] (wipeE env1 own)) (h : ∀ d ds acc env, P (d :: ds) acc env → ∃ o env', lcS np own t tst elt env d = some (o, env') ∧ P ds (acc ++ o.toList) env') (hl : ds.length ≤ 1000000) :
    ∃ out env', eLc np own fi t tst elt env = some (.new (.lst out), unlock src (restE env1 env' own)) ∧ P [] out env' := by
  obtain ⟨out, e2, q1, q2⟩ := lcL_inv P h p
  have hn : ∀ (ds out : List D) (env e2 : En), lcL np own t tst elt ds env = some (out, e2) → out.length ≤ ds.length := by
    intro ds
    induction ds with
    | nil => intro out env e2 h; cases h; simp
    | cons d ds ih =>
      intro out env e2 h
      rw [lcL] at h
      obtain ⟨e1, g1, h⟩ := bind_some h
      obtain ⟨b, g2, h⟩ := bind_some h
      split at h
      · obtain ⟨r, g3, h⟩ := bind_some h
        obtain ⟨s, g4, h⟩ := bind_some h
        obtain ⟨u, g5, h⟩ := omap_some h
        cases h
        have := ih _ _ _ g5
        simp
        omega
      · have := ih _ _ _ h
        simp
        omega
  have hl2 : out.length ≤ sizeLine := sl_le (Nat.le_trans (hn _ _ _ _ q1) hl)
  refine ⟨out, e2, ?_, by simpa using q2⟩
  unfold eLc
  rw [hi]
  simp only [Option.bind_some, ok, ↓reduceIte, q1, hl2]
/-- a loop over a list of things that are data by k; what stands is told by what is left -/
theorem sFor_list {np : Nat} {fi : FI} {t : Tg} {body : FS} {env env1 : En} {src : Option Nat} {α : Type} (xs : List α) (k : α → D) (P : List α → En → Prop) (hi : fi env = some ((xs.map k, src), env1)) (p : P xs env1)
    (h : ∀ x l env, P (x :: l) env → ∃ e1 env', setT np t (k x) env = some e1 ∧ body e1 = some (.nx, env') ∧ P l env') : ∃ env', sFor np fi t body env = some (.nx, unlock src env') ∧ P [] env' := by
  obtain ⟨env', q1, l, e, q2⟩ := sFor_inv (fun ds env => ∃ l : List α, ds = l.map k ∧ P l env) hi ⟨xs, rfl, p⟩ fun d ds env ⟨l, e, q⟩ => by
    cases l with
    | nil => simp at e
    | cons x l =>
      rw [List.map_cons] at e
      obtain ⟨rfl, rfl⟩ := List.cons.inj e
      obtain ⟨e1, e2, q1, q2, q3⟩ := h x l env q
      exact ⟨e1, e2, q1, q2, l, rfl, q3⟩
  have : l = [] := by cases l with | nil => rfl | cons _ _ => simp at e
  subst this
  exact ⟨env', q1, q2⟩
end ML

/-! ML22: texts and data in order: <, sorted, slices, *, in, dict(..), min, max, int, ord, index. -/
namespace L2
open PySem PySem.Spec PyProof.Rows
section
variable {X : Cx}
/-! ### a < b of data -/
def okCmp (d e : PyData) : Bool := PySem.W.alike d e && (match d with | .none => false | _ => true) && decide (PyData.depth d ≤ 64)
/-! ### sorted of data -/
def isTup1 : PyData → Bool
  | .tuple (_ :: _) => true
  | _ => false
def noTup : PyData → Bool
  | .none => false
  | .tuple _ => false
  | _ => true
def sortOk (ds : List PyData) : Bool := (ds.all fun d => ds.all fun e => PySem.W.alike d e) && (ds.all isTup1 || ds.all noTup) && (ds.all fun d => decide (PyData.depth d ≤ 60)) && decide (ds.length ≤ sizeLine)
def sortD (ds : List PyData) : List PyData := ds.mergeSort (PySem.W.dataLe false id)
theorem sortOk_of {ds : List PyData} (h : sortOk ds = true) : PySem.W.AllAlike ds ∧ PySem.W.Sortable ds ∧ (∀ d ∈ ds, PyData.depth d ≤ 60) ∧ ds.length ≤ sizeLine := by
  unfold sortOk at h
  rw [Bool.and_eq_true, Bool.and_eq_true, Bool.and_eq_true, Bool.or_eq_true, List.all_eq_true, List.all_eq_true, List.all_eq_true, List.all_eq_true] at h
  obtain ⟨⟨⟨h1, h2⟩, h3⟩, h4⟩ := h
  refine ⟨fun d hd e he => List.all_eq_true.mp (h1 d hd) e he, ?_, fun d hd => of_decide_eq_true (h3 d hd), of_decide_eq_true h4⟩
  rcases h2 with h2 | h2
  · refine .inl fun d hd => ?_
    have := h2 d hd
    unfold isTup1 at this
    split at this
    · exact ⟨_, _, rfl⟩
    · cases this
  · refine .inr fun d hd => ?_
    have := h2 d hd
    unfold noTup at this
    split at this
    · cases this
    · cases this
    · rename_i a b
      exact ⟨a, b⟩
def sortV (ys : List V) (ds : List PyData) : List V := ((ys.zip ds).mergeSort (PySem.W.dataLe false fun p : V × PyData => p.2)).map (·.1)
def rSortedD (K : PySem.W.Frag) : List V → Hp → VK → Prop := fun vs H Q => ∃ (a : Addr) (ys : List V) (ds : List PyData), vs = [V.ref a] ∧ SqL K H a ys ∧ DpAll K H ys ds ∧ sortOk ds = true ∧ ∀ (p : Addr), H p = none → Q (.ref p) (upd H p (.lst (sortV ys ds)))
theorem dpAll_zip {K : PySem.W.Frag} {H : Hp} : ∀ {xs : List V} {ds : List PyData}, DpAll K H xs ds → (xs.zip ds).map (·.1) = xs ∧ (xs.zip ds).map (·.2) = ds ∧ ∀ p ∈ xs.zip ds, Dp K H p.1 p.2
  | _, _, .nil => ⟨rfl, rfl, fun p hp => by simp at hp⟩
  | _, _, .cons a b => by
    obtain ⟨h1, h2, h3⟩ := dpAll_zip b
    refine ⟨by simp [h1], by simp [h2], fun p hp => ?_⟩
    rcases List.mem_cons.mp hp with z | z
    · subst z; exact a
    · exact h3 p z
theorem dpAll_of_pairs {K : PySem.W.Frag} {H : Hp} : ∀ {ps : List (V × PyData)}, (∀ p ∈ ps, Dp K H p.1 p.2) → DpAll K H (ps.map (·.1)) (ps.map (·.2))
  | [], _ => .nil
  | p :: ps, h => .cons (h p (List.mem_cons_self ..)) (dpAll_of_pairs fun q hq => h q (List.mem_cons_of_mem _ hq))
theorem each_vals : ∀ {ps : List (V × PyData)} {us : List Value}, Vals (ps.map (·.1)) us → PySem.W.EachIs (fun u (p : V × PyData) => RelV p.1 u) us ps
  | [], _, h => by cases h; exact .nil
  | p :: ps, _, h => by
    rw [List.map_cons] at h
    cases h with
    | cons a b => exact .cons a (each_vals b)
theorem vals_each : ∀ {ps : List (V × PyData)} {us : List Value}, PySem.W.EachIs (fun u (p : V × PyData) => RelV p.1 u) us ps → Vals (ps.map (·.1)) us
  | [], _, h => by cases h; exact .nil
  | p :: ps, _, h => by
    cases h with
    | cons a b => exact .cons a (vals_each b)
theorem sortV_dp {K : PySem.W.Frag} {H : Hp} {ys : List V} {ds : List PyData} (h : DpAll K H ys ds) : DpAll K H (sortV ys ds) (sortD ds) := by
  obtain ⟨z1, z2, z3⟩ := dpAll_zip h
  have hs2 : sortD ds = ((ys.zip ds).mergeSort (PySem.W.dataLe false fun p : V × PyData => p.2)).map (·.2) := by
    have e := PySem.W.sort_maps (r := PySem.W.dataLe false fun p : V × PyData => p.2) (s := PySem.W.dataLe false id) (fun p : V × PyData => p.2) (l := ys.zip ds) (fun _ _ _ _ => rfl)
    rw [z2] at e
    unfold sortD
    exact e.symm
  rw [hs2]
  exact dpAll_of_pairs fun p hp => z3 p ((List.mergeSort_perm _ _).mem_iff.mp hp)
theorem cr_sortedD (hu : X.A.units + 65 < cLine) : CallR X (.builtin "sorted") (rSortedD X.K) := by
  intro pins s σ H xs us Q I r h
  obtain ⟨a, ys, ds, rfl, hs, ha, ok, q⟩ := h
  obtain ⟨h1, h2, h3, h4⟩ := sortOk_of ok
  rw [Vals.ref1 r]
  obtain ⟨its, rv, hl, hz⟩ := I.list hs
  obtain ⟨z1, z2, z3⟩ := dpAll_zip ha
  rw [← z1] at rv
  have eV := each_vals rv
  have er : PySem.W.EachIs (fun v (p : V × PyData) => ∃ as, Reads s.heap v p.2 as) its (ys.zip ds) := by
    clear q h1 h2 h3 h4 ok z1 z2 hz hl rv
    revert eV
    generalize ys.zip ds = ps at z3
    clear ha hs
    induction ps generalizing its with
    | nil => intro e; cases e; exact .nil
    | cons p ps ih =>
      intro e
      cases e with
      | cons e1 e2 => exact .cons (Dp.reads I p.2 p.1 _ (z3 p (List.mem_cons_self ..)) e1) (ih _ (fun q hq => z3 q (List.mem_cons_of_mem _ hq)) e2)
  refine PySem.W.sorted_data (enc := fun p : V × PyData => p.2) (R := fun u (p : V × PyData) => RelV p.1 u) hl.isList eV er (by rw [z2]; exact h1) (by rw [z2]; exact h2) ?_ (fun p hp => ?_) fun out ho eo => ?_
  · have := congrArg List.length z2
    rw [List.length_map] at this
    omega
  · have : p.2 ∈ ds := by rw [← z2]; exact List.mem_map_of_mem hp
    have := h3 _ this
    show X.A.units + 2 + PyData.depth p.2 < cLine
    omega
  · have vo := vals_each eo
    obtain ⟨ep, he'⟩ := PyProof.Rows.sortedAll_at s.heap its out.toArray
    have hlen : (sortV ys ds).length ≤ sizeLine := by
      have := congrArg List.length z2
      rw [List.length_map] at this
      unfold sortV
      rw [List.length_map, List.length_mergeSort, this]
      exact h4
    exact ⟨.ref _, upd H (s.heap.objs.size + 1) (.lst (sortV ys ds)), I.laid (t' := s.toks) (fun _ _ => PyProof.Rows.sortedAll_old) (Nat.le_succ _) ⟨hlen, out, ep, vo, he'⟩, rfl, q _ (I.hok.fresh (Nat.le_succ _))⟩
end
end L2

/-! ML23: dict(pairs), sorted, min, max, int, ord, index; text * int; data in order. -/
namespace L2
open PySem PySem.Spec PyProof.Rows
section
variable {X : Cx}
/-! ### dict(t), t a bare tuple of pairs -/
def KBare (K : PySem.W.Frag) : Prop := ∀ a o, K.lookup a = some o → o.cls = .type "tuple" → o.dict = none
def kBareB (K : PySem.W.Frag) : Bool := K.all fun p => p.2.dict.isNone || !(p.2.cls == .type "tuple")
theorem lookup_mem' {α : Type} {β : Type} [BEq α] [LawfulBEq α] : ∀ {l : List (α × β)} {a : α} {b : β}, l.lookup a = some b → (a, b) ∈ l
  | [], a, b, h => by cases h
  | (c, d) :: l, a, b, h => by
    rw [List.lookup_cons] at h
    split at h
    · rename_i e
      have := eq_of_beq e
      subst this
      cases h
      exact List.mem_cons_self ..
    · exact List.mem_cons_of_mem _ (lookup_mem' h)
theorem kBare_of {K : PySem.W.Frag} (h : kBareB K = true) : KBare K := fun a o e c => by
  have := List.all_eq_true.mp h _ (lookup_mem' e)
  rw [Bool.or_eq_true] at this
  rcases this with z | z
  · simpa using z
  · simp [c] at z
def BrT (K : PySem.W.Frag) (H : Hp) (a : Addr) (xs : List V) : Prop := SqT K H a xs ∧ ((∃ q, q.dict = none ∧ H a = some (.frz q (.tup xs))) ∨ ∃ o, K.lookup a = some o ∧ o.cls = .type "tuple" ∧ o.dict = none)
theorem Inv.bareT {pins : List (Addr × Obj)} {σ : St} {H : Hp} {s : Shared} (I : Inv X pins σ H s) {a : Addr} {xs : List V} (h : BrT X.K H a xs) : ∃ its : List Value, Vals xs its ∧ PlainSeq "tuple" s.heap a its.toArray ∧ xs.length ≤ sizeLine := by
  obtain ⟨h0, h⟩ := h
  obtain ⟨its, r, ⟨o, e, c, n, d⟩, z⟩ := I.tuple h0
  refine ⟨its, r, ⟨o, n, e, c, ?_, d⟩, z⟩
  rcases h with ⟨q, hq, hH⟩ | ⟨o', hk, _, hd⟩
  · obtain ⟨e', _⟩ := I.hok a _ hH
    rw [e] at e'; cases e'
    exact hq
  · have e' := I.kIn a o' hk
    rw [e] at e'; cases e'
    exact hd
def rDictT (K : PySem.W.Frag) : List V → Hp → VK → Prop := fun xs H Q => ∃ (a : Addr) (ps : List Addr) (kvs : List (Key × V)), xs = [.ref a] ∧ BrT K H a (ps.map V.ref) ∧ Paired (fun p kv => SqT K H p [kV kv.1, kv.2]) ps kvs ∧
    ∀ p, H p = none → Q (.ref p) (upd H p (.dK (mergeK [] kvs)))
theorem call_dictT (hcalm : X.calm = true) : CallR X (.type "dict") (rDictT X.K) := by
  intro pins s σ H xs us Q I r q
  obtain ⟨a, ps, kvs, ex, hq, hp, q⟩ := q
  subst ex
  rw [Vals.ref1 r]
  obtain ⟨its, rv, pl, hz⟩ := I.bareT hq
  have ei := refs_at rv
  subst ei
  rw [List.length_map] at hz
  obtain ⟨prs, rel, hl, hpr⟩ := pairs_of I hp
  -- the keys as values
  have hkeys : ∀ j : Nat, ∃ u : Value, ∀ q, prs[j]? = some q → ∃ b, ps[j]? = some b ∧ IsTup s.heap b #[u, q.2] ∧ keyIs q.1 u = true := fun j => by
    cases e : prs[j]? with
    | none => exact ⟨.none, fun q h => nomatch h⟩
    | some q0 =>
      obtain ⟨b, u, e1, e2, e3⟩ := hpr j q0 e
      exact ⟨u, fun q h => by cases h; exact ⟨b, e1, e2, e3⟩⟩
  obtain ⟨K0, hK0⟩ := Classical.axiomOfChoice hkeys
  let vps : List (Value × Value) := (List.range prs.length).map fun j => (K0 j, (prs[j]?.map (·.2)).getD .none)
  have vlen : vps.length = prs.length := by simp [vps]
  have vget : ∀ (j : Nat) (x : Value × Value), vps[j]? = some x → ∃ q, prs[j]? = some q ∧ x = (K0 j, q.2) := fun j x h => by
    have hj : j < prs.length := by have := (List.getElem?_eq_some_iff.mp h).1; omega
    obtain ⟨q, hq⟩ : ∃ q, prs[j]? = some q := ⟨_, List.getElem?_eq_getElem hj⟩
    refine ⟨q, hq, ?_⟩
    simp only [vps, List.getElem?_map, List.getElem?_range hj, Option.map_some, Option.some.injEq] at h
    rw [← h, hq]; rfl
  have P := PairArg.tuple (prog := X.prog) (w := X.w) a (ps.map Value.ref).toArray (fun j => (ps[j]?).getD 0) vps
  refine PySem.call_dict_pairs (knd := mixKind X.prog X.w) (kvs := prs) P (I.ok.hd hcalm) ⟨pl, ?_, fun j k v e => ?_⟩ ⟨vlen.symm, fun i key v e => ?_⟩ (by rw [vlen, hl]; exact hz) fun h' tk hd' k => ?_
  · simp [vlen, hl]
  · obtain ⟨q, e1, e2⟩ := vget j _ e
    obtain ⟨b, b1, b2, b3⟩ := hK0 j q e1
    cases e2
    refine ⟨by simp [b1], ?_⟩
    show PairAt s.heap ((ps[j]?).getD 0) (K0 j) q.2
    rw [b1]
    exact .inl b2
  · obtain ⟨q, e1, e2⟩ := vget i _ e
    cases e2
    obtain ⟨b, b1, b2, b3⟩ := hK0 i q e1
    exact ⟨q.1, e1, b3⟩
  · have hm : (s.heap.objs.size == sysModules) = false := beq_eq_false_iff_ne.mpr (Nat.ne_of_gt I.big)
    have hlen : (mergeK [] kvs).length ≤ sizeLine := by
      refine Nat.le_trans (length_mergeK kvs []) ?_
      rw [List.length_nil, Nat.zero_add, rel.length, hl]
      exact hz
    exact ⟨.ref s.heap.objs.size, upd H s.heap.objs.size (.dK (mergeK [] kvs)), I.laid (t' := tk) (fun b o e => k b o (by simp) e) (Nat.le_refl _) (show ObjOk X.prog X.w _ _ _ (.dK (mergeK [] kvs)) from ⟨hlen, hm, merged [] prs, KV.merge rel .nil, hd'⟩), rfl, q _ (I.hok.fresh (Nat.le_refl _))⟩
/-! ### text * int -/
def repS (x : Str) (n : Int) : Str := if n < 1 then Str.empty else if (n == 1 || x.length == 0) = true then x else ⟨(List.replicate n.toNat x.cps).foldl (· ++ ·) #[]⟩
def repOk (x : Str) (n : Int) : Bool := decide (x.length ≤ 1000 ∧ -1000000 ≤ n ∧ n ≤ 1000)
/-! ### s.index(t) -/
end
end L2
namespace ML
open PySem PySem.Spec PyProof.Rows L2
section
variable {F : Fr}
/-! ### dict(x) -/
def gDictA : GN := n1 fun r env => match r.dat env with
  | some (.list ds) => (pairsOf ds).map fun kvs => (.new (.dK (mergeD [] kvs)), env)
  | some (.tuple ds) => (pairsOf ds).map fun kvs => (.new (.dK (mergeD [] kvs)), env)
  | _ => none
def rDictA (K : PySem.W.Frag) : List V → Hp → VK → Prop := fun xs H Q => (∃ (a : Addr) (ps : List Addr) (kvs : List (Key × V)), xs = [.ref a] ∧ SqL K H a (ps.map V.ref) ∧ Paired (fun p kv => SqT K H p [kV kv.1, kv.2]) ps kvs ∧
    ∀ p, H p = none → Q (.ref p) (upd H p (.dK (mergeK [] kvs)))) ∨ rDictT K xs H Q
theorem call_dictA {X : Cx} (hc : X.calm = true) : CallR X (.type "dict") (rDictA X.K) := (call_dictP hc).or (call_dictT hc)
theorem RepS.bare {env : En} {ops : Ops} {G H : Hp} {σ : St} {v : V} {r : R} {ds : List D} (kb : KBare F.K) (I : RepS F env ops G σ H) (hk : (v, r) ∈ ops) (e : r.dat env = some (.tuple ds)) : ∃ a vs, v = .ref a ∧ BrT F.K H a vs ∧ DpAll F.K G vs ds := by
  have hd : Dp F.K G v (.tuple ds) := by
    unfold R.dat at e
    cases hb : r.obj env with
    | none => rw [hb] at e; cases e
    | some b =>
      rw [hb] at e
      cases b with
      | val d => cases e; exact (I.obj hk hb).1 _ rfl
      | mu o => cases o <;> cases e
      | lk o => cases o <;> cases e
  obtain ⟨a, vs, rfl, q1, q2⟩ := dp_tup hd
  refine ⟨a, vs, rfl, ⟨same_sqT I.same q1, ?_⟩, q2⟩
  rcases q1 with (z | ⟨o, z⟩) | ⟨o, its, n, h1, h2, _⟩
  · exact absurd z (I.rep.gp.tup a vs)
  · exact .inl ⟨o, I.rep.gp.dic _ _ _ z, I.same _ _ z⟩
  · exact .inr ⟨o, h1, h2, kb a o h1 h2⟩
theorem s_dictA (kb : KBare F.K) : SN F (rDictA F.K) gDictA := sn1 fun env ops x ra G σ H r env' Q I e k => by
  split at e
  · rename_i ds h1
    obtain ⟨kvs, h2, h3⟩ := omap_some e
    cases h3
    obtain ⟨a, vs, rfl, q1, q2⟩ := I.lst (v := x) (r := ra) (by simp) (show R.lst ra env = some ds by unfold R.lst; rw [h1])
    obtain ⟨ps, ws, rfl, g1, g2⟩ := pairsOf_dp q2 h2
    exact .inl ⟨a, ps, ws, rfl, q1, paired_mono I.same g1, fun p hp => I.retN k hp ⟨_, upd_same, kvr_merge g2 .nil⟩⟩
  · rename_i ds h1
    obtain ⟨kvs, h2, h3⟩ := omap_some e
    cases h3
    obtain ⟨a, vs, rfl, q1, q2⟩ := RepS.bare kb I (v := x) (r := ra) (by simp) h1
    obtain ⟨ps, ws, rfl, g1, g2⟩ := pairsOf_dp q2 h2
    exact .inr ⟨a, ps, ws, rfl, q1, paired_mono I.same g1, fun p hp => I.retN k hp ⟨_, upd_same, kvr_merge g2 .nil⟩⟩
  · cases e
/-! ### sorted(x) -/
def gSortedA : GN := n1 fun r env => match r.ownO env with
  | some (.sI ns) => if ns.length < 64 then some (.new (.lst ((usort ns).map .int)), env) else none
  | some (.dK kvs) => (keyInts kvs).bind fun ks => if ks.length < 64 then some (.new (.lst ((isort ks).map .int)), env) else none
  | _ => (r.dat env).bind fun d => match d with
    | .list ds => match intsOf ds with
      | some ns => some (.new (.lst ((isort ns).map .int)), env)
      | none => if sortOk ds = true then some (.new (.lst (sortD ds)), env) else none
    | _ => none
def rSortedB (K : PySem.W.Frag) (w : World) : List V → Hp → VK → Prop := fun xs H Q => rSortedA K w xs H Q ∨ rSortedD K xs H Q
theorem call_sortedB {X : Cx} (hc : X.calm = true) (hu : X.A.units + 65 < cLine) : CallR X (.builtin "sorted") (rSortedB X.K X.w) := (call_sortedA hc).or (cr_sortedD hu)
theorem s_sortedA : SN F (rSortedB F.K F.w) gSortedA := sn1 fun env ops x ra G σ H r env' Q I e k => by
  split at e
  · rename_i ns h
    split at e
    · rename_i hl
      cases e
      obtain ⟨a, rfl, ⟨q1, q2⟩, _⟩ := I.ownO (r := ra) (v := x) (by simp) h
      refine .inl (.inl (.inr ⟨a, _, _, rfl, q1, hl, fun ms p h1 h2 h3 hp => ?_⟩))
      have e : ms = usort ns := usort_of h1 fun z => by rw [h2]; simp
      subst e
      exact I.retL k (dpAll_of_ints _) p hp
    · cases e
  · rename_i kvs h
    obtain ⟨ks, h1, e⟩ := bind_some e
    split at e
    · rename_i hl
      cases e
      obtain ⟨a, rfl, ⟨ws, q1, q2⟩, _⟩ := I.ownO (r := ra) (v := x) (by simp) h
      refine .inl (.inr ⟨a, ws, ks, rfl, q1, by rw [kvr_keys q2]; exact keyInts_eq h1, hl, fun ms p h1 h2 hp => ?_⟩)
      obtain rfl := isort_of h1 h2
      exact I.retL k (dpAll_of_ints _) p hp
    · cases e
  · obtain ⟨d, h1, e⟩ := bind_some e
    split at e
    · rename_i ds
      split at e
      · rename_i ns h2
        cases e
        obtain ⟨a, vs, rfl, q1, q2⟩ := I.lst (r := ra) (v := x) (by simp) (show R.lst ra env = some ds by unfold R.lst; rw [h1])
        rw [intsOf_eq h2] at q2
        rw [dpAll_ints q2] at q1
        refine .inl (.inl (.inl ⟨a, ns, rfl, q1, fun ms p h1 h2 hp => ?_⟩))
        obtain rfl := isort_of h1 h2
        exact I.retL k (dpAll_of_ints _) p hp
      · split at e
        · rename_i hok
          cases e
          obtain ⟨a, vs, rfl, q1, q2⟩ := I.lst (r := ra) (v := x) (by simp) (show R.lst ra env = some ds by unfold R.lst; rw [h1])
          refine .inr ⟨a, vs, ds, rfl, q1, dpAll_mono I.same _ _ q2, hok, fun p hp => I.retL k (sortV_dp q2) p hp⟩
        · cases e
    · cases e
/-! ### min, max of ints -/
def minI : List Int → Option Int
  | [] => none
  | n :: ns => some (ns.foldl (fun a b => if b < a then b else a) n)
def maxI : List Int → Option Int
  | [] => none
  | n :: ns => some (ns.foldl (fun a b => if a < b then b else a) n)
theorem foldl_min (ns : List Int) : ∀ n : Int, (ns.foldl (fun a b => if b < a then b else a) n) ∈ n :: ns ∧ ∀ y ∈ n :: ns, (ns.foldl (fun a b => if b < a then b else a) n) ≤ y := by
  induction ns with
  | nil => intro n; simp
  | cons m ns ih =>
    intro n
    rw [List.foldl_cons]
    obtain ⟨h1, h2⟩ := ih (if m < n then m else n)
    refine ⟨?_, fun y hy => ?_⟩
    · rcases List.mem_cons.mp h1 with z | z
      · rw [z]; split <;> simp
      · simp [z]
    · have h0 := h2 _ (List.mem_cons_self ..)
      rcases List.mem_cons.mp hy with z | z
      · subst z; refine Int.le_trans h0 ?_; split <;> omega
      · rcases List.mem_cons.mp z with z | z
        · subst z; refine Int.le_trans h0 ?_; split <;> omega
        · exact h2 y (List.mem_cons_of_mem _ z)
theorem minI_spec {ns : List Int} {m : Int} (h : minI ns = some m) : m ∈ ns ∧ ∀ y ∈ ns, m ≤ y := by
  cases ns with
  | nil => cases h
  | cons n ns => cases h; exact foldl_min ns n
theorem minI_some {ns : List Int} (h : ns ≠ []) : ∃ m, minI ns = some m := by
  cases ns with
  | nil => exact absurd rfl h
  | cons n ns => exact ⟨_, rfl⟩
def gMin : GN := n1 fun r env => (r.dat env).bind fun d => match d with
  | .list ds => (intsOf ds).bind fun ns => (minI ns).map fun m => (.val (.int m), env)
  | _ => none
def gMax : GN := n1 fun r env => (r.dat env).bind fun d => match d with
  | .list ds => (intsOf ds).bind fun ns => (maxI ns).map fun m => (.val (.int m), env)
  | _ => none
theorem s_min : SN F (L2.rMin F.K) gMin := sn1 fun env ops x ra G σ H r env' Q I e k => by
  obtain ⟨d, h1, e⟩ := bind_some e
  split at e
  · rename_i ds
    obtain ⟨ns, h2, e⟩ := bind_some e
    obtain ⟨m, h3, h4⟩ := omap_some e
    cases h4
    obtain ⟨a, vs, rfl, q1, q2⟩ := I.lst (r := ra) (v := x) (by simp) (show R.lst ra env = some ds by unfold R.lst; rw [h1])
    rw [intsOf_eq h2] at q2
    rw [dpAll_ints q2] at q1
    obtain ⟨m1, m2⟩ := minI_spec h3
    refine ⟨a, ns, rfl, q1, List.length_pos_of_mem m1, fun m' k1 k2 => ?_⟩
    have : m' = m := Int.le_antisymm (k2 m m1) (m2 m' k1)
    subst this
    exact I.retV k (.int _)
  · cases e
def gMin2 : GN := n2 fun ra rb env => ra.int.bind fun i => rb.int.map fun j => (.val (.int (if j < i then j else i)), env)
def gMax2 : GN := n2 fun ra rb env => ra.int.bind fun i => rb.int.map fun j => (.val (.int (if j > i then j else i)), env)
theorem s_min2 : SN F (fun xs H Q => ∃ i j, xs = [.int i, .int j] ∧ Q (.int (if j < i then j else i)) H) gMin2 := sn2 fun env ops x y ra rb G σ H r env' Q I e k => by
  obtain ⟨i, h1, e⟩ := bind_some e
  obtain ⟨j, h2, h3⟩ := omap_some e
  cases h3
  obtain rfl := R.int_eq h1
  obtain rfl := R.int_eq h2
  exact ⟨i, j, by rw [I.vint (v := x) (i := i) (by simp), I.vint (v := y) (i := j) (by simp)], I.retV k (.int _)⟩
/-! ### int(x), ord(x) -/
def intD (env : En) : Option D → Option (R × En)
  | some (.int i) => some (.val (.int i), env)
  | some (.bool b) => some (.val (.int (if b = true then 1 else 0)), env)
  | _ => none
def gInt : GN := n1 fun r env => intD env (r.dat env)
def gOrd : GN := n1 fun r env => r.str.bind fun x => if x.length = 1 then some (.val (.int (x.cps.getD 0 0 : Nat)), env) else none
/-! ### s.index(t), t * n -/
def gSIndex : GL := fun r rs env => match rs with
  | [q] => r.str.bind fun a => q.str.bind fun b => (Txt.index0 a b).map fun k => (.val (.int (k : Nat)), env)
  | _ => none
def gMulS : G2 := fun ra rb env => ra.str.bind fun x => rb.int.bind fun n => if repOk x n = true then some (.val (.str (repS x n)), env) else none
end
section
variable {X : Cx} {F : Fr} {pos : Pos}
/-! ### a, b = x, y by way of a tuple -/
theorem ms_par2U {np i j : Nat} {x y : Str} {a b : Expr} {px py pt : Pos} {kt k2 pt2} {f : FA} (hnp : F.args.length = np) (hK : X.K = F.K) (hc : X.calm = true) (hN : X.N.Nodup) (hi : X.N[i]? = some x) (hj : X.N[j]? = some y) (hij : i ≠ j)
    (hx : Loc X.env.scope x) (hy : Loc X.env.scope y) (hfx : X.fn x = true ∨ X.env.scope.names.lookup x = some .local) (hfy : X.fn y = true ∨ X.env.scope.names.lookup y = some .local) (ha : PA X [a, b] (tA F f))
    (hw : swappedStores [.Tuple [.Name x px, .Name y py] kt pt] (.Tuple [a, b] k2 pt2) X.env = pure none := by rfl)
    (hs : swapsWithSole [.Tuple [.Name x px, .Name y py] kt pt] (.Tuple [a, b] k2 pt2) pos.line X.env = pure false := by rfl) :
    PS X (.Assign [.Tuple [.Name x px, .Name y py] kt pt] (.Tuple [a, b] k2 pt2) pos) (tS F (sPar2 np i j f)) :=
  (ps_asg (pe_tup ha) (pg_tup (n := 2) hc (pgs_cons (pg_name hN hi hx hfx) (pgs_cons (pg_name hN hj hy hfy) pgs_nil rfl) rfl) rfl rfl) hs hw rfl).wk fun D σ H ⟨env, ops, G, fl, env', nb, I, e, k⟩ => by
    obtain ⟨⟨rs, e1⟩, h1, e⟩ := bind_some e
    obtain ⟨⟨rs', e2⟩, h2, e⟩ := bind_some e
    split at e
    · rename_i r s hrs
      have hrs : rs' = [r, s] := hrs
      subst hrs
      obtain ⟨e3, h3, e⟩ := bind_some e
      obtain ⟨e4, h4, h5⟩ := omap_some e
      cases h5
      refine ⟨env, ops, G, rs, e1, I, h1, fun ps G1 H1 hp s1 I1 => ?_⟩
      subst hp
      obtain ⟨G2, ps', s2, I2, m1, m2, n2⟩ := RepS.norms I1 h2 nb
      obtain ⟨v, w, rfl⟩ := map2 m2
      rw [← m1]
      refine ⟨by show 2 ≤ sizeLine; decide, fun p hp => ?_⟩
      have I2' : RepS F e2 ((ops ++ [(v, r)]) ++ [(w, s)]) G2 σ H1 := by simpa using I2
      have n2' : NoBor ((ops ++ [(v, r)]) ++ [(w, s)]) := by simpa using n2
      have I3 := I2'.put hnp (fun u => nobor_left n2' u j) h3
      have I4 := I3.put hnp (fun u => nb u i) h4
      rw [List.set_comm _ _ (Ne.symm hij)] at I4
      have I5 : RepS F env' ops G2 ((σ.set i (some v)).set j (some w)) (upd H1 p (.tup [v, w])) := ⟨I4.rep.heap hp, I4.opr, I4.len⟩
      exact ⟨p, [v, w], rfl, .inl (.inl upd_same), rfl, v, [w], rfl, w, [], rfl, rfl, k _ G2 _ (s1.trans s2) I5⟩
    · cases e
end
end ML

/-! ML24: what the words of ML22, ML23 say. -/
namespace ML
open PySem PySem.Spec PyProof.Rows L2
section
variable {env : En} {i : Nat} {d : D} {ds : List D} {r : R} {n : Int} {kvs : List (Key × D)} {ns : List Int} {x y : Str}
theorem v_lenD_s : lenD r env (some (.str x)) = if x.length ≤ sizeLine then some (.val (.int x.length), env) else none := rfl
theorem v_rstr : R.str (.val (.str x)) = some x := rfl
theorem v_chkS : chkS r env = r.str.isSome := rfl
def dctD (env : En) : Option D → Option (R × En)
  | some (.list ds) => (pairsOf ds).map fun kvs => (.new (.dK (mergeD [] kvs)), env)
  | some (.tuple ds) => (pairsOf ds).map fun kvs => (.new (.dK (mergeD [] kvs)), env)
  | _ => none
theorem v_gDictA : gDictA [r] env = dctD env (r.dat env) := rfl
theorem v_dctD_l : dctD env (some (.list ds)) = (pairsOf ds).map fun kvs => (.new (.dK (mergeD [] kvs)), env) := rfl
theorem v_dctD_t : dctD env (some (.tuple ds)) = (pairsOf ds).map fun kvs => (.new (.dK (mergeD [] kvs)), env) := rfl
/-- sorted of a list of data -/
def sortL (env : En) (ds : List D) : Option (R × En) := match intsOf ds with
  | some ns => some (.new (.lst ((isort ns).map .int)), env)
  | none => if sortOk ds = true then some (.new (.lst (sortD ds)), env) else none
def srtC (env : En) (b : Option B) : Option (R × En) := match b.bind B.own with
  | some (.sI ns) => if ns.length < 64 then some (.new (.lst ((usort ns).map .int)), env) else none
  | some (.dK kvs) => (keyInts kvs).bind fun ks => if ks.length < 64 then some (.new (.lst ((isort ks).map .int)), env) else none
  | _ => (datO b).bind fun d => match d with
    | .list ds => sortL env ds
    | _ => none
theorem v_srtA : gSortedA [.bor i] env = srtC env env[i]?.join := by
  show (match R.ownO (.bor i) env with
    | some (.sI ns) => if ns.length < 64 then some (R.new (.lst ((usort ns).map PyData.int)), env) else none
    | some (.dK kvs) => (keyInts kvs).bind fun ks => if ks.length < 64 then some (.new (.lst ((isort ks).map .int)), env) else none
    | _ => (R.dat (.bor i) env).bind fun d => match d with
      | .list ds => match intsOf ds with
        | some ns => some (.new (.lst ((isort ns).map .int)), env)
        | none => if sortOk ds = true then some (.new (.lst (sortD ds)), env) else none
      | _ => none) = _
  rw [v_dat_bor]
  rfl
theorem v_srtC_s : srtC env (some (.mu (.sI ns))) = if ns.length < 64 then some (.new (.lst ((usort ns).map .int)), env) else none := rfl
theorem v_srtC_d : srtC env (some (.mu (.dK kvs))) = bnd (fun ks => if ks.length < 64 then some (.new (.lst ((isort ks).map .int)), env) else none) (keyInts kvs) := rfl
theorem v_srtC_l : srtC env (some (.mu (.lst ds))) = sortL env ds := rfl
theorem v_srtC_v : srtC env (some (.val (.list ds))) = sortL env ds := rfl
theorem v_srtA_n : gSortedA [.new (.lst ds)] env = sortL env ds := rfl
theorem v_srtA_s : gSortedA [.new (.sI ns)] env = if ns.length < 64 then some (.new (.lst ((usort ns).map .int)), env) else none := rfl
theorem v_srtA_v : gSortedA [.val (.list ds)] env = sortL env ds := rfl
def mmD (f : List Int → Option Int) (env : En) : Option D → Option (R × En)
  | some (.list ds) => (intsOf ds).bind fun ns => (f ns).map fun m => (.val (.int m), env)
  | _ => none
theorem v_gMin : gMin [r] env = mmD minI env (r.dat env) := by
  show (r.dat env).bind _ = _
  cases r.dat env with
  | none => rfl
  | some d => cases d <;> rfl
theorem v_gMax : gMax [r] env = mmD maxI env (r.dat env) := by
  show (r.dat env).bind _ = _
  cases r.dat env with
  | none => rfl
  | some d => cases d <;> rfl
theorem v_mmD {f : List Int → Option Int} : mmD f env (some (.list ds)) = bnd (fun ns => (f ns).map fun m => (.val (.int m), env)) (intsOf ds) := rfl
theorem v_gMin2 {a b : R} : gMin2 [a, b] env = bnd (fun i => b.int.map fun j => (.val (.int (if j < i then j else i)), env)) a.int := rfl
theorem v_gMax2 {a b : R} : gMax2 [a, b] env = bnd (fun i => b.int.map fun j => (.val (.int (if j > i then j else i)), env)) a.int := rfl
theorem v_gInt : gInt [r] env = intD env (r.dat env) := rfl
theorem v_intD_i : intD env (some (.int n)) = some (.val (.int n), env) := rfl
theorem v_intD_b {b : Bool} : intD env (some (.bool b)) = some (.val (.int (if b = true then 1 else 0)), env) := rfl
theorem v_gOrd : gOrd [r] env = bnd (fun x => if x.length = 1 then some (.val (.int (x.cps.getD 0 0 : Nat)), env) else none) r.str := rfl
theorem v_gSIndex {q : R} : gSIndex r [q] env = bnd (fun a => bnd (fun b => (Txt.index0 a b).map fun k => (.val (.int (k : Nat)), env)) q.str) r.str := rfl
theorem v_gMulS {ra rb : R} : gMulS ra rb env = bnd (fun x => bnd (fun n => if repOk x n = true then some (.val (.str (repS x n)), env) else none) rb.int) ra.str := rfl
def popA (i : Nat) (n : Int) (env : En) : Option B → Option (R × En)
  | some (.mu (.lst ds)) => if -(2 ^ 63) ≤ n ∧ n < 2 ^ 63 then (seqIndex? n ds.length).bind fun j => (ds[j]?).map fun d => (.val d, env.set i (some (.mu (.lst (ds.eraseIdx j))))) else none
  | _ => none
theorem v_gPopAt : gPopAt (.bor i) [.val (.int n)] env = popA i n env env[i]?.join := rfl
theorem v_popA {j : Nat} (h1 : -(2 ^ 63) ≤ n ∧ n < 2 ^ 63) (h2 : seqIndex? n ds.length = some j) (h3 : ds[j]? = some d) : popA i n env (some (.mu (.lst ds))) = some (.val d, env.set i (some (.mu (.lst (ds.eraseIdx j))))) := by
  show (if -(2 ^ 63) ≤ n ∧ n < 2 ^ 63 then (seqIndex? n ds.length).bind fun j => (ds[j]?).map fun d => (R.val d, env.set i (some (.mu (.lst (ds.eraseIdx j))))) else none) = _
  rw [if_pos h1, h2]
  simp only [Option.bind_some, h3, Option.map_some]
end
end ML
local macro_rules
  | `(tactic| simp_all_arith [$ls,*]) => `(tactic| simp_arith! [ML.v_lenD_s, ML.v_gPopAt, ML.v_rstr, ML.v_chkS, ML.v_gDictA, ML.v_dctD_l, ML.v_dctD_t, ML.v_srtA, ML.v_srtC_s, ML.v_srtC_d, ML.v_srtC_l, ML.v_srtC_v, ML.v_srtA_n, ML.v_srtA_s, ML.v_srtA_v, ML.v_gMin, ML.v_gMax, ML.v_mmD, ML.v_gMin2, ML.v_gMax2, ML.v_gInt, ML.v_intD_i, ML.v_intD_b, ML.v_gOrd, ML.v_gSIndex, ML.v_gMulS, ML.v_slD_s, ML.v_ixD_s, ML.v_add_s, Option.isSome_some, $ls,*])
namespace ML
open PySem PySem.Spec PyProof.Rows L2

end ML

/-! ML25: a module's constants; a text walked; a sign in a text; a < b of data; repr of what bears great numbers. -/
namespace ML
open PySem PySem.Spec PyProof.Rows L2
section
variable {X : Cx} {F : Fr} {pos : Pos} {e : Expr}
/-! ### constants of the module -/
theorem me_gstr {x y : Str} (hm : ∃ t, X.mg x = some (.str y t)) (hg : Gl X x) (hd : (x == ("__debug__" : Str)) = false := by decide) : PE X (.Name x pos) (tE F (eK (.str y))) := by
  obtain ⟨t, hm⟩ := hm
  exact me_k (pe_glob hg hm (show RelV (.str y) (.str y t) from ⟨t, rfl⟩) hd) fun _ => .str y
theorem me_gint {x : Str} {n : Int} (hm : ∃ t, X.mg x = some (.int n t)) (hg : Gl X x) (hd : (x == ("__debug__" : Str)) = false := by decide) : PE X (.Name x pos) (tE F (eK (.int n))) := by
  obtain ⟨t, hm⟩ := hm
  exact me_k (pe_glob hg hm (show RelV (.int n) (.int n t) from ⟨t, rfl⟩) hd) fun _ => .int n
/-! ### a text walked -/
def signs (x : Str) : List D := x.cps.toList.map fun c => .str ⟨#[c]⟩
def lockA (r : R) (env : En) : Option ((List D × Option Nat) × En) := match r with
  | .val (.str x) => some ((signs x, none), env)
  | r => lockR r env
def iAny (f : FE) : FI := fun env => (f env).bind fun p => lockA p.1 p.2
theorem isIt_text {G0 : Hp} {x : Str} {ops ps : Ops} : IsIt F (Its x) (signs x) ops ps G0 := by
  intro more env G σ H i _ I
  refine ⟨fun d hd => ?_, fun hl => ?_⟩
  · unfold signs at hd
    rw [List.getElem?_map] at hd
    obtain ⟨c, hc, rfl⟩ := omap_some hd
    have hi : i < x.cps.size := by
      have := (List.getElem?_eq_some_iff.mp hc).1
      simpa using this
    refine ⟨hi, fun v H' hy => ?_⟩
    obtain ⟨rfl, c', hc', rfl⟩ := hy
    rw [Array.getElem?_toList] at hc
    rw [hc] at hc'
    cases hc'
    exact ⟨G, Same.refl _, I.pushV (.str _)⟩
  · show x.cps.size ≤ i
    simpa [signs] using hl
theorem mi_any {tg l : Expr} {f : FE} (hK : X.K = F.K) (hl : PE X l (tE F f)) : PI X tg l (tI F (iAny f)) :=
  ((mi_seq hK hl).or (pi_str hl)).wk fun σ H Q ⟨env, ops, G, xs, src, env', I, e, q⟩ => by
    obtain ⟨⟨r, e1⟩, h1, h2⟩ := bind_some e
    have h2 : lockA r e1 = some ((xs, src), env') := h2
    unfold lockA at h2
    split at h2
    · rename_i x _
      cases h2
      refine .inr ⟨env, ops, G, _, _, I, h1, fun v G1 H1 s1 I1 => ?_⟩
      exact ⟨x, I1.vstr (by simp), q [] G1 H1 (Its x) s1 (by simpa using I1.pop) (fun v i hm => by simp at hm) trivial isIt_text⟩
    · exact .inl ⟨env, ops, G, xs, src, env', I, show (f env).bind _ = _ by rw [h1]; exact h2, q⟩
/-! ### a sign in a text -/
def oneS (x : Str) : Option Nat := if x.cps.size = 1 then x.cps[0]? else none
theorem oneS_of {x : Str} {c : Nat} (h : oneS x = some c) : x = ⟨#[c]⟩ := by
  unfold oneS at h
  split at h
  · rename_i hs
    obtain ⟨a⟩ := x
    have hs : a.size = 1 := hs
    have h : a[0]? = some c := h
    congr
    apply Array.ext
    · simpa using hs
    · intro i h1 h2
      have : i = 0 := by omega
      subst this
      rw [Array.getElem?_eq_getElem (by omega)] at h
      simpa using h
  · cases h
def gInT (neg : Bool) : G2 := fun ra rb env => match rb.str with
  | some z => ra.str.bind fun x => (oneS x).map fun c => (.val (.bool (bneg neg (decide (c ∈ z.cps.toList)))), env)
  | none => gIn neg ra rb env
theorem s_inT : S2 F (fun x y H Q => (∃ (c : Nat) (z : Str), x = .str ⟨#[c]⟩ ∧ y = .str z ∧ Q (.bl (decide (c ∈ z.cps.toList))) H) ∨ rInA F.K x y H Q) (gInT false) := by
  intro env ops G σ H x y ra rb r env' Q I h k
  unfold gInT at h
  split at h
  · rename_i z hz
    obtain ⟨w, h1, h⟩ := bind_some h
    obtain ⟨c, h2, h3⟩ := omap_some h
    cases h3
    obtain rfl := R.str_eq hz
    obtain rfl := R.str_eq h1
    obtain rfl := oneS_of h2
    exact .inl ⟨c, z, I.vstr (by simp), I.vstr (by simp), I.retV k (.bl _)⟩
  · exact .inr (s_in env ops G σ H x y ra rb r env' Q I h k)
theorem op_inT (hu : X.A.units + 65 < cLine) : OpR X (compareOp .In) (fun x y H Q => (∃ (c : Nat) (z : Str), x = .str ⟨#[c]⟩ ∧ y = .str z ∧ Q (.bl (decide (c ∈ z.cps.toList))) H) ∨ rInA X.K x y H Q) := op_in_sign.or (op_inA hu)
/-! ### a < b -/
def ltD (env : En) : Option D → Option D → Option (R × En)
  | some (.int i), some (.int j) => some (.val (.bool (decide (i < j))), env)
  | some d, some e => if okCmp d e = true then some (.val (.bool (PySem.W.dataLt d e)), env) else none
  | _, _ => none
def gLtA : G2 := fun ra rb env => ltD env (ra.dat env) (rb.dat env)
/-! ### repr, great numbers within -/
def reprOkB (d : D) : Bool := PyData.layable0 d && PyData.intsShort 300 d && PyData.showable d && decide (PyData.weight d ≤ 50000)
def gReprA : GN := n1 fun r env => (r.dat env).bind fun d => if (reprOk d || reprOkB d) = true then some (.val (.str d.shown), env) else none
end
section
variable {X : Cx} {F : Fr} {pos : Pos}
/-- a < b < c as a test -/
theorem mt_chain {a b c : Expr} {op op' : CmpOp} {r r' : R2} {g g' : G2} {fa fb fc : FE} (ho : OpR X (compareOp op) r) (hg : S2 F r g) (ho' : OpR X (compareOp op') r') (hg' : S2 F r' g') (ha : PE X a (tE F fa)) (hb : PE X b (tE F fb)) (hc : PE X c (tE F fc))
    (hm : lastMarks [op, op'] [b, c] = false := by with_unfolding_all rfl) : PT X (.Compare a [op, op'] [b, c] pos) (tT F (rB (eChain g g' fa fb fc))) :=
  (pt_chain ho ho' ha hb hc hm).wk fun σ H Q h => tE_test (tE_chain hg hg') σ H Q h
end
end ML

/-! ML26: len(set(t)), t a tuple of texts. -/
namespace HT
open PySem PySem.Spec PyProof.Rows L2
/-- the j-th is met for the first time -/
def newAt (xs : List Str) (j : Nat) : Bool := match xs[j]? with
  | some x => decide (x ∉ xs.take j)
  | none => false
def dcount (xs : List Str) (i : Nat) : Nat := ((List.range i).filter (newAt xs)).length
section
variable {prog : Program} {w : World} {A : Around} {R : Result → Shared → Prop} {I : Addr} {fp wr : List Addr} {G : Array GenState → Array GenState → Prop} {n : Nat} {P : Nat → Value → Prop} {St : Nat → Shared → Prop}
end
section
variable {P : Program} {w : World} {A : Around} {E : Value → Shared → Prop} {s : Shared}
end
end HT
namespace ML
open PySem PySem.Spec PyProof.Rows L2
/-! ### len(set(t)) -/
def strsOf : List D → Option (List Str)
  | [] => some []
  | .str x :: r => (strsOf r).map (x :: ·)
  | _ => none
def lenSetD (env : En) : Option D → Option (R × En)
  | some (.tuple ds) => (strsOf ds).bind fun xs => if xs.length < 4000 then some (.val (.int (HT.dcount xs xs.length : Nat)), env) else none
  | _ => none
def eLenSet (f : FE) : FE := fun env => (f env).bind fun p => lenSetD p.2 (p.1.dat p.2)
section
variable {X : Cx} {F : Fr}
end
end ML

/-! ML27: i in range(n); t.index(x); list * int; what the words of ML25, ML26 say. -/
namespace L2
open PySem PySem.Spec PyProof.Rows
section
variable {prog : Program} {w : World} {A : Around} {E : Value → Shared → Prop} {s : Shared}
end
section
variable {X : Cx}
end
end L2
namespace ML
open PySem PySem.Spec PyProof.Rows L2
section
variable {X : Cx} {F : Fr} {pos : Pos}
/-! ### x not in range(n) -/
def eNotInRg (fa fn : FE) : FE := fun env => (fa env).bind fun p => (fn p.2).bind fun q => p.1.int.bind fun i => q.1.int.map fun n => (.val (.bool (!decide (0 ≤ i ∧ i < n))), q.2)
/-! ### t.index(x), t a tuple of texts -/
def chkT (r : R) (env : En) : Bool := (r.tup env).isSome
def gTIndex : GL := fun r rs env => match rs with
  | [q] => (r.tup env).bind fun ds => (strsOf ds).bind fun xs => q.str.bind fun z => (xs.findIdx? (· == z)).map fun j => (.val (.int (j : Nat)), env)
  | _ => none
/-! ### list * int -/
def gRep : G2 := fun ra rb env => (ra.ownO env).bind fun o => match o with
  | .lst ds => rb.int.bind fun n => if -1000000 ≤ n ∧ n ≤ 1000 ∧ ds.length ≤ 1000 then some (.new (.lst (List.replicate n.toNat ds).flatten), env) else none
  | _ => none
end
section
variable {env : En} {r ra rb : R} {d e : D} {ds : List D} {n i : Int} {x z : Str}
theorem v_iAny {f : FE} : iAny f env = bnd (fun p => lockA p.1 p.2) (f env) := rfl
theorem v_lockA_s : lockA (.val (.str x)) env = some ((signs x, none), env) := rfl
theorem v_lockA_l : lockA (.val (.list ds)) env = some ((ds, none), env) := rfl
theorem v_lockA_t : lockA (.val (.tuple ds)) env = some ((ds, none), env) := rfl
def inT (neg : Bool) (ra rb : R) (env : En) : Option Str → Option (R × En)
  | some z => ra.str.bind fun x => (oneS x).map fun c => (.val (.bool (bneg neg (decide (c ∈ z.cps.toList)))), env)
  | none => gIn neg ra rb env
theorem v_gInT {neg : Bool} : gInT neg ra rb env = inT neg ra rb env rb.str := by
  unfold gInT inT
  cases rb.str <;> rfl
theorem v_inT_s {neg : Bool} : inT neg ra rb env (some z) = bnd (fun x => (oneS x).map fun c => (.val (.bool (bneg neg (decide (c ∈ z.cps.toList)))), env)) ra.str := rfl
theorem v_gLtA : gLtA ra rb env = ltD env (ra.dat env) (rb.dat env) := rfl
theorem v_ltD_i : ltD env (some (.int i)) (some (.int n)) = some (.val (.bool (decide (i < n))), env) := rfl
theorem v_ltD_s : ltD env (some (.str x)) (some (.str z)) = if okCmp (.str x) (.str z) = true then some (.val (.bool (PySem.W.dataLt (.str x) (.str z))), env) else none := rfl
theorem v_gReprA : gReprA [r] env = bnd (fun d => if (reprOk d || reprOkB d) = true then some (.val (.str d.shown), env) else none) (r.dat env) := rfl
theorem v_eLenSet {f : FE} : eLenSet f env = bnd (fun p => lenSetD p.2 (p.1.dat p.2)) (f env) := rfl
theorem v_lenSetD : lenSetD env (some (.tuple ds)) = bnd (fun xs => if xs.length < 4000 then some (.val (.int (HT.dcount xs xs.length : Nat)), env) else none) (strsOf ds) := rfl
theorem v_eNotInRg {fa fn : FE} : eNotInRg fa fn env = bnd (fun p => bnd (fun q => bnd (fun i => q.1.int.map fun n => (.val (.bool (!decide (0 ≤ i ∧ i < n))), q.2)) p.1.int) (fn p.2)) (fa env) := rfl
theorem v_chkT : chkT r env = (r.tup env).isSome := rfl
theorem v_tup_val : R.tup (.val (.tuple ds)) env = some ds := rfl
theorem v_gTIndex {q : R} : gTIndex r [q] env = bnd (fun ds => bnd (fun xs => bnd (fun z => (xs.findIdx? (· == z)).map fun j => (.val (.int (j : Nat)), env)) q.str) (strsOf ds)) (r.tup env) := rfl
theorem v_gRep_n : gRep (.new (.lst ds)) (.val (.int n)) env = if -1000000 ≤ n ∧ n ≤ 1000 ∧ ds.length ≤ 1000 then some (.new (.lst (List.replicate n.toNat ds).flatten), env) else none := rfl
end
end ML
local macro_rules
  | `(tactic| simp_all_arith! [$ls,*]) => `(tactic| simp_all_arith [ML.v_iAny, ML.v_lockA_s, ML.v_lockA_l, ML.v_lockA_t, ML.v_gInT, ML.v_inT_s, ML.v_gLtA, ML.v_ltD_i, ML.v_ltD_s, ML.v_gReprA, ML.v_eLenSet, ML.v_lenSetD, ML.v_eNotInRg, ML.v_chkT, ML.v_tup_val, ML.v_gTIndex, ML.v_gRep_n, $ls,*])
namespace ML
open PySem PySem.Spec PyProof.Rows L2

end ML

/-! ML28: a truth among numbers: b + 1, b - 1, -b -/
namespace ML
open PySem PySem.Spec PyProof.Rows L2
section
variable {X : Cx} {F : Fr}
end
section
variable {env : En} {i : Int} {b : Bool} {x y : Str}
end
end ML

/-! ML29: sorted(set(xs)), xs texts. -/
namespace HT
open PySem PySem.Spec PyProof.Rows L2
def txOf (z : Int × Value) : Str := match z.2 with
  | .str y _ => y
  | _ => ⟨#[]⟩
def TxE (prog : Program) (w : World) (z : Int × Value) : Prop := ∃ y tk, z.2 = Value.str y tk ∧ z.1 = (strKind prog w).hash y
/-- a set of texts whose order can be told -/
def TxS (prog : Program) (w : World) (hp : Heap) (S : Addr) (M : Str → Bool) (n : Nat) : Prop :=
  ∃ ob zs ep tb, hp.get? S = some ob ∧ ob.ExactSet ∧ ob.data = .set zs ep tb ∧ (∀ z ∈ zs.toList, TxE prog w z) ∧ (zs.toList.map txOf).Nodup ∧ (∀ y, M y = true ↔ y ∈ zs.toList.map txOf) ∧
    zs.size < scanBound ∧ tb.fits zs.size = true ∧ zs.size = n ∧ Ris tb.place.toList ∧ (w.params.followText "set-order" = true ∨ tb.led = true)
section
variable {prog : Program} {w : World} {hp hp' : Heap} {S : Addr} {M : Str → Bool} {n : Nat}
theorem TxS.keep (T : TxS prog w hp S M n) (k : ∀ ob, hp.get? S = some ob → hp'.get? S = some ob) : TxS prog w hp' S M n := by
  obtain ⟨ob, zs, ep, tb, hob, T⟩ := T
  exact ⟨ob, zs, ep, tb, k ob hob, T⟩
end
section
variable {prog : Program} {w : World} {A : Around} {E : Value → Shared → Prop} {s : Shared} {S : Addr} {M : Str → Bool} {n : Nat}
end
/-! ### the loop of set(xs) -/
section
variable {prog : Program} {w : World} {A : Around} {R : Result → Shared → Prop} {I : Addr} {fp wr : List Addr} {G : Array GenState → Array GenState → Prop} {n : Nat} {P : Nat → Value → Prop} {St : Nat → Shared → Prop}
end
/-! ### the texts of a list, each once, in order -/
def leT (a b : Str) : Bool := decide (a.cps.toList ≤ b.cps.toList)
def uniqT : List Str → List Str
  | [] => []
  | x :: l => if x ∈ l then uniqT l else x :: uniqT l
theorem uniqT_mem : ∀ {xs : List Str} {y : Str}, y ∈ uniqT xs ↔ y ∈ xs
  | [], y => by simp [uniqT]
  | x :: l, y => by
    have ih := uniqT_mem (xs := l) (y := y)
    unfold uniqT
    by_cases h : x ∈ l
    · rw [if_pos h, ih, List.mem_cons]
      exact ⟨.inr, fun z => z.elim (fun e => e ▸ h) id⟩
    · rw [if_neg h, List.mem_cons, List.mem_cons, ih]
theorem uniqT_nodup : ∀ {xs : List Str}, (uniqT xs).Nodup
  | [] => List.Pairwise.nil
  | x :: l => by
    unfold uniqT
    by_cases h : x ∈ l
    · rw [if_pos h]; exact uniqT_nodup
    · rw [if_neg h]
      exact List.nodup_cons.mpr ⟨fun z => h (uniqT_mem.mp z), uniqT_nodup⟩
def usortT (xs : List Str) : List Str := (uniqT xs).mergeSort leT
theorem str_ext {a b : Str} (h : a.cps.toList = b.cps.toList) : a = b := by
  cases a; cases b
  simp only [Str.mk.injEq]
  exact Array.toList_inj.mp h
theorem leT_total (a b : Str) : (leT a b || leT b a) = true := by
  unfold leT
  rw [Bool.or_eq_true, decide_eq_true_eq, decide_eq_true_eq]
  exact List.le_total ..
theorem leT_trans (a b c : Str) (h1 : leT a b = true) (h2 : leT b c = true) : leT a c = true := by
  unfold leT at *
  rw [decide_eq_true_eq] at *
  exact List.le_trans h1 h2
theorem leT_anti (a b : Str) (h1 : leT a b = true) (h2 : leT b a = true) : a = b := by
  unfold leT at *
  rw [decide_eq_true_eq] at *
  exact str_ext (List.le_antisymm h1 h2)
theorem sort_perm {as bs : List Str} (h : as.Perm bs) : as.mergeSort leT = bs.mergeSort leT :=
  (((List.mergeSort_perm as leT).trans h).trans (List.mergeSort_perm bs leT).symm).eq_of_pairwise (fun x y _ _ h1 h2 => leT_anti x y h1 h2) (List.pairwise_mergeSort leT_trans leT_total as) (List.pairwise_mergeSort leT_trans leT_total bs)
theorem usort_of {xs ys : List Str} (nd : ys.Nodup) (h : ∀ y, y ∈ ys ↔ y ∈ xs) : ys.mergeSort leT = usortT xs :=
  sort_perm ((List.perm_ext_iff_of_nodup nd uniqT_nodup).mpr fun y => by rw [h, uniqT_mem])
section
variable {prog : Program} {w : World} {A : Around} {E : Value → Shared → Prop} {s : Shared}
end
end HT

/-! ML30: sorted(set(xs)), the word. -/
namespace HT
open PySem PySem.Spec PyProof.Rows L2
section
variable {P : Program} {w : World} {A : Around} {E : Value → Shared → Prop} {s : Shared}
end
end HT
namespace ML
open PySem PySem.Spec PyProof.Rows L2
section
variable {X : Cx} {F : Fr}
end
section
variable {env : En} {r : R} {ds : List D}
end
end ML

/-! ML31: statements that may raise: an exception is its class and its fields. -/
namespace ML
open PySem PySem.Spec PyProof.Rows L2
structure Xv where
  C : Str
  fs : List (Str × D)
def XdR (K : PySem.W.Frag) (G : Hp) (vs : List (Str × V)) (fs : List (Str × D)) : Prop := Paired (fun p q => p.1 = q.1 ∧ Dp K G p.2 q.2) vs fs
inductive Fx where
  | ok (fl : Fl) | ex (x : Xv)
inductive Rx where
  | ok (r : R) | ex (x : Xv)
abbrev FSx := En → Option (Fx × En)
abbrev FEx := En → Option (Rx × En)
abbrev Fnx := List B → Option (Rx × List B)
/-- what is wished of an exception, by its class's name -/
abbrev WN := Str → Option Addr → St → Hp → Prop
def XOk (F : Fr) (W : WN) (ops : Ops) (G : Hp) (x : Xv) (env' : En) : Prop := ∀ σ' G' H' d vs, Same G G' → RepS F env' ops G' σ' H' → H' d = some (.xd vs) → F.H0 d = none → XdR F.K G' vs x.fs → W x.C (some d) σ' H'
theorem XOk.mono {F : Fr} {W : WN} {ops : Ops} {G G1 : Hp} {x : Xv} {env' : En} (h : XOk F W ops G x env') (s : Same G G1) : XOk F W ops G1 x env' := fun σ' G' H' d vs s' => h σ' G' H' d vs (s.trans s')
def FxOk (F : Fr) (W : WN) (D : Ends) (ops : Ops) (G : Hp) (o : Fx) (env' : En) : Prop := match o with
  | .ok fl => FlOk F D ops G fl env'
  | .ex x => XOk F W ops G x env'
theorem FxOk.mono {F : Fr} {W : WN} {D : Ends} {ops : Ops} {G G1 : Hp} {o : Fx} {env' : En} (h : FxOk F W D ops G o env') (s : Same G G1) : FxOk F W D ops G1 o env' := by
  cases o with
  | ok fl => exact FlOk.mono h s
  | ex x => exact XOk.mono h s
def up (f : FS) : FSx := fun env => (f env).map fun p => (.ok p.1, p.2)
section
variable {X : Cx} {F : Fr} {W : WN} {pos : Pos} {e : Expr} {es : List Expr} {st : Stmt} {rest : List Stmt} {f g : FSx}
def xSeq (f g : FSx) : FSx := fun env => (f env).bind fun p => match p.1 with
  | .ok .nx => g p.2
  | o => some (o, p.2)
def xIf (t : FT) (f g : FSx) : FSx := fun env => (t env).bind fun p => if p.1 = true then f p.2 else g p.2
/-- a call that may raise, as a statement -/
def xExpr (f : FEx) : FSx := fun env => (f env).map fun p => (match p.1 with | .ok _ => .ok .nx | .ex x => .ex x, p.2)
def upE (f : FE) : FEx := fun env => (f env).map fun p => (.ok p.1, p.2)
/-- return of what may raise -/
def xRet (np : Nat) (f : FEx) : FSx := fun env => (f env).bind fun p => match p.1 with
  | .ok (.val d) => some (.ok (.rt (.val d)), p.2)
  | .ok (.new o) => some (.ok (.rt (.new o)), p.2)
  | .ex x => some (.ex x, p.2)
  | _ => none
end
/-! ### for -/
def loopX (step : D → FSx) : List D → FSx
  | [], env => some (.ok .nx, env)
  | d :: ds, env => (step d env).bind fun p => match p.1 with
    | .ok .nx => loopX step ds p.2
    | .ok .ct => loopX step ds p.2
    | .ok .bk => some (.ok .nx, p.2)
    | .ok (.rt r) => some (.ok (.rt r), p.2)
    | .ex x => some (.ex x, p.2)
section
variable {X : Cx} {F : Fr} {W : WN} {pos : Pos}
end
/-! ### defs -/
def finX (o : Fx) : Option Rx := match o with
  | .ok (.rt r) => if r.out = true then some (.ok r) else none
  | .ok .nx => some (.ok (.val .none))
  | .ex x => some (.ex x)
  | _ => none
def fnBodyX (np n : Nat) (body : FSx) : Fnx := fun bs => (body (bs.map some ++ List.replicate (n - np) none)).bind fun p => (finX p.1).bind fun r => (allSome (p.2.take np)).map fun bs' => (r, bs')
section
variable {P : Program} {w : World} {K : PySem.W.Frag} {mg : Str → Option Value} {base : Heap}
end
section
variable {X : Cx} {F : Fr} {W : WN} {x : Str} {p pos : Pos} {e : Expr} {es : List Expr} {n k : Nat} {f : Fnx} {fa : Addr} {fd : FuncData} {pars : List Str}
def xCall (n : Nat) (f : Fnx) (fa : FA) : FEx := fun env => (fa env).bind fun p => (argsB p.1 p.2).bind fun bs => if (borIx p.1).Nodup ∧ bs.length = n then (f bs).bind fun q => some (q.1, putBack p.1 q.2 p.2) else none
end
end ML

/-! ML32: raise, try, the suite of an except clause. -/
namespace ML
open PySem PySem.Spec PyProof.Rows L2
/-! ### lists and tuples whose last thing may raise -/
inductive Ax where
  | ok (rs : List R) | ex (x : Xv)
abbrev FAx := En → Option (Ax × En)
def aLastX (f : FEx) : FAx := fun env => (f env).map fun p => (match p.1 with | .ok r => .ok [r] | .ex x => .ex x, p.2)
def aConsX (f : FE) (g : FAx) : FAx := fun env => (f env).bind fun p => (g p.2).map fun q => (match q.1 with | .ok rs => .ok (p.1 :: rs) | .ex x => .ex x, q.2)
def eTupX (f : FAx) : FEx := fun env => (f env).bind fun p => match p.1 with
  | .ok rs => (keepAll rs p.2).bind fun q => if q.1.length ≤ sizeLine then some (.ok (.val (.tuple q.1)), q.2) else none
  | .ex x => some (.ex x, p.2)
section
variable {X : Cx} {F : Fr} {W : WN} {pos : Pos} {e : Expr} {es : List Expr}
end
/-! ### the __init__ of an own exception class -/
/-- what the __init__ of the class at C does: its arguments become its fields of these names -/
def spInit (K : PySem.W.Frag) (C : Addr) (ns : List Str) : Sp := fun vs H Q E => ∃ a ws, vs = .ref a :: ws ∧ ws.length = ns.length ∧ H a = some (exo a C none) ∧ ∀ dx H', H dx = none → dx ≠ a → H' a = some (exo a C (some dx)) → H' dx = some (exd dx (ns.zip ws).reverse) → (∀ b, b ≠ a → b ≠ dx → H' b = H b) → Q .non H'
def ixs (ns : List Str) : List (Str × Nat) := ns.zip ((List.range ns.length).map (· + 1))
theorem ixs_pair {σ : St} : ∀ (ns : List Str) (ws : List V) (k : Nat), ws.length = ns.length → (∀ i v, ws[i]? = some v → σ[k + i]? = some (some v)) → Paired (fun (p : Str × Nat) w => σ[p.2]? = some (some w)) (ns.zip ((List.range ns.length).map (· + k))) ws
  | [], [], _, _, _ => .nil
  | n :: ns, w :: ws, k, hl, h => by
    rw [List.length_cons, List.range_succ_eq_map, List.map_cons, List.zip_cons_cons]
    refine .cons (by have := h 0 w rfl; simpa using this) ?_
    have e : (List.map (· + k) (List.map Nat.succ (List.range ns.length))) = (List.range ns.length).map (· + (k + 1)) := by
      rw [List.map_map]; congr 1; funext j; simp; omega
    rw [e]
    exact ixs_pair ns ws (k + 1) (by simpa using hl) fun i v hv => by
      have := h (i + 1) v (by simpa using hv)
      rwa [show k + 1 + i = k + (i + 1) by omega]
  | [], _ :: _, _, hl, _ => by simp at hl
  | _ :: _, [], _, hl, _ => by simp at hl
/-! ### raise -/
def xRaise (C : Str) (ns : List Str) (fa : FA) : FSx := fun env => (fa env).bind fun p => (keepAll p.1 p.2).bind fun q => if q.1.length = ns.length then some (.ex ⟨C, (ns.zip q.1).reverse⟩, q.2) else none
/-! ### try -/
section
variable {F : Fr} {env : En} {ops : Ops} {G G1 H : Hp} {σ : St} {dd a : Addr} {vs : List (Str × V)}
end
end ML

/-! ML33: try, what the suite of an except clause asks of the exception; a def that lets none out. -/
namespace ML
open PySem PySem.Spec PyProof.Rows L2
def slotFree (n : Nat) (env : En) : Bool := match env[n]? with | some none => true | _ => false
def flOwn : Fl → Bool
  | .rt (.bor _) => false
  | .rt (.lkd _ _) => false
  | _ => true
/-- try: f, except c as n: g (tbl: is it c's, by the class's name) -/
def xTry (tbl : List (Str × Bool)) (n : Nat) (f : FSx) (g : Xv → FS) : FSx := fun env => (f env).bind fun p => match p.1 with
  | .ok fl => some (.ok fl, p.2)
  | .ex x => (tbl.lookup x.C).bind fun b => if b = true then (if slotFree n p.2 = true then (g x p.2).bind fun q => if slotFree n q.2 && flOwn q.1 then some (.ok q.1, q.2) else none else none) else some (.ex x, p.2)
/-! ### in the suite -/
section
variable {X : Cx} {F : Fr} {a dd : Addr} {oe : Obj} {cls : Value} {vs : List (Str × V)} {G1 : Hp} {y : Xv} {pn : List (Addr × Obj)} {k : Nat} {n : Str} {p q pos : Pos}
def fIsX (tbl : List (Str × Bool)) (y : Xv) : FT := fun env => (tbl.lookup y.C).map fun b => (b, env)
end
/-! ### a def that lets none out -/
end ML

/-! ML34: what the written part says of own exception classes. -/
namespace ML
open PySem PySem.Spec PyProof.Rows L2
/-- a statement of a class's text -/
def clsStmt (s : Stmt) (j : Nat) : Stmt := match s with
  | .ClassDef _ _ _ b _ _ _ _ _ _ _ => b.getD j (.Pass ⟨0, 0, 0, 0⟩)
  | s => s
section
variable {K : PySem.W.Frag} {mg : Str → Option Value}
theorem kit_ty {D : Addr} {T : String} {b : Bool} (h1 : PySem.W.kitMeta T = true) (h3 : PySem.W.subIn K (.ref D) (.type T) = some b) : PySem.W.kitOne K (.ref D) (.type T) = some b := by
  unfold PySem.W.kitOne
  rw [if_neg (by simp)]
  unfold PySem.W.kitCls
  dsimp only
  rw [if_pos h1]
  exact h3
theorem fields_nil {C : Addr} : ∀ n ∈ ([] : List Str), PySem.W.findIn K (.ref C) n = some none := fun n h => by cases h
theorem fields_cons {C : Addr} {f : Str} {ns : List Str} (h : PySem.W.findIn K (.ref C) f = some none) (r : ∀ n ∈ ns, PySem.W.findIn K (.ref C) n = some none) : ∀ n ∈ f :: ns, PySem.W.findIn K (.ref C) n = some none := fun n hm => by
  rcases List.mem_cons.mp hm with rfl | hm
  · exact h
  · exact r n hm
end
end ML

/-! ML35: words that may raise, evaluated. -/
namespace ML
open PySem PySem.Spec PyProof.Rows L2
section
variable {env : En} {f g : FSx} {t : FT} {r : R} {d : D} {o : O} {x : Xv} {e : FE} {a : FA}
def xSeqK (g : FSx) : Fx × En → Option (Fx × En)
  | (.ok .nx, e) => g e
  | (o, e) => some (o, e)
theorem v_xSeq : xSeq f g env = (f env).bind (xSeqK g) := by
  unfold xSeq
  congr 1
  funext p
  obtain ⟨o, b⟩ := p
  cases o with
  | ex x => rfl
  | ok fl => cases fl <;> rfl
theorem v_xSeqK_nx : xSeqK g (.ok .nx, env) = g env := rfl
theorem v_xSeqK_rt : xSeqK g (.ok (.rt r), env) = some (.ok (.rt r), env) := rfl
theorem v_xSeqK_ex : xSeqK g (.ex x, env) = some (.ex x, env) := rfl
theorem v_xIf : xIf t f g env = (bnd (fun p => if p.1 = true then f p.2 else g p.2) (t env)) := rfl
theorem v_up {h : FS} : up h env = (h env).map fun p => (.ok p.1, p.2) := rfl
theorem v_upE {h : FE} : upE h env = (h env).map fun p => (.ok p.1, p.2) := rfl
def xExK : Rx × En → Fx × En
  | (.ok _, e) => (.ok .nx, e)
  | (.ex x, e) => (.ex x, e)
theorem v_xExpr {h : FEx} : xExpr h env = (h env).map xExK := by
  unfold xExpr
  congr 1
  funext p
  obtain ⟨o, b⟩ := p
  cases o <;> rfl
theorem v_xExK_ok : xExK (.ok r, env) = (.ok .nx, env) := rfl
theorem v_xExK_ex : xExK (.ex x, env) = (.ex x, env) := rfl
def xRetK : Rx × En → Option (Fx × En)
  | (.ok (.val d), e) => some (.ok (.rt (.val d)), e)
  | (.ok (.new o), e) => some (.ok (.rt (.new o)), e)
  | (.ex x, e) => some (.ex x, e)
  | _ => none
theorem v_xRet {np : Nat} {h : FEx} : xRet np h env = (h env).bind xRetK := by
  unfold xRet
  congr 1
  funext p
  obtain ⟨o, b⟩ := p
  cases o with
  | ex x => rfl
  | ok r => cases r <;> rfl
theorem v_xRetK_v : xRetK (.ok (.val d), env) = some (.ok (.rt (.val d)), env) := rfl
theorem v_xRetK_n : xRetK (.ok (.new o), env) = some (.ok (.rt (.new o)), env) := rfl
theorem v_xRetK_x : xRetK (.ex x, env) = some (.ex x, env) := rfl
theorem v_xCall {n : Nat} {h : Fnx} : xCall n h a env = (bnd (fun p => (bnd (fun bs => if (borIx p.1).Nodup ∧ bs.length = n then (bnd (fun q => some (q.1, putBack p.1 q.2 p.2)) (h bs)) else none) (argsB p.1 p.2))) (a env)) := rfl
theorem v_xRaise {C : Str} {ns : List Str} : xRaise C ns a env = (bnd (fun p => (bnd (fun q => if q.1.length = ns.length then some (.ex ⟨C, (ns.zip q.1).reverse⟩, q.2) else none) (keepAll p.1 p.2))) (a env)) := rfl
def aLastK : Rx × En → Ax × En
  | (.ok r, e) => (.ok [r], e)
  | (.ex x, e) => (.ex x, e)
theorem v_aLastX {h : FEx} : aLastX h env = (h env).map aLastK := by
  unfold aLastX
  congr 1
  funext p
  obtain ⟨o, b⟩ := p
  cases o <;> rfl
theorem v_aLastK_ok : aLastK (.ok r, env) = (.ok [r], env) := rfl
theorem v_aLastK_ex : aLastK (.ex x, env) = (.ex x, env) := rfl
def aConsK (r : R) : Ax × En → Ax × En
  | (.ok rs, e) => (.ok (r :: rs), e)
  | (.ex x, e) => (.ex x, e)
theorem v_aConsX {h : FAx} : aConsX e h env = (bnd (fun p => (h p.2).map (aConsK p.1)) (e env)) := by
  unfold aConsX bnd
  congr 1
  funext p
  congr 1
  funext q
  obtain ⟨o, b⟩ := q
  cases o <;> rfl
theorem v_aConsK_ok {rs : List R} : aConsK r (.ok rs, env) = (.ok (r :: rs), env) := rfl
theorem v_aConsK_ex : aConsK r (.ex x, env) = (.ex x, env) := rfl
def eTupK : Ax × En → Option (Rx × En)
  | (.ok rs, e) => (bnd (fun q => if q.1.length ≤ sizeLine then some (.ok (.val (.tuple q.1)), q.2) else none) (keepAll rs e))
  | (.ex x, e) => some (.ex x, e)
theorem v_eTupX {h : FAx} : eTupX h env = (h env).bind eTupK := by
  unfold eTupX
  congr 1
  funext p
  obtain ⟨o, b⟩ := p
  cases o <;> rfl
theorem v_eTupK_ok {rs : List R} : eTupK (.ok rs, env) = (bnd (fun q => if q.1.length ≤ sizeLine then some (.ok (.val (.tuple q.1)), q.2) else none) (keepAll rs env)) := rfl
theorem v_eTupK_ex : eTupK (.ex x, env) = some (.ex x, env) := rfl
theorem v_fnBodyX {np k : Nat} {body : FSx} {bs : List B} : fnBodyX np k body bs = (bnd (fun p => (bnd (fun r => (allSome (p.2.take np)).map fun bs' => (r, bs')) (finX p.1))) (body (bs.map some ++ List.replicate (k - np) none))) := rfl
theorem v_finX_nx : finX (.ok .nx) = some (.ok (.val .none)) := rfl
theorem v_finX_val : finX (.ok (.rt (.val d))) = some (.ok (.val d)) := rfl
theorem v_finX_new : finX (.ok (.rt (.new o))) = some (.ok (.new o)) := rfl
theorem v_finX_ex : finX (.ex x) = some (.ex x) := rfl
def tryK (tbl : List (Str × Bool)) (n : Nat) (g : Xv → FS) : Fx × En → Option (Fx × En)
  | (.ok fl, e) => some (.ok fl, e)
  | (.ex x, e) => (bnd (fun b => if b = true then (if slotFree n e = true then (bnd (fun q => if slotFree n q.2 && flOwn q.1 then some (.ok q.1, q.2) else none) (g x e)) else none) else some (.ex x, e)) (tbl.lookup x.C))
theorem v_xTry {tbl : List (Str × Bool)} {n : Nat} {h : Xv → FS} : xTry tbl n f h env = (f env).bind (tryK tbl n h) := by
  unfold xTry
  congr 1
  funext p
  obtain ⟨o, b⟩ := p
  cases o <;> rfl
theorem v_tryK_ok {tbl : List (Str × Bool)} {n : Nat} {h : Xv → FS} {fl : Fl} : tryK tbl n h (.ok fl, env) = some (.ok fl, env) := rfl
theorem v_tryK_ex {tbl : List (Str × Bool)} {n : Nat} {h : Xv → FS} : tryK tbl n h (.ex x, env) = (bnd (fun b => if b = true then (if slotFree n env = true then (bnd (fun q => if slotFree n q.2 && flOwn q.1 then some (.ok q.1, q.2) else none) (h x env)) else none) else some (.ex x, env)) (tbl.lookup x.C)) := rfl
theorem v_fIsX {tbl : List (Str × Bool)} : fIsX tbl x env = (tbl.lookup x.C).map fun b => (b, env) := rfl
theorem v_lkHit {α : Type} {n : Str} {b : α} {l : List (Str × α)} : List.lookup n ((n, b) :: l) = some b := by rw [List.lookup_cons, beq_self_eq_true]
theorem v_loopX_nil {step : D → FSx} : loopX step [] env = some (.ok .nx, env) := rfl
def loopK (step : D → FSx) (ds : List D) : Fx × En → Option (Fx × En)
  | (.ok .nx, e) => loopX step ds e
  | (.ok .ct, e) => loopX step ds e
  | (.ok .bk, e) => some (.ok .nx, e)
  | (.ok (.rt r), e) => some (.ok (.rt r), e)
  | (.ex x, e) => some (.ex x, e)
theorem v_loopX_cons {step : D → FSx} {ds : List D} : loopX step (d :: ds) env = (step d env).bind (loopK step ds) := by
  show (step d env).bind _ = _
  congr 1
  funext p
  obtain ⟨o, b⟩ := p
  cases o with
  | ex x => rfl
  | ok fl => cases fl <;> rfl
theorem v_loopK_nx {step : D → FSx} {ds : List D} : loopK step ds (.ok .nx, env) = loopX step ds env := rfl
theorem v_loopK_ex {step : D → FSx} {ds : List D} : loopK step ds (.ex x, env) = some (.ex x, env) := rfl
theorem v_loopK_rt {step : D → FSx} {ds : List D} : loopK step ds (.ok (.rt r), env) = some (.ok (.rt r), env) := rfl
end
def loopLK (step : D → FS) (ds : List D) : Fl × En → Option (Fl × En)
  | (.nx, e) => loopL step ds e
  | (.ct, e) => loopL step ds e
  | (.bk, e) => some (.nx, e)
  | (.rt r, e) => some (.rt r, e)
theorem v_loopL_cons {step : D → FS} {d : D} {ds : List D} {env : En} : loopL step (d :: ds) env = (step d env).bind (loopLK step ds) := by
  show (step d env).bind _ = _
  congr 1
  funext p
  obtain ⟨fl, b⟩ := p
  cases fl <;> rfl
theorem sFor_run {np : Nat} {fi : FI} {t : Tg} {body : FS} {env env1 env2 : En} {ds : List D} {o : Fl} (hi : fi env = some ((ds, none), env1)) (hl : loopL (fun d e => (setT np t d e).bind body) ds env1 = some (o, env2)) : sFor np fi t body env = some (o, env2) := by
  unfold sFor
  rw [hi, Option.bind_some, hl]
  cases o <;> rfl

end ML

/-! ML36: a test that may raise. -/
namespace ML
open PySem PySem.Spec PyProof.Rows L2
section
variable {X : Cx} {F : Fr} {W : WN} {pos : Pos} {a b c : Expr} {f g : FSx}
end
/-! ### evaluated -/
section
variable {env : En} {f g : FSx} {x : Xv}
end
end ML

/-! ML37: tuples and tables of defs that stand in the module; a def picked from a table and called; d.get(k). -/
namespace ML
open PySem PySem.Spec PyProof.Rows L2
/-! ### a tuple of the module -/
def litB : Value → D → Bool
  | .str x _, .str y => x == y
  | .int i _, .int j => i == j
  | _, _ => false
def litsB : List Value → List D → Bool
  | [], [] => true
  | v :: vs, d :: ds => litB v d && litsB vs ds
  | _, _ => false
theorem litB_of {K : PySem.W.Frag} {G : Hp} {u : Value} {d : D} (h : litB u d = true) : ∃ v, RelV v u ∧ Dp K G v d := by
  unfold litB at h
  split at h
  · rename_i x t y
    have : x = y := by simpa using h
    subst this
    exact ⟨.str x, ⟨t, rfl⟩, .str x⟩
  · rename_i i t j
    have : i = j := by simpa using h
    subst this
    exact ⟨.int i, ⟨t, rfl⟩, .int i⟩
  · cases h
theorem litsB_of {K : PySem.W.Frag} {G : Hp} : ∀ {us : List Value} {ds : List D}, litsB us ds = true → ∃ vs, Vals vs us ∧ DpAll K G vs ds
  | [], [], _ => ⟨[], .nil, .nil⟩
  | u :: us, d :: ds, h => by
    unfold litsB at h
    rw [Bool.and_eq_true] at h
    obtain ⟨v, h1, h2⟩ := litB_of (K := K) (G := G) h.1
    obtain ⟨vs, h3, h4⟩ := litsB_of (K := K) (G := G) h.2
    exact ⟨v :: vs, .cons h1 h3, .cons h2 h4⟩
  | [], _ :: _, h => by cases h
  | _ :: _, [], h => by cases h
/-- x is a tuple of the module -/
def GTup (K : PySem.W.Frag) (mg : Str → Option Value) (x : Str) (ds : List D) : Prop := ∃ a, mg x = some (.ref a) ∧ ∀ G, Dp K G (.ref a) (.tuple ds)
def tupB (o : Obj) (ds : List D) : Bool := match o with
  | ⟨.type "tuple", _, .seq its _, _⟩ => decide (its.size ≤ sizeLine) && litsB its.toList ds
  | _ => false
theorem gTup_of {K : PySem.W.Frag} {mg : Str → Option Value} {x : Str} {ds : List D} {a : Addr} {o : Obj} (h : mg x = some (.ref a)) (l : K.lookup a = some o) (t : tupB o ds = true) : GTup K mg x ds := by
  refine ⟨a, h, fun G => ?_⟩
  unfold tupB at t
  split at t
  · rename_i od its n sl
    rw [Bool.and_eq_true] at t
    obtain ⟨vs, h1, h2⟩ := litsB_of (K := K) (G := G) t.2
    exact .tup (.inr ⟨_, its, n, l, rfl, rfl, of_decide_eq_true t.1, h1⟩) h2
  · cases t
section
variable {X : Cx} {F : Fr} {pos : Pos}
theorem me_gtup {x : Str} {ds : List D} (c : GTup F.K X.mg x ds) (hg : Gl X x) (hd : (x == ("__debug__" : Str)) = false := by decide) : PE X (.Name x pos) (tE F (eK (.tuple ds))) := by
  obtain ⟨a, h1, h2⟩ := c
  exact me_k (pe_glob (v := .ref a) hg h1 (show RelV (.ref a) (.ref a) from rfl) hd) h2
end
/-! ### a table of defs -/
section
variable {X : Cx} {F : Fr} {pos p : Pos} {e : Expr} {x : Str} {tbl : List (Str × Addr)} {ns : List Str} {f : FE}
end
section
variable {X : Cx} {F : Fr} {pos p : Pos} {e : Expr} {x : Str} {tbl : List (Str × Addr)} {ns : List Str} {f : FE}
end
/-! ### f = TAB[k]; return f(..) -/
/-- what the defs of a table do -/
def DTab (P : Program) (w : World) (K : PySem.W.Frag) (mg : Str → Option Value) (base : Heap) (m n : Nat) (tbl : List (Str × Addr)) (tf : List (Str × Fn)) (T : List (Addr × Str) := []) : Prop := ∀ z f, tf.lookup z = some f → ∃ a k fd ps, tbl.lookup z = some a ∧ k ≤ m ∧ FnG P w K mg base k a fd ps (spF K w n f T) ∧ PySem.W.keepIn K (.ref a) = true ∧ Binds K fd ps []
theorem DTab.nil {T : List (Addr × Str)} {P : Program} {w : World} {K : PySem.W.Frag} {mg : Str → Option Value} {base : Heap} {m n : Nat} : DTab P w K mg base m n [] [] T := fun z f h => by cases h
theorem DTab.cons {T : List (Addr × Str)} {P : Program} {w : World} {K : PySem.W.Frag} {mg : Str → Option Value} {base : Heap} {m n k : Nat} {x : Str} {a : Addr} {f : Fn} {fd : FuncData} {ps : List Str} {tbl : List (Str × Addr)} {tf : List (Str × Fn)} (h : FnG P w K mg base k a fd ps (spF K w n f T)) (hk : k ≤ m) (kp : PySem.W.keepIn K (.ref a) = true) (b : Binds K fd ps []) (r : DTab P w K mg base m n tbl tf T) : DTab P w K mg base m n ((x, a) :: tbl) ((x, f) :: tf) T := fun z g hl => by
  rw [List.lookup_cons] at hl ⊢
  cases e : z == x with
  | true =>
    rw [e] at hl
    cases hl
    exact ⟨a, k, fd, ps, rfl, hk, h, kp, b⟩
  | false =>
    rw [e] at hl
    exact r z g hl
section
variable {X : Cx} {F : Fr} {pos : Pos} {e : Expr} {es : List Expr}
end
/-! ### d.get(k) -/
end ML

/-! ML38: zip of a text and a tuple. -/
namespace ML
open PySem PySem.Spec PyProof.Rows L2
section
end
end ML

/-! ML39: for .. in zip(text, tuple). -/
namespace ML
open PySem PySem.Spec PyProof.Rows L2
section
variable {prog : Program} {w : World} {A : Around} {E : Value → Shared → Prop} {s : Shared}
end
/-! ### in our words -/
section
variable {X : Cx} {F : Fr} {pos : Pos}
end
end ML

/-! ML40: the new words, evaluated. -/
namespace ML
open PySem PySem.Spec PyProof.Rows L2
section
variable {env : En} {f g : FE} {d : D} {o : O}
end
end ML

/-! ML41: repr of whatever bears no dict and can be shown: its text is short by its weight alone. -/
namespace ML
open PySem PySem.Spec PyProof.Rows L2
section
open StrLaws
theorem shown_int (i : Int) : (PyData.shown (.int i)).length ≤ PyData.weight (.int i) + 2 := by
  have h : i.natAbs < 10 ^ (PyData.weight (.int i) + 1) := by
    have a : i.natAbs < 2 ^ PyData.weight (.int i) := by
      simp only [PyData.weight]
      by_cases h : i = 0
      · subst h; decide
      · have h2 : i.natAbs ≠ 0 := by omega
        have h3 : (i == 0) = false := by simpa using h
        rw [h3]
        exact Nat.lt_log2_self
    have b : (2 : Nat) ^ PyData.weight (.int i) ≤ 10 ^ PyData.weight (.int i) := Nat.pow_le_pow_left (by decide) _
    rw [Nat.pow_succ]
    omega
  have e := int_text_length_le10 (by omega) h
  show (Str.ofString (toString i)).length ≤ _
  rw [PySem.ofString_length]
  omega
mutual
theorem shown_wt : ∀ d : PyData, d.canLay0 = true → d.shown.length ≤ 10 * d.weight + 8
  | .none, _ => by
    have e : (PyData.shown .none).length = 4 := rfl
    omega
  | .bool b, _ => by
    have e : (PyData.shown (.bool b)).length ≤ 5 := by cases b <;> decide
    omega
  | .int i, h => by
    have := shown_int i
    omega
  | .str x, h => PyData.shown_le 8 (by decide) (.str x) (PyData.leavesShort_of_canLay0 8 (.str x) h (by simp [PyData.intsShort]))
  | .list xs, h => by
    have h1 := shownAll_wt xs (by simpa only [PyData.canLay0] using h)
    have h2 := listText_len_le (PyData.shownAll xs)
    have h3 := PyData.shownAll_length xs
    simp only [PyData.shown, PyData.weight]
    omega
  | .tuple xs, h => by
    have h1 := shownAll_wt xs (by simpa only [PyData.canLay0] using h)
    have h2 := tupleText_len_le (PyData.shownAll xs)
    have h3 := PyData.shownAll_length xs
    simp only [PyData.shown, PyData.weight]
    omega
  | .dict kvs, h => by simp [PyData.canLay0] at h
theorem shownAll_wt : ∀ xs : List PyData, PyData.canLayAll0 xs = true → ((PyData.shownAll xs).map (·.length)).sum + 2 * xs.length ≤ 10 * PyData.weightAll xs
  | [], _ => by simp only [PyData.shownAll, PyData.weightAll, List.map_nil, List.sum_nil, List.length_nil]; omega
  | x :: xs, h => by
    have h' : x.canLay0 = true ∧ PyData.canLayAll0 xs = true := by simpa only [PyData.canLayAll0, Bool.and_eq_true] using h
    have h1 := shown_wt x h'.1
    have h2 := shownAll_wt xs h'.2
    simp only [PyData.shownAll, PyData.weightAll, List.map_cons, List.sum_cons, List.length_cons]
    omega
end
end
def reprOkC (d : D) : Bool := PyData.layable0 d && PyData.showable d
theorem reprOkC_of {d : D} (h : reprOkC d = true) : PyData.layable0 d = true ∧ PyData.showable d = true ∧ d.shown.length ≤ sizeLine := by
  unfold reprOkC at h
  rw [Bool.and_eq_true] at h
  obtain ⟨h1, h3⟩ := h
  have hl := h1
  unfold PyData.layable0 at h1
  rw [Bool.and_eq_true, Bool.and_eq_true] at h1
  have hw := of_decide_eq_true h1.2
  have := shown_wt d h1.1.1
  refine ⟨hl, h3, ?_⟩
  have e : (2 : Nat) ^ 20 = 1048576 := by decide
  rw [sizeLine_eq]
  omega
section
variable {X : Cx} {F : Fr}
def rReprC (K : PySem.W.Frag) : List V → Hp → VK → Prop := fun xs H Q => ∃ v d, xs = [v] ∧ Dp K H v d ∧ reprOkC d = true ∧ Q (.str d.shown) H
theorem call_reprC' (hg : X.A.guards = some []) (hu : X.A.units + 65 < cLine) : CallR X (.builtin "repr") (rReprC X.K) := by
  intro pins s σ H xs us Q I r h
  obtain ⟨v, d, rfl, hd, ok, k⟩ := h
  obtain ⟨u, rfl, rv⟩ := vals1 r
  obtain ⟨ok1, ok3, short⟩ := reprOkC_of ok
  obtain ⟨as, rd⟩ := Dp.reads I d v u hd rv
  have ref : ∀ a, u = .ref a → wpAny (model X.prog X.w) X.A (call (.builtin "repr") [u]) (EP X pins σ Q) X.xe s := fun a ea => by
    subst ea
    exact repr_of_reads' rd ok3 (PyData.noDict_hsm (PyData.hasDict_of_layable ok1)) hg (room_of_layable ok1 hu) (fun _ _ z => z) (fun h' t tk hk => ⟨.str d.shown, H, I.kept hk, ⟨_, rfl⟩, k⟩) short
  cases hd with
  | non =>
    obtain rfl : u = Value.none := rv
    exact PySem.P.repr_of_none ⟨.str _, H, I.tok _, ⟨_, rfl⟩, k⟩
  | bl b =>
    obtain rfl : u = Value.bool b := rv
    exact PySem.P.repr_of_bool ⟨.str _, H, I.tok _, ⟨_, rfl⟩, k⟩
  | int i =>
    obtain ⟨t, rfl⟩ := (show ∃ t, u = Value.int i t from rv)
    exact PySem.P.repr_of_int (of_decide_eq_true (by simpa [PyData.showable] using ok3)) ⟨.str _, H, I.tok _, ⟨_, rfl⟩, k⟩
  | str x =>
    obtain ⟨t, rfl⟩ := (show ∃ t, u = Value.str x t from rv)
    exact PySem.P.repr_of_str ⟨.str _, H, I.tok _, ⟨_, rfl⟩, k⟩ short
  | lst hs _ => exact ref _ rv
  | tup hs _ => exact ref _ rv
def gReprC : GN := n1 fun r env => (r.dat env).bind fun d => if (reprOk d || reprOkC d) = true then some (.val (.str d.shown), env) else none
theorem v_gReprC {r : R} {env : En} : gReprC [r] env = bnd (fun d => if (reprOk d || reprOkC d) = true then some (.val (.str d.shown), env) else none) (r.dat env) := rfl
theorem s_reprC : SN F (fun xs H Q => rReprD F.K xs H Q ∨ rReprC F.K xs H Q) gReprC := sn1 fun env ops x ra G σ H r env' Q I e k => by
  obtain ⟨d, h1, e⟩ := bind_some e
  split at e
  case isFalse => cases e
  rename_i ok
  cases e
  rw [Bool.or_eq_true] at ok
  have hd := I.dat (r := ra) (v := x) (by simp) h1
  exact ok.imp (fun ok => ⟨x, d, rfl, hd, ok, I.retV k (.str _)⟩) fun ok => ⟨x, d, rfl, hd, ok, I.retV k (.str _)⟩
theorem call_reprC (hg : X.A.guards = some []) (hu : X.A.units + 65 < cLine) : CallR X (.builtin "repr") (fun xs H Q => rReprD X.K xs H Q ∨ rReprC X.K xs H Q) := (call_reprD hg hu).or (call_reprC' hg hu)
end
end ML

set_option maxHeartbeats 4000000
/-! ML42: tuple * int. -/
namespace ML
open PySem PySem.Spec PyProof.Rows L2
section
variable {X : Cx}
end
section
variable {X : Cx} {F : Fr}
end
end ML

/-! ML43: a lambda with one parameter, as the key of max. -/
namespace ML
open PySem PySem.Spec PyProof.Rows L2
section
variable {X : Cx} {pins : List (Addr × Obj)} {σ : St} {H : Hp} {s : Shared}
/-- all but the tables as they were, and what was there is there -/
structure Wider (H H' : Hp) : Prop where
  ext : LamX.ExtN H H'
  got : ∀ b, H b ≠ none → H' b ≠ none
theorem Wider.refl (H : Hp) : Wider H H := ⟨LamX.ExtN.refl H, fun _ z => z⟩
end
/-! ### the lambda's own names: one parameter, captured ones, globals -/
section
variable {X : Cx} {pins : List (Addr × Obj)} {σ : St} {H : Hp} {s : Shared}
end
/-! ### a list walked, its items told by what they are -/
section
variable {X : Cx} {pins : List (Addr × Obj)} {σ : St} {H : Hp} {s : Shared}
end
/-! ### the same in the layer -/
theorem Wider.same {H H' : Hp} (w : Wider H H') {a : Addr} (h : ∃ o, H a = some o ∧ ∀ ps, o ≠ .tbl ps) : H' a = H a := by
  obtain ⟨o, e, n⟩ := h
  rw [e]; exact w.ext a o e n
/-! ### a def whose code object is known -/
section
variable {P : Program} {w : World} {K : PySem.W.Frag} {mg : Str → Option Value} {base : Heap}
end
/-! ### a law's own end, with tables -/
end ML

/-! ML44: a dict of one's own walked by its keys: it is locked meanwhile. -/
namespace ML
open PySem PySem.Spec PyProof.Rows L2
/-! ### the dict is frozen, and thawed again -/
section
variable {K : PySem.W.Frag} {G : Hp} {d : Addr} {q : Obj} {ws : List (Key × V)}
end
section
variable {F : Fr} {env env' : En} {ops ps : Ops} {G G' H H' : Hp} {σ : St} {v : V} {r : R} {i : Nat} {kvs : List (Key × D)} {d : Addr} {q : Obj} {ws : List (Key × V)}
end
/-! ### a statement runs while a dict is frozen -/
section
variable {X : Cx} {F : Fr}
/-! ### the keys -/
/-! ### for x in d -/
end
end ML

/-! ML45: the plain side of a dict walked. -/
namespace ML
open PySem PySem.Spec PyProof.Rows L2
end ML

/-! ML46: t.index(i) of a tuple of ints; len of a set of ints. -/
namespace ML
open PySem PySem.Spec PyProof.Rows L2
section
variable {X : Cx} {F : Fr}
/-! ### len of a set of ints -/
end
end ML

/-! ML47: list.extend by a tuple. -/
namespace ML
open PySem PySem.Spec PyProof.Rows L2
section
variable {X : Cx} {F : Fr}
end
end ML

/-! ML48: a lambda without parameters handed to a def that calls it, in a try or not. -/
namespace ML
open PySem PySem.Spec PyProof.Rows L2
section
variable {X : Cx} {pins : List (Addr × Obj)} {σ : St} {H : Hp} {s : Shared}
end
/-! ### the def that gets the lambda -/
section
variable {P : Program} {w : World} {K : PySem.W.Frag} {mg : Str → Option Value} {base : Heap}
end
/-! ### x(lambda: body) -/
end ML

/-! ML49: try .. except C: without a name. -/
namespace ML
open PySem PySem.Spec PyProof.Rows L2
end ML

/-! ML50: calls with keywords. -/
namespace ML
open PySem PySem.Spec PyProof.Rows L2
section
variable {F : Fr} {env : En} {ops ps : Ops} {G H : Hp} {σ : St}
end
/-! ### the arguments: by place, then by name -/
/-- what a call's arguments give: the row by place, then by name -/
structure PW (X : Cx) (pos : Pos) (es : List Expr) (kws : List Keyword) (ks : List Str) (n : Nat) (t : TA) : Prop where
  run : ∀ (f : Value) (pins : List (Addr × Obj)) (s : Shared) (σ : St) (H : Hp) (Q : List V → Hp → Prop) (Q2 : Value → Shared → Prop), Inv X pins σ H s → t σ H Q → PySem.W.keepIn X.K f = true →
    (∀ us ws s1 vs H1, us.length = n → ws.length = ks.length → Inv X pins σ H1 s1 → Vals vs (us ++ ws) → Q vs H1 → wpAny (model X.prog X.w) X.A (call f us (ks.zip ws)) Q2 X.xe s1) →
    wpAny (model X.prog X.w) X.A (callWith pos f [] (backTo pos (starEach es X.env)) (backToKw pos (keywordEach kws X.env))) Q2 X.xe s
section
variable {X : Cx} {F : Fr} {e : Expr} {kws : List Keyword} {nm : Option Str} {kpos : Pos} {f : FE} {g : FA} {n : Nat}
end
/-! ### the calls -/
section
variable {X : Cx} {F : Fr} {x : Str} {p pos : Pos} {es : List Expr} {kws : List Keyword} {ks pars : List Str} {k n m : Nat} {fa : Addr} {fd : FuncData} {perm : List Nat} {g : FA}
end
end ML

/-! ML51: try with more than one except clause. -/
namespace ML
open PySem PySem.Spec PyProof.Rows L2
/-- the exception a of the body flies; sI is the state without it -/
structure Flies (X : Cx) (pins : List (Addr × Obj)) (σ : St) (H : Hp) (cls : Value) (d : Option Addr) (a : Addr) (now : Shared) : Prop where
  ex : ∃ (B : Heap) (sI : Shared), Inv X pins σ H sI ∧ (∀ b o, sI.heap.get? b = some o → b ∉ frs X.stack → B.get? b = some o) ∧ sI.heap.UpToSlots now.heap ∧
    HandSPX.FlyingZ B (X.env :: X.outer) a (Zc cls d) now.heap ∧ now.os = sI.os ∧ AllBare now.gens
  non : H a = none
/-- clauses, from the left -/
structure HBs (X : Cx) (hs : List ExceptHandler) (t : Ends → WX) : Prop where
  run : ∀ (pins : List (Addr × Obj)) (σ : St) (H : Hp) (D : Ends) (cls : Value) (d : Option Addr) (a : Addr) (now : Shared), Flies X pins σ H cls d a now → t D cls d σ H → wpAny (model X.prog X.w) X.A (handleBy (.ref a) X.env hs) (SP X pins D) X.xe now
section
variable {X : Cx}
end
/-! ### in the layer -/
/-- the clauses' words: is it theirs, by the class's name; what they do -/
abbrev Hs := List (List (Str × Bool) × (Xv → FS))
def xHs (k : Nat) (x : Xv) : Hs → FSx
  | [], env => some (.ex x, env)
  | (tbl, g) :: l, env => (tbl.lookup x.C).bind fun b => if b = true then (if slotFree k env = true then (g x env).bind fun q => if slotFree k q.2 && flOwn q.1 then some (.ok q.1, q.2) else none else none) else xHs k x l env
def hX (mg : Str → Option Value) (F : Fr) (W : WN) (k : Nat) (l : Hs) : Ends → WX := fun D cls d σ H => ∃ (x : Xv) (dd : Addr) (vs : List (Str × V)) (env : En) (ops : Ops) (G : Hp) (o : Fx) (env' : En),
  d = some dd ∧ mg x.C = some cls ∧ NoBor ops ∧ RepS F env ops G σ H ∧ H dd = some (.xd vs) ∧ F.H0 dd = none ∧ XdR F.K G vs x.fs ∧ xHs k x l env = some (o, env') ∧ FxOk F W D ops G o env'
theorem HBs.wk {X : Cx} {hs : List ExceptHandler} {t t' : Ends → WX} (h : HBs X hs t) (w : ∀ D cls d σ H, t' D cls d σ H → t D cls d σ H) : HBs X hs t' := ⟨fun pins σ H D cls d a now z q => h.run pins σ H D cls d a now z (w _ _ _ _ _ q)⟩
section
variable {X : Cx} {F : Fr} {W : WN} {k : Nat}
end
end ML

/-! ML52: own exception classes with an __init__ of their own, over any built-in class. -/
namespace ML
open PySem PySem.Spec PyProof.Rows L2
/-- own classes, then a built-in one's order -/
def overB (tail : List Value) : List Value → Bool
  | .ref _ :: r => overB tail r
  | l => l == tail
theorem overB_ind {tail : List Value} {P : List Value → Prop} (h0 : P tail) (hs : ∀ c r, P r → P (.ref c :: r)) : ∀ l, overB tail l = true → P l := by
  intro l
  fun_induction overB tail l with
  | case1 c r ih => exact fun e => hs c r (ih e)
  | case2 l hn => exact fun e => by rw [beq_iff_eq.mp e]; exact h0
section
open Builtin Builtin.ObjectAttr PySem.Calls PySem.HandSPX
variable {prog : Program} {w : World} {A : Around} {R : Result → Shared → Prop} {hp : Heap} {g : Array GenState} {d : Drawn} {t : Nat} {os : OsState} {K : PySem.W.Frag} {name : Str} {tk : Tok} {v : Value} {x C : Addr} {cd : ClassData} {B : String} {tail : List Value} {ox : Obj} {od : Option Obj}
theorem own_set (S : StoreFacts B tail "object.__setattr__" "object") (X : K.In hp) (I : PySem.W.InstAt hp x ox C od) (hcd : PySem.W.clsIn K C = some cd) (hm : overB tail cd.mro = true) (ha : PySem.W.findIn K (.ref C) name = some none)
    (k : ∀ {Q : Fin → Shared → Prop} {E : Value → Shared → Prop}, (∀ s', R (.ok (.ret .none)) s' → Q (.done (.ret .none)) s') → wpAny (model prog w) A.in1 (storeInOwnDict (.ref x) (.ref C) (.str name tk) name v false) Q E ⟨hp, g, d, t, os⟩) :
    codeAny (model prog w) A (.call (.builtin "object.__setattr__") ⟨[.ref x, .str name tk, v], []⟩) R ⟨hp, g, d, t, os⟩ := by
  have own : cd.mro.contains (.type "object") = true := (overB_ind (P := fun l => l.contains (.type "object") = tail.contains (.type "object")) rfl (fun c r e => by rw [List.contains_cons, e]; rfl) _ hm).trans S.hasOwner
  have some_ : cd.mro ≠ [] := fun z => by rw [z] at own; cases own
  have pass : refuseLoop (.ref x) "__setattr__" cd.mro = pure () := overB_ind (P := fun l => refuseLoop (.ref x) "__setattr__" l = pure ()) (S.passes _) (fun c r e => by rw [refuseLoop_ref]; exact e) _ hm
  have inst : PySem.W.Looks (model prog w) hp (isInstance (.ref x) (.type "object")) true := I.type.andThen (PySem.W.looks_mroIn X (by unfold PySem.W.mroIn; rw [hcd, Option.bind_some, if_neg (by simpa using some_), own]))
  refine codeAny_call_builtin S.slot.plain S.entry (@PySem.W.check_slot (model prog w) _ _ ⟨hp, g, d, t, os⟩ "object.__setattr__" "object" "__setattr__" (.ref x) [.str name tk, v] [] _ S.kind S.split inst (S.args _ _ _) ?_)
  rw [PySem.W.osa_eq, refuse_eq]
  refine wpAny_bind (wpAny_bind (I.type.at (wpAny_bind (((PySem.W.looks_clsIn X hcd).andThen .now : PySem.W.Looks (model prog w) hp (mroOf (.ref C)) cd.mro).at ?_))))
  rw [pass]
  refine wpAny_pure (wpAny_bind (I.type.at (wpAny_bind ((PySem.W.looks_findIn X ha).at (wpAny_bind ((.now : PySem.W.Looks (model prog w) hp (storeTaker? none) none).at ?_))))))
  exact k fun s' z => z
theorem own_set_new {fv : Array Value} (S : StoreFacts B tail "object.__setattr__" "object") (X : K.In hp) (at_x : hp.get? x = some { cls := .ref C, data := .fields fv }) (hcd : PySem.W.clsIn K C = some cd) (hm : overB tail cd.mro = true) (hh : cd.hasDict = true) (ha : PySem.W.findIn K (.ref C) name = some none)
    (k : ∀ h' tk' dx, (∀ b o, b ≠ x → hp.get? b = some o → h'.get? b = some o) → hp.objs.size ≤ dx → dx ≠ x → h'.get? x = some { cls := .ref C, dict := some dx, data := .fields fv } → h'.Ns1 dx (fun y => if y = name then some v else none) → R (.ok (.ret .none)) ⟨h', g, d, tk', os⟩) :
    codeAny (model prog w) A (.call (.builtin "object.__setattr__") ⟨[.ref x, .str name tk, v], []⟩) R ⟨hp, g, d, t, os⟩ := by
  have small : x ≠ hp.objs.size := Nat.ne_of_lt (Heap.lt_size at_x)
  have kind : PySem.W.Looks (model prog w) hp (classData C) cd := PySem.W.looks_clsIn X hcd
  refine own_set S X (ox := { cls := .ref C, data := .fields fv }) (od := none) ⟨at_x, rfl, rfl, trivial⟩ hcd hm ha fun out => ?_
  obtain ⟨_, _, _, _, _, hd, _, _, _, _, _⟩ := cd
  obtain rfl : hd = true := hh
  unfold storeInOwnDict ownDictForStores
  repeat (first | with_reducible refine store_in_new ?_ ?_ | with_reducible refine wpAny_loadPart_at at_x ?_ | with_reducible refine kind.at ?_ | wp_step)
  · exact ⟨_, #[], _, (Heap.get?_update_ne _ _ _ _ small.symm).trans (Heap.get?_push_at rfl rfl), rfl, fun e he => absurd he (by simp), fun _ => rfl⟩
  · intro h' tk' names same
    have old : ∀ b o, b ≠ x → hp.get? b = some o → h'.get? b = some o := fun b o hb e => (same.2 b (Nat.ne_of_lt (Heap.lt_size e))).trans ((Heap.get?_update_ne _ _ _ _ hb).trans (Heap.get?_push_of_some _ e))
    exact out _ (k h' tk' hp.objs.size old (Nat.le_refl _) small.symm ((same.2 x small).trans (Heap.get?_update_self _ (Heap.get?_push_of_some _ at_x) rfl)) names)
theorem own_set_old {fv : Array Value} {dx : Addr} {m0 : Str → Option Value} {ns : List Str} (S : StoreFacts B tail "object.__setattr__" "object") (X : K.In hp) (at_x : hp.get? x = some { cls := .ref C, dict := some dx, data := .fields fv }) (hns : hp.Ns1 dx m0) (hw : Within m0 ns) (hz : ns.length ≤ 1000)
    (hcd : PySem.W.clsIn K C = some cd) (hm : overB tail cd.mro = true) (hh : cd.hasDict = true) (ha : PySem.W.findIn K (.ref C) name = some none)
    (k : ∀ h' tk', (∀ b o, b ≠ dx → hp.get? b = some o → h'.get? b = some o) → h'.Ns1 dx (fun y => if y = name then some v else m0 y) → R (.ok (.ret .none)) ⟨h', g, d, tk', os⟩) :
    codeAny (model prog w) A (.call (.builtin "object.__setattr__") ⟨[.ref x, .str name tk, v], []⟩) R ⟨hp, g, d, t, os⟩ := by
  obtain ⟨od, _, _, at_d, _, _⟩ := hns.count hw
  have kind : PySem.W.Looks (model prog w) hp (classData C) cd := PySem.W.looks_clsIn X hcd
  refine own_set S X (ox := { cls := .ref C, dict := some dx, data := .fields fv }) (od := some od) ⟨at_x, rfl, rfl, at_d⟩ hcd hm ha fun out => ?_
  obtain ⟨_, _, _, _, _, hd, _, _, _, _, _⟩ := cd
  obtain rfl : hd = true := hh
  unfold storeInOwnDict ownDictForStores
  repeat (first | with_reducible refine PySem.OEX.store_in_old hns hw hz ?_ | with_reducible refine wpAny_loadPart_at at_x ?_ | with_reducible refine kind.at ?_ | wp_step)
  intro h' tk' names same
  exact out _ (k h' tk' (fun b o hb e => (same.2 b hb).trans e) names)
end
/-! ### the class -/
/-- what is known of a built-in class of exceptions -/
structure BaseX (B newId initId : String) (tail : List Value) : Prop where
  F : ExcBaseFacts B newId initId tail
  S : StoreFacts B tail "object.__setattr__" "object"
/-- an own class over it -/
structure OexG (K : PySem.W.Frag) (initId : String) (C : Addr) : Prop where
  cls : ∃ B newId tail, BaseX B newId initId tail ∧ ∃ nm q N bs bm sn sub ab col dd k0 k1 k2 k3 k5, K.lookup C = some (excClassObj nm q C N bs bm true sn sub ab col dd k0 k1 k2 k3 k5 newId) ∧ overB tail bm = true
  sa : PySem.W.findIn K (.ref C) "__setattr__" = some (some (.builtin "object.__setattr__"))
  exC : PySem.W.subIn K (.ref C) (.type "BaseException") = some true
  tyC : PySem.W.typeIn K (.ref C) = some (.type "type")
  kC : PySem.W.keepIn K (.ref C) = true
theorem OexG.data {K : PySem.W.Frag} {initId : String} {C : Addr} (T : OexG K initId C) : ∃ B newId tail, BaseX B newId initId tail ∧ (∃ nm q N bs bm sn sub ab col dd k0 k1 k2 k3 k5, K.lookup C = some (excClassObj nm q C N bs bm true sn sub ab col dd k0 k1 k2 k3 k5 newId) ∧ ∀ X : String, bm.contains (.type X) = tail.contains (.type X)) ∧
    ∃ cd, PySem.W.clsIn K C = some cd ∧ overB tail cd.mro = true ∧ cd.hasDict = true := by
  obtain ⟨B, newId, tail, b, nm, q, N, bs, bm, sn, sub, ab, col, dd, k0, k1, k2, k3, k5, hC, hm⟩ := T.cls
  refine ⟨B, newId, tail, b, ⟨nm, q, N, bs, bm, sn, sub, ab, col, dd, k0, k1, k2, k3, k5, hC, fun X => overB_ind (P := fun l => l.contains (.type X) = tail.contains (.type X)) rfl (fun c r e => by rw [List.contains_cons, e]; rfl) _ hm⟩,
    ⟨nm, bs, .ref C :: bm, N, q, true, sn, sub, ab, col, false⟩, ?_, hm, rfl⟩
  unfold PySem.W.clsIn
  rw [hC] <;> rfl
section
variable {X : Cx} {pins : List (Addr × Obj)} {σ : St} {H : Hp} {s : Shared} {a C dx : Addr} {f initId : Str} {y : V} {u : Value} {fs : List (Str × V)} {A : Around} {E : Value → Shared → Prop} {i : String}
theorem ost_newG {Q : Unit → Shared → Prop} (T : OexG X.K i C) (I : Inv X pins σ H s) (e : H a = some (exo a C none)) (free : PySem.W.findIn X.K (.ref C) f = some none) (ry : RelV y u)
    (k : ∀ dx s', H dx = none → dx ≠ a → Inv X pins σ (upd (upd H dx (exd dx [(f, y)])) a (exo a C (some dx))) s' → Q () s') : wpAny (model X.prog X.w) A (setAttr (.ref a) f u) Q E s := by
  obtain ⟨_, _, _, b, _, cd, hcd, hm, hh⟩ := T.data
  obtain ⟨t1, at_a⟩ := exo_at I.hok e
  obtain ⟨hp, g, d, t, os⟩ := s
  refine PySem.W.set_plain (od := none) I.kIn ⟨at_a, rfl, rfl, trivial⟩ T.sa (own_set_new b.S I.kIn at_a hcd hm hh free fun h' tk' dx kept big dne at_a' names => ?_)
  have new : H dx = none := I.hok.fresh big
  have nd : ∀ {b : Addr} {o : Obj}, hp.get? b = some o → b ≠ dx := fun z => Nat.ne_of_lt (Nat.lt_of_lt_of_le (Heap.lt_size z) big)
  have na : ∀ {b : Addr}, H b = none → b ≠ a := fun n z => by rw [z, e] at n; cases n
  have moved : ∀ {b : Addr} {o : HO}, H b = some o → exo a C none ≠ o → upd (upd H dx (exd dx [(f, y)])) a (exo a C (some dx)) b = some o := fun {b o} q z => by
    rw [upd_ne (at_ne e q z), upd_ne (ne_of_none q new)]; exact q
  have step : Un X.fs [] H (upd (upd H dx (exd dx [(f, y)])) a (exo a C (some dx))) hp h' :=
    ⟨fun b o q n _ _ => kept b o (na n) q, fun b o q n _ _ => ⟨o.slots, kept b o (na n) q⟩, fun b o q n _ => (by rw [upd_ne (na n), upd_ne (nd q)]; exact n),
      fun b o q _ => (by
        by_cases hb : b = a
        · exact ⟨_, hb ▸ at_a'⟩
        · exact ⟨o, kept b o hb q⟩), fun b xs q => moved q exo_tup, fun b o v q => moved q exo_frz, fun b ps q => ⟨#[], by rw [moved q exo_tbl]; simp⟩⟩
  refine k dx _ new dne (I.un (t' := tk') step fun b o q => ?_)
  by_cases hb : b = a
  · subst hb
    rw [upd_same] at q; cases q
    exact exo_ok at_a'
  by_cases hd : b = dx
  · subst hd
    rw [upd_ne hb, upd_same] at q; cases q
    exact exd_ok names (relO_put (fs := []) ry fun _ => True.intro)
  · rw [upd_ne hb, upd_ne hd] at q
    exact (I.hok b o q).stay (fun c v hc z => kept c v (hc.elim (fun w => by rw [w]; exact hb) fun w => at_ne e w exo_own) z) (fun c hc => moved hc exo_own) fun c xs hc => moved hc exo_tup
theorem ost_oldG {Q : Unit → Shared → Prop} (T : OexG X.K i C) (I : Inv X pins σ H s) (e : H a = some (exo a C (some dx))) (ed : H dx = some (exd dx fs)) (few : fs.length ≤ 900) (free : PySem.W.findIn X.K (.ref C) f = some none) (ry : RelV y u)
    (k : ∀ s', Inv X pins σ (upd H dx (exd dx ((f, y) :: fs))) s' → Q () s') : wpAny (model X.prog X.w) A (setAttr (.ref a) f u) Q E s := by
  obtain ⟨_, _, _, b, _, cd, hcd, hm, hh⟩ := T.data
  obtain ⟨t1, at_a⟩ := exo_at I.hok e
  obtain ⟨mA, hns, rel⟩ := exd_at I.hok ed
  have known := within_of rel
  obtain ⟨hp, g, d, t, os⟩ := s
  obtain ⟨oD, _, _, at_d, _, _⟩ := hns.count known
  refine PySem.W.set_plain (od := some oD) I.kIn ⟨at_a, rfl, rfl, at_d⟩ T.sa (own_set_old b.S I.kIn at_a hns known (by rw [List.length_map]; omega) hcd hm hh free fun h' tk' kept names => ?_)
  obtain ⟨o', _, _, e', _⟩ := id names
  exact k _ (I.write (t' := tk') (x := dx) (e := dx) (o := exd dx ((f, y) :: fs)) (by rw [ed]; trivial) (.inl rfl) kept ⟨o', e'⟩ (exd_ok names (relO_put ry rel)))
theorem oinit_okG {us : List Value} {Q : Value → Shared → Prop} (T : OexG X.K i C) (I : Inv X pins σ H s) (e : H a = some (exo a C none)) (few : us.length ≤ sizeLine) (k : ∀ s', Inv X pins σ H s' → Q .none s') :
    wpAny (model X.prog X.w) A (call (.builtin i) (.ref a :: us)) Q E s := by
  obtain ⟨_, _, _, b, ⟨_, _, _, _, _, _, _, _, _, _, _, _, _, _, _, hC, sub⟩, _⟩ := T.data
  obtain ⟨t1, at_a⟩ := exo_at I.hok e
  have same : upd H a (exo a C none) = H := funext fun c => by
    by_cases hc : c = a
    · rw [hc, upd_same, e]
    · rw [upd_ne hc]
  obtain ⟨hp, g, d, t, os⟩ := s
  refine wpAny_call (PySem.HandSPX.init_base b.F sub (I.kIn _ _ hC) at_a few fun h' t2 kept at_a' => k _ ?_)
  have J := I.write (t' := t) (x := a) (e := a) (o := exo a C none) (by rw [e]; trivial) (.inl rfl) kept ⟨_, at_a'⟩ (exo_ok at_a')
  rwa [same] at J
end
/-- C.__init__(self, ..) -/
def tVeIG (K : PySem.W.Frag) (i : String) (ta : TA) : TE := fun σ H Q => ta σ H fun vs H1 => ∃ (a C : Addr) (ws : List V), vs = .ref a :: ws ∧ ws.length ≤ 1000 ∧ OexG K i C ∧ H1 a = some (exo a C none) ∧ Q .non H1
/-- self.f = e -/
def tOstG (K : PySem.W.Frag) (i : String) (f : Str) (to te : TE) : TS := fun D σ H => te σ H fun y H1 => to σ H1 fun x H2 => ∃ a C : Addr, x = .ref a ∧ OexG K i C ∧ PySem.W.findIn K (.ref C) f = some none ∧
  ((H2 a = some (exo a C none) ∧ ∀ dx, H2 dx = none → dx ≠ a → D.nx σ (upd (upd H2 dx (exd dx [(f, y)])) a (exo a C (some dx)))) ∨ ∃ (dx : Addr) (fs : List (Str × V)), H2 a = some (exo a C (some dx)) ∧ H2 dx = some (exd dx fs) ∧ fs.length ≤ 900 ∧ D.nx σ (upd H2 dx (exd dx ((f, y) :: fs))))
theorem ps_ostG {X : Cx} {i : String} {o e : Expr} {to te : TE} {f : Str} {p' pos : Pos} (ho : PE X o to) (he : PE X e te) (hs : swapsWith e (some (.Attribute o f p')) pos.line X.env = pure false := by rfl) : PS X (.Assign [.Attribute o f p'] e pos) (tOstG X.K i f to te) :=
  ⟨fun pins s σ H D I h => plainObj_wpAny_Assign_Attribute (thn (he.run pins s σ H _ I h) fun v s1 ⟨y, H1, I1, r1, q1⟩ => thn (ho.run pins s1 σ H1 _ I1 q1) fun u s2 ⟨x, H2, I2, r2, a, C, ex, T, free, q⟩ => by
    subst ex
    obtain rfl : u = Value.ref a := r2
    rcases q with ⟨ea, q⟩ | ⟨dx, fs, ea, ed, few, q⟩
    · exact ost_newG T I2 ea free r1 fun dx s' n ne J => ⟨σ, _, J, q dx n ne⟩
    · exact ost_oldG T I2 ea ed few free r1 fun s' J => ⟨σ, _, J, q⟩) hs⟩
theorem pe_oinitG {X : Cx} {i : String} {cn : Str} {Cw : Addr} {mc : Value} {e : Expr} {es : List Expr} {ta : TA} {p1 p2 pos : Pos} {pl : Sem Bool} (hg : Gl X cn) (hm : X.mg cn = some (.ref Cw)) (r : ClX.CRead X.K Cw mc)
    (vV : PySem.W.findCls X.K (.ref Cw) mc "__init__" = some (.val (.builtin i))) (hv : PySem.W.handedIn (.builtin i) = true := by decide +kernel) (ha : PA X (e :: es) ta) (hdb : (cn == ("__debug__" : Str)) = false := by decide)
    (hc : eval (.Call (.Attribute (.Name cn p1) "__init__" p2) (e :: es) [] pos) X.env = (do
      let ov ← eval (.Name cn p1) X.env
      standAt p2.atName
      let (f, first) ← holding [ov] (getMethod ov "__init__" pl)
      callWith pos f first (backTo pos (starEach (e :: es) X.env)) (backToKw pos (keywordEach [] X.env))) := by rfl)
    (he : starEach (e :: es) X.env = (false, eval e X.env) :: starEach es X.env := by rfl) (hpl : (backTo pos (starEach es X.env)).any (·.1) = false := by rfl) :
    PE X (.Call (.Attribute (.Name cn p1) "__init__" p2) (e :: es) [] pos) (tVeIG X.K i ta) := by
  refine ⟨fun pins s σ H Q I h => ?_⟩
  refine PySem.W.methodCall_KW (ld_glob I hg hm ?_ hdb) hc
  refine PySem.W.method_cls I.kIn r.ga (PySem.W.cls_value I.kIn r.rd vV hv ?_)
  show wpAny _ _ (callWith pos (Value.builtin i) [] (backTo pos (starEach (e :: es) X.env)) []) _ _ _
  refine PyProof.Rows.callWith_method1 (thn (ha.run pos pins _ σ H _ (I.tok _) h) fun us s1 ⟨vs, H1, I1, r1, a, C, ws, ev, hl, T, ea, q⟩ => ?_) he hpl
  subst ev
  cases r1 with
  | @cons _ u0 _ ur ra rw' =>
    obtain rfl : u0 = Value.ref a := ra
    have hlen : ur.length ≤ sizeLine := by
      rw [← Paired.length rw', sizeLine_eq]
      omega
    exact oinit_okG T I1 ea hlen fun s' J => ⟨.non, H1, J, rfl, q⟩
/-- self.f = f, .. -/
def tStsG (K : PySem.W.Frag) (i : String) : List (Str × Nat) → TS
  | [] => tNext
  | (f, j) :: r => tSeq (tOstG K i f (tVar 0) (tVar j)) (tStsG K i r)
theorem sts_runG {K : PySem.W.Frag} {i : String} {a C dx : Addr} {σ : St} (T : OexG K i C) (h0 : σ[0]? = some (some (.ref a))) {D : Ends} : ∀ (l : List (Str × Nat)) (ws : List V) (fs : List (Str × V)) (H H0 : Hp), dx ≠ a → H a = some (exo a C (some dx)) → H dx = some (exd dx fs) → fs.length + l.length ≤ 900 →
    (∀ p ∈ l, PySem.W.findIn K (.ref C) p.1 = some none) → Paired (fun (p : Str × Nat) w => σ[p.2]? = some (some w)) l ws → (∀ b, b ≠ a → b ≠ dx → H b = H0 b) →
    (∀ H', H' a = some (exo a C (some dx)) → H' dx = some (exd dx (((l.map (·.1)).zip ws).reverse ++ fs)) → (∀ b, b ≠ a → b ≠ dx → H' b = H0 b) → D.nx σ H') → tStsG K i l D σ H
  | [], _, fs, H, H0, hne, ha, hd, hl, hf, hp, hk, q => by
    cases hp
    exact q H ha hd hk
  | (f, j) :: l, _, fs, H, H0, hne, ha, hd, hl, hf, hp, hk, q => by
    cases hp with
    | @cons _ w _ ws h1 h2 =>
      refine ⟨w, h1, .ref a, h0, a, C, rfl, T, hf _ List.mem_cons_self, .inr ⟨dx, fs, ha, hd, by simp at hl; omega, ?_⟩⟩
      refine sts_runG T h0 l ws ((f, w) :: fs) _ H0 hne (by rw [upd_ne hne.symm]; exact ha) upd_same (by simp at hl ⊢; omega) (fun p hp => hf p (List.mem_cons_of_mem _ hp)) h2 (fun b b1 b2 => by rw [upd_ne b2]; exact hk b b1 b2) fun H' e1 e2 e3 => q H' e1 (by simpa using e2) e3
theorem init_okG {P : Program} {w : World} {K : PySem.W.Frag} {mg : Str → Option Value} {base : Heap} {x qual : Str} {st : Stmt} {f C : Addr} {fd : FuncData} {N ps ns : List Str} {k : Nat} {m : Str} {i : String} (Fx : Fun K x qual st f fd) (S : FnScope N ps (defScope st)) (T : OexG K i C) (hps : ps.length = ns.length + 1) (hns : ns ≠ []) (hle : ns.length ≤ 900)
    (hf : ∀ n ∈ ns, PySem.W.findIn K (.ref C) n = some none)
    (hb : ∀ (cdv : Value) (A : Around) (below : List Env) (s : Shared) (H : Hp) (E : XK), Room k (A.deeper (envOfC qual (defScope st) s.heap.objs.size f cdv)) →
      PSs (cxOf CX0 P w K mg base N qual (defScope st) f cdv A below s H E) (defBody st) (tSeq (tDrop (tVeIG K i (tCons (tVar 0) (tCons (tC (.str m)) tNil)))) (tStsG K i (ixs ns)))) : FnOk P w K mg base CX0 (k + 1) f fd ps (spInit K C ns) := by
  obtain ⟨vcls, vdic, vkw, vdoc, vpm, van, vcode, vct, vsl, efd, at_f, isCode⟩ := Fx.ex
  subst efd
  refine fn_of at_f isCode S (fun vs H Q E ⟨a, ws, e1, e2, _⟩ => by rw [e1, hps, List.length_cons, e2]) fun A outer s H vs Q E hr ⟨a, ws, ev, hl, ha, q⟩ => ⟨_, hb vcode A outer s H E hr, ?_⟩
  subst ev
  have h0 : (L2.start N (.ref a :: ws))[0]? = some (some (.ref a)) := rfl
  have hw : ∀ i v, ws[i]? = some v → (L2.start N (.ref a :: ws))[1 + i]? = some (some v) := fun i v hv => by
    have hi := (List.getElem?_eq_some_iff.mp hv).1
    unfold L2.start
    rw [List.getElem?_append_left (by simp; omega), Nat.add_comm 1 i]
    simp [hv]
  refine ⟨V.ref a, h0, a, C, [V.str m], rfl, (show 1 ≤ 1000 by decide), T, ha, ?_⟩
  cases ns with
  | nil => exact absurd rfl hns
  | cons n ns =>
    cases ws with
    | nil => simp at hl
    | cons w0 ws =>
      have pr := ixs_pair (n :: ns) (w0 :: ws) 1 hl hw
      have ei : ixs (n :: ns) = (n, 1) :: (ns.zip ((List.range ns.length).map (· + 2))) := by
        unfold ixs
        rw [List.length_cons, List.range_succ_eq_map, List.map_cons, List.zip_cons_cons, List.map_map]
        rfl
      show tStsG K i (ixs (n :: ns)) _ _ _
      rw [ei]
      have pr2 : Paired (fun (p : Str × Nat) w => (L2.start N (.ref a :: w0 :: ws))[p.2]? = some (some w)) (ns.zip ((List.range ns.length).map (· + 2))) ws := by
        have := (show Paired _ (ixs (n :: ns)) (w0 :: ws) from pr)
        rw [ei] at this
        cases this with
        | cons _ h => exact h
      refine ⟨w0, by have := hw 0 w0 rfl; simpa using this, .ref a, h0, a, C, rfl, T, hf n List.mem_cons_self, .inl ⟨ha, fun dx hdx hne => ?_⟩⟩
      have hnames : (ns.zip ((List.range ns.length).map (· + 2))).map (·.1) = ns := by rw [List.map_fst_zip]; simp
      refine sts_runG T h0 _ ws [(n, w0)] _ H hne upd_same (by rw [upd_ne hne, upd_same]) (by simp at hle ⊢; omega) (fun p hp => hf p.1 (List.mem_cons_of_mem _ (List.of_mem_zip hp).1)) pr2 (fun b b1 b2 => by rw [upd_ne b1, upd_ne b2]) fun H' e1 e2 e3 => ?_
      rw [hnames] at e2
      exact q dx H' hdx hne e1 (by simpa using e2) e3
end ML

/-! ML53: the two built-in classes that own classes of exceptions stand over. -/
namespace ML
open PySem PySem.Spec PyProof.Rows L2
theorem base_VE : BaseX "ValueError" "ValueError.__new__" "ValueError.__init__" [.type "ValueError", .type "Exception", .type "BaseException", .type "object"] := ⟨PySem.F.excBase_ValueError, PySem.F.store_ValueError⟩
theorem oexG_mk {K : PySem.W.Frag} {B newId initId : String} {tail : List Value} {C : Addr} {nm q N bs bm sn sub ab col dd k0 k1 k2 k3 k5} (b : BaseX B newId initId tail) (l : K.lookup C = some (excClassObj nm q C N bs bm true sn sub ab col dd k0 k1 k2 k3 k5 newId)) (v : overB tail bm = true)
    (s : PySem.W.findIn K (.ref C) "__setattr__" = some (some (.builtin "object.__setattr__"))) (e : PySem.W.subIn K (.ref C) (.type "BaseException") = some true) (t : PySem.W.typeIn K (.ref C) = some (.type "type")) (k : PySem.W.keepIn K (.ref C) = true) : OexG K initId C :=
  ⟨⟨_, _, _, b, _, _, _, _, _, _, _, _, _, _, _, _, _, _, _, l, v⟩, s, e, t, k⟩
/-! ### isinstance(e, ..) as a value -/
section
variable {X : Cx} {F : Fr} {a dd : Addr} {oe : Obj} {cls : Value} {vs : List (Str × V)} {G1 : Hp} {y : Xv} {pn : List (Addr × Obj)} {k : Nat} {n : Str} {p q pos : Pos}
end
end ML

/-! ML54: x in t, t a tuple of data of any depth. -/
namespace ML
open PySem PySem.Spec PyProof.Rows L2
section
variable {X : Cx} {F : Fr}
/-! ### sorted of a dict whose keys are texts -/
end
end ML

/-! ML55: s.upper(); x or y of data. -/
namespace ML
open PySem PySem.Spec PyProof.Rows L2
section
variable {X : Cx} {F : Fr}
def gUpper : GL := fun r rs env => match rs with
  | [] => r.str.bind fun a => if a.length ≤ 5592405 then some (.val (.str (Txt.upper a)), env) else none
  | _ => none
theorem v_gUpper {r : R} {env : En} : gUpper r [] env = bnd (fun a => if a.length ≤ 5592405 then some (.val (.str (Txt.upper a)), env) else none) r.str := rfl
def truD : D → Option Bool
  | .none => some false
  | .bool b => some b
  | .int i => some (i != 0)
  | .tuple ds => some (!ds.isEmpty)
  | .list ds => some (!ds.isEmpty)
  | _ => none
def eOrD (f g : FE) : FE := fun env => (f env).bind fun p => match p.1 with
  | .val d => (truD d).bind fun k => if k = true then some (.val d, p.2) else g p.2
  | _ => none
def orK (g : FE) : R × En → Option (R × En)
  | (.val d, e) => bnd (fun k => if k = true then some (.val d, e) else g e) (truD d)
  | _ => none
theorem v_eOrD {f g : FE} {env : En} : eOrD f g env = (f env).bind (orK g) := by
  unfold eOrD
  congr 1
  funext p
  obtain ⟨o, b⟩ := p
  cases o <;> rfl
theorem v_orK {g : FE} {env : En} {d : D} : orK g (.val d, env) = bnd (fun k => if k = true then some (.val d, env) else g env) (truD d) := rfl
def fIfT (t f g : FT) : FT := fun env => (t env).bind fun p => if p.1 = true then f p.2 else g p.2
theorem v_fIfT {t f g : FT} {env : En} : fIfT t f g env = bnd (fun p => if p.1 = true then f p.2 else g p.2) (t env) := rfl
end
end ML

/-! ML56: dicts whose keys are tuples of any shape: d[k], d[k] = v, d.get(k), k in d. -/
namespace ML
open PySem PySem.Spec PyProof.Rows L2
section
variable {X : Cx} {pins : List (Addr × Obj)} {σ : St} {H : Hp} {s : Shared}
mutual
theorem dp_nested (I : Inv X pins σ H s) : ∀ (d : D) (v : V) (u : Value) (k : NK), Dp X.K H v d → RelV v u → nkey d = some k → NestedIs s.heap k u
  | .none, _, _, k, h, r, e => by
    cases h; cases r
    simp only [nkey] at e; cases e
    exact .none
  | .bool b, _, _, k, h, r, e => by
    cases h; cases r
    simp only [nkey] at e; cases e
    exact .bool rfl
  | .int i, _, _, k, h, r, e => by
    cases h
    obtain ⟨t, rfl⟩ := r
    simp only [nkey] at e; cases e
    exact .int i t
  | .str x, _, _, k, h, r, e => by
    cases h
    obtain ⟨t, rfl⟩ := r
    simp only [nkey] at e; cases e
    exact .text x t
  | .list ds, _, _, k, h, r, e => by simp only [nkey] at e; cases e
  | .tuple ds, _, _, k, h, r, e => by
    cases h with
    | tup hs ha =>
      cases r
      simp only [nkey] at e
      obtain ⟨ks, e1, rfl⟩ := Option.map_eq_some_iff.mp e
      obtain ⟨its, rv, ⟨o, ho, hc, n, hd⟩, _⟩ := I.tuple hs
      exact .tup ho hc hd (by simpa using dp_nestedAll I ds _ its ks ha rv e1)
  | .dict _, _, _, _, h, _, _ => by cases h
theorem dp_nestedAll (I : Inv X pins σ H s) : ∀ (ds : List D) (vs : List V) (us : List Value) (ks : List NK), DpAll X.K H vs ds → Vals vs us → nkeyAll ds = some ks → NestedAll s.heap ks us
  | [], _, _, ks, h, r, e => by
    cases h; cases r
    simp only [nkeyAll] at e; cases e
    exact .nil
  | d :: ds, _, _, ks, h, r, e => by
    cases h with
    | cons h1 h2 =>
      cases r with
      | cons r1 r2 =>
        simp only [nkeyAll] at e
        obtain ⟨k, e1, e2⟩ := Option.bind_eq_some_iff.mp e
        obtain ⟨ks', e3, rfl⟩ := Option.map_eq_some_iff.mp e2
        exact .cons (dp_nested I d _ _ k h1 r1 e1) (dp_nestedAll I ds _ _ ks' h2 r2 e3)
end
def KeyIn (K : PySem.W.Frag) (H : Hp) (b : Addr) (k : NK) : Prop := ∃ d, Dp K H (.ref b) d ∧ nkey d = some k ∧ k.depth ≤ 8
def KeysIn (K : PySem.W.Frag) (H : Hp) (xs : List (NK × Addr × V)) : Prop := ∀ x ∈ xs, KeyIn K H x.2.1 x.1
theorem keyIs (I : Inv X pins σ H s) {b : Addr} {k : NK} (h : KeyIn X.K H b k) : (nestedKind X.prog X.w).is s.heap k b := by
  obtain ⟨d, h1, h2, h3⟩ := h
  exact ⟨dp_nested I d (.ref b) (.ref b) k h1 rfl h2, h3⟩
abbrev EntR : (NK × Addr × V) → (NK × Addr × Value) → Prop := fun x u => x.1 = u.1 ∧ x.2.1 = u.2.1 ∧ RelV x.2.2 u.2.2
theorem paired_mem {α β : Type} {R : α → β → Prop} : ∀ {xs : List α} {ys : List β}, Paired R xs ys → ∀ y ∈ ys, ∃ x ∈ xs, R x y
  | _, _, .nil, y, h => by cases h
  | _, _, .cons r t, y, h => by
    rcases List.mem_cons.mp h with rfl | h
    · exact ⟨_, List.mem_cons_self, r⟩
    · obtain ⟨x, hx, q⟩ := paired_mem t y h
      exact ⟨x, List.mem_cons_of_mem _ hx, q⟩
theorem paired_memL {α β : Type} {R : α → β → Prop} : ∀ {xs : List α} {ys : List β}, Paired R xs ys → ∀ x ∈ xs, ∃ y ∈ ys, R x y
  | _, _, .nil, y, h => by cases h
  | _, _, .cons r t, y, h => by
    rcases List.mem_cons.mp h with rfl | h
    · exact ⟨_, List.mem_cons_self, r⟩
    · obtain ⟨x, hx, q⟩ := paired_memL t y h
      exact ⟨x, List.mem_cons_of_mem _ hx, q⟩
theorem dic_get (I : Inv X pins σ H s) {a : Addr} {xs : List (NK × Addr × V)} (ha : H a = some (DicO X.w a xs)) (hk : KeysIn X.K H xs) :
    (a == sysModules) = false ∧ ∃ us, s.heap.DictOfH (nestedKind X.prog X.w) a us ∧ Paired EntR xs us := by
  obtain ⟨h0, o, es, ep, us, h1, h2, h3, h4, h5, h6⟩ := (I.hok a _ ha).1
  refine ⟨h0, us, ⟨o, es, ep, h1, h2, h3, h4, fun u hu => ?_, h6⟩, h5⟩
  obtain ⟨x, hx, e1, e2, _⟩ := paired_mem h5 u hu
  rw [← e1, ← e2]
  exact keyIs I (hk x hx)
theorem dic_new {P : Program} {w : World} {H : Hp} {h : Heap} {a : Addr} {xs : List (NK × Addr × V)} {us : List (NK × Addr × Value)} (h0 : (a == sysModules) = false) (dd : h.DictOfH (nestedKind P w) a us) (r : Paired EntR xs us) : ObjOk P w H h a (DicO w a xs) := by
  obtain ⟨o, es, ep, h1, h2, h3, h4, _, h6⟩ := dd
  have R : DicR w h a xs := ⟨h0, o, es, ep, us, h1, h2, h3, h4, r, h6⟩
  exact ⟨R, ⟨o, h1⟩, fun g1 g2 ⟨p0, o, es, ep, us, p1, p2, p3, p4, p5, p6⟩ k => ⟨p0, o, es, ep, us, k o p1, p2, p3, p4, p5, p6⟩⟩
def lkX (xs : List (NK × Addr × V)) (k : NK) : Option V := (xs.find? fun x => decide (x.1 = k)).map (·.2.2)
def putX (xs : List (NK × Addr × V)) (k : NK) (b : Addr) (v : V) : List (NK × Addr × V) := if (lkX xs k).isSome = true then xs.map (fun x => if x.1 = k then (x.1, x.2.1, v) else x) else xs ++ [(k, b, v)]
theorem lkX_at {xs : List (NK × Addr × V)} {us : List (NK × Addr × Value)} (r : Paired EntR xs us) (k : NK) : (∀ v, lkX xs k = some v → ∃ p : Addr × Value, atKey us k = some p ∧ RelV v p.2) ∧ (lkX xs k = none → atKey us k = none) ∧ (atKey us k).isSome = (lkX xs k).isSome := by
  induction r with
  | nil => exact ⟨fun v h => (by cases h), fun _ => rfl, rfl⟩
  | @cons x u xs us e t ih =>
    obtain ⟨e1, e2, e3⟩ := e
    by_cases hk : x.1 = k
    · have h1 : lkX (x :: xs) k = some x.2.2 := by simp [lkX, hk]
      have h2 : atKey (u :: us) k = some u.2 := by
        have : u.1 = k := e1 ▸ hk
        simp [atKey, this]
      exact ⟨fun v h => ⟨u.2, h2, by rw [h1] at h; cases h; exact e3⟩, fun h => (by rw [h1] at h; cases h), by rw [h1, h2]; rfl⟩
    · have h1 : lkX (x :: xs) k = lkX xs k := by simp [lkX, hk]
      have h2 : atKey (u :: us) k = atKey us k := by
        have : ¬ u.1 = k := e1 ▸ hk
        simp [atKey, this]
      rw [h1, h2]
      exact ih
theorem put_paired {xs : List (NK × Addr × V)} {us : List (NK × Addr × Value)} (r : Paired EntR xs us) (k : NK) (b : Addr) {v : V} {u : Value} (rv : RelV v u) : Paired EntR (putX xs k b v) (storedH us k b u) := by
  unfold putX storedH
  rw [(lkX_at r k).2.2]
  by_cases h : (lkX xs k).isSome = true
  · rw [if_pos h, if_pos h]
    clear h
    induction r with
    | nil => exact .nil
    | @cons x u2 xs us e t ih =>
      refine .cons ?_ ih
      obtain ⟨e1, e2, e3⟩ := e
      show EntR (if x.1 = k then (x.1, x.2.1, v) else x) (putAt k u u2)
      unfold putAt
      by_cases hx : x.1 = k
      · rw [if_pos hx, if_pos (e1 ▸ hx)]
        exact ⟨e1, e2, rv⟩
      · rw [if_neg hx, if_neg (e1 ▸ hx)]
        exact ⟨e1, e2, e3⟩
  · rw [if_neg h, if_neg h]
    clear h
    induction r with
    | nil => exact .cons ⟨rfl, rfl, rv⟩ .nil
    | cons e t ih => exact .cons e ih
theorem nested_room {A : Around} (hu : A.units + 65 < cLine) {P : Program} {w : World} : (nestedKind P w).room A.in1 := by
  show A.units + 1 + 8 < cLine
  omega
/-! ### by values -/
def rSetX (K : PySem.W.Frag) (w : World) : TSet := fun o i v H Q => ∃ a xs b k, o = .ref a ∧ i = .ref b ∧ H a = some (DicO w a xs) ∧ KeysIn K H xs ∧ KeyIn K H b k ∧ xs.length < sizeLine ∧ Q (upd H a (DicO w a (putX xs k b v)))
theorem set_dic (hu : X.A.units + 65 < cLine) : PSet X (rSetX X.K X.w) := by
  intro pins s σ H o i v ov iv u Q I ro ri rv ⟨a, xs, b, k, eo, ei, ha, hk, hb, hl, q⟩
  subst eo; subst ei
  cases ro; cases ri
  obtain ⟨h0, us, dd, r⟩ := dic_get I ha hk
  refine wpAny_setItem_heap (hsz := by rw [← Paired.length r]; omega) (nested_room hu) (keyIs I hb) dd fun h' dd' sb => ?_
  have he : ∃ q, h'.get? a = some q := let ⟨q, _, _, hq, _⟩ := dd'; ⟨q, hq⟩
  exact ⟨_, I.write (e := a) (t' := _) (by rw [ha]; trivial) (.inl rfl) (fun b u hb hu => (sb.2 b hb).trans hu) he (dic_new h0 dd' (put_paired r k b rv)), q⟩
end

/-! d.get(k), d.get(k, x) -/
section
variable {X : Cx} {o e f : Expr} {apos cpos : Pos} {td ty tx : TE}
def tGet1X (K : PySem.W.Frag) (w : World) (td ty : TE) : TE := fun σ H Q => td σ H fun x H1 => (∃ a xs, x = .ref a ∧ H1 a = some (DicO w a xs) ∧ KeysIn K H1 xs) ∧ ty σ H1 fun y H2 => ∃ a xs b k, x = .ref a ∧ y = .ref b ∧ H2 a = some (DicO w a xs) ∧ KeysIn K H2 xs ∧ KeyIn K H2 b k ∧ Q ((lkX xs k).getD .non) H2
theorem dic_dict {pins : List (Addr × Obj)} {σ : St} {H : Hp} {s : Shared} (I : Inv X pins σ H s) {a : Addr} {xs : List (NK × Addr × V)} (ha : H a = some (DicO X.w a xs)) (hk : KeysIn X.K H xs) : s.TypeIs (.ref a) "dict" ∧ (∀ b, Value.ref a = .ref b → ∃ ob, s.heap.get? b = some ob ∧ ob.dict = none) := by
  obtain ⟨_, us, dd, _⟩ := dic_get I ha hk
  refine ⟨dd.typeIs, fun b q => ?_⟩
  cases q
  obtain ⟨ob, _, _, h1, h2, _⟩ := dd
  exact ⟨ob, h1, h2.2.1⟩
theorem lk_rel {xs : List (NK × Addr × V)} {us : List (NK × Addr × Value)} (r : Paired EntR xs us) (k : NK) {z : V} {fv : Value} (rz : RelV z fv) : RelV ((lkX xs k).getD z) (((atKey us k).map (·.2)).getD fv) := by
  cases h : lkX xs k with
  | none =>
    rw [(lkX_at r k).2.1 h]
    exact rz
  | some v =>
    obtain ⟨p, hp, rp⟩ := (lkX_at r k).1 v h
    rw [hp]
    exact rp
theorem pe_get1X (hu : X.A.units + 65 < cLine) (ho : PE X o td) (he : PE X e ty) (m : M1 X o "get" apos e cpos) : PE X (.Call (.Attribute o "get" apos) [e] [] cpos) (tGet1X X.K X.w td ty) := by
  refine ⟨fun pins s σ H Q I h => ?_⟩
  refine wpAny_Call_method m.base m.few m.line PySem.F.plainAttrs_dict PySem.F.slot_dict_get PySem.F.type_dict_get (thn (ho.run pins s σ H _ I h) fun u s1 ⟨x, H1, I1, rx, ⟨a, xs, ex, ha, hk⟩, q1⟩ => ?_)
  subst ex
  obtain rfl : u = Value.ref a := rx
  obtain ⟨t1, t2⟩ := dic_dict I1 ha hk
  refine ⟨t1, t2, ?_⟩
  rw [m.trees]
  refine Calls.callWith_builtin rfl (Calls.evalArgs_plain (Calls.spliced_cons (thn (he.run pins s1 σ H1 _ I1 q1) fun iv s2 ⟨y, H2, I2, ry, a', xs', b, k, ea, ey, ha', hk', hb, q2⟩ => Calls.spliced_nil ?_)))
  cases ea
  subst ey
  cases ry
  obtain ⟨h0, us, dd, r⟩ := dic_get I2 ha' hk'
  refine get_keyed (nested_room hu) (keyIs I2 hb) h0 ⟨us, dd, rfl⟩ ⟨_, H2, I2.tok _, ?_, q2⟩
  rw [valueAt_pairsH]
  exact lk_rel r k (z := .non) (fv := .none) rfl
end
/-! ### by data -/
def keyOkA (d : D) : Bool := match d, nkey d with
  | .tuple _, some k => decide (k.depth ≤ 8)
  | _, _ => false
def lkA (kvs : List (D × D)) (d : D) : Option D := (kvs.find? fun p => decide (nkey p.1 = nkey d)).map (·.2)
def putA (kvs : List (D × D)) (d v : D) : List (D × D) := if (lkA kvs d).isSome = true then kvs.map (fun p => if nkey p.1 = nkey d then (p.1, v) else p) else kvs ++ [(d, v)]
theorem keyOkA_of {d : D} (h : keyOkA d = true) : ∃ ds k, d = .tuple ds ∧ nkey d = some k ∧ k.depth ≤ 8 := by
  unfold keyOkA at h
  split at h
  · rename_i ds k e
    exact ⟨ds, k, rfl, e, of_decide_eq_true h⟩
  · cases h
theorem kar_lk {K : PySem.W.Frag} {G : Hp} {xs : List (NK × Addr × V)} {kvs : List (D × D)} (r : KAr K G xs kvs) {d : D} {k : NK} (hk : nkey d = some k) : (∀ dv, lkA kvs d = some dv → ∃ v, lkX xs k = some v ∧ Dp K G v dv) ∧ (lkA kvs d = none → lkX xs k = none) ∧ (lkX xs k).isSome = (lkA kvs d).isSome := by
  induction r with
  | nil => exact ⟨fun v h => (by cases h), fun _ => rfl, rfl⟩
  | @cons x p xs kvs e t ih =>
    obtain ⟨e1, e2, e3, _⟩ := e
    by_cases hx : x.1 = k
    · have h1 : lkX (x :: xs) k = some x.2.2 := by simp [lkX, hx]
      have h2 : lkA (p :: kvs) d = some p.2 := by
        have : nkey p.1 = nkey d := by rw [e1, hk, hx]
        simp [lkA, this]
      exact ⟨fun v h => ⟨_, h1, by rw [h2] at h; cases h; exact e3⟩, fun h => (by rw [h2] at h; cases h), by rw [h1, h2]; rfl⟩
    · have h1 : lkX (x :: xs) k = lkX xs k := by simp [lkX, hx]
      have h2 : lkA (p :: kvs) d = lkA kvs d := by
        have : ¬ nkey p.1 = nkey d := by rw [e1, hk]; exact fun z => hx (Option.some.inj z)
        simp [lkA, this]
      rw [h1, h2]
      exact ih
theorem kar_put {K : PySem.W.Frag} {G : Hp} {xs : List (NK × Addr × V)} {kvs : List (D × D)} (r : KAr K G xs kvs) {d dv : D} {k : NK} {b : Addr} {v : V} (hd : Dp K G (.ref b) d) (hk : nkey d = some k) (h8 : k.depth ≤ 8) (hv : Dp K G v dv) : KAr K G (putX xs k b v) (putA kvs d dv) := by
  unfold putX putA
  rw [(kar_lk r hk).2.2]
  by_cases h : (lkA kvs d).isSome = true
  · rw [if_pos h, if_pos h]
    clear h
    induction r with
    | nil => exact .nil
    | @cons x p xs kvs e t ih =>
      refine .cons ?_ ih
      obtain ⟨e1, e2, e3, e4⟩ := e
      show nkey (if nkey p.1 = nkey d then (p.1, dv) else p).1 = some (if x.1 = k then (x.1, x.2.1, v) else x).1 ∧ Dp K G (.ref (if x.1 = k then (x.1, x.2.1, v) else x).2.1) (if nkey p.1 = nkey d then (p.1, dv) else p).1 ∧ Dp K G (if x.1 = k then (x.1, x.2.1, v) else x).2.2 (if nkey p.1 = nkey d then (p.1, dv) else p).2 ∧ (if x.1 = k then (x.1, x.2.1, v) else x).1.depth ≤ 8
      by_cases hx : x.1 = k
      · have : nkey p.1 = nkey d := by rw [e1, hk, hx]
        rw [if_pos hx, if_pos this]
        exact ⟨e1, e2, hv, e4⟩
      · have : ¬ nkey p.1 = nkey d := by rw [e1, hk]; exact fun z => hx (Option.some.inj z)
        rw [if_neg hx, if_neg this]
        exact ⟨e1, e2, e3, e4⟩
  · rw [if_neg h, if_neg h]
    clear h
    induction r with
    | nil => exact .cons ⟨hk, hd, hv, h8⟩ .nil
    | cons e t ih => exact .cons e ih
theorem kar_keys {K : PySem.W.Frag} {G H : Hp} (sm : Same G H) {xs : List (NK × Addr × V)} {kvs : List (D × D)} (r : KAr K G xs kvs) : KeysIn K H xs := fun x hx => by
  obtain ⟨p, _, e1, e2, _, e4⟩ := paired_memL r x hx
  exact ⟨p.1, dp_mono sm _ _ e2, e1, e4⟩
theorem kar_len {K : PySem.W.Frag} {G : Hp} {xs : List (NK × Addr × V)} {kvs : List (D × D)} (r : KAr K G xs kvs) : xs.length = kvs.length := Paired.length r
theorem tup_ref {K : PySem.W.Frag} {H : Hp} {v : V} {ds : List D} (h : Dp K H v (.tuple ds)) : ∃ b, v = .ref b := by
  cases h with
  | tup hs ha => exact ⟨_, rfl⟩
section
variable {X : Cx} {F : Fr} {pos : Pos} {o e : Expr}
def dAof : Option O → Option (List (D × D))
  | some (.dA kvs) => some kvs
  | _ => none
def R.dA (r : R) (env : En) : Option (List (D × D)) := dAof (r.ownO env)
theorem R.own_of_dA {r : R} {env : En} {kvs : List (D × D)} (e : r.dA env = some kvs) : r.ownO env = some (.dA kvs) := by
  unfold R.dA dAof at e; split at e <;> first | (cases e; assumption) | cases e
theorem RepS.dA {env : En} {ops : Ops} {G H : Hp} {σ : St} {v : V} {r : R} (I : RepS F env ops G σ H) (hk : (v, r) ∈ ops) {kvs : List (D × D)} (e : r.dA env = some kvs) : ∃ a xs, v = .ref a ∧ H a = some (DicO F.w a xs) ∧ KAr F.K G xs kvs := by
  obtain ⟨a, h1, ⟨xs, h2, h3⟩, _⟩ := I.ownO hk (R.own_of_dA e)
  exact ⟨a, xs, h1, h2, h3⟩
def ixAD (env : En) : Option (List (D × D)) → Option D → Option (R × En)
  | some kvs, some d => if keyOkA d = true then (lkA kvs d).map fun v => (.val v, env) else none
  | _, _ => none
def gIxA : G2 := fun ra rb env => ixAD env (ra.dA env) (rb.dat env)
def inAD (neg : Bool) (env : En) : Option (List (D × D)) → Option D → Option (R × En)
  | some kvs, some d => if keyOkA d = true then some (.val (.bool (bneg neg (lkA kvs d).isSome)), env) else none
  | _, _ => none
def gInA (neg : Bool) : G2 := fun rb ra env => inAD neg env (ra.dA env) (rb.dat env)
/-- d[k] = v -/
def setAtA (i : Nat) (ri : R) (d : D) (env : En) : Option B → Option En
  | some (.mu (.dA kvs)) => match ri with
    | .val kd => if keyOkA kd = true ∧ kvs.length < sizeLine then some (env.set i (some (.mu (.dA (putA kvs kd d))))) else none
    | _ => none
  | _ => none
theorem RepS.setAtA {env env' : En} {ops : Ops} {G H : Hp} {σ : St} {x y v : V} {i : Nat} {ri : R} {d : D} {Q : Hp → Prop} (I : RepS F env ops G σ H) (mv : (v, R.val d) ∈ ops) (mx : (x, R.bor i) ∈ ops) (my : (y, ri) ∈ ops) (e : setAtA i ri d env env[i]?.join = some env') (q : ∀ H', RepS F env' ops G σ H' → Q H') : rSetX F.K F.w x y v H Q := by
  have hσ : σ[i]? = some (some x) := (show σ[i]? = some (some x) ∧ F.cv i = false from I.opr x (.bor i) mx).1
  have hd : Dp F.K G v d := (I.obj (v := v) (r := .val d) mv (b := .val d) rfl).1 d rfl
  unfold ML.setAtA at e
  split at e
  · rename_i kvs hi
    split at e
    · rename_i kd
      split at e
      · rename_i hok
        cases e
        obtain ⟨ds, kk, rfl, ek, h8⟩ := keyOkA_of hok.1
        have hkd : Dp F.K G y (.tuple ds) := (I.obj (v := y) (r := .val (.tuple ds)) my (b := .val _) rfl).1 _ rfl
        obtain ⟨b, rfl⟩ := tup_ref hkd
        obtain ⟨p, rfl, ⟨xs, q1, q2⟩, _⟩ := (I.obj (v := x) (r := .bor i) mx (b := .mu (.dA kvs)) hi).2 _ rfl
        refine ⟨p, xs, b, kk, rfl, rfl, q1, kar_keys I.same q2, ⟨_, dp_mono I.same _ _ hkd, ek, h8⟩, by rw [kar_len q2]; exact hok.2, q _ ?_⟩
        exact I.writeSlot (u' := .dA (putA kvs (.tuple ds) d)) hσ hi ⟨_, upd_same, kar_put q2 hkd ek h8 hd⟩
      · cases e
    · cases e
  · cases e
def sSetIxA (fv fo fi : FE) : FS := fun env => (fv env).bind fun p => (fo p.2).bind fun q => (fi q.2).bind fun s => (keep p.1 s.2).bind fun d => match q.1 with
  | .bor i => (setAtA i s.1 d.1 d.2 d.2[i]?.join).map fun e => (.nx, e)
  | _ => none
theorem ms_setIxA {a b : Expr} {tp : Pos} {fv fo fi : FE} (hK : X.K = F.K) (hw' : X.w = F.w) (hu : X.A.units + 65 < cLine) (hv : PE X e (tE F fv)) (ho : PE X a (tE F fo)) (hi : PE X b (tE F fi))
    (ha : ∀ v, assign (.Subscript a b tp) X.env v = (do
      let ov ← holding [v] (eval a X.env)
      let iv ← holding [v, ov] (eval b X.env)
      standAt tp
      holding [v, ov, iv] (setItem ov iv v)
      release [v, ov, iv] []) := by intro _; rfl)
    (hs : swapsWithSole [.Subscript a b tp] e pos.line X.env = pure false := by rfl) (hw : swappedStores [.Subscript a b tp] e X.env = pure none := by rfl)
    (h1 : (assignEach [.Subscript a b tp] X.env).map (·.2) = [assign (.Subscript a b tp) X.env] := by rfl) : PS X (.Assign [.Subscript a b tp] e pos) (tS F (sSetIxA fv fo fi)) :=
  (ps_asg hv (pg_sub ho hi (set_dic hu) ha) hs hw h1).wk fun D σ H ⟨env, ops, G, fl, env', nb, I, e, k⟩ => by
    obtain ⟨⟨rv, e1⟩, h1, e⟩ := bind_some e
    obtain ⟨⟨ro, e2⟩, h2, e⟩ := bind_some e
    obtain ⟨⟨ri, e3⟩, h3, e⟩ := bind_some e
    obtain ⟨⟨d, e4⟩, h4, e⟩ := bind_some e
    split at e
    · rename_i i hro
      obtain ⟨e5, h5, h6⟩ := omap_some e
      cases h6
      have hro : ro = .bor i := hro
      subst hro
      refine ⟨env, ops, G, rv, e1, I, h1, fun v G1 H1 s1 I1 => ?_⟩
      refine ⟨e1, _, G1, _, e2, I1, h2, fun x G2 H2 s2 I2 => ?_⟩
      refine ⟨e2, _, G2, ri, e3, I2, h3, fun y G3 H3 s3 I3 => ?_⟩
      obtain ⟨G4, s4, I4⟩ := RepS.keep (o1 := ops) (v := v) (r := rv) (o2 := [(x, .bor i), (y, ri)]) (by simpa using I3) h4
      rw [hK, hw']
      exact RepS.setAtA I4 (by simp) (by simp) (by simp) h5 fun H' I5 => k σ G4 H' (((s1.trans s2).trans s3).trans s4) I5.pop
    · cases e
/-- {} for tuple keys -/
def tNewX (w : World) : TE := fun _ H Q => ∀ p, H p = none → Q (.ref p) (upd H p (DicO w p []))
theorem pe_newX : PE X (.Dict [] [] pos) (tNewX X.w) := by
  refine ⟨fun pins s σ H Q I h => ?_⟩
  have hs := (dk_empty (P := X.prog) (w := X.w) (H := upd H s.heap.objs.size (.dK [])) s.heap I.big).2.1
  exact wpAny_Dict_empty ⟨.ref s.heap.objs.size, _, I.laid (a := s.heap.objs.size) (o := DicO X.w s.heap.objs.size []) (t' := s.toks) (fun _ _ q => Heap.get?_push_of_some _ q) (Nat.le_refl _) (dic_new (us := []) hs (Heap.DictOfH.new _) .nil), rfl, h _ (I.hok.fresh (Nat.le_refl _))⟩
def eNewA : FE := fun env => some (.new (.dA []), env)
theorem me_newA (hw : X.w = F.w) : PE X (.Dict [] [] pos) (tE F eNewA) := pe_newX.wk fun σ H Q ⟨env, ops, G, r, env', I, e, q⟩ => by
  cases e
  rw [hw]
  exact fun p hp => q _ G _ (Same.refl _) (I.pushN (u := .dA []) hp ⟨[], upd_same, .nil⟩)
def get1AK (env : En) : Option (List (D × D)) → Option D → Option (R × En)
  | some kvs, some d => if keyOkA d = true then some (.val ((lkA kvs d).getD .none), env) else none
  | _, _ => none
def eGet1A (fo fk : FE) : FE := fun env => (fo env).bind fun p => if (p.1.dA p.2).isSome = true then (fk p.2).bind fun q => get1AK q.2 (p.1.dA q.2) (q.1.dat q.2) else none
theorem me_get1A {apos cpos : Pos} {fo fk : FE} (hK : X.K = F.K) (hw : X.w = F.w) (hu : X.A.units + 65 < cLine) (ho : PE X o (tE F fo)) (he : PE X e (tE F fk)) (m : M1 X o "get" apos e cpos) : PE X (.Call (.Attribute o "get" apos) [e] [] cpos) (tE F (eGet1A fo fk)) :=
  (pe_get1X hu ho he m).wk fun σ H Q ⟨env, ops, G, r, env', I, e, q⟩ => by
    obtain ⟨⟨ro, e1⟩, h1, e⟩ := bind_some e
    split at e
    case isFalse => cases e
    rename_i hc
    obtain ⟨⟨rk, e2⟩, h2, e⟩ := bind_some e
    refine ⟨env, ops, G, ro, e1, I, h1, fun x G1 H1 s1 I1 => ?_⟩
    obtain ⟨kvs1, h7⟩ := Option.isSome_iff_exists.mp hc
    obtain ⟨a, xs, rfl, ha, hx⟩ := I1.dA (v := x) (r := ro) (by simp) h7
    rw [hK, hw]
    refine ⟨⟨a, xs, rfl, ha, kar_keys I1.same hx⟩, e1, _, G1, rk, e2, I1, h2, fun y G2 H2 s2 I2 => ?_⟩
    have e : get1AK e2 (ro.dA e2) (rk.dat e2) = some (r, env') := e
    unfold get1AK at e
    split at e
    · rename_i kvs d h3 h4
      split at e
      · rename_i hok
        cases e
        obtain ⟨ds, kk, rfl, ek, h8⟩ := keyOkA_of hok
        have I2' : RepS F env' (ops ++ [(.ref a, ro), (y, rk)]) G2 σ H2 := by simpa using I2
        obtain ⟨a', xs', ea, ha', hx'⟩ := I2'.dA (v := .ref a) (r := ro) (by simp) h3
        cases ea
        have hd := I2'.dat (v := y) (r := rk) (by simp) h4
        obtain ⟨b, rfl⟩ := tup_ref hd
        refine ⟨a, xs', b, kk, rfl, rfl, ha', kar_keys I2'.same hx', ⟨_, hd, ek, h8⟩, ?_⟩
        have s := s1.trans s2
        have P := RepS.pop (ps := [(.ref a, ro), (.ref b, rk)]) (by simpa using I2')
        cases hl : lkA kvs (.tuple ds) with
        | none =>
          rw [(kar_lk hx' ek).2.1 hl]
          exact q .non G2 H2 s (by rw [hl]; exact P.pushV .non)
        | some dv =>
          obtain ⟨v, q1, q2⟩ := (kar_lk hx' ek).1 dv hl
          rw [q1]
          exact q v G2 H2 s (by rw [hl]; exact P.pushV q2)
      · cases e
    · cases e
def get2AK (rd : R) (env : En) : Option (List (D × D)) → Option D → Option (R × En)
  | some kvs, some d => if keyOkA d = true then (match lkA kvs d with | some v => some (.val v, env) | none => some (rd, env)) else none
  | _, _ => none
def eGet2A (fo fk fd : FE) : FE := fun env => (fo env).bind fun p => if (p.1.dA p.2).isSome = true then (fk p.2).bind fun q => (fd q.2).bind fun z => get2AK z.1 z.2 (p.1.dA z.2) (q.1.dat z.2) else none
end
end ML

/-! ML57: a, b, c, d = w, x, y, z by way of a tuple; what the words of ML55, ML56 come to. -/
namespace ML
open PySem PySem.Spec PyProof.Rows L2
def sPar4 (np i j l m : Nat) (f : FA) : FS := fun env => (f env).bind fun p => (norms p.1 p.2).bind fun q => match q.1 with
  | [r, s, t, u] => (put np m u q.2).bind fun e3 => (put np l t e3).bind fun e4 => (put np j s e4).bind fun e5 => (put np i r e5).map fun e6 => (.nx, e6)
  | _ => none
theorem map4 {ps : Ops} {a b c d : R} (h : ps.map (·.2) = [a, b, c, d]) : ∃ w x y z, ps = [(w, a), (x, b), (y, c), (z, d)] := by
  match ps, h with
  | [p, q, r, s], h =>
    simp at h
    obtain ⟨rfl, rfl, rfl, rfl⟩ := h
    exact ⟨_, _, _, _, rfl⟩
section
variable {X : Cx} {F : Fr} {pos : Pos}
theorem ms_par4U {np i j l m : Nat} {x y z x4 : Str} {a b c d : Expr} {px py pz p4 pt : Pos} {kt k2 pt2} {f : FA} (hnp : F.args.length = np) (hK : X.K = F.K) (hc : X.calm = true) (hN : X.N.Nodup) (hi : X.N[i]? = some x) (hj : X.N[j]? = some y) (hl : X.N[l]? = some z) (hm : X.N[m]? = some x4)
    (nd : [i, j, l, m].Nodup)
    (hx : Loc X.env.scope x) (hy : Loc X.env.scope y) (hz : Loc X.env.scope z) (h4 : Loc X.env.scope x4) (hfx : X.fn x = true ∨ X.env.scope.names.lookup x = some .local) (hfy : X.fn y = true ∨ X.env.scope.names.lookup y = some .local) (hfz : X.fn z = true ∨ X.env.scope.names.lookup z = some .local) (hf4 : X.fn x4 = true ∨ X.env.scope.names.lookup x4 = some .local) (ha : PA X [a, b, c, d] (tA F f))
    (hw : swappedStores [.Tuple [.Name x px, .Name y py, .Name z pz, .Name x4 p4] kt pt] (.Tuple [a, b, c, d] k2 pt2) X.env = pure none := by rfl)
    (hs : swapsWithSole [.Tuple [.Name x px, .Name y py, .Name z pz, .Name x4 p4] kt pt] (.Tuple [a, b, c, d] k2 pt2) pos.line X.env = pure false := by rfl) :
    PS X (.Assign [.Tuple [.Name x px, .Name y py, .Name z pz, .Name x4 p4] kt pt] (.Tuple [a, b, c, d] k2 pt2) pos) (tS F (sPar4 np i j l m f)) :=
  (ps_asg (pe_tup ha) (pg_tup (n := 4) hc (pgs_cons (pg_name hN hi hx hfx) (pgs_cons (pg_name hN hj hy hfy) (pgs_cons (pg_name hN hl hz hfz) (pgs_cons (pg_name hN hm h4 hf4) pgs_nil rfl) rfl) rfl) rfl) rfl rfl) hs hw rfl).wk fun D σ H ⟨env, ops, G, fl, env', nb, I, e, k⟩ => by
    have hij : i ≠ j := fun z => by simp [z] at nd
    have hil : i ≠ l := fun z => by simp [z] at nd
    have him : i ≠ m := fun z => by simp [z] at nd
    have hjl : j ≠ l := fun z => by simp [z] at nd
    have hjm : j ≠ m := fun z => by simp [z] at nd
    have hlm : l ≠ m := fun z => by simp [z] at nd
    obtain ⟨⟨rs, e1⟩, h1, e⟩ := bind_some e
    obtain ⟨⟨rs', e2⟩, h2, e⟩ := bind_some e
    split at e
    · rename_i r s t u hrs
      have hrs : rs' = [r, s, t, u] := hrs
      subst hrs
      obtain ⟨e3, h3, e⟩ := bind_some e
      obtain ⟨e4, h4, e⟩ := bind_some e
      obtain ⟨e5, h5, e⟩ := bind_some e
      obtain ⟨e6, h6, h7⟩ := omap_some e
      cases h7
      refine ⟨env, ops, G, rs, e1, I, h1, fun ps G1 H1 hp s1 I1 => ?_⟩
      subst hp
      obtain ⟨G2, ps', s2, I2, m1, m2, n2⟩ := RepS.norms I1 h2 nb
      obtain ⟨v1, v2, v3, v4, rfl⟩ := map4 m2
      rw [← m1]
      refine ⟨by show 4 ≤ sizeLine; decide, fun p hp => ?_⟩
      have I2' : RepS F e2 ((ops ++ [(v1, r), (v2, s), (v3, t)]) ++ [(v4, u)]) G2 σ H1 := by simpa using I2
      have n2' : NoBor ((ops ++ [(v1, r), (v2, s), (v3, t)]) ++ [(v4, u)]) := by simpa using n2
      have I3 := I2'.put hnp (fun z => nobor_left n2' z m) h3
      have n3 : NoBor ((ops ++ [(v1, r), (v2, s)]) ++ [(v3, t)]) := by simpa using nobor_left n2'
      have I3' : RepS F e3 ((ops ++ [(v1, r), (v2, s)]) ++ [(v3, t)]) G2 (σ.set m (some v4)) H1 := by simpa using I3
      have I4 := I3'.put hnp (fun z => nobor_left n3 z l) h4
      have n4 : NoBor ((ops ++ [(v1, r)]) ++ [(v2, s)]) := by simpa using nobor_left n3
      have I4' : RepS F e4 ((ops ++ [(v1, r)]) ++ [(v2, s)]) G2 ((σ.set m (some v4)).set l (some v3)) H1 := by simpa using I4
      have I5 := I4'.put hnp (fun z => nobor_left n4 z j) h5
      have I6 := I5.put hnp (fun z => nb z i) h6
      have e1 : ((((σ.set m (some v4)).set l (some v3)).set j (some v2)).set i (some v1)) = ((((σ.set i (some v1)).set j (some v2)).set l (some v3)).set m (some v4)) := by
        rw [List.set_comm _ _ (Ne.symm hij), List.set_comm (some v3) (some v1) (Ne.symm hil), List.set_comm (some v4) (some v1) (Ne.symm him), List.set_comm (some v3) (some v2) (Ne.symm hjl), List.set_comm (some v4) (some v2) (Ne.symm hjm), List.set_comm (some v4) (some v3) (Ne.symm hlm)]
      rw [e1] at I6
      have I7 : RepS F env' ops G2 ((((σ.set i (some v1)).set j (some v2)).set l (some v3)).set m (some v4)) (upd H1 p (.tup [v1, v2, v3, v4])) := ⟨I6.rep.heap hp, I6.opr, I6.len⟩
      exact ⟨p, [v1, v2, v3, v4], rfl, .inl (.inl upd_same), rfl, v1, [v2, v3, v4], rfl, v2, [v3, v4], rfl, v3, [v4], rfl, v4, [], rfl, rfl, k _ G2 _ (s1.trans s2) I7⟩
    · cases e
end
/-! ### what the words come to -/
section
variable {env : En} {f g h : FE} {r s t u : R} {i : Nat} {kvs : List (D × D)} {d x : D}
def par4K (np i j l m : Nat) (env : En) : List R → Option (Fl × En)
  | [r, s, t, u] => bnd (fun e3 => bnd (fun e4 => bnd (fun e5 => (put np i r e5).map fun e6 => (.nx, e6)) (put np j s e4)) (put np l t e3)) (put np m u env)
  | _ => none
theorem v_sPar4 {np j l m : Nat} {f : FA} : sPar4 np i j l m f env = bnd (fun p => bnd (fun q => par4K np i j l m q.2 q.1) (norms p.1 p.2)) (f env) := by
  rfl
theorem v_par4K {np j l m : Nat} : par4K np i j l m env [r, s, t, u] = bnd (fun e3 => bnd (fun e4 => bnd (fun e5 => (put np i r e5).map fun e6 => (.nx, e6)) (put np j s e4)) (put np l t e3)) (put np m u env) := rfl
def dAO : Option B → Option (List (D × D))
  | some (.mu (.dA kvs)) => some kvs
  | some (.lk (.dA kvs)) => some kvs
  | _ => none
theorem v_dA_bor : R.dA (.bor i) env = dAO env[i]?.join := by
  show dAof ((env[i]?.join).bind B.own) = _
  cases env[i]?.join with
  | none => rfl
  | some b =>
    cases b with
    | val d => rfl
    | mu o => cases o <;> rfl
    | lk o => cases o <;> rfl
theorem v_dA_new : R.dA (.new (.dA kvs)) env = some kvs := rfl
theorem v_dAO_mu : dAO (some (.mu (.dA kvs))) = some kvs := rfl
theorem v_dAO_lk : dAO (some (.lk (.dA kvs))) = some kvs := rfl
theorem v_gIxA : gIxA r s env = ixAD env (r.dA env) (s.dat env) := rfl
theorem v_ixAD : ixAD env (some kvs) (some d) = if keyOkA d = true then (lkA kvs d).map fun v => (.val v, env) else none := rfl
theorem v_gInA {neg : Bool} : gInA neg r s env = inAD neg env (s.dA env) (r.dat env) := rfl
theorem v_inAD {neg : Bool} : inAD neg env (some kvs) (some d) = if keyOkA d = true then some (.val (.bool (bneg neg (lkA kvs d).isSome)), env) else none := rfl
def sixAK (ri : R) (d : D) (env : En) : R → Option (Fl × En)
  | .bor i => (setAtA i ri d env env[i]?.join).map fun e => (.nx, e)
  | _ => none
theorem v_sSetIxA : sSetIxA f g h env = bnd (fun p => bnd (fun q => bnd (fun s => bnd (fun d => sixAK s.1 d.1 d.2 q.1) (keep p.1 s.2)) (h q.2)) (g p.2)) (f env) := by
  rfl
theorem v_sixAK : sixAK r d env (.bor i) = (setAtA i r d env env[i]?.join).map fun e => (.nx, e) := rfl
theorem v_setAtA : setAtA i (.val x) d env (some (.mu (.dA kvs))) = if keyOkA x = true ∧ kvs.length < sizeLine then some (env.set i (some (.mu (.dA (putA kvs x d))))) else none := rfl
theorem v_eGet1A : eGet1A f g env = bnd (fun p => if (p.1.dA p.2).isSome = true then bnd (fun q => get1AK q.2 (p.1.dA q.2) (q.1.dat q.2)) (g p.2) else none) (f env) := rfl
theorem v_get1AK : get1AK env (some kvs) (some d) = if keyOkA d = true then some (.val ((lkA kvs d).getD .none), env) else none := rfl
theorem v_eGet2A : eGet2A f g h env = bnd (fun p => if (p.1.dA p.2).isSome = true then bnd (fun q => bnd (fun z => get2AK z.1 z.2 (p.1.dA z.2) (q.1.dat z.2)) (h q.2)) (g p.2) else none) (f env) := rfl
def get2AO (rd : R) (env : En) : Option D → Option (R × En)
  | some v => some (.val v, env)
  | none => some (rd, env)
theorem v_get2AK : get2AK r env (some kvs) (some d) = if keyOkA d = true then get2AO r env (lkA kvs d) else none := by
  unfold get2AK get2AO
  rfl
theorem v_get2AO_s : get2AO r env (some d) = some (.val d, env) := rfl
theorem v_get2AO_n : get2AO r env none = some (r, env) := rfl
end

end ML

/-! ML58: {k: v, ..} whose keys are tuples. -/
namespace ML
open PySem PySem.Spec PyProof.Rows L2
section
variable {X : Cx} {pos : Pos}
end
def mergeA (kvs more : List (D × D)) : List (D × D) := more.foldl (fun acc p => putA acc p.1 p.2) kvs
section
variable {X : Cx} {F : Fr} {pos : Pos}
def pairsAE : List (FE × FE) → En → Option (List (D × D) × En)
  | [], env => some ([], env)
  | (fk, fv) :: r, env => (fk env).bind fun p => match p.1 with
    | .val kd => if keyOkA kd = true then (fv p.2).bind fun q => (keep q.1 q.2).bind fun d => (pairsAE r d.2).map fun s => ((kd, d.1) :: s.1, s.2) else none
    | _ => none
def eDispA (l : List (FE × FE)) : FE := fun env => (pairsAE l env).bind fun p => some (.new (.dA (mergeA [] p.1)), p.2)
end
section
variable {env : En}
theorem v_eDispA {l : List (FE × FE)} : eDispA l env = bnd (fun p => some (.new (.dA (mergeA [] p.1)), p.2)) (pairsAE l env) := rfl
theorem v_pairsAE_nil : pairsAE [] env = some ([], env) := rfl
def pairAK (l : List (FE × FE)) (fv : FE) (p : R × En) : Option (List (D × D) × En) := match p.1 with
  | .val kd => if keyOkA kd = true then bnd (fun q => bnd (fun d => (pairsAE l d.2).map fun s => ((kd, d.1) :: s.1, s.2)) (keep q.1 q.2)) (fv p.2) else none
  | _ => none
theorem v_pairsAE_cons {l : List (FE × FE)} {fk fv : FE} : pairsAE ((fk, fv) :: l) env = bnd (pairAK l fv) (fk env) := rfl
theorem v_pairAK {l : List (FE × FE)} {fv : FE} {kd : D} {e : En} : pairAK l fv (.val kd, e) = if keyOkA kd = true then bnd (fun q => bnd (fun d => (pairsAE l d.2).map fun s => ((kd, d.1) :: s.1, s.2)) (keep q.1 q.2)) (fv e) else none := rfl
end

end ML

/-! ML59: list.extend by any list, one's own or frozen. -/
namespace ML
open PySem PySem.Spec PyProof.Rows L2
section
variable {X : Cx} {F : Fr}
end
end ML

/-! ML60: tuples of which some parts are unknown (a dict of one's own among them): (a, b, d), t[i], t[lo:hi]. -/
namespace ML
open PySem PySem.Spec PyProof.Rows L2
section
variable {X : Cx} {F : Fr} {pos : Pos} {es : List Expr}
def keepQ : List R → En → Option (List (Option D) × En)
  | [], env => some ([], env)
  | r :: rs, env => match keep r env with
    | some p => (keepQ rs p.2).map fun q => (some p.1 :: q.1, q.2)
    | none => (keepQ rs env).map fun q => (none :: q.1, q.2)
theorem RepS.keepsQ {σ : St} {H : Hp} : ∀ {ps o1 : Ops} {env env' : En} {G : Hp} {ds : List (Option D)}, RepS F env (o1 ++ ps) G σ H → keepQ (ps.map (·.2)) env = some (ds, env') → ∃ G' ps', Same G G' ∧ RepS F env' (o1 ++ ps') G' σ H ∧ TqR F.K G' (ps.map (·.1)) ds
  | [], o1, env, env', G, ds, I, e => by
    cases e
    exact ⟨G, [], Same.refl _, I, .nil⟩
  | (v, r) :: ps, o1, env, env', G, ds, I, e => by
    have e : (match ML.keep r env with
      | some p => (keepQ (ps.map (·.2)) p.2).map fun q => (some p.1 :: q.1, q.2)
      | none => (keepQ (ps.map (·.2)) env).map fun q => (none :: q.1, q.2)) = some (ds, env') := e
    split at e
    · rename_i p h1
      obtain ⟨d, e1⟩ := p
      obtain ⟨⟨ds', e2⟩, h3, h4⟩ := omap_some e
      cases h4
      obtain ⟨G1, s1, I1⟩ := RepS.keep (o1 := o1) (o2 := ps) I h1
      obtain ⟨G2, ps', s2, I2, a2⟩ := RepS.keepsQ (ps := ps) (o1 := o1 ++ [(v, .val d)]) (by simpa using I1) h3
      refine ⟨G2, (v, .val d) :: ps', s1.trans s2, by simpa using I2, .cons (fun d' z => ?_) a2⟩
      cases z
      exact (I2.obj (v := v) (r := .val d) (by simp) (b := .val d) rfl).1 d rfl
    · obtain ⟨⟨ds', e2⟩, h3, h4⟩ := omap_some e
      cases h4
      obtain ⟨G2, ps', s2, I2, a2⟩ := RepS.keepsQ (ps := ps) (o1 := o1 ++ [(v, r)]) (by simpa using I) h3
      exact ⟨G2, (v, r) :: ps', s2, by simpa using I2, .cons (fun d' z => by cases z) a2⟩
def eTupQ (f : FA) : FE := fun env => (f env).bind fun p => (keepQ p.1 p.2).bind fun q => if q.1.length ≤ sizeLine then some (.new (.tq q.1), q.2) else none
theorem me_tupQ {k} {f : FA} (h : PA X es (tA F f)) : PE X (.Tuple es k pos) (tE F (eTupQ f)) := (pe_tupF h).wk fun σ H Q ⟨env, ops, G, r, env', I, e, q⟩ => by
  obtain ⟨⟨rs, e1⟩, h1, e⟩ := bind_some e
  obtain ⟨⟨ds, e2⟩, h2, e⟩ := bind_some e
  split at e
  · rename_i hl
    cases e
    refine ⟨env, ops, G, rs, e1, I, h1, fun ps G1 H1 hp s1 I1 => ?_⟩
    subst hp
    obtain ⟨G2, ps', s2, I2, a2⟩ := RepS.keepsQ I1 h2
    refine ⟨by rw [Paired.length a2]; exact hl, fun p q' hq' hp => ?_⟩
    exact q _ G2 _ (s1.trans s2) (I2.pop.pushN (u := .tq ds) hp ⟨q', _, upd_same, a2⟩)
  · cases e
def tqO : Option O → Option (List (Option D))
  | some (.tq ps) => some ps
  | _ => none
def R.tq (r : R) (env : En) : Option (List (Option D)) := tqO (r.ownO env)
theorem RepS.tq {env : En} {ops : Ops} {G H : Hp} {σ : St} {v : V} {r : R} (I : RepS F env ops G σ H) (hk : (v, r) ∈ ops) {ps : List (Option D)} (e : r.tq env = some ps) : ∃ a xs, v = .ref a ∧ SqT F.K H a xs ∧ TqR F.K G xs ps := by
  have e' : r.ownO env = some (.tq ps) := by
    unfold R.tq tqO at e
    split at e
    · cases e; assumption
    · cases e
  obtain ⟨a, h1, ⟨q, xs, h2, h3⟩, _⟩ := I.ownO hk e'
  exact ⟨a, xs, h1, .inl (.inr ⟨q, h2⟩), h3⟩
def gIxQ : G2 := fun ra rb env => match ra.tq env with
  | some ps => rb.int.bind fun i => (atI ps i).bind fun o => o.map fun d => (.val d, env)
  | none => gIx ra rb env
def allD : List (Option D) → Option (List D)
  | [] => some []
  | some d :: r => (allD r).map (d :: ·)
  | none :: _ => none
theorem allD_dp {K : PySem.W.Frag} {G : Hp} : ∀ {xs : List V} {ps : List (Option D)} {ds : List D}, TqR K G xs ps → allD ps = some ds → DpAll K G xs ds
  | _, _, _, .nil, e => by cases e; exact .nil
  | _, _, ds, @Paired.cons _ _ _ x o xs ps r t, e => by
    cases o with
    | none => cases e
    | some d =>
      obtain ⟨ds', e1, rfl⟩ := omap_some e
      exact .cons (r d rfl) (allD_dp t e1)
theorem tqr_cut {K : PySem.W.Frag} {G : Hp} {xs : List V} {ps : List (Option D)} (h : TqR K G xs ps) (lo hi : Option Int) : TqR K G (cutV xs lo hi) (cutD ps lo hi) := by
  have hl : xs.length = ps.length := Paired.length h
  unfold cutV cutD
  rw [hl]
  have dr : ∀ (n : Nat) {xs : List V} {ps : List (Option D)}, TqR K G xs ps → TqR K G (xs.drop n) (ps.drop n) := fun n => by
    induction n with
    | zero => exact fun h => h
    | succ n ih =>
      intro xs ps h
      cases h with
      | nil => exact .nil
      | cons a b => exact ih b
  have tk : ∀ (n : Nat) {xs : List V} {ps : List (Option D)}, TqR K G xs ps → TqR K G (xs.take n) (ps.take n) := fun n => by
    induction n with
    | zero => exact fun h => .nil
    | succ n ih =>
      intro xs ps h
      cases h with
      | nil => exact .nil
      | cons a b => exact .cons a (ih b)
  exact tk _ (dr _ h)
def gSlQ (r : R) (lo hi : Option Int) (env : En) : Option (R × En) := match r.tq env with
  | some ps => if (cutD ps lo hi).length < ps.length then (allD (cutD ps lo hi)).map fun ds => (.val (.tuple ds), env) else none
  | none => none
def eSlQ (fa : FE) (fl fh : FO) : FE := fun env => (fa env).bind fun p => (fl p.2).bind fun q => (fh q.2).bind fun s => gSlQ p.1 q.1 s.1 s.2
theorem me_slQ {a : Expr} {lo hi : Option Expr} {p2 pos : Pos} {fa : FE} {fl fh : FO} (hK : X.K = F.K) (ha : PE X a (tE F fa)) (hl : PO X lo (tO F fl)) (hh : PO X hi (tO F fh)) : PE X (.Subscript a (.Slice lo hi none p2) pos) (tE F (eSlQ fa fl fh)) :=
  (pe_slice sl_LT ha hl hh).wk fun σ H Q ⟨env, ops, G, r, env', I, e, q⟩ => by
    obtain ⟨⟨ra, ea⟩, h1, e⟩ := bind_some e
    obtain ⟨⟨l, el⟩, h2, e⟩ := bind_some e
    obtain ⟨⟨u, eu⟩, h3, e⟩ := bind_some e
    refine ⟨env, ops, G, ra, ea, I, h1, fun v G1 H1 s1 I1 => ?_⟩
    refine ⟨ea, _, G1, l, el, I1, h2, fun G2 H2 s2 I2 => ?_⟩
    refine ⟨el, _, G2, u, eu, I2, h3, fun G3 H3 s3 I3 => ?_⟩
    have s : Same G G3 := (s1.trans s2).trans s3
    have k : Cont F ops G3 σ r env' Q := fun v G' H' s4 I4 => q v G' H' (s.trans s4) I4
    rw [hK]
    have e : gSlQ ra l u eu = some (r, env') := e
    unfold gSlQ at e
    split at e
    · rename_i ps hd
      split at e
      · rename_i hlt
        obtain ⟨ds, h4, h5⟩ := omap_some e
        cases h5
        obtain ⟨a, vs, rfl, q1, q2⟩ := I3.tq (r := ra) (v := v) (by simp) hd
        have hl' : vs.length = ps.length := Paired.length q2
        refine .inl (.inr ⟨a, vs, rfl, q1, fun z => ?_, fun _ => I3.retT k (allD_dp (tqr_cut q2 l u) h4)⟩)
        exfalso
        unfold cutD at hlt
        rw [← hl', z.1, z.2] at hlt
        simp [hl'] at hlt
      · cases e
    · cases e
end
section
variable {env : En} {r : R} {ds : List D}
theorem v_eTupQ {f : FA} : eTupQ f env = bnd (fun p => bnd (fun q => if q.1.length ≤ sizeLine then some (.new (.tq q.1), q.2) else none) (keepQ p.1 p.2)) (f env) := rfl
theorem v_keepQ_nil : keepQ [] env = some ([], env) := rfl
theorem v_keepQ_val {d : D} {rs : List R} : keepQ (.val d :: rs) env = (keepQ rs env).map fun q => (some d :: q.1, q.2) := rfl
theorem v_keepQ_new {rs : List R} : keepQ (.new (.lst ds) :: rs) env = (keepQ rs env).map fun q => (some (.list ds) :: q.1, q.2) := rfl
def kqB (i : Nat) (rs : List R) (env : En) : Option B → Option (List (Option D) × En)
  | some (.val d) => (keepQ rs env).map fun q => (some d :: q.1, q.2)
  | some (.mu (.lst ds)) => (keepQ rs (env.set i (some (.val (.list ds))))).map fun q => (some (.list ds) :: q.1, q.2)
  | _ => (keepQ rs env).map fun q => (none :: q.1, q.2)
theorem v_keepQ_bor {i : Nat} {rs : List R} : keepQ (.bor i :: rs) env = kqB i rs env env[i]?.join := by
  show (match (keep (.bor i) env : Option (D × En)) with
    | some p => (keepQ rs p.2).map fun (q : List (Option D) × En) => (some p.1 :: q.1, q.2)
    | none => (keepQ rs env).map fun (q : List (Option D) × En) => (none :: q.1, q.2)) = _
  have hk : keep (.bor i) env = (match env[i]?.join with
    | some (.val d) => some (d, env)
    | some (.mu (.lst ds)) => some (.list ds, env.set i (some (.val (.list ds))))
    | _ => none) := rfl
  rw [hk]
  cases env[i]?.join with
  | none => rfl
  | some b =>
    cases b with
    | val d => rfl
    | mu o => cases o <;> rfl
    | lk o => cases o <;> rfl
theorem v_kqB_val {i : Nat} {rs : List R} {d : D} : kqB i rs env (some (.val d)) = (keepQ rs env).map fun q => (some d :: q.1, q.2) := rfl
theorem v_kqB_lst {i : Nat} {rs : List R} : kqB i rs env (some (.mu (.lst ds))) = (keepQ rs (env.set i (some (.val (.list ds))))).map fun q => (some (.list ds) :: q.1, q.2) := rfl
theorem v_kqB_dA {i : Nat} {rs : List R} {kvs : List (D × D)} : kqB i rs env (some (.mu (.dA kvs))) = (keepQ rs env).map fun q => (none :: q.1, q.2) := rfl
theorem v_kqB_dK {i : Nat} {rs : List R} {kvs : List (Key × D)} : kqB i rs env (some (.mu (.dK kvs))) = (keepQ rs env).map fun q => (none :: q.1, q.2) := rfl
def tqB : Option B → Option (List (Option D))
  | some (.mu (.tq ps)) => some ps
  | some (.lk (.tq ps)) => some ps
  | _ => none
theorem v_tq_bor {i : Nat} : R.tq (.bor i) env = tqB env[i]?.join := by
  show tqO ((env[i]?.join).bind B.own) = _
  cases env[i]?.join with
  | none => rfl
  | some b =>
    cases b with
    | val d => rfl
    | mu o => cases o <;> rfl
    | lk o => cases o <;> rfl
theorem v_tq_new {ps : List (Option D)} : R.tq (.new (.tq ps)) env = some ps := rfl
theorem v_tq_val {d : D} : R.tq (.val d) env = none := rfl
theorem v_tqB_mu {ps : List (Option D)} : tqB (some (.mu (.tq ps))) = some ps := rfl
def ixQK (ra rb : R) (env : En) : Option (List (Option D)) → Option (R × En)
  | some ps => bnd (fun i => bnd (fun o => o.map fun d => (.val d, env)) (atI ps i)) rb.int
  | none => gIx ra rb env
theorem v_gIxQ {ra rb : R} : gIxQ ra rb env = ixQK ra rb env (ra.tq env) := by
  unfold gIxQ ixQK bnd
  rfl
theorem v_ixQK_s {ra rb : R} {ps : List (Option D)} : ixQK ra rb env (some ps) = bnd (fun i => bnd (fun o => o.map fun d => (.val d, env)) (atI ps i)) rb.int := rfl
theorem v_ixQK_n {ra rb : R} : ixQK ra rb env none = gIx ra rb env := rfl
theorem v_eSlQ {fa : FE} {fl fh : FO} : eSlQ fa fl fh env = bnd (fun p => bnd (fun q => bnd (fun s => gSlQ p.1 q.1 s.1 s.2) (fh q.2)) (fl p.2)) (fa env) := rfl
theorem v_gSlQ {lo hi : Option Int} {ps : List (Option D)} : gSlQ (.new (.tq ps)) lo hi env = if (cutD ps lo hi).length < ps.length then (allD (cutD ps lo hi)).map fun ds => (.val (.tuple ds), env) else none := rfl
end

end ML

/-! what some defs do: printed by gen.py -/
namespace Dm
open PySem PySem.Spec PyProof.Rows L2 ML 
def BF_blocks_of_1 : FS := (sIf (rB (e2 (gEqA false) (eV 2) (eV 1))) (sRet 2 (eV 3)) sNil)
def LF_blocks_of_2 : FS := (sFor 2 (iSeq (e2 gIx (eV 0) (eK (.int 1)))) (.tp [(.nm 2), (.nm 3)]) BF_blocks_of_1)
def F_blocks_of : Fn := fnBody 2 4
    (sSeq LF_blocks_of_2
    sNever)
def F_nexts : Fn := fnBody 3 5
    (sSeq (sSet 3 3 (e2 gIx (e2 gIx (eCall 2 F_blocks_of [] (aCons (eV 0) (aCons (eV 1) aNil))) (eV 2)) (eK (.int 1))))
    (sSeq (sSet 3 4 (eDisp [((eK (.str "go")), (eSl (eV 3) (oSome (eK (.int 1))) oNone)), ((eK (.str "if")), (eSl (eV 3) (oSome (eK (.int 2))) oNone)), ((eK (.str "back")), (eTup aNil))]))
    (sRet 3 (eN gTuple (aCons (eN gSorted (aCons (eN gSet (aCons (e2 gIx (eV 4) (e2 gIx (eV 3) (eK (.int 0)))) aNil)) aNil)) aNil)))))
def LC_befores_1 : FE := (eLc 3 [3] (iRng1 (eN gLen (aCons (eCall 2 F_blocks_of [] (aCons (eV 0) (aCons (eV 1) aNil))) aNil))) (.nm 3) (rB (e2 (gIn false) (eV 2) (eCall 3 F_nexts [] (aCons (eV 0) (aCons (eV 1) (aCons (eC 3) aNil)))))) (eC 3))
def F_befores : Fn := fnBody 3 4
    (sRet 3 (eN gTuple (aCons LC_befores_1 aNil)))
def LC_tables_over_2 : FE := (eLc 2 [9] (iSeq (eCall 3 F_befores [] (aCons (eV 0) (aCons (eV 1) (aCons (eC 5) aNil))))) (.nm 9) (rB (e2 (gIn false) (eC 9) (eV 3))) (e2 gIx (eV 3) (eC 9)))
def F__law_feed : Fn := fnBody 1 1
    (sRet 1 (eLst (aCons (eSl (eV 0) oNone (oSome (eK (.int 63)))) (aCons (eK (.int 0)) (aCons (eK (.int 0)) (aCons (eK (.int 0)) aNil))))))
def F__law_draw : Fn := fnBody 2 6
    (sSeq (sAugIx (fun i j => i + j) (eV 0) (eK (.int 3)) (eK (.int 1)))
    (sSeq (sIf (rB (e2 gGt (e2 gIx (eV 0) (eK (.int 2))) (eK (.int 0)))) (sSeq (sSet 2 2 (e2 gMod (e2 gIx (eV 0) (eK (.int 2))) (eV 1)))
    (sSeq (sSetIx (e2 gDiv (e2 gIx (eV 0) (eK (.int 2))) (eV 1)) (eV 0) (eK (.int 2)))
    (sRet 2 (eV 2)))) sNil)
    (sSeq (sSet 2 3 (eIf (rB (e2 (gEqA false) (e2 gIx (eV 0) (eK (.int 0))) (eLst aNil))) (eK (.int 7)) (e2 gIx (e2 gIx (eV 0) (eK (.int 0))) (e2 gMod (e2 gIx (eV 0) (eK (.int 1))) (eN gLen (aCons (e2 gIx (eV 0) (eK (.int 0))) aNil))))))
    (sSeq (sAugIx (fun i j => i + j) (eV 0) (eK (.int 1)) (eK (.int 1)))
    (sSeq (sIf (fAnd (rB (e2 gGe (eV 3) (e2 gPow (eK (.int 10)) (eK (.int 18))))) (rB (e2 gLe (e2 gIx (eV 0) (eK (.int 1))) (eN gLen (aCons (e2 gIx (eV 0) (eK (.int 0))) aNil))))) (sSeq (sSetIx (e2 gDiv (eV 3) (eV 1)) (eV 0) (eK (.int 2)))
    (sRet 2 (e2 gMod (eV 3) (eV 1)))) sNil)
    (sSeq (sSet 2 4 (e2 gIx (eV 0) (eK (.int 3))))
    (sSeq (sSet 2 5 (e2 gMod (e2 gAdd (e2 gAdd (e2 gMod (eV 3) (eK (.int 2147483629))) (e2 gMul (e2 gMul (eK (.int 69621)) (eV 4)) (eV 4))) (e2 gMul (eK (.int 7)) (eV 4))) (eK (.int 2147483629))))
    (sSeq (sSet 2 5 (e2 gMod (e2 gAdd (e2 gMul (eV 5) (eV 5)) (e2 gMul (eK (.int 48271)) (eV 4))) (eK (.int 2147483647))))
    (sSeq (sSet 2 5 (e2 gMod (e2 gAdd (e2 gMul (eV 5) (eV 5)) (e2 gMul (eK (.int 16807)) (eV 4))) (eK (.int 2147483587))))
    (sRet 2 (e2 gMod (e2 gDiv (e2 gMod (e2 gAdd (e2 gMul (eV 5) (eV 5)) (eV 4)) (eK (.int 2147483629))) (eK (.int 131))) (eV 1))))))))))))
def F_is_number : Fn := fnBody 1 1
    (sRet 1 (eAnd (eIsi "int" (eV 0)) (eNot (eIsi "bool" (eV 0)))))
end Dm

/-! what some defs do: printed by gen.py -/
namespace Ck
open PySem PySem.Spec PyProof.Rows L2 ML Dm
def LC_is_word_1 : FE := (eLc 1 [1] (iAny (eV 0)) (.nm 1) tTrue (e2 (gInT false) (eC 1) (eK (.str "abcdefghijklmnopqrstuvwxyz"))))
def F_is_word : Fn := fnBody 1 2
    (sSeq (sIf (fOr (fNot (rB (eIsi "str" (eV 0)))) (fNot (rB (eChain gLe gLe (eK (.int 1)) (eN gLen (aCons (eV 0) aNil)) (eK (.int 8)))))) (sRet 1 (eK (.bool false))) sNil)
    (sRet 1 (eN gAll (aCons LC_is_word_1 aNil))))
def F_is_operand : Fn := fnBody 1 1
    (sRet 1 (eOr (eCall 1 F_is_number [] (aCons (eV 0) aNil)) (eCall 1 F_is_word [] (aCons (eV 0) aNil))))
def LC_face_1 : FE := (eLc 2 [8] (iRng1 (e2 gIx (eV 2) (eV 7))) (.nm 8) (fOr (rB (e2 (gEqA false) (eC 8) (eV 5))) (rB (eCall 1 F_is_word [] (aCons (eV 5) aNil)))) (eTup (aCons (eV 7) (aCons (eC 8) aNil))))
def BF_face_2 : FS := (sExpr (eM chkL gExtend (eV 6) (aCons LC_face_1 aNil)))
def LF_face_3 : FS := (sFor 2 (iSeq (eIf (rB (eCall 1 F_is_number [] (aCons (eV 4) aNil))) (eTup (aCons (e2 gIx (eV 3) (eV 4)) aNil)) (eV 3))) (.nm 7) BF_face_2)
def F_face : Fn := fnBody 2 9
    (sSeq (sSet 2 2 (eN gDictA (aCons (e2 gIx (eV 0) (eK (.int 0))) aNil)))
    (sSeq (sAsg 2 (.tp [(.nm 3), (.nm 4), (.nm 5)]) (eV 1))
    (sSeq (sSet 2 6 (eLst aNil))
    (sSeq LF_face_3
    (sRet 2 (eN gTuple (aCons (eN gSortedA (aCons (eV 6) aNil)) aNil)))))))
def LC_is_code_1 : FE := (eLc 1 [3, 4] (iSeq (e2 gIx (eV 0) (eK (.int 1)))) (.tp [(.nm 3), (.nm 4)]) tTrue (eC 3))
def F_operands_in : Fn := fnBody 1 1
    (sSeq (sIf (rB (e2 (gEqA false) (e2 gIx (eV 0) (eK (.int 0))) (eK (.str "load")))) (sRet 1 (eLst (aCons (e2 gIx (eV 0) (eK (.int 1))) (aCons (e2 gIx (e2 gIx (eV 0) (eK (.int 2))) (eK (.int 1))) (aCons (e2 gIx (e2 gIx (eV 0) (eK (.int 2))) (eK (.int 2))) aNil))))) sNil)
    (sSeq (sIf (rB (e2 (gIn false) (e2 gIx (eV 0) (eK (.int 0))) (eTup (aCons (eK (.str "store")) (aCons (eK (.str "touch")) aNil))))) (sRet 1 (e2 gAdd (eN gList (aCons (eSl (e2 gIx (eV 0) (eK (.int 1))) (oSome (eK (.int 1))) oNone) aNil)) (eN gList (aCons (eSl (eV 0) (oSome (eK (.int 2))) oNone) aNil)))) sNil)
    (sSeq (sIf (rB (e2 (gEqA false) (e2 gIx (eV 0) (eK (.int 0))) (eK (.str "set")))) (sRet 1 (eLst (aCons (e2 gIx (eV 0) (eK (.int 1))) (aCons (e2 gIx (eV 0) (eK (.int 3))) (aCons (e2 gIx (eV 0) (eK (.int 4))) aNil))))) sNil)
    (sRet 1 (eIf (rB (e2 (gIn false) (e2 gIx (eV 0) (eK (.int 0))) (eTup (aCons (eK (.str "tell")) (aCons (eK (.str "need")) (aCons (eK (.str "if")) aNil)))))) (eLst (aCons (e2 gIx (eV 0) (eK (.int 1))) aNil)) (eLst aNil))))))
end Ck

/-! what some defs do: printed by gen.py -/
namespace Pl
open PySem PySem.Spec PyProof.Rows L2 ML 
def F__law_feed : Fn := fnBody 1 1
    (sRet 1 (eDisp [((eK (.str "cells")), (eN gList (aCons (eSl (eV 0) oNone (oSome (eK (.int 63)))) aNil))), ((eK (.str "at")), (eK (.int 0))), ((eK (.str "left")), (eK (.int 0))), ((eK (.str "turn")), (eK (.int 0)))]))
def BF__law_objects_1 (dr : Fn) : FS := (sExpr (eM chkL gAppend (eV 2) (aCons (eTup (aCons (eM chkL gPopAt (eV 1) (aCons (eCall 2 dr [] (aCons (eV 0) (aCons (eN gLen (aCons (eV 1) aNil)) aNil))) aNil)) (aCons (e2 gAdd (eK (.int 1)) (eCall 2 dr [] (aCons (eV 0) (aCons (eK (.int 3)) aNil)))) aNil))) aNil)))
def LF__law_objects_2 (dr : Fn) : FS := (sFor 1 (iRng1 (e2 gAdd (eK (.int 1)) (eCall 2 dr [] (aCons (eV 0) (aCons (eK (.int 3)) aNil))))) (.nm 3) (BF__law_objects_1 dr))
def F__law_objects (dr : Fn) : Fn := fnBody 1 4
    (sSeq (sPar2 1 1 2 (aCons (eLst (aCons (eK (.str "a")) (aCons (eK (.str "ab")) (aCons (eK (.str "b")) (aCons (eK (.str "zz")) (aCons (eK (.str "abcdefgh")) aNil)))))) (aCons (eLst aNil) aNil)))
    (sSeq (LF__law_objects_2 dr)
    (sRet 1 (eN gTuple (aCons (eN gSortedA (aCons (eV 2) aNil)) aNil)))))
def LC__law_where_1 (dr : Fn) : FE := (eLc 2 [10, 11] (iSeq (eV 1)) (.tp [(.nm 10), (.nm 11)]) tTrue (eC 10))
def BF__law_where_2 (dr : Fn) : FS := (sExpr (eM chkL gAppend (eV 3) (aCons (eM chkL gPopAt (eV 2) (aCons (eCall 2 dr [] (aCons (eV 0) (aCons (eN gLen (aCons (eV 2) aNil)) aNil))) aNil)) aNil)))
def LF__law_where_3 (dr : Fn) : FS := (sFor 2 (iRng1 (e2 gAdd (eK (.int 1)) (eCall 2 dr [] (aCons (eV 0) (aCons (eN gMin2 (aCons (eK (.int 2)) (aCons (eN gLen (aCons (eV 2) aNil)) aNil))) aNil))))) (.nm 4) (BF__law_where_2 dr))
def LC__law_where_4 (dr : Fn) : FE := (eLc 2 [10] (iSeq (eV 3)) (.nm 10) tTrue (e2 gIx (eN gDictA (aCons (eV 1) aNil)) (eC 10)))
def F__law_where (dr : Fn) : Fn := fnBody 2 12
    (sSeq (sPar2 2 2 3 (aCons (LC__law_where_1 dr) (aCons (eLst aNil) aNil)))
    (sSeq (LF__law_where_3 dr)
    (sSeq (sSet 2 5 (eN gMin (aCons (LC__law_where_4 dr) aNil)))
    (sSeq (sPar2 2 6 7 (aCons (eCall 2 dr [] (aCons (eV 0) (aCons (eN gLen (aCons (eV 3) aNil)) aNil))) (aCons (eCall 2 dr [] (aCons (eV 0) (aCons (eV 5) aNil))) aNil)))
    (sSeq (sSet 2 8 (e2 gIx (eLst (aCons (eK (.str "i")) (aCons (eK (.str "j")) (aCons (eK (.str "x")) aNil)))) (eCall 2 dr [] (aCons (eV 0) (aCons (eK (.int 3)) aNil)))))
    (sSeq (sSet 2 9 (eCall 2 dr [] (aCons (eV 0) (aCons (eK (.int 6)) aNil))))
    (sRet 2 (eTup (aCons (eN gTuple (aCons (eV 3) aNil)) (aCons (eIf (fAnd (rB (e2 (gEqA false) (eV 9) (eK (.int 0)))) (rB (e2 gGt (eN gLen (aCons (eV 3) aNil)) (eK (.int 1))))) (eV 8) (eV 6)) (aCons (eIf (rB (e2 gLt (eV 9) (eK (.int 3)))) (e2 gIx (eLst (aCons (eK (.str "i")) (aCons (eK (.str "x")) aNil))) (e2 gMod (eV 9) (eK (.int 2)))) (eV 7)) aNil)))))))))))
def F__law_operand (dr : Fn) : Fn := fnBody 1 3
    (sSeq (sPar2 1 1 2 (aCons (eCall 2 dr [] (aCons (eV 0) (aCons (eK (.int 5)) aNil))) (aCons (eCall 2 dr [] (aCons (eV 0) (aCons (eK (.int 5)) aNil))) aNil)))
    (sRet 1 (e2 gIx (eLst (aCons (e2 gIx (eLst (aCons (eK (.str "i")) (aCons (eK (.str "j")) (aCons (eK (.str "x")) (aCons (eK (.str "i")) (aCons (eK (.str "xx")) aNil)))))) (eV 2)) (aCons (e2 gIx (eLst (aCons (eK (.str "i")) (aCons (eK (.str "j")) (aCons (eK (.str "x")) (aCons (eK (.str "x")) (aCons (eK (.str "j")) aNil)))))) (eV 2)) (aCons (e2 gSub (eV 2) (eK (.int 1))) (aCons (eV 2) (aCons (e1 gNeg (eK (.int 3))) aNil)))))) (eV 1))))
def F__law_row (dr : Fn) : Fn := fnBody 3 9
    (sSeq (sPar2 3 3 4 (aCons (eCall 2 dr [] (aCons (eV 0) (aCons (eK (.int 14)) aNil))) (aCons (e2 gIx (eLst (aCons (eK (.str "i")) (aCons (eK (.str "j")) (aCons (eK (.str "x")) aNil)))) (eCall 2 dr [] (aCons (eV 0) (aCons (eK (.int 3)) aNil)))) aNil)))
    (sSeq (sPar3 3 5 6 7 (aCons (eCall 2 (F__law_where dr) [] (aCons (eV 0) (aCons (eV 1) aNil))) (aCons (eCall 1 (F__law_operand dr) [] (aCons (eV 0) aNil)) (aCons (eCall 1 (F__law_operand dr) [] (aCons (eV 0) aNil)) aNil))))
    (sSeq (sIf (rB (e2 gLt (eV 3) (eK (.int 4)))) (sRet 3 (eTup (aCons (eK (.str "store")) (aCons (eV 5) (aCons (eV 6) aNil))))) sNil)
    (sSeq (sIf (rB (e2 gLt (eV 3) (eK (.int 7)))) (sRet 3 (eTup (aCons (eK (.str "load")) (aCons (eV 4) (aCons (eV 5) aNil))))) sNil)
    (sSeq (sIf (rB (e2 gLt (eV 3) (eK (.int 10)))) (sSeq (sSet 3 8 (e2 gIx (eLst (aCons (eK (.str "+")) (aCons (eK (.str "-")) (aCons (eK (.str "<")) (aCons (eK (.str "*")) aNil))))) (eCall 2 dr [] (aCons (eV 0) (aCons (eK (.int 4)) aNil)))))
    (sRet 3 (eTup (aCons (eK (.str "set")) (aCons (eV 4) (aCons (eV 8) (aCons (eV 6) (aCons (eIf (rB (e2 (gEqA true) (eV 8) (eK (.str "*")))) (eV 7) (e2 gIx (eLst (aCons (e1 gNeg (eK (.int 1))) (aCons (eK (.int 2)) (aCons (eK (.int 3)) (aCons (eK (.int 0)) aNil))))) (eCall 2 dr [] (aCons (eV 0) (aCons (eK (.int 4)) aNil))))) aNil)))))))) sNil)
    (sSeq (sIf (fAnd (rB (e2 (gEqA false) (eV 3) (eK (.int 10)))) (rB (e2 (gEqA true) (eV 2) (eLst aNil)))) (sRet 3 (eTup (aCons (eK (.str "call")) (aCons (e2 gIx (eV 2) (eCall 2 dr [] (aCons (eV 0) (aCons (eN gLen (aCons (eV 2) aNil)) aNil)))) aNil)))) sNil)
    (sSeq (sIf (rB (e2 (gEqA false) (eV 3) (eK (.int 11)))) (sRet 3 (e2 gIx (eLst (aCons (eTup (aCons (eK (.str "need")) (aCons (eV 6) aNil))) (aCons (eTup (aCons (eK (.str "need")) (aCons (eK (.int 1)) aNil))) (aCons (eTup (aCons (eK (.str "touch")) (aCons (eV 5) aNil))) aNil)))) (eCall 2 dr [] (aCons (eV 0) (aCons (eK (.int 3)) aNil))))) sNil)
    (sRet 3 (eIf (rB (e2 gLt (eV 3) (eK (.int 13)))) (eTup (aCons (eK (.str "tell")) (aCons (eV 6) aNil))) (eTup (aCons (eK (.str "touch")) (aCons (eV 5) aNil))))))))))))
def LC__law_plan_1 (dr : Fn) : FE := (eLc 1 [13] (iRng1 (eCall 2 dr [] (aCons (eV 0) (aCons (eK (.int 4)) aNil)))) (.nm 13) tTrue (eCall 3 (F__law_row dr) [] (aCons (eV 0) (aCons (eV 1) (aCons (eV 2) aNil)))))
def BF__law_plan_2 (dr : Fn) : FS := (sSeq (sSet 1 8 (eN gTuple (aCons (LC__law_plan_1 dr) aNil)))
    (sSeq (sPar3 1 10 11 12 (aCons (eCall 2 dr [] (aCons (eV 0) (aCons (eK (.int 4)) aNil))) (aCons (eCall 2 dr [] (aCons (eV 0) (aCons (eV 6) aNil))) (aCons (eCall 2 dr [] (aCons (eV 0) (aCons (eV 6) aNil))) aNil))))
    (sSeq (sSet 1 9 (e2 gIx (eLst (aCons (eTup (aCons (eK (.str "go")) (aCons (eV 11) aNil))) (aCons (eTup (aCons (eK (.str "if")) (aCons (eCall 1 (F__law_operand dr) [] (aCons (eV 0) aNil)) (aCons (eV 11) (aCons (eV 12) aNil))))) (aCons (eTup (aCons (eK (.str "back")) aNil)) (aCons (eTup (aCons (eK (.str "back")) aNil)) aNil))))) (eV 10)))
    (sExpr (eM chkL gAppend (eV 7) (aCons (eTup (aCons (eV 8) (aCons (eIf (fOr (rB (e2 gLt (e2 gAdd (eV 5) (eK (.int 1))) (eV 6))) (rB (e2 (gEqA false) (eV 10) (eK (.int 1))))) (eV 9) (eTup (aCons (eK (.str "back")) aNil))) aNil))) aNil))))))
def LF__law_plan_3 (dr : Fn) : FS := (sFor 1 (iRng1 (eV 6)) (.nm 5) (BF__law_plan_2 dr))
def BF__law_plan_4 (dr : Fn) : FS := (sSeq (sPar2 1 6 7 (aCons (e2 gAdd (eK (.int 1)) (eCall 2 dr [] (aCons (eV 0) (aCons (eK (.int 3)) aNil)))) (aCons (eLst aNil) aNil)))
    (sSeq (LF__law_plan_3 dr)
    (sExpr (eM chkL gAppend (eV 3) (aCons (eTup (aCons (eV 4) (aCons (eN gTuple (aCons (eV 7) aNil)) aNil))) aNil)))))
def LF__law_plan_5 (dr : Fn) : FS := (sFor 1 (iSeq (e2 gAdd (eV 2) (eLst (aCons (eK (.str "main")) aNil)))) (.nm 4) (BF__law_plan_4 dr))
def F__law_plan (dr : Fn) : Fn := fnBody 1 14
    (sSeq (sSet 1 1 (eCall 1 (F__law_objects dr) [] (aCons (eV 0) aNil)))
    (sSeq (sPar2 1 2 3 (aCons (eSl (eLst (aCons (eK (.str "f")) (aCons (eK (.str "ff")) aNil))) oNone (oSome (eCall 2 dr [] (aCons (eV 0) (aCons (eK (.int 3)) aNil))))) (aCons (eLst aNil) aNil)))
    (sSeq (LF__law_plan_5 dr)
    (sRet 1 (eTup (aCons (eV 1) (aCons (eN gTuple (aCons (eV 3) aNil)) aNil)))))))
end Pl

/-! what some defs do: printed by gen.py -/
namespace Wy
open PySem PySem.Spec PyProof.Rows L2 ML Ck Dm
def F_row_there : Fn := fnBody 2 4
    (sSeq (sAsg 2 (.tp [(.nm 2), (.nm 3)]) (e2 gIx (e2 gIx (eN gDictA (aCons (e2 gIx (eV 0) (eK (.int 1))) aNil)) (e2 gIx (eV 1) (eK (.int 0)))) (e2 gIx (eV 1) (eK (.int 1)))))
    (sRet 2 (eIf (rB (e2 gLt (e2 gIx (eV 1) (eK (.int 2))) (eN gLen (aCons (eV 2) aNil)))) (e2 gIx (eV 2) (e2 gIx (eV 1) (eK (.int 2)))) (eV 3))))
def F_choices_at : Fn := fnBody 2 3
    (sSeq (sSet 2 2 (eCall 2 F_row_there [] (aCons (eV 0) (aCons (eV 1) aNil))))
    (sSeq (sIf (rB (e2 (gIn false) (e2 gIx (eV 2) (eK (.int 0))) (eTup (aCons (eK (.str "store")) (aCons (eK (.str "touch")) aNil))))) (sRet 2 (eCall 2 F_face [] (aCons (eV 0) (aCons (e2 gIx (eV 2) (eK (.int 1))) aNil)))) sNil)
    (sSeq (sIf (rB (e2 (gEqA false) (e2 gIx (eV 2) (eK (.int 0))) (eK (.str "load")))) (sRet 2 (eCall 2 F_face [] (aCons (eV 0) (aCons (e2 gIx (eV 2) (eK (.int 2))) aNil)))) sNil)
    (sSeq (sIf (rB (e2 (gEqA false) (e2 gIx (eV 2) (eK (.int 0))) (eK (.str "if")))) (sRet 2 (eN gTuple (aCons (eN gSortedA (aCons (eN gSet (aCons (eSl (eV 2) (oSome (eK (.int 2))) oNone) aNil)) aNil)) aNil))) sNil)
    (sRet 2 (eTup (aCons (eK .none) aNil)))))))
def F_led : Fn := fnBody 4 5
    (sSeq (sSet 4 4 (eCall 2 F_row_there [] (aCons (eV 0) (aCons (eV 1) aNil))))
    (sSeq (sIf (rB (e2 (gEqA false) (e2 gIx (eV 4) (eK (.int 0))) (eK (.str "call")))) (sRet 4 (eTup (aCons (eTup (aCons (e2 gIx (eV 4) (eK (.int 1))) (aCons (eK (.int 0)) (aCons (eK (.int 0)) aNil)))) (aCons (e2 gAdd (eV 3) (eTup (aCons (eTup (aCons (e2 gIx (eV 1) (eK (.int 0))) (aCons (e2 gIx (eV 1) (eK (.int 1))) (aCons (e2 gAdd (e2 gIx (eV 1) (eK (.int 2))) (eK (.int 1))) aNil)))) aNil))) aNil)))) sNil)
    (sSeq (sIf (rB (e2 (gEqA false) (e2 gIx (eV 4) (eK (.int 0))) (eK (.str "back")))) (sRet 4 (eIf (rB (e2 (gEqA false) (eV 3) (eTup aNil))) (eTup (aCons (eK .none) (aCons (eTup aNil) aNil))) (eTup (aCons (e2 gIx (eV 3) (e1 gNeg (eK (.int 1)))) (aCons (eSl (eV 3) oNone (oSome (e1 gNeg (eK (.int 1))))) aNil))))) sNil)
    (sSeq (sIf (rB (e2 (gEqA false) (e2 gIx (eV 4) (eK (.int 0))) (eK (.str "go")))) (sRet 4 (eTup (aCons (eTup (aCons (e2 gIx (eV 1) (eK (.int 0))) (aCons (e2 gIx (eV 4) (eK (.int 1))) (aCons (eK (.int 0)) aNil)))) (aCons (eV 3) aNil)))) sNil)
    (sSeq (sIf (rB (e2 (gEqA false) (e2 gIx (eV 4) (eK (.int 0))) (eK (.str "if")))) (sRet 4 (eTup (aCons (eTup (aCons (e2 gIx (eV 1) (eK (.int 0))) (aCons (eV 2) (aCons (eK (.int 0)) aNil)))) (aCons (eV 3) aNil)))) sNil)
    (sRet 4 (eTup (aCons (eTup (aCons (e2 gIx (eV 1) (eK (.int 0))) (aCons (e2 gIx (eV 1) (eK (.int 1))) (aCons (e2 gAdd (e2 gIx (eV 1) (eK (.int 2))) (eK (.int 1))) aNil)))) (aCons (eV 3) aNil)))))))))
def F_is_spot : Fn := fnBody 1 1
    (sSeq (sIf (fOr (fNot (rB (eIsi "tuple" (eV 0)))) (fOr (rB (e2 (gEqA true) (eN gLen (aCons (eV 0) aNil)) (eK (.int 3)))) (fNot (rB (eCall 1 F_is_word [] (aCons (e2 gIx (eV 0) (eK (.int 0))) aNil)))))) (sRet 1 (eK (.bool false))) sNil)
    (sRet 1 (eAnd (eCall 1 F_is_number [] (aCons (e2 gIx (eV 0) (eK (.int 1))) aNil)) (eCall 1 F_is_number [] (aCons (e2 gIx (eV 0) (eK (.int 2))) aNil)))))
def F_is_step : Fn := fnBody 1 1
    (sRet 1 (eAnd (eIsi "tuple" (eV 0)) (eAnd (e2 (gEqA false) (eN gLen (aCons (eV 0) aNil)) (eK (.int 2))) (eCall 1 F_is_spot [] (aCons (e2 gIx (eV 0) (eK (.int 0))) aNil)))))
def LC_is_choice_1 : FE := (eLc 2 [2] (iSeq (eV 0)) (.nm 2) tTrue (eN gReprC (aCons (eC 2) aNil)))
def F_is_choice : Fn := fnBody 2 3
    (sRet 2 (e2 (gIn false) (eN gReprC (aCons (eV 1) aNil)) LC_is_choice_1))
def LC__law_items_1 : FE := (eLc 3 [6] (iRng1 (eN gLen (aCons (eV 5) aNil))) (.nm 6) tTrue (eTup (aCons (eTup (aCons (eV 1) (aCons (eV 2) (aCons (eC 6) aNil)))) (aCons (e2 gIx (eV 5) (eC 6)) aNil))))
def F__law_items : Fn := fnBody 3 7
    (sSeq (sAsg 3 (.tp [(.nm 3), (.nm 4)]) (e2 gIx (e2 gIx (eN gDictA (aCons (e2 gIx (eV 0) (eK (.int 1))) aNil)) (eV 1)) (eV 2)))
    (sSeq (sSet 3 5 (e2 gAdd (eN gList (aCons (eV 3) aNil)) (eLst (aCons (eV 4) aNil))))
    (sRet 3 (eRev LC__law_items_1))))
def LC__law_face_1 : FE := (eLc 2 [7] (iRng1 (e2 gIx (eN gDictA (aCons (e2 gIx (eV 0) (eK (.int 0))) aNil)) (eV 6))) (.nm 7) (fOr (rB (eIsi "str" (eV 4))) (rB (e2 (gEqA false) (eC 7) (eV 4)))) (eTup (aCons (eV 6) (aCons (eC 7) aNil))))
def BF__law_face_2 : FS := (sExpr (eM chkL gExtend (eV 5) (aCons LC__law_face_1 aNil)))
def LF__law_face_3 : FS := (sFor 2 (iSeq (eIf (rB (eIsi "str" (eV 3))) (eV 2) (eSl (eV 2) (oSome (eV 3)) (oSome (e2 gAdd (eV 3) (eK (.int 1))))))) (.nm 6) BF__law_face_2)
def F__law_face : Fn := fnBody 2 8
    (sSeq (sAsg 2 (.tp [(.nm 2), (.nm 3), (.nm 4)]) (eV 1))
    (sSeq (sSet 2 5 (eLst aNil))
    (sSeq LF__law_face_3
    (sRet 2 (eN gSortedA (aCons (eV 5) aNil))))))
def F__law_choices : Fn := fnBody 2 2
    (sSeq (sIf (rB (e2 (gIn false) (e2 gIx (eV 1) (eK (.int 0))) (eTup (aCons (eK (.str "load")) (aCons (eK (.str "store")) (aCons (eK (.str "touch")) aNil)))))) (sRet 2 (eCall 2 F__law_face [] (aCons (eV 0) (aCons (eIf (rB (e2 (gEqA false) (e2 gIx (eV 1) (eK (.int 0))) (eK (.str "load")))) (e2 gIx (eV 1) (eK (.int 2))) (e2 gIx (eV 1) (eK (.int 1)))) aNil)))) sNil)
    (sRet 2 (eIf (rB (e2 (gEqA false) (e2 gIx (eV 1) (eK (.int 0))) (eK (.str "if")))) (eN gSortedA (aCons (eN gSet (aCons (eSl (eV 1) (oSome (eK (.int 2))) oNone) aNil)) aNil)) (eLst (aCons (eK .none) aNil)))))
def F__law_moved : Fn := fnBody 3 6
    (sSeq (sAsg 3 (.tp [(.nm 3), (.nm 4)]) (e2 gIx (e2 gIx (eV 1) (e1 gNeg (eK (.int 1)))) (e1 gNeg (eK (.int 1)))))
    (sSeq (sSet 3 5 (e2 gAdd (eSl (eV 1) oNone (oSome (e1 gNeg (eK (.int 1))))) (eLst (aCons (eSl (e2 gIx (eV 1) (e1 gNeg (eK (.int 1)))) oNone (oSome (e1 gNeg (eK (.int 1))))) aNil))))
    (sSeq (sIf (rB (e2 (gEqA false) (e2 gIx (eV 4) (eK (.int 0))) (eK (.str "call")))) (sRet 3 (e2 gAdd (eV 5) (eLst (aCons (eCall 3 F__law_items [] (aCons (eV 0) (aCons (e2 gIx (eV 4) (eK (.int 1))) (aCons (eK (.int 0)) aNil)))) aNil)))) sNil)
    (sSeq (sIf (rB (e2 (gEqA false) (e2 gIx (eV 4) (eK (.int 0))) (eK (.str "back")))) (sRet 3 (eSl (eV 5) oNone (oSome (e1 gNeg (eK (.int 1)))))) sNil)
    (sSeq (sIf (rB (e2 (gIn false) (e2 gIx (eV 4) (eK (.int 0))) (eTup (aCons (eK (.str "go")) (aCons (eK (.str "if")) aNil))))) (sRet 3 (e2 gAdd (eSl (eV 5) oNone (oSome (e1 gNeg (eK (.int 1))))) (eLst (aCons (eCall 3 F__law_items [] (aCons (eV 0) (aCons (e2 gIx (eV 3) (eK (.int 0))) (aCons (eIf (rB (e2 (gEqA false) (e2 gIx (eV 4) (eK (.int 0))) (eK (.str "go")))) (e2 gIx (eV 4) (eK (.int 1))) (eV 2)) aNil)))) aNil)))) sNil)
    (sRet 3 (eV 5)))))))
end Wy

/-! the walk of K28: printed by gen.py -/
namespace K28
open PySem PySem.Spec PyProof.Rows L2 ML Ck Dm Pl Wy
theorem hu65 {k : Nat} {A : Around} (r : Room k A) : A.units + 65 < cLine := by have := r.un; omega
theorem all_mem {l : List Nat} {p : Nat → Bool} (h : l.all p = true) : ∀ i ∈ l, p i = true := List.all_eq_true.mp h
theorem all_ge {vs : List V} {np : Nat} {l : List Nat} (hl : vs.length = np) (h : l.all (fun i => decide (np ≤ i)) = true) : ∀ i ∈ l, vs.length ≤ i := fun i hi => by
  have := List.all_eq_true.mp h i hi
  rw [hl]; exact of_decide_eq_true this
/-! ### the text -/
def topS (i : Nat) : Stmt := PySem.Challenge.pw_storeways_k28_going_on.main.body.getD i (.Pass ⟨0, 0, 0, 0⟩)
abbrev st_is_number : Stmt := topS 6
abbrev st_is_word : Stmt := topS 7
abbrev st_face : Stmt := topS 9
abbrev st_need_way : Stmt := topS 12
abbrev st_row_there : Stmt := topS 13
abbrev st_choices_at : Stmt := topS 14
abbrev st_led : Stmt := topS 15
abbrev st_is_spot : Stmt := topS 16
abbrev st_is_step : Stmt := topS 17
abbrev st_is_choice : Stmt := topS 18
abbrev st_gone_way : Stmt := topS 19
abbrev st_state_of : Stmt := topS 20
abbrev st_goes_on : Stmt := topS 22
abbrev st__law_feed : Stmt := topS 24
abbrev st__law_draw : Stmt := topS 25
abbrev st__law_objects : Stmt := topS 26
abbrev st__law_where : Stmt := topS 27
abbrev st__law_operand : Stmt := topS 28
abbrev st__law_row : Stmt := topS 29
abbrev st__law_plan : Stmt := topS 30
abbrev st__law_items : Stmt := topS 31
abbrev st__law_face : Stmt := topS 32
abbrev st__law_choices : Stmt := topS 33
abbrev st__law_moved : Stmt := topS 34
abbrev st_law : Stmt := topS 35
theorem sc_is_number : FnScope ["thing"] ["thing"] (defScope st_is_number) := ⟨rfl, rfl, rfl, by decide +kernel, rfl, by decide +kernel, by decide +kernel⟩
theorem sc_is_word : FnScope ["thing", "sign"] ["thing"] (defScope st_is_word) := ⟨rfl, rfl, rfl, by decide +kernel, rfl, by decide +kernel, by decide +kernel⟩
theorem sc_face : FnScope ["code", "address", "sizes", "words", "pick", "index", "found", "word", "at"] ["code", "address"] (defScope st_face) := ⟨rfl, rfl, rfl, by decide +kernel, rfl, by decide +kernel, by decide +kernel⟩
theorem sc_need_way : FnScope ["truth", "word", "at"] ["truth", "word", "at"] (defScope st_need_way) := ⟨rfl, rfl, rfl, by decide +kernel, rfl, by decide +kernel, by decide +kernel⟩
theorem sc_row_there : FnScope ["code", "place", "rows", "end"] ["code", "place"] (defScope st_row_there) := ⟨rfl, rfl, rfl, by decide +kernel, rfl, by decide +kernel, by decide +kernel⟩
theorem sc_choices_at : FnScope ["code", "place", "row"] ["code", "place"] (defScope st_choices_at) := ⟨rfl, rfl, rfl, by decide +kernel, rfl, by decide +kernel, by decide +kernel⟩
theorem sc_led : FnScope ["code", "place", "choice", "calls", "row"] ["code", "place", "choice", "calls"] (defScope st_led) := ⟨rfl, rfl, rfl, by decide +kernel, rfl, by decide +kernel, by decide +kernel⟩
theorem sc_is_spot : FnScope ["thing"] ["thing"] (defScope st_is_spot) := ⟨rfl, rfl, rfl, by decide +kernel, rfl, by decide +kernel, by decide +kernel⟩
theorem sc_is_step : FnScope ["thing"] ["thing"] (defScope st_is_step) := ⟨rfl, rfl, rfl, by decide +kernel, rfl, by decide +kernel, by decide +kernel⟩
theorem sc_is_choice : FnScope ["choices", "thing", "choice"] ["choices", "thing"] (defScope st_is_choice) := ⟨rfl, rfl, rfl, by decide +kernel, rfl, by decide +kernel, by decide +kernel⟩
theorem sc_gone_way : FnScope ["code", "thing", "here", "calls", "last", "shown", "k", "word", "place", "choice", "step"] ["code", "thing"] (defScope st_gone_way) := ⟨rfl, rfl, rfl, by decide +kernel, rfl, by decide +kernel, by decide +kernel⟩
theorem sc_state_of : FnScope ["code", "thing"] ["code", "thing"] (defScope st_state_of) := ⟨rfl, rfl, rfl, by decide +kernel, rfl, by decide +kernel, by decide +kernel⟩
theorem sc_goes_on : FnScope ["code", "thing", "here", "calls", "choice"] ["code", "thing"] (defScope st_goes_on) := ⟨rfl, rfl, rfl, by decide +kernel, rfl, by decide +kernel, by decide +kernel⟩
theorem sc__law_feed : FnScope ["_law_script"] ["_law_script"] (defScope st__law_feed) := ⟨rfl, rfl, rfl, by decide +kernel, rfl, by decide +kernel, by decide +kernel⟩
theorem sc__law_draw : FnScope ["_law_feed_here", "_law_many", "_law_found", "_law_at", "_law_turn", "_law_cells", "_law_cell", "_law_mixed"] ["_law_feed_here", "_law_many"] (defScope st__law_draw) := ⟨rfl, rfl, rfl, by decide +kernel, rfl, by decide +kernel, by decide +kernel⟩
theorem sc__law_objects : FnScope ["_law_feed_here", "_law_rest", "_law_found", "_law_k"] ["_law_feed_here"] (defScope st__law_objects) := ⟨rfl, rfl, rfl, by decide +kernel, rfl, by decide +kernel, by decide +kernel⟩
theorem sc__law_where : FnScope ["_law_feed_here", "_law_objects_here", "_law_rest", "_law_some", "_law_k", "_law_least", "_law_pick", "_law_index", "_law_called", "_law_way", "_law_own", "_law_size"] ["_law_feed_here", "_law_objects_here"] (defScope st__law_where) := ⟨rfl, rfl, rfl, by decide +kernel, rfl, by decide +kernel, by decide +kernel⟩
theorem sc__law_operand : FnScope ["_law_feed_here", "_law_way", "_law_small"] ["_law_feed_here"] (defScope st__law_operand) := ⟨rfl, rfl, rfl, by decide +kernel, rfl, by decide +kernel, by decide +kernel⟩
theorem sc__law_row : FnScope ["_law_feed_here", "_law_objects_here", "_law_called", "_law_way", "_law_own", "_law_where_here", "_law_one", "_law_other", "_law_word"] ["_law_feed_here", "_law_objects_here", "_law_called"] (defScope st__law_row) := ⟨rfl, rfl, rfl, by decide +kernel, rfl, by decide +kernel, by decide +kernel⟩
theorem sc__law_plan : FnScope ["_law_feed_here", "_law_objects_here", "_law_called", "_law_found", "_law_routine", "_law_block", "_law_many", "_law_blocks", "_law_rows", "_law_end", "_law_way", "_law_one", "_law_other", "_law_k"] ["_law_feed_here"] (defScope st__law_plan) := ⟨rfl, rfl, rfl, by decide +kernel, rfl, by decide +kernel, by decide +kernel⟩
theorem sc__law_items : FnScope ["_law_plan_here", "_law_routine", "_law_block", "_law_rows", "_law_end", "_law_both_rows", "_law_k"] ["_law_plan_here", "_law_routine", "_law_block"] (defScope st__law_items) := ⟨rfl, rfl, rfl, by decide +kernel, rfl, by decide +kernel, by decide +kernel⟩
theorem sc__law_face : FnScope ["_law_plan_here", "_law_where_here", "_law_some", "_law_pick", "_law_index", "_law_found", "_law_own", "_law_k"] ["_law_plan_here", "_law_where_here"] (defScope st__law_face) := ⟨rfl, rfl, rfl, by decide +kernel, rfl, by decide +kernel, by decide +kernel⟩
theorem sc__law_choices : FnScope ["_law_plan_here", "_law_row_here"] ["_law_plan_here", "_law_row_here"] (defScope st__law_choices) := ⟨rfl, rfl, rfl, by decide +kernel, rfl, by decide +kernel, by decide +kernel⟩
theorem sc__law_moved : FnScope ["_law_plan_here", "_law_frames", "_law_choice", "_law_spot", "_law_row_here", "_law_rest"] ["_law_plan_here", "_law_frames", "_law_choice"] (defScope st__law_moved) := ⟨rfl, rfl, rfl, by decide +kernel, rfl, by decide +kernel, by decide +kernel⟩
theorem sc_law : FnScope ["_law_script", "_law_feed_here", "_law_turn", "_law_plan_here", "_law_lap", "_law_frames", "_law_way", "_law_seen", "_law_due_now", "_law_state", "_law_step", "_law_spot", "_law_row_here", "_law_choice", "_law_frame"] ["_law_script"] (defScope st_law) := ⟨rfl, rfl, rfl, by decide +kernel, rfl, by decide +kernel, by decide +kernel⟩
abbrev st_NoPaper_init : Stmt := clsStmt (topS 2) 0
theorem sc_NoPaper_init : FnScope ["self", "word", "at"] ["self", "word", "at"] (defScope st_NoPaper_init) := ⟨rfl, rfl, rfl, by decide +kernel, rfl, by decide +kernel, by decide +kernel⟩
/-! ### what each def does -/
def F_need_way : Fn := fnBody 3 3
    (sIf (fNot (rB (eV 0))) sNever sNil)
def LC_gone_way_1 : FE := (eLc 2 [10] (iSeq (eV 1)) (.nm 10) tTrue (eCall 1 F_is_step [] (aCons (eC 10) aNil)))
def BF_gone_way_2 : FS := (sSeq (sExpr (eCall 3 F_need_way [] (aCons (eAnd (e2 (gIsA true) (eV 2) (eK .none)) (e2 (gEqA false) (eV 8) (eV 2))) (aCons (eK (.str "place")) (aCons (eV 6) aNil)))))
    (sSeq (sExpr (eCall 3 F_need_way [] (aCons (eCall 2 F_is_choice [] (aCons (eCall 2 F_choices_at [] (aCons (eV 0) (aCons (eV 8) aNil))) (aCons (eV 9) aNil))) (aCons (eK (.str "choice")) (aCons (eV 6) aNil)))))
    (sSeq (sSet 2 7 (e2 gIx (eCall 2 F_row_there [] (aCons (eV 0) (aCons (eV 8) aNil))) (eK (.int 0))))
    (sSeq (sSet 2 5 (eIf (rB (e2 (gEqA false) (eV 7) (eK (.str "load")))) (eTup (aCons (eV 8) (aCons (eGet1A (eV 4) (eV 9)) aNil))) (eK .none)))
    (sSeq (sIf (rB (e2 (gEqA false) (eV 7) (eK (.str "store")))) (sSetIxA (eV 8) (eV 4) (eV 9)) sNil)
    (sAsg 2 (.tp [(.nm 2), (.nm 3)]) (eCall 4 F_led [] (aCons (eV 0) (aCons (eV 8) (aCons (eV 9) (aCons (eV 3) aNil)))))))))))
def LF_gone_way_3 : FS := (sFor 2 (iEnu (eV 1)) (.tp [(.nm 6), (.tp [(.nm 8), (.nm 9)])]) BF_gone_way_2)
def F_gone_way : Fn := fnBody 2 11
    (sSeq (sExpr (eCall 3 F_need_way [] (aCons (eAnd (eIsi "tuple" (eV 1)) (eN gAll (aCons LC_gone_way_1 aNil))) (aCons (eK (.str "shape")) (aCons (e1 gNeg (eK (.int 1))) aNil)))))
    (sSeq (sPar4 2 2 3 4 5 (aCons (eK (.tuple [.str "main", .int (0), .int (0)])) (aCons (eTup aNil) (aCons eNewA (aCons (eK .none) aNil)))))
    (sSeq LF_gone_way_3
    (sRet 2 (eTupQ (aCons (eV 2) (aCons (eV 3) (aCons (eV 4) (aCons (eV 5) aNil)))))))))
def F_state_of : Fn := fnBody 2 2
    (sRet 2 (eSlQ (eCall 2 F_gone_way [] (aCons (eV 0) (aCons (eV 1) aNil))) oNone (oSome (eK (.int 2)))))
def LC_goes_on_1 : FE := (eLc 2 [4] (iSeq (eCall 2 F_choices_at [] (aCons (eV 0) (aCons (eV 2) aNil)))) (.nm 4) tTrue (eTup (aCons (eV 2) (aCons (eC 4) aNil))))
def F_goes_on : Fn := fnBody 2 5
    (sSeq (sAsg 2 (.tp [(.nm 2), (.nm 3)]) (eCall 2 F_state_of [] (aCons (eV 0) (aCons (eV 1) aNil))))
    (sSeq (sIf (rB (e2 (gIsA false) (eV 2) (eK .none))) (sRet 2 (eTup aNil)) sNil)
    (sRet 2 (eN gTuple (aCons LC_goes_on_1 aNil)))))
abbrev F__law_feed : Fn := Pl.F__law_feed
def F__law_draw : Fn := fnBody 2 8
    (sSeq (sSetIx (e2 gAdd (e2 gIx (eV 0) (eK (.str "turn"))) (eK (.int 1))) (eV 0) (eK (.str "turn")))
    (sSeq (sIf (rB (e2 gGt (e2 gIx (eV 0) (eK (.str "left"))) (eK (.int 0)))) (sSeq (sSet 2 2 (e2 gMod (e2 gIx (eV 0) (eK (.str "left"))) (eV 1)))
    (sSeq (sSetIx (e2 gDiv (e2 gIx (eV 0) (eK (.str "left"))) (eV 1)) (eV 0) (eK (.str "left")))
    (sRet 2 (eV 2)))) sNil)
    (sSeq (sPar3 2 3 4 5 (aCons (e2 gIx (eV 0) (eK (.str "at"))) (aCons (e2 gIx (eV 0) (eK (.str "turn"))) (aCons (e2 gIx (eV 0) (eK (.str "cells"))) aNil))))
    (sSeq (sSetIx (e2 gAdd (eV 3) (eK (.int 1))) (eV 0) (eK (.str "at")))
    (sSeq (sSet 2 6 (eIf (rB (e2 (gEqA true) (eV 5) (eLst aNil))) (e2 gIx (eV 5) (e2 gMod (eV 3) (eN gLen (aCons (eV 5) aNil)))) (eK (.int 719))))
    (sSeq (sIf (fAnd (rB (e2 gGe (eV 6) (e2 gPow (eK (.int 10)) (eK (.int 18))))) (rB (e2 gLt (eV 3) (eN gLen (aCons (eV 5) aNil))))) (sSeq (sSetIx (e2 gDiv (eV 6) (eV 1)) (eV 0) (eK (.str "left")))
    (sRet 2 (e2 gMod (eV 6) (eV 1)))) sNil)
    (sSeq (sSet 2 7 (e2 gMod (e2 gPow (e2 gAdd (e2 gAdd (e2 gMod (eV 6) (eK (.int 2147482711))) (e2 gMul (e2 gMul (eK (.int 7)) (eV 4)) (eV 4))) (eK (.int 223))) (eK (.int 5))) (eK (.int 2147482693))))
    (sRet 2 (e2 gMod (e2 gDiv (e2 gMod (e2 gPow (e2 gAdd (eV 7) (e2 gMul (eK (.int 56003)) (eV 4))) (eK (.int 5))) (eK (.int 2147482687))) (eK (.int 32))) (eV 1))))))))))
abbrev F__law_objects : Fn := Pl.F__law_objects F__law_draw
abbrev F__law_where : Fn := Pl.F__law_where F__law_draw
abbrev F__law_operand : Fn := Pl.F__law_operand F__law_draw
abbrev F__law_row : Fn := Pl.F__law_row F__law_draw
abbrev F__law_plan : Fn := Pl.F__law_plan F__law_draw
def LC_law_1 : FE := (eLc 1 [13] (iSeq (eCall 2 F__law_choices [] (aCons (eV 3) (aCons (eV 12) aNil)))) (.nm 13) tTrue (eTup (aCons (eV 11) (aCons (eC 13) aNil))))
def LC_law_2 : FE := (eLc 1 [14] (iSeq (eSl (eV 5) oNone (oSome (e1 gNeg (eK (.int 1)))))) (.nm 14) tTrue (e2 gIx (e2 gIx (eC 14) (e1 gNeg (eK (.int 1)))) (eK (.int 0))))
def BF_law_3 : FS := (sSeq (sPar3 1 7 8 9 (aCons (eN gReprC (aCons (eTup (aCons (eV 3) (aCons (eV 6) aNil))) aNil)) (aCons (eTup aNil) (aCons (eTup (aCons (eK .none) (aCons (eTup aNil) aNil))) aNil))))
    (sSeq (sIf (rB (e2 (gEqA true) (eV 5) (eLst aNil))) (sSeq (sAsg 1 (.tp [(.nm 11), (.nm 12)]) (e2 gIx (e2 gIx (eV 5) (e1 gNeg (eK (.int 1)))) (e1 gNeg (eK (.int 1)))))
    (sSeq (sSet 1 8 (eN gTuple (aCons LC_law_1 aNil)))
    (sSet 1 9 (eTup (aCons (eV 11) (aCons (eN gTuple (aCons LC_law_2 aNil)) aNil)))))) sNil)
    (sSeq (sIf (rB (e2 (gEqA true) (eN gReprC (aCons (eTup (aCons (eCall 2 F_goes_on [] (aCons (eV 3) (aCons (eV 6) aNil))) (aCons (eCall 2 F_state_of [] (aCons (eV 3) (aCons (eV 6) aNil))) aNil))) aNil)) (eN gReprC (aCons (eTup (aCons (eV 8) (aCons (eV 9) aNil))) aNil)))) (sRet 1 (eK (.bool false))) sNil)
    (sSeq (sIf (rB (e2 (gEqA true) (eN gReprC (aCons (eTup (aCons (eV 3) (aCons (eV 6) aNil))) aNil)) (eV 7))) (sRet 1 (eK (.bool false))) sNil)
    (sIf (rB (e2 (gEqA true) (eV 5) (eLst aNil))) (sSeq (sSet 1 10 (e2 gIx (eV 8) (eCall 2 F__law_draw [] (aCons (eV 1) (aCons (eN gLen (aCons (eV 8) aNil)) aNil)))))
    (sPar2 1 5 6 (aCons (eCall 3 F__law_moved [] (aCons (eV 3) (aCons (eV 5) (aCons (e2 gIx (eV 10) (eK (.int 1))) aNil)))) (aCons (e2 gAdd (eV 6) (eTup (aCons (eV 10) aNil))) aNil)))) sNil)))))
def LF_law_4 : FS := (sFor 1 (iRng1 (e2 gAdd (eK (.int 1)) (eCall 2 F__law_draw [] (aCons (eV 1) (aCons (eK (.int 20)) aNil))))) (.nm 4) BF_law_3)
def BF_law_5 : FS := (sSeq (sSet 1 3 (eCall 1 F__law_plan [] (aCons (eV 1) aNil)))
    (sSeq (sPar2 1 5 6 (aCons (eLst (aCons (eCall 3 F__law_items [] (aCons (eV 3) (aCons (eK (.str "main")) (aCons (eK (.int 0)) aNil)))) aNil)) (aCons (eTup aNil) aNil)))
    LF_law_4))
def LF_law_6 : FS := (sFor 1 (iRng1 (eK (.int 3))) (.nm 2) BF_law_5)
def F_law : Fn := fnBody 1 15
    (sSeq (sSet 1 1 (eCall 1 F__law_feed [] (aCons (eV 0) aNil)))
    (sSeq LF_law_6
    (sRet 1 (eK (.bool true)))))
/-! ### that it does so -/
section
variable {P : Program} {w : World} {K : PySem.W.Frag} {mg : Str → Option Value} {base : Heap}
theorem ok_NoPaper_init {f_ C_ U_ : Addr} {fd_ : FuncData} (F_ : Fun K "__init__" "NoPaper.__init__" st_NoPaper_init f_ fd_) (T : OexG K "ValueError.__init__" C_) (r : ClX.CRead K U_ (.type "type")) (vV : PySem.W.findCls K (.ref U_) (.type "type") "__init__" = some (.val (.builtin "ValueError.__init__"))) (gU : mg "WayError" = some (.ref U_)) (hf : ∀ n ∈ (["word", "at"] : List Str), PySem.W.findIn K (.ref C_) n = some none) : FnOk P w K mg base CX0 1 f_ fd_ ["self", "word", "at"] (spInit K C_ ["word", "at"]) :=
  init_okG (m := "no such paper") F_ sc_NoPaper_init T rfl (by decide) (by decide) hf fun cdv A below s H E hr =>
    (pss_cons (ps_expr (pe_oinitG (by rfl) gU r vV (by decide +kernel) (pa_cons (pv 0) (pa_cons pe_str pa_nil)))) (pss_cons (ps_ostG (pv 0) (pv 1)) (pss_cons (ps_ostG (pv 0) (pv 2)) pss_nil)))
set_option maxHeartbeats 4000000 in
theorem ok_is_number {f_ : Addr} {fd_ : FuncData} (F_ : Fun K "is_number" "is_number" st_is_number f_ fd_) (m_isinstance : mg "isinstance" = none) (m_int : mg "int" = none) (m_bool : mg "bool" = none) : FnG P w K mg base 1 f_ fd_ ["thing"] (spF K w 1 F_is_number) :=
  fn_okG (N := ["thing"]) (n := 1) (c := fun i => false) F_ sc_is_number rfl rfl (by decide) fun cdv A outer s H G vs bor hr hl =>
    (mss_one (ms_ret hl (me_and (me_isi rfl (by rfl) m_isinstance (by rfl) m_int PyProof.Rows.boot_int (me_var (pv 0) rfl)) (me_one (me_not (me_isi rfl (by rfl) m_isinstance (by rfl) m_bool PyProof.Rows.boot_bool (me_var (pv 0) rfl)))))))
set_option maxHeartbeats 4000000 in
theorem ok_is_word {f_ : Addr} {fd_ : FuncData} (F_ : Fun K "is_word" "is_word" st_is_word f_ fd_) (m_isinstance : mg "isinstance" = none) (m_str : mg "str" = none) (m_len : mg "len" = none) (m_all : mg "all" = none) (c_LONGEST : ∃ t, mg "LONGEST" = some (.int 8 t)) (c_LETTERS : ∃ t, mg "LETTERS" = some (.str "abcdefghijklmnopqrstuvwxyz" t)) : FnG P w K mg base 1 f_ fd_ ["thing"] (spF K w 1 F_is_word) :=
  fn_okG (N := ["thing", "sign"]) (n := 2) (c := fun i => i == 1) F_ sc_is_word rfl rfl (by decide) fun cdv A outer s H G vs bor hr hl =>
    (mss_cons (ms_if ((mw_or (mt_not (mt_val (me_isi rfl (by rfl) m_isinstance (by rfl) m_str PyProof.Rows.boot_str (me_var (pv 0) rfl)))) (mw_or1 (mt_not (mt_chain op_le s_le op_le s_le me_int (me_callB call_lenA s_len (by rfl) m_len boot_len (ma_cons (me_var (pv 0) rfl) ma_nil)) (me_gint c_LONGEST (by rfl))))))).pt (mss_one (ms_ret hl me_bl)) mss_nil)
    (mss_one (ms_ret hl (me_callB (cr_all rfl) s_all (by rfl) m_all PyProof.Rows.boot_all (ma_cons (me_lc (own := [("sign", 1)]) rfl sc_is_word.nd (all_mem rfl) (all_ge hl rfl) (mi_any rfl (me_var (pv 0) rfl)) (blkOk_by (by with_unfolding_all rfl)) (fun s0 H0 C cl fp => (mg_name (i := 1) hl sc_is_word.nd rfl (by first | exact .inl rfl | exact .inr rfl))) (fun s0 H0 C cl fp => mts_nil) (fun s0 H0 C cl fp => (me_cmp (op_inT (hu65 hr.toRoom)) s_inT (me_cvar (pv 1)) (me_gstr c_LETTERS (by rfl)) (by with_unfolding_all rfl)))) ma_nil)))))
set_option maxHeartbeats 4000000 in
theorem ok_face {f_ : Addr} {fd_ : FuncData} (F_ : Fun K "face" "face" st_face f_ fd_) {f_is_number : Addr} {fd_is_number : FuncData} (ok_is_number : FnG P w K mg base 1 f_is_number fd_is_number ["thing"] (spF K w 1 F_is_number)) (k_is_number : PySem.W.keepIn K (.ref f_is_number) = true) (b_is_number : Binds K fd_is_number ["thing"] []) (g_is_number : mg "is_number" = some (.ref f_is_number)) {f_is_word : Addr} {fd_is_word : FuncData} (ok_is_word : FnG P w K mg base 1 f_is_word fd_is_word ["thing"] (spF K w 1 F_is_word)) (k_is_word : PySem.W.keepIn K (.ref f_is_word) = true) (b_is_word : Binds K fd_is_word ["thing"] []) (g_is_word : mg "is_word" = some (.ref f_is_word)) (m_dict : mg "dict" = none) (m_range : mg "range" = none) (m_tuple : mg "tuple" = none) (m_sorted : mg "sorted" = none) (kb : KBare K) : FnG P w K mg base 2 f_ fd_ ["code", "address"] (spF K w 2 F_face) :=
  fn_okG (N := ["code", "address", "sizes", "words", "pick", "index", "found", "word", "at"]) (n := 9) (c := fun i => i == 8) F_ sc_face rfl rfl (by decide) fun cdv A outer s H G vs bor hr hl =>
    (mss_cons (ms_set (i := 2) hl sc_face.nd rfl (by first | exact .inl rfl | exact .inr rfl) (me_callTy (call_dictA rfl) (s_dictA kb) (by rfl) m_dict PyProof.Rows.boot_dict (ma_cons (me_ix (hu_of hr.toRoom) s_ix (me_var (pv 0) rfl) me_int (fun _ _ => rfl)) ma_nil)))
    (mss_cons (ms_asg (me_var (pv 1) rfl) (mg_tup rfl rfl (mgs_cons (mg_name (i := 3) hl sc_face.nd rfl (by first | exact .inl rfl | exact .inr rfl)) (mgs_cons (mg_name (i := 4) hl sc_face.nd rfl (by first | exact .inl rfl | exact .inr rfl)) (mgs_cons (mg_name (i := 5) hl sc_face.nd rfl (by first | exact .inl rfl | exact .inr rfl)) mgs_nil)))))
    (mss_cons (ms_set (i := 6) hl sc_face.nd rfl (by first | exact .inl rfl | exact .inr rfl) (me_lst ma_nil))
    (mss_cons (ms_for PassesOwn.never rfl (mi_seq rfl (me_if (mt_val (me_callGG (ds := []) rfl rfl ok_is_number (hr.less (by decide)) (by rfl) g_is_number k_is_number b_is_number .nil (fun _ => .nil) (ma_cons (me_var (pv 4) rfl) ma_nil))) (me_tup (ma_cons (me_ix (hu_of hr.toRoom) s_ix (me_var (pv 3) rfl) (me_var (pv 4) rfl) (fun _ _ => rfl)) ma_nil)) (me_var (pv 3) rfl))) (mg_name (i := 7) hl sc_face.nd rfl (by first | exact .inl rfl | exact .inr rfl)) (mss_one (ms_expr (me_bm rfl PySem.F.plainAttrs_list PySem.F.slot_list_extend PySem.F.type_list_extend mt_extend s_chkL s_extend (me_var (pv 6) rfl) (ma_cons (me_lc (own := [("at", 8)]) rfl sc_face.nd (all_mem rfl) (all_ge hl rfl) (mi_range1 (by rfl) m_range (me_ix (hu_of hr.toRoom) s_ix (me_var (pv 2) rfl) (me_var (pv 7) rfl) (fun _ _ => rfl))) (blkOk_by (by with_unfolding_all rfl)) (fun s0 H0 C cl fp => (mg_name (i := 8) hl sc_face.nd rfl (by first | exact .inl rfl | exact .inr rfl))) (fun s0 H0 C cl fp => (mts_one ((mw_or (mt_cmp (op_eqA hr.toRoom.units) s_eqA (me_cvar (pv 8)) (me_var (pv 5) rfl) (nomark _)) (mw_or1 (mt_val (me_callGG (ds := []) rfl rfl ok_is_word (hr.less (by decide)) (by rfl) g_is_word k_is_word b_is_word .nil (fun _ => .nil) (ma_cons (me_var (pv 5) rfl) ma_nil)))))).pt)) (fun s0 H0 C cl fp => (me_tup (ma_cons (me_var (pv 7) rfl) (ma_cons (me_cvar (pv 8)) ma_nil))))) ma_nil)))))
    (mss_one (ms_ret hl (me_callTy L2.call_tupF s_tuple (by rfl) m_tuple PyProof.Rows.boot_tuple (ma_cons (me_callB (call_sortedB rfl (hu65 hr.toRoom)) s_sortedA (by rfl) m_sorted PyProof.Rows.boot_sorted (ma_cons (me_var (pv 6) rfl) ma_nil)) ma_nil))))))))
set_option maxHeartbeats 4000000 in
theorem ok_need_way {f_ : Addr} {fd_ : FuncData} (F_ : Fun K "need_way" "need_way" st_need_way f_ fd_) : FnG P w K mg base 1 f_ fd_ ["truth", "word", "at"] (spF K w 3 F_need_way) :=
  fn_okG (N := ["truth", "word", "at"]) (n := 3) (c := fun i => false) F_ sc_need_way rfl rfl (by decide) fun cdv A outer s H G vs bor hr hl =>
    (mss_one (ms_if (mt_not (mt_val (me_var (pv 0) rfl))) (mss_one ms_never) mss_nil))
set_option maxHeartbeats 4000000 in
theorem ok_row_there {f_ : Addr} {fd_ : FuncData} (F_ : Fun K "row_there" "row_there" st_row_there f_ fd_) (m_dict : mg "dict" = none) (m_len : mg "len" = none) (kb : KBare K) : FnG P w K mg base 1 f_ fd_ ["code", "place"] (spF K w 2 F_row_there) :=
  fn_okG (N := ["code", "place", "rows", "end"]) (n := 4) (c := fun i => false) F_ sc_row_there rfl rfl (by decide) fun cdv A outer s H G vs bor hr hl =>
    (mss_cons (ms_asg (me_ix (hu_of hr.toRoom) s_ix (me_ix (hu_of hr.toRoom) s_ix (me_callTy (call_dictA rfl) (s_dictA kb) (by rfl) m_dict PyProof.Rows.boot_dict (ma_cons (me_ix (hu_of hr.toRoom) s_ix (me_var (pv 0) rfl) me_int (fun _ _ => rfl)) ma_nil)) (me_ix (hu_of hr.toRoom) s_ix (me_var (pv 1) rfl) me_int (fun _ _ => rfl)) (fun _ _ => rfl)) (me_ix (hu_of hr.toRoom) s_ix (me_var (pv 1) rfl) me_int (fun _ _ => rfl)) (fun _ _ => rfl)) (mg_tup rfl rfl (mgs_cons (mg_name (i := 2) hl sc_row_there.nd rfl (by first | exact .inl rfl | exact .inr rfl)) (mgs_cons (mg_name (i := 3) hl sc_row_there.nd rfl (by first | exact .inl rfl | exact .inr rfl)) mgs_nil))))
    (mss_one (ms_ret hl (me_if (mt_cmp op_lt s_lt (me_ix (hu_of hr.toRoom) s_ix (me_var (pv 1) rfl) me_int (fun _ _ => rfl)) (me_callB call_lenA s_len (by rfl) m_len boot_len (ma_cons (me_var (pv 2) rfl) ma_nil)) (nomark _)) (me_ix (hu_of hr.toRoom) s_ix (me_var (pv 2) rfl) (me_ix (hu_of hr.toRoom) s_ix (me_var (pv 1) rfl) me_int (fun _ _ => rfl)) (fun _ _ => rfl)) (me_var (pv 3) rfl)))))
set_option maxHeartbeats 4000000 in
theorem ok_choices_at {f_ : Addr} {fd_ : FuncData} (F_ : Fun K "choices_at" "choices_at" st_choices_at f_ fd_) {f_row_there : Addr} {fd_row_there : FuncData} (ok_row_there : FnG P w K mg base 1 f_row_there fd_row_there ["code", "place"] (spF K w 2 F_row_there)) (k_row_there : PySem.W.keepIn K (.ref f_row_there) = true) (b_row_there : Binds K fd_row_there ["code", "place"] []) (g_row_there : mg "row_there" = some (.ref f_row_there)) {f_face : Addr} {fd_face : FuncData} (ok_face : FnG P w K mg base 2 f_face fd_face ["code", "address"] (spF K w 2 F_face)) (k_face : PySem.W.keepIn K (.ref f_face) = true) (b_face : Binds K fd_face ["code", "address"] []) (g_face : mg "face" = some (.ref f_face)) (m_tuple : mg "tuple" = none) (m_sorted : mg "sorted" = none) (m_set : mg "set" = none) : FnG P w K mg base 3 f_ fd_ ["code", "place"] (spF K w 2 F_choices_at) :=
  fn_okG (N := ["code", "place", "row"]) (n := 3) (c := fun i => false) F_ sc_choices_at rfl rfl (by decide) fun cdv A outer s H G vs bor hr hl =>
    (mss_cons (ms_set (i := 2) hl sc_choices_at.nd rfl (by first | exact .inl rfl | exact .inr rfl) (me_callGG (ds := []) rfl rfl ok_row_there (hr.less (by decide)) (by rfl) g_row_there k_row_there b_row_there .nil (fun _ => .nil) (ma_cons (me_var (pv 0) rfl) (ma_cons (me_var (pv 1) rfl) ma_nil))))
    (mss_cons (ms_if (mt_cmp (op_inA (hu65 hr.toRoom)) s_in (me_ix (hu_of hr.toRoom) s_ix (me_var (pv 2) rfl) me_int (fun _ _ => rfl)) (me_tup (ma_cons me_str (ma_cons me_str ma_nil))) (by with_unfolding_all rfl)) (mss_one (ms_ret hl (me_callGG (ds := []) rfl rfl ok_face (hr.less (by decide)) (by rfl) g_face k_face b_face .nil (fun _ => .nil) (ma_cons (me_var (pv 0) rfl) (ma_cons (me_ix (hu_of hr.toRoom) s_ix (me_var (pv 2) rfl) me_int (fun _ _ => rfl)) ma_nil))))) mss_nil)
    (mss_cons (ms_if (mt_cmp (op_eqA hr.toRoom.units) s_eqA (me_ix (hu_of hr.toRoom) s_ix (me_var (pv 2) rfl) me_int (fun _ _ => rfl)) me_str (nomark _)) (mss_one (ms_ret hl (me_callGG (ds := []) rfl rfl ok_face (hr.less (by decide)) (by rfl) g_face k_face b_face .nil (fun _ => .nil) (ma_cons (me_var (pv 0) rfl) (ma_cons (me_ix (hu_of hr.toRoom) s_ix (me_var (pv 2) rfl) me_int (fun _ _ => rfl)) ma_nil))))) mss_nil)
    (mss_cons (ms_if (mt_cmp (op_eqA hr.toRoom.units) s_eqA (me_ix (hu_of hr.toRoom) s_ix (me_var (pv 2) rfl) me_int (fun _ _ => rfl)) me_str (nomark _)) (mss_one (ms_ret hl (me_callTy L2.call_tupF s_tuple (by rfl) m_tuple PyProof.Rows.boot_tuple (ma_cons (me_callB (call_sortedB rfl (hu65 hr.toRoom)) s_sortedA (by rfl) m_sorted PyProof.Rows.boot_sorted (ma_cons (me_callTy (call_setOf rfl) s_set (by rfl) m_set PyProof.Rows.boot_set (ma_cons (me_sl rfl (me_var (pv 2) rfl) (mo_some me_int) mo_none) ma_nil)) ma_nil)) ma_nil)))) mss_nil)
    (mss_one (ms_ret hl (me_tup (ma_cons me_non ma_nil))))))))
set_option maxHeartbeats 4000000 in
theorem ok_led {f_ : Addr} {fd_ : FuncData} (F_ : Fun K "led" "led" st_led f_ fd_) {f_row_there : Addr} {fd_row_there : FuncData} (ok_row_there : FnG P w K mg base 1 f_row_there fd_row_there ["code", "place"] (spF K w 2 F_row_there)) (k_row_there : PySem.W.keepIn K (.ref f_row_there) = true) (b_row_there : Binds K fd_row_there ["code", "place"] []) (g_row_there : mg "row_there" = some (.ref f_row_there)) : FnG P w K mg base 2 f_ fd_ ["code", "place", "choice", "calls"] (spF K w 4 F_led) :=
  fn_okG (N := ["code", "place", "choice", "calls", "row"]) (n := 5) (c := fun i => false) F_ sc_led rfl rfl (by decide) fun cdv A outer s H G vs bor hr hl =>
    (mss_cons (ms_set (i := 4) hl sc_led.nd rfl (by first | exact .inl rfl | exact .inr rfl) (me_callGG (ds := []) rfl rfl ok_row_there (hr.less (by decide)) (by rfl) g_row_there k_row_there b_row_there .nil (fun _ => .nil) (ma_cons (me_var (pv 0) rfl) (ma_cons (me_var (pv 1) rfl) ma_nil))))
    (mss_cons (ms_if (mt_cmp (op_eqA hr.toRoom.units) s_eqA (me_ix (hu_of hr.toRoom) s_ix (me_var (pv 4) rfl) me_int (fun _ _ => rfl)) me_str (nomark _)) (mss_one (ms_ret hl (me_tup (ma_cons (me_tup (ma_cons (me_ix (hu_of hr.toRoom) s_ix (me_var (pv 4) rfl) me_int (fun _ _ => rfl)) (ma_cons me_int (ma_cons me_int ma_nil)))) (ma_cons (me_bin op_addA s_add (me_var (pv 3) rfl) (me_tup (ma_cons (me_tup (ma_cons (me_ix (hu_of hr.toRoom) s_ix (me_var (pv 1) rfl) me_int (fun _ _ => rfl)) (ma_cons (me_ix (hu_of hr.toRoom) s_ix (me_var (pv 1) rfl) me_int (fun _ _ => rfl)) (ma_cons (me_bin op_addA s_add (me_ix (hu_of hr.toRoom) s_ix (me_var (pv 1) rfl) me_int (fun _ _ => rfl)) me_int) ma_nil)))) ma_nil))) ma_nil))))) mss_nil)
    (mss_cons (ms_if (mt_cmp (op_eqA hr.toRoom.units) s_eqA (me_ix (hu_of hr.toRoom) s_ix (me_var (pv 4) rfl) me_int (fun _ _ => rfl)) me_str (nomark _)) (mss_one (ms_ret hl (me_if (mt_cmp (op_eqA hr.toRoom.units) s_eqA (me_var (pv 3) rfl) (me_tup ma_nil) (nomark _)) (me_tup (ma_cons me_non (ma_cons (me_tup ma_nil) ma_nil))) (me_tup (ma_cons (me_ix (hu_of hr.toRoom) s_ix (me_var (pv 3) rfl) (me_un un_neg s_neg me_int) (fun _ _ => rfl)) (ma_cons (me_sl rfl (me_var (pv 3) rfl) mo_none (mo_some (me_un un_neg s_neg me_int))) ma_nil)))))) mss_nil)
    (mss_cons (ms_if (mt_cmp (op_eqA hr.toRoom.units) s_eqA (me_ix (hu_of hr.toRoom) s_ix (me_var (pv 4) rfl) me_int (fun _ _ => rfl)) me_str (nomark _)) (mss_one (ms_ret hl (me_tup (ma_cons (me_tup (ma_cons (me_ix (hu_of hr.toRoom) s_ix (me_var (pv 1) rfl) me_int (fun _ _ => rfl)) (ma_cons (me_ix (hu_of hr.toRoom) s_ix (me_var (pv 4) rfl) me_int (fun _ _ => rfl)) (ma_cons me_int ma_nil)))) (ma_cons (me_var (pv 3) rfl) ma_nil))))) mss_nil)
    (mss_cons (ms_if (mt_cmp (op_eqA hr.toRoom.units) s_eqA (me_ix (hu_of hr.toRoom) s_ix (me_var (pv 4) rfl) me_int (fun _ _ => rfl)) me_str (nomark _)) (mss_one (ms_ret hl (me_tup (ma_cons (me_tup (ma_cons (me_ix (hu_of hr.toRoom) s_ix (me_var (pv 1) rfl) me_int (fun _ _ => rfl)) (ma_cons (me_var (pv 2) rfl) (ma_cons me_int ma_nil)))) (ma_cons (me_var (pv 3) rfl) ma_nil))))) mss_nil)
    (mss_one (ms_ret hl (me_tup (ma_cons (me_tup (ma_cons (me_ix (hu_of hr.toRoom) s_ix (me_var (pv 1) rfl) me_int (fun _ _ => rfl)) (ma_cons (me_ix (hu_of hr.toRoom) s_ix (me_var (pv 1) rfl) me_int (fun _ _ => rfl)) (ma_cons (me_bin op_addA s_add (me_ix (hu_of hr.toRoom) s_ix (me_var (pv 1) rfl) me_int (fun _ _ => rfl)) me_int) ma_nil)))) (ma_cons (me_var (pv 3) rfl) ma_nil))))))))))
set_option maxHeartbeats 4000000 in
theorem ok_is_spot {f_ : Addr} {fd_ : FuncData} (F_ : Fun K "is_spot" "is_spot" st_is_spot f_ fd_) {f_is_word : Addr} {fd_is_word : FuncData} (ok_is_word : FnG P w K mg base 1 f_is_word fd_is_word ["thing"] (spF K w 1 F_is_word)) (k_is_word : PySem.W.keepIn K (.ref f_is_word) = true) (b_is_word : Binds K fd_is_word ["thing"] []) (g_is_word : mg "is_word" = some (.ref f_is_word)) {f_is_number : Addr} {fd_is_number : FuncData} (ok_is_number : FnG P w K mg base 1 f_is_number fd_is_number ["thing"] (spF K w 1 F_is_number)) (k_is_number : PySem.W.keepIn K (.ref f_is_number) = true) (b_is_number : Binds K fd_is_number ["thing"] []) (g_is_number : mg "is_number" = some (.ref f_is_number)) (m_isinstance : mg "isinstance" = none) (m_tuple : mg "tuple" = none) (m_len : mg "len" = none) : FnG P w K mg base 2 f_ fd_ ["thing"] (spF K w 1 F_is_spot) :=
  fn_okG (N := ["thing"]) (n := 1) (c := fun i => false) F_ sc_is_spot rfl rfl (by decide) fun cdv A outer s H G vs bor hr hl =>
    (mss_cons (ms_if ((mw_or (mt_not (mt_val (me_isi rfl (by rfl) m_isinstance (by rfl) m_tuple PyProof.Rows.boot_tuple (me_var (pv 0) rfl)))) (mw_or (mt_cmp (op_neA hr.toRoom.units) s_neA (me_callB call_lenA s_len (by rfl) m_len boot_len (ma_cons (me_var (pv 0) rfl) ma_nil)) me_int (nomark _)) (mw_or1 (mt_not (mt_val (me_callGG (ds := []) rfl rfl ok_is_word (hr.less (by decide)) (by rfl) g_is_word k_is_word b_is_word .nil (fun _ => .nil) (ma_cons (me_ix (hu_of hr.toRoom) s_ix (me_var (pv 0) rfl) me_int (fun _ _ => rfl)) ma_nil)))))))).pt (mss_one (ms_ret hl me_bl)) mss_nil)
    (mss_one (ms_ret hl (me_and (me_callGG (ds := []) rfl rfl ok_is_number (hr.less (by decide)) (by rfl) g_is_number k_is_number b_is_number .nil (fun _ => .nil) (ma_cons (me_ix (hu_of hr.toRoom) s_ix (me_var (pv 0) rfl) me_int (fun _ _ => rfl)) ma_nil)) (me_one (me_callGG (ds := []) rfl rfl ok_is_number (hr.less (by decide)) (by rfl) g_is_number k_is_number b_is_number .nil (fun _ => .nil) (ma_cons (me_ix (hu_of hr.toRoom) s_ix (me_var (pv 0) rfl) me_int (fun _ _ => rfl)) ma_nil)))))))
set_option maxHeartbeats 4000000 in
theorem ok_is_step {f_ : Addr} {fd_ : FuncData} (F_ : Fun K "is_step" "is_step" st_is_step f_ fd_) {f_is_spot : Addr} {fd_is_spot : FuncData} (ok_is_spot : FnG P w K mg base 2 f_is_spot fd_is_spot ["thing"] (spF K w 1 F_is_spot)) (k_is_spot : PySem.W.keepIn K (.ref f_is_spot) = true) (b_is_spot : Binds K fd_is_spot ["thing"] []) (g_is_spot : mg "is_spot" = some (.ref f_is_spot)) (m_isinstance : mg "isinstance" = none) (m_tuple : mg "tuple" = none) (m_len : mg "len" = none) : FnG P w K mg base 3 f_ fd_ ["thing"] (spF K w 1 F_is_step) :=
  fn_okG (N := ["thing"]) (n := 1) (c := fun i => false) F_ sc_is_step rfl rfl (by decide) fun cdv A outer s H G vs bor hr hl =>
    (mss_one (ms_ret hl (me_and (me_isi rfl (by rfl) m_isinstance (by rfl) m_tuple PyProof.Rows.boot_tuple (me_var (pv 0) rfl)) (me_and (me_cmp (op_eqA hr.toRoom.units) s_eqA (me_callB call_lenA s_len (by rfl) m_len boot_len (ma_cons (me_var (pv 0) rfl) ma_nil)) me_int (nomark _)) (me_one (me_callGG (ds := []) rfl rfl ok_is_spot (hr.less (by decide)) (by rfl) g_is_spot k_is_spot b_is_spot .nil (fun _ => .nil) (ma_cons (me_ix (hu_of hr.toRoom) s_ix (me_var (pv 0) rfl) me_int (fun _ _ => rfl)) ma_nil)))))))
set_option maxHeartbeats 4000000 in
theorem ok_is_choice {f_ : Addr} {fd_ : FuncData} (F_ : Fun K "is_choice" "is_choice" st_is_choice f_ fd_) (m_repr : mg "repr" = none) : FnG P w K mg base 1 f_ fd_ ["choices", "thing"] (spF K w 2 F_is_choice) :=
  fn_okG (N := ["choices", "thing", "choice"]) (n := 3) (c := fun i => i == 2) F_ sc_is_choice rfl rfl (by decide) fun cdv A outer s H G vs bor hr hl =>
    (mss_one (ms_ret hl (me_cmp (op_inA (hu65 hr.toRoom)) s_in (me_callB (call_reprC hr.gd (hu65 hr.toRoom)) s_reprC (by rfl) m_repr ML.boot_repr (ma_cons (me_var (pv 1) rfl) ma_nil)) (me_lc (own := [("choice", 2)]) rfl sc_is_choice.nd (all_mem rfl) (all_ge hl rfl) (mi_seq rfl (me_var (pv 0) rfl)) (blkOk_by (by with_unfolding_all rfl)) (fun s0 H0 C cl fp => (mg_name (i := 2) hl sc_is_choice.nd rfl (by first | exact .inl rfl | exact .inr rfl))) (fun s0 H0 C cl fp => mts_nil) (fun s0 H0 C cl fp => (me_callB (call_reprC hr.gd (hu65 hr.toRoom)) s_reprC (by rfl) m_repr ML.boot_repr (ma_cons (me_cvar (pv 2)) ma_nil)))) (by with_unfolding_all rfl))))
set_option maxHeartbeats 4000000 in
theorem ok_gone_way {f_ : Addr} {fd_ : FuncData} (F_ : Fun K "gone_way" "gone_way" st_gone_way f_ fd_) {f_need_way : Addr} {fd_need_way : FuncData} (ok_need_way : FnG P w K mg base 1 f_need_way fd_need_way ["truth", "word", "at"] (spF K w 3 F_need_way)) (k_need_way : PySem.W.keepIn K (.ref f_need_way) = true) (b_need_way : Binds K fd_need_way ["truth", "word", "at"] []) (g_need_way : mg "need_way" = some (.ref f_need_way)) {f_is_step : Addr} {fd_is_step : FuncData} (ok_is_step : FnG P w K mg base 3 f_is_step fd_is_step ["thing"] (spF K w 1 F_is_step)) (k_is_step : PySem.W.keepIn K (.ref f_is_step) = true) (b_is_step : Binds K fd_is_step ["thing"] []) (g_is_step : mg "is_step" = some (.ref f_is_step)) {f_is_choice : Addr} {fd_is_choice : FuncData} (ok_is_choice : FnG P w K mg base 1 f_is_choice fd_is_choice ["choices", "thing"] (spF K w 2 F_is_choice)) (k_is_choice : PySem.W.keepIn K (.ref f_is_choice) = true) (b_is_choice : Binds K fd_is_choice ["choices", "thing"] []) (g_is_choice : mg "is_choice" = some (.ref f_is_choice)) {f_choices_at : Addr} {fd_choices_at : FuncData} (ok_choices_at : FnG P w K mg base 3 f_choices_at fd_choices_at ["code", "place"] (spF K w 2 F_choices_at)) (k_choices_at : PySem.W.keepIn K (.ref f_choices_at) = true) (b_choices_at : Binds K fd_choices_at ["code", "place"] []) (g_choices_at : mg "choices_at" = some (.ref f_choices_at)) {f_row_there : Addr} {fd_row_there : FuncData} (ok_row_there : FnG P w K mg base 1 f_row_there fd_row_there ["code", "place"] (spF K w 2 F_row_there)) (k_row_there : PySem.W.keepIn K (.ref f_row_there) = true) (b_row_there : Binds K fd_row_there ["code", "place"] []) (g_row_there : mg "row_there" = some (.ref f_row_there)) {f_led : Addr} {fd_led : FuncData} (ok_led : FnG P w K mg base 2 f_led fd_led ["code", "place", "choice", "calls"] (spF K w 4 F_led)) (k_led : PySem.W.keepIn K (.ref f_led) = true) (b_led : Binds K fd_led ["code", "place", "choice", "calls"] []) (g_led : mg "led" = some (.ref f_led)) (m_isinstance : mg "isinstance" = none) (m_tuple : mg "tuple" = none) (m_all : mg "all" = none) (m_enumerate : mg "enumerate" = none) (c_MAIN : GTup K mg "MAIN" [.str "main", .int (0), .int (0)]) : FnG P w K mg base 4 f_ fd_ ["code", "thing"] (spF K w 2 F_gone_way) :=
  fn_okG (N := ["code", "thing", "here", "calls", "last", "shown", "k", "word", "place", "choice", "step"]) (n := 11) (c := fun i => i == 10) F_ sc_gone_way rfl rfl (by decide) fun cdv A outer s H G vs bor hr hl =>
    (mss_cons (ms_expr (me_callGG (ds := []) rfl rfl ok_need_way (hr.less (by decide)) (by rfl) g_need_way k_need_way b_need_way .nil (fun _ => .nil) (ma_cons (me_and (me_isi rfl (by rfl) m_isinstance (by rfl) m_tuple PyProof.Rows.boot_tuple (me_var (pv 1) rfl)) (me_one (me_callB (cr_all rfl) s_all (by rfl) m_all PyProof.Rows.boot_all (ma_cons (me_lc (own := [("step", 10)]) rfl sc_gone_way.nd (all_mem rfl) (all_ge hl rfl) (mi_seq rfl (me_var (pv 1) rfl)) (blkOk_by (by with_unfolding_all rfl)) (fun s0 H0 C cl fp => (mg_name (i := 10) hl sc_gone_way.nd rfl (by first | exact .inl rfl | exact .inr rfl))) (fun s0 H0 C cl fp => mts_nil) (fun s0 H0 C cl fp => (me_callGG (ds := []) rfl rfl ok_is_step (hr.less (by decide)) (by rfl) g_is_step k_is_step b_is_step .nil (fun _ => .nil) (ma_cons (me_cvar (pv 10)) ma_nil)))) ma_nil)))) (ma_cons me_str (ma_cons (me_un un_neg s_neg me_int) ma_nil)))))
    (mss_cons (ms_par4U (i := 2) (j := 3) (l := 4) (m := 5) hl rfl rfl sc_gone_way.nd rfl rfl rfl rfl (by decide) (by first | exact .inl rfl | exact .inr rfl) (by first | exact .inl rfl | exact .inr rfl) (by first | exact .inl rfl | exact .inr rfl) (by first | exact .inl rfl | exact .inr rfl) (by first | exact .inl rfl | exact .inr rfl) (by first | exact .inl rfl | exact .inr rfl) (by first | exact .inl rfl | exact .inr rfl) (by first | exact .inl rfl | exact .inr rfl) (ma_cons (me_gtup c_MAIN (by rfl)) (ma_cons (me_tup ma_nil) (ma_cons (me_newA rfl) (ma_cons me_non ma_nil)))))
    (mss_cons (ms_for PassesOwn.never rfl (mi_enum rfl (by rfl) m_enumerate (me_var (pv 1) rfl)) (mg_tup rfl rfl (mgs_cons (mg_name (i := 6) hl sc_gone_way.nd rfl (by first | exact .inl rfl | exact .inr rfl)) (mgs_cons (mg_tup rfl rfl (mgs_cons (mg_name (i := 8) hl sc_gone_way.nd rfl (by first | exact .inl rfl | exact .inr rfl)) (mgs_cons (mg_name (i := 9) hl sc_gone_way.nd rfl (by first | exact .inl rfl | exact .inr rfl)) mgs_nil))) mgs_nil))) (mss_cons (ms_expr (me_callGG (ds := []) rfl rfl ok_need_way (hr.less (by decide)) (by rfl) g_need_way k_need_way b_need_way .nil (fun _ => .nil) (ma_cons (me_and (me_cmp op_notA s_notA (me_var (pv 2) rfl) me_non (nomark _)) (me_one (me_cmp (op_eqA hr.toRoom.units) s_eqA (me_var (pv 8) rfl) (me_var (pv 2) rfl) (nomark _)))) (ma_cons me_str (ma_cons (me_var (pv 6) rfl) ma_nil)))))
    (mss_cons (ms_expr (me_callGG (ds := []) rfl rfl ok_need_way (hr.less (by decide)) (by rfl) g_need_way k_need_way b_need_way .nil (fun _ => .nil) (ma_cons (me_callGG (ds := []) rfl rfl ok_is_choice (hr.less (by decide)) (by rfl) g_is_choice k_is_choice b_is_choice .nil (fun _ => .nil) (ma_cons (me_callGG (ds := []) rfl rfl ok_choices_at (hr.less (by decide)) (by rfl) g_choices_at k_choices_at b_choices_at .nil (fun _ => .nil) (ma_cons (me_var (pv 0) rfl) (ma_cons (me_var (pv 8) rfl) ma_nil))) (ma_cons (me_var (pv 9) rfl) ma_nil))) (ma_cons me_str (ma_cons (me_var (pv 6) rfl) ma_nil)))))
    (mss_cons (ms_set (i := 7) hl sc_gone_way.nd rfl (by first | exact .inl rfl | exact .inr rfl) (me_ix (hu_of hr.toRoom) s_ix (me_callGG (ds := []) rfl rfl ok_row_there (hr.less (by decide)) (by rfl) g_row_there k_row_there b_row_there .nil (fun _ => .nil) (ma_cons (me_var (pv 0) rfl) (ma_cons (me_var (pv 8) rfl) ma_nil))) me_int (fun _ _ => rfl)))
    (mss_cons (ms_set (i := 5) hl sc_gone_way.nd rfl (by first | exact .inl rfl | exact .inr rfl) (me_if (mt_cmp (op_eqA hr.toRoom.units) s_eqA (me_var (pv 7) rfl) me_str (nomark _)) (me_tup (ma_cons (me_var (pv 8) rfl) (ma_cons (me_get1A rfl rfl (hu65 hr.toRoom) (me_var (pv 4) rfl) (me_var (pv 9) rfl) ⟨by rfl, by rfl, by rfl, by rfl⟩) ma_nil))) me_non))
    (mss_cons (ms_if (mt_cmp (op_eqA hr.toRoom.units) s_eqA (me_var (pv 7) rfl) me_str (nomark _)) (mss_one (ms_setIxA rfl rfl (hu65 hr.toRoom) (me_var (pv 8) rfl) (me_var (pv 4) rfl) (me_var (pv 9) rfl))) mss_nil)
    (mss_one (ms_asg (me_callGG (ds := []) rfl rfl ok_led (hr.less (by decide)) (by rfl) g_led k_led b_led .nil (fun _ => .nil) (ma_cons (me_var (pv 0) rfl) (ma_cons (me_var (pv 8) rfl) (ma_cons (me_var (pv 9) rfl) (ma_cons (me_var (pv 3) rfl) ma_nil))))) (mg_tup rfl rfl (mgs_cons (mg_name (i := 2) hl sc_gone_way.nd rfl (by first | exact .inl rfl | exact .inr rfl)) (mgs_cons (mg_name (i := 3) hl sc_gone_way.nd rfl (by first | exact .inl rfl | exact .inr rfl)) mgs_nil)))))))))))
    (mss_one (ms_ret hl (me_tupQ (ma_cons (me_var (pv 2) rfl) (ma_cons (me_var (pv 3) rfl) (ma_cons (me_var (pv 4) rfl) (ma_cons (me_var (pv 5) rfl) ma_nil))))))))))
set_option maxHeartbeats 4000000 in
theorem ok_state_of {f_ : Addr} {fd_ : FuncData} (F_ : Fun K "state_of" "state_of" st_state_of f_ fd_) {f_gone_way : Addr} {fd_gone_way : FuncData} (ok_gone_way : FnG P w K mg base 4 f_gone_way fd_gone_way ["code", "thing"] (spF K w 2 F_gone_way)) (k_gone_way : PySem.W.keepIn K (.ref f_gone_way) = true) (b_gone_way : Binds K fd_gone_way ["code", "thing"] []) (g_gone_way : mg "gone_way" = some (.ref f_gone_way)) : FnG P w K mg base 5 f_ fd_ ["code", "thing"] (spF K w 2 F_state_of) :=
  fn_okG (N := ["code", "thing"]) (n := 2) (c := fun i => false) F_ sc_state_of rfl rfl (by decide) fun cdv A outer s H G vs bor hr hl =>
    (mss_one (ms_ret hl (me_slQ rfl (me_callGG (ds := []) rfl rfl ok_gone_way (hr.less (by decide)) (by rfl) g_gone_way k_gone_way b_gone_way .nil (fun _ => .nil) (ma_cons (me_var (pv 0) rfl) (ma_cons (me_var (pv 1) rfl) ma_nil))) mo_none (mo_some me_int))))
set_option maxHeartbeats 4000000 in
theorem ok_goes_on {f_ : Addr} {fd_ : FuncData} (F_ : Fun K "goes_on" "goes_on" st_goes_on f_ fd_) {f_state_of : Addr} {fd_state_of : FuncData} (ok_state_of : FnG P w K mg base 5 f_state_of fd_state_of ["code", "thing"] (spF K w 2 F_state_of)) (k_state_of : PySem.W.keepIn K (.ref f_state_of) = true) (b_state_of : Binds K fd_state_of ["code", "thing"] []) (g_state_of : mg "state_of" = some (.ref f_state_of)) {f_choices_at : Addr} {fd_choices_at : FuncData} (ok_choices_at : FnG P w K mg base 3 f_choices_at fd_choices_at ["code", "place"] (spF K w 2 F_choices_at)) (k_choices_at : PySem.W.keepIn K (.ref f_choices_at) = true) (b_choices_at : Binds K fd_choices_at ["code", "place"] []) (g_choices_at : mg "choices_at" = some (.ref f_choices_at)) (m_tuple : mg "tuple" = none) : FnG P w K mg base 6 f_ fd_ ["code", "thing"] (spF K w 2 F_goes_on) :=
  fn_okG (N := ["code", "thing", "here", "calls", "choice"]) (n := 5) (c := fun i => i == 4) F_ sc_goes_on rfl rfl (by decide) fun cdv A outer s H G vs bor hr hl =>
    (mss_cons (ms_asg (me_callGG (ds := []) rfl rfl ok_state_of (hr.less (by decide)) (by rfl) g_state_of k_state_of b_state_of .nil (fun _ => .nil) (ma_cons (me_var (pv 0) rfl) (ma_cons (me_var (pv 1) rfl) ma_nil))) (mg_tup rfl rfl (mgs_cons (mg_name (i := 2) hl sc_goes_on.nd rfl (by first | exact .inl rfl | exact .inr rfl)) (mgs_cons (mg_name (i := 3) hl sc_goes_on.nd rfl (by first | exact .inl rfl | exact .inr rfl)) mgs_nil))))
    (mss_cons (ms_if (mt_cmp op_isA s_isA (me_var (pv 2) rfl) me_non (nomark _)) (mss_one (ms_ret hl (me_tup ma_nil))) mss_nil)
    (mss_one (ms_ret hl (me_callTy L2.call_tupF s_tuple (by rfl) m_tuple PyProof.Rows.boot_tuple (ma_cons (me_lc (own := [("choice", 4)]) rfl sc_goes_on.nd (all_mem rfl) (all_ge hl rfl) (mi_seq rfl (me_callGG (ds := []) rfl rfl ok_choices_at (hr.less (by decide)) (by rfl) g_choices_at k_choices_at b_choices_at .nil (fun _ => .nil) (ma_cons (me_var (pv 0) rfl) (ma_cons (me_var (pv 2) rfl) ma_nil)))) (blkOk_by (by with_unfolding_all rfl)) (fun s0 H0 C cl fp => (mg_name (i := 4) hl sc_goes_on.nd rfl (by first | exact .inl rfl | exact .inr rfl))) (fun s0 H0 C cl fp => mts_nil) (fun s0 H0 C cl fp => (me_tup (ma_cons (me_var (pv 2) rfl) (ma_cons (me_cvar (pv 4)) ma_nil))))) ma_nil))))))
set_option maxHeartbeats 4000000 in
theorem ok__law_feed {f_ : Addr} {fd_ : FuncData} (F_ : Fun K "_law_feed" "_law_feed" st__law_feed f_ fd_) (m_list : mg "list" = none) : FnG P w K mg base 1 f_ fd_ ["_law_script"] (spF K w 1 F__law_feed) :=
  fn_okG (N := ["_law_script"]) (n := 1) (c := fun i => false) F_ sc__law_feed rfl rfl (by decide) fun cdv A outer s H G vs bor hr hl =>
    (mss_one (ms_ret hl (me_disp (l := [((eK (.str "cells")), (eN gList (aCons (eSl (eV 0) oNone (oSome (eK (.int 63)))) aNil))), ((eK (.str "at")), (eK (.int 0))), ((eK (.str "left")), (eK (.int 0))), ((eK (.str "turn")), (eK (.int 0)))]) (pps_cons me_str (me_callTy call_list_of s_list (by rfl) m_list PyProof.Rows.boot_list (ma_cons (me_sl rfl (me_var (pv 0) rfl) mo_none (mo_some me_int)) ma_nil)) (pps_cons me_str me_int (pps_cons me_str me_int (pps_cons me_str me_int pps_nil)))) rfl rfl (List.cons_ne_nil _ _) (by decide))))
set_option maxHeartbeats 4000000 in
theorem ok__law_draw {f_ : Addr} {fd_ : FuncData} (F_ : Fun K "_law_draw" "_law_draw" st__law_draw f_ fd_) (m_len : mg "len" = none) : FnG P w K mg base 1 f_ fd_ ["_law_feed_here", "_law_many"] (spF K w 2 F__law_draw) :=
  fn_okG (N := ["_law_feed_here", "_law_many", "_law_found", "_law_at", "_law_turn", "_law_cells", "_law_cell", "_law_mixed"]) (n := 8) (c := fun i => false) F_ sc__law_draw rfl rfl (by decide) fun cdv A outer s H G vs bor hr hl =>
    (mss_cons (ms_setIx (hu_of hr.toRoom) (me_bin op_addA s_add (me_ix (hu_of hr.toRoom) s_ix (me_var (pv 0) rfl) me_str (fun _ _ => rfl)) me_int) (me_var (pv 0) rfl) me_str)
    (mss_cons (ms_if (mt_cmp op_gt s_gt (me_ix (hu_of hr.toRoom) s_ix (me_var (pv 0) rfl) me_str (fun _ _ => rfl)) me_int (nomark _)) (mss_cons (ms_set (i := 2) hl sc__law_draw.nd rfl (by first | exact .inl rfl | exact .inr rfl) (me_bin op_mod s_mod (me_ix (hu_of hr.toRoom) s_ix (me_var (pv 0) rfl) me_str (fun _ _ => rfl)) (me_var (pv 1) rfl)))
    (mss_cons (ms_setIx (hu_of hr.toRoom) (me_bin op_fdiv s_div (me_ix (hu_of hr.toRoom) s_ix (me_var (pv 0) rfl) me_str (fun _ _ => rfl)) (me_var (pv 1) rfl)) (me_var (pv 0) rfl) me_str)
    (mss_one (ms_ret hl (me_var (pv 2) rfl))))) mss_nil)
    (mss_cons (ms_par3 (i := 3) (j := 4) (l := 5) hl rfl sc__law_draw.nd rfl rfl rfl (by decide) (by decide) (by decide) rfl rfl rfl (ma_cons (me_ix (hu_of hr.toRoom) s_ix (me_var (pv 0) rfl) me_str (fun _ _ => rfl)) (ma_cons (me_ix (hu_of hr.toRoom) s_ix (me_var (pv 0) rfl) me_str (fun _ _ => rfl)) (ma_cons (me_ix (hu_of hr.toRoom) s_ix (me_var (pv 0) rfl) me_str (fun _ _ => rfl)) ma_nil))) (by rfl))
    (mss_cons (ms_setIx (hu_of hr.toRoom) (me_bin op_addA s_add (me_var (pv 3) rfl) me_int) (me_var (pv 0) rfl) me_str)
    (mss_cons (ms_set (i := 6) hl sc__law_draw.nd rfl (by first | exact .inl rfl | exact .inr rfl) (me_if (mt_cmp (op_neA hr.toRoom.units) s_neA (me_var (pv 5) rfl) (me_lst ma_nil) (nomark _)) (me_ix (hu_of hr.toRoom) s_ix (me_var (pv 5) rfl) (me_bin op_mod s_mod (me_var (pv 3) rfl) (me_callB call_lenA s_len (by rfl) m_len boot_len (ma_cons (me_var (pv 5) rfl) ma_nil))) (fun _ _ => rfl)) me_int))
    (mss_cons (ms_if ((mw_and (mt_cmp op_ge s_ge (me_var (pv 6) rfl) (me_bin op_pow s_pow me_int me_int) (nomark _)) (mw_and1 (mt_cmp op_lt s_lt (me_var (pv 3) rfl) (me_callB call_lenA s_len (by rfl) m_len boot_len (ma_cons (me_var (pv 5) rfl) ma_nil)) (nomark _))))).pt (mss_cons (ms_setIx (hu_of hr.toRoom) (me_bin op_fdiv s_div (me_var (pv 6) rfl) (me_var (pv 1) rfl)) (me_var (pv 0) rfl) me_str)
    (mss_one (ms_ret hl (me_bin op_mod s_mod (me_var (pv 6) rfl) (me_var (pv 1) rfl))))) mss_nil)
    (mss_cons (ms_set (i := 7) hl sc__law_draw.nd rfl (by first | exact .inl rfl | exact .inr rfl) (me_bin op_mod s_mod (me_bin op_pow s_pow (me_bin op_addA s_add (me_bin op_addA s_add (me_bin op_mod s_mod (me_var (pv 6) rfl) me_int) (me_bin op_mulW s_mul (me_bin op_mulW s_mul me_int (me_var (pv 4) rfl)) (me_var (pv 4) rfl))) me_int) me_int) me_int))
    (mss_one (ms_ret hl (me_bin op_mod s_mod (me_bin op_fdiv s_div (me_bin op_mod s_mod (me_bin op_pow s_pow (me_bin op_addA s_add (me_var (pv 7) rfl) (me_bin op_mulW s_mul me_int (me_var (pv 4) rfl))) me_int) me_int) me_int) (me_var (pv 1) rfl)))))))))))
set_option maxHeartbeats 4000000 in
theorem ok__law_objects {f_ : Addr} {fd_ : FuncData} (F_ : Fun K "_law_objects" "_law_objects" st__law_objects f_ fd_) {f__law_draw : Addr} {fd__law_draw : FuncData} (ok__law_draw : FnG P w K mg base 1 f__law_draw fd__law_draw ["_law_feed_here", "_law_many"] (spF K w 2 F__law_draw)) (k__law_draw : PySem.W.keepIn K (.ref f__law_draw) = true) (b__law_draw : Binds K fd__law_draw ["_law_feed_here", "_law_many"] []) (g__law_draw : mg "_law_draw" = some (.ref f__law_draw)) (m_range : mg "range" = none) (m_len : mg "len" = none) (m_tuple : mg "tuple" = none) (m_sorted : mg "sorted" = none) : FnG P w K mg base 2 f_ fd_ ["_law_feed_here"] (spF K w 1 F__law_objects) :=
  fn_okG (N := ["_law_feed_here", "_law_rest", "_law_found", "_law_k"]) (n := 4) (c := fun i => false) F_ sc__law_objects rfl rfl (by decide) fun cdv A outer s H G vs bor hr hl =>
    (mss_cons (ms_par2 (i := 1) (j := 2) hl rfl sc__law_objects.nd rfl rfl (by decide) rfl rfl (ma_cons (me_lst (ma_cons me_str (ma_cons me_str (ma_cons me_str (ma_cons me_str (ma_cons me_str ma_nil)))))) (ma_cons (me_lst ma_nil) ma_nil)) (by rfl))
    (mss_cons (ms_for PassesOwn.never rfl (mi_range1 (by rfl) m_range (me_bin op_addA s_add me_int (me_callGG (ds := []) rfl rfl ok__law_draw (hr.less (by decide)) (by rfl) g__law_draw k__law_draw b__law_draw .nil (fun _ => .nil) (ma_cons (me_var (pv 0) rfl) (ma_cons me_int ma_nil))))) (mg_name (i := 3) hl sc__law_objects.nd rfl (by first | exact .inl rfl | exact .inr rfl)) (mss_one (ms_expr (me_bm rfl PySem.F.plainAttrs_list PySem.F.slot_list_append PySem.F.type_list_append mt_append s_chkL s_append (me_var (pv 2) rfl) (ma_cons (me_tup (ma_cons (me_bm rfl PySem.F.plainAttrs_list PySem.F.slot_list_pop PySem.F.type_list_pop mt_popAt s_chkL s_popAt (me_var (pv 1) rfl) (ma_cons (me_callGG (ds := []) rfl rfl ok__law_draw (hr.less (by decide)) (by rfl) g__law_draw k__law_draw b__law_draw .nil (fun _ => .nil) (ma_cons (me_var (pv 0) rfl) (ma_cons (me_callB call_lenA s_len (by rfl) m_len boot_len (ma_cons (me_var (pv 1) rfl) ma_nil)) ma_nil))) ma_nil)) (ma_cons (me_bin op_addA s_add me_int (me_callGG (ds := []) rfl rfl ok__law_draw (hr.less (by decide)) (by rfl) g__law_draw k__law_draw b__law_draw .nil (fun _ => .nil) (ma_cons (me_var (pv 0) rfl) (ma_cons me_int ma_nil)))) ma_nil))) ma_nil)))))
    (mss_one (ms_ret hl (me_callTy L2.call_tupF s_tuple (by rfl) m_tuple PyProof.Rows.boot_tuple (ma_cons (me_callB (call_sortedB rfl (hu65 hr.toRoom)) s_sortedA (by rfl) m_sorted PyProof.Rows.boot_sorted (ma_cons (me_var (pv 2) rfl) ma_nil)) ma_nil))))))
set_option maxHeartbeats 4000000 in
theorem ok__law_where {f_ : Addr} {fd_ : FuncData} (F_ : Fun K "_law_where" "_law_where" st__law_where f_ fd_) {f__law_draw : Addr} {fd__law_draw : FuncData} (ok__law_draw : FnG P w K mg base 1 f__law_draw fd__law_draw ["_law_feed_here", "_law_many"] (spF K w 2 F__law_draw)) (k__law_draw : PySem.W.keepIn K (.ref f__law_draw) = true) (b__law_draw : Binds K fd__law_draw ["_law_feed_here", "_law_many"] []) (g__law_draw : mg "_law_draw" = some (.ref f__law_draw)) (m_range : mg "range" = none) (m_min : mg "min" = none) (m_len : mg "len" = none) (m_dict : mg "dict" = none) (m_tuple : mg "tuple" = none) (kb : KBare K) : FnG P w K mg base 2 f_ fd_ ["_law_feed_here", "_law_objects_here"] (spF K w 2 F__law_where) :=
  fn_okG (N := ["_law_feed_here", "_law_objects_here", "_law_rest", "_law_some", "_law_k", "_law_least", "_law_pick", "_law_index", "_law_called", "_law_way", "_law_own", "_law_size"]) (n := 12) (c := fun i => i == 10 || i == 11) F_ sc__law_where rfl rfl (by decide) fun cdv A outer s H G vs bor hr hl =>
    (mss_cons (ms_par2 (i := 2) (j := 3) hl rfl sc__law_where.nd rfl rfl (by decide) rfl rfl (ma_cons (me_lc (own := [("_law_own", 10), ("_law_size", 11)]) rfl sc__law_where.nd (all_mem rfl) (all_ge hl rfl) (mi_seq rfl (me_var (pv 1) rfl)) (blkOk_by (by with_unfolding_all rfl)) (fun s0 H0 C cl fp => (mg_tup rfl rfl (mgs_cons (mg_name (i := 10) hl sc__law_where.nd rfl (by first | exact .inl rfl | exact .inr rfl)) (mgs_cons (mg_name (i := 11) hl sc__law_where.nd rfl (by first | exact .inl rfl | exact .inr rfl)) mgs_nil)))) (fun s0 H0 C cl fp => mts_nil) (fun s0 H0 C cl fp => (me_cvar (pv 10)))) (ma_cons (me_lst ma_nil) ma_nil)) (by rfl))
    (mss_cons (ms_for PassesOwn.never rfl (mi_range1 (by rfl) m_range (me_bin op_addA s_add me_int (me_callGG (ds := []) rfl rfl ok__law_draw (hr.less (by decide)) (by rfl) g__law_draw k__law_draw b__law_draw .nil (fun _ => .nil) (ma_cons (me_var (pv 0) rfl) (ma_cons (me_callB (call_min2 rfl) s_min2 (by rfl) m_min PyProof.Rows.boot_min (ma_cons me_int (ma_cons (me_callB call_lenA s_len (by rfl) m_len boot_len (ma_cons (me_var (pv 2) rfl) ma_nil)) ma_nil))) ma_nil))))) (mg_name (i := 4) hl sc__law_where.nd rfl (by first | exact .inl rfl | exact .inr rfl)) (mss_one (ms_expr (me_bm rfl PySem.F.plainAttrs_list PySem.F.slot_list_append PySem.F.type_list_append mt_append s_chkL s_append (me_var (pv 3) rfl) (ma_cons (me_bm rfl PySem.F.plainAttrs_list PySem.F.slot_list_pop PySem.F.type_list_pop mt_popAt s_chkL s_popAt (me_var (pv 2) rfl) (ma_cons (me_callGG (ds := []) rfl rfl ok__law_draw (hr.less (by decide)) (by rfl) g__law_draw k__law_draw b__law_draw .nil (fun _ => .nil) (ma_cons (me_var (pv 0) rfl) (ma_cons (me_callB call_lenA s_len (by rfl) m_len boot_len (ma_cons (me_var (pv 2) rfl) ma_nil)) ma_nil))) ma_nil)) ma_nil)))))
    (mss_cons (ms_set (i := 5) hl sc__law_where.nd rfl (by first | exact .inl rfl | exact .inr rfl) (me_callB (cr_min rfl) s_min (by rfl) m_min PyProof.Rows.boot_min (ma_cons (me_lc (own := [("_law_own", 10)]) rfl sc__law_where.nd (all_mem rfl) (all_ge hl rfl) (mi_seq rfl (me_var (pv 3) rfl)) (blkOk_by (by with_unfolding_all rfl)) (fun s0 H0 C cl fp => (mg_name (i := 10) hl sc__law_where.nd rfl (by first | exact .inl rfl | exact .inr rfl))) (fun s0 H0 C cl fp => mts_nil) (fun s0 H0 C cl fp => (me_ix (hu_of hr.toRoom) s_ix (me_callTy (call_dictA rfl) (s_dictA kb) (by rfl) m_dict PyProof.Rows.boot_dict (ma_cons (me_var (pv 1) rfl) ma_nil)) (me_cvar (pv 10)) (fun _ _ => rfl)))) ma_nil)))
    (mss_cons (ms_par2 (i := 6) (j := 7) hl rfl sc__law_where.nd rfl rfl (by decide) rfl rfl (ma_cons (me_callGG (ds := []) rfl rfl ok__law_draw (hr.less (by decide)) (by rfl) g__law_draw k__law_draw b__law_draw .nil (fun _ => .nil) (ma_cons (me_var (pv 0) rfl) (ma_cons (me_callB call_lenA s_len (by rfl) m_len boot_len (ma_cons (me_var (pv 3) rfl) ma_nil)) ma_nil))) (ma_cons (me_callGG (ds := []) rfl rfl ok__law_draw (hr.less (by decide)) (by rfl) g__law_draw k__law_draw b__law_draw .nil (fun _ => .nil) (ma_cons (me_var (pv 0) rfl) (ma_cons (me_var (pv 5) rfl) ma_nil))) ma_nil)) (by rfl))
    (mss_cons (ms_set (i := 8) hl sc__law_where.nd rfl (by first | exact .inl rfl | exact .inr rfl) (me_ix (hu_of hr.toRoom) s_ix (me_lst (ma_cons me_str (ma_cons me_str (ma_cons me_str ma_nil)))) (me_callGG (ds := []) rfl rfl ok__law_draw (hr.less (by decide)) (by rfl) g__law_draw k__law_draw b__law_draw .nil (fun _ => .nil) (ma_cons (me_var (pv 0) rfl) (ma_cons me_int ma_nil))) (fun _ _ => rfl)))
    (mss_cons (ms_set (i := 9) hl sc__law_where.nd rfl (by first | exact .inl rfl | exact .inr rfl) (me_callGG (ds := []) rfl rfl ok__law_draw (hr.less (by decide)) (by rfl) g__law_draw k__law_draw b__law_draw .nil (fun _ => .nil) (ma_cons (me_var (pv 0) rfl) (ma_cons me_int ma_nil))))
    (mss_one (ms_ret hl (me_tup (ma_cons (me_callTy L2.call_tupF s_tuple (by rfl) m_tuple PyProof.Rows.boot_tuple (ma_cons (me_var (pv 3) rfl) ma_nil)) (ma_cons (me_if ((mw_and (mt_cmp (op_eqA hr.toRoom.units) s_eqA (me_var (pv 9) rfl) me_int (nomark _)) (mw_and1 (mt_cmp op_gt s_gt (me_callB call_lenA s_len (by rfl) m_len boot_len (ma_cons (me_var (pv 3) rfl) ma_nil)) me_int (nomark _))))).pt (me_var (pv 8) rfl) (me_var (pv 6) rfl)) (ma_cons (me_if (mt_cmp op_lt s_lt (me_var (pv 9) rfl) me_int (nomark _)) (me_ix (hu_of hr.toRoom) s_ix (me_lst (ma_cons me_str (ma_cons me_str ma_nil))) (me_bin op_mod s_mod (me_var (pv 9) rfl) me_int) (fun _ _ => rfl)) (me_var (pv 7) rfl)) ma_nil))))))))))))
set_option maxHeartbeats 4000000 in
theorem ok__law_operand {f_ : Addr} {fd_ : FuncData} (F_ : Fun K "_law_operand" "_law_operand" st__law_operand f_ fd_) {f__law_draw : Addr} {fd__law_draw : FuncData} (ok__law_draw : FnG P w K mg base 1 f__law_draw fd__law_draw ["_law_feed_here", "_law_many"] (spF K w 2 F__law_draw)) (k__law_draw : PySem.W.keepIn K (.ref f__law_draw) = true) (b__law_draw : Binds K fd__law_draw ["_law_feed_here", "_law_many"] []) (g__law_draw : mg "_law_draw" = some (.ref f__law_draw)) : FnG P w K mg base 2 f_ fd_ ["_law_feed_here"] (spF K w 1 F__law_operand) :=
  fn_okG (N := ["_law_feed_here", "_law_way", "_law_small"]) (n := 3) (c := fun i => false) F_ sc__law_operand rfl rfl (by decide) fun cdv A outer s H G vs bor hr hl =>
    (mss_cons (ms_par2 (i := 1) (j := 2) hl rfl sc__law_operand.nd rfl rfl (by decide) rfl rfl (ma_cons (me_callGG (ds := []) rfl rfl ok__law_draw (hr.less (by decide)) (by rfl) g__law_draw k__law_draw b__law_draw .nil (fun _ => .nil) (ma_cons (me_var (pv 0) rfl) (ma_cons me_int ma_nil))) (ma_cons (me_callGG (ds := []) rfl rfl ok__law_draw (hr.less (by decide)) (by rfl) g__law_draw k__law_draw b__law_draw .nil (fun _ => .nil) (ma_cons (me_var (pv 0) rfl) (ma_cons me_int ma_nil))) ma_nil)) (by rfl))
    (mss_one (ms_ret hl (me_ix (hu_of hr.toRoom) s_ix (me_lst (ma_cons (me_ix (hu_of hr.toRoom) s_ix (me_lst (ma_cons me_str (ma_cons me_str (ma_cons me_str (ma_cons me_str (ma_cons me_str ma_nil)))))) (me_var (pv 2) rfl) (fun _ _ => rfl)) (ma_cons (me_ix (hu_of hr.toRoom) s_ix (me_lst (ma_cons me_str (ma_cons me_str (ma_cons me_str (ma_cons me_str (ma_cons me_str ma_nil)))))) (me_var (pv 2) rfl) (fun _ _ => rfl)) (ma_cons (me_bin op_sub s_sub (me_var (pv 2) rfl) me_int) (ma_cons (me_var (pv 2) rfl) (ma_cons (me_un un_neg s_neg me_int) ma_nil)))))) (me_var (pv 1) rfl) (fun _ _ => rfl)))))
set_option maxHeartbeats 4000000 in
theorem ok__law_row {f_ : Addr} {fd_ : FuncData} (F_ : Fun K "_law_row" "_law_row" st__law_row f_ fd_) {f__law_draw : Addr} {fd__law_draw : FuncData} (ok__law_draw : FnG P w K mg base 1 f__law_draw fd__law_draw ["_law_feed_here", "_law_many"] (spF K w 2 F__law_draw)) (k__law_draw : PySem.W.keepIn K (.ref f__law_draw) = true) (b__law_draw : Binds K fd__law_draw ["_law_feed_here", "_law_many"] []) (g__law_draw : mg "_law_draw" = some (.ref f__law_draw)) {f__law_where : Addr} {fd__law_where : FuncData} (ok__law_where : FnG P w K mg base 2 f__law_where fd__law_where ["_law_feed_here", "_law_objects_here"] (spF K w 2 F__law_where)) (k__law_where : PySem.W.keepIn K (.ref f__law_where) = true) (b__law_where : Binds K fd__law_where ["_law_feed_here", "_law_objects_here"] []) (g__law_where : mg "_law_where" = some (.ref f__law_where)) {f__law_operand : Addr} {fd__law_operand : FuncData} (ok__law_operand : FnG P w K mg base 2 f__law_operand fd__law_operand ["_law_feed_here"] (spF K w 1 F__law_operand)) (k__law_operand : PySem.W.keepIn K (.ref f__law_operand) = true) (b__law_operand : Binds K fd__law_operand ["_law_feed_here"] []) (g__law_operand : mg "_law_operand" = some (.ref f__law_operand)) (m_len : mg "len" = none) : FnG P w K mg base 3 f_ fd_ ["_law_feed_here", "_law_objects_here", "_law_called"] (spF K w 3 F__law_row) :=
  fn_okG (N := ["_law_feed_here", "_law_objects_here", "_law_called", "_law_way", "_law_own", "_law_where_here", "_law_one", "_law_other", "_law_word"]) (n := 9) (c := fun i => false) F_ sc__law_row rfl rfl (by decide) fun cdv A outer s H G vs bor hr hl =>
    (mss_cons (ms_par2 (i := 3) (j := 4) hl rfl sc__law_row.nd rfl rfl (by decide) rfl rfl (ma_cons (me_callGG (ds := []) rfl rfl ok__law_draw (hr.less (by decide)) (by rfl) g__law_draw k__law_draw b__law_draw .nil (fun _ => .nil) (ma_cons (me_var (pv 0) rfl) (ma_cons me_int ma_nil))) (ma_cons (me_ix (hu_of hr.toRoom) s_ix (me_lst (ma_cons me_str (ma_cons me_str (ma_cons me_str ma_nil)))) (me_callGG (ds := []) rfl rfl ok__law_draw (hr.less (by decide)) (by rfl) g__law_draw k__law_draw b__law_draw .nil (fun _ => .nil) (ma_cons (me_var (pv 0) rfl) (ma_cons me_int ma_nil))) (fun _ _ => rfl)) ma_nil)) (by rfl))
    (mss_cons (ms_par3 (i := 5) (j := 6) (l := 7) hl rfl sc__law_row.nd rfl rfl rfl (by decide) (by decide) (by decide) rfl rfl rfl (ma_cons (me_callGG (ds := []) rfl rfl ok__law_where (hr.less (by decide)) (by rfl) g__law_where k__law_where b__law_where .nil (fun _ => .nil) (ma_cons (me_var (pv 0) rfl) (ma_cons (me_var (pv 1) rfl) ma_nil))) (ma_cons (me_callGG (ds := []) rfl rfl ok__law_operand (hr.less (by decide)) (by rfl) g__law_operand k__law_operand b__law_operand .nil (fun _ => .nil) (ma_cons (me_var (pv 0) rfl) ma_nil)) (ma_cons (me_callGG (ds := []) rfl rfl ok__law_operand (hr.less (by decide)) (by rfl) g__law_operand k__law_operand b__law_operand .nil (fun _ => .nil) (ma_cons (me_var (pv 0) rfl) ma_nil)) ma_nil))) (by rfl))
    (mss_cons (ms_if (mt_cmp op_lt s_lt (me_var (pv 3) rfl) me_int (nomark _)) (mss_one (ms_ret hl (me_tup (ma_cons me_str (ma_cons (me_var (pv 5) rfl) (ma_cons (me_var (pv 6) rfl) ma_nil)))))) mss_nil)
    (mss_cons (ms_if (mt_cmp op_lt s_lt (me_var (pv 3) rfl) me_int (nomark _)) (mss_one (ms_ret hl (me_tup (ma_cons me_str (ma_cons (me_var (pv 4) rfl) (ma_cons (me_var (pv 5) rfl) ma_nil)))))) mss_nil)
    (mss_cons (ms_if (mt_cmp op_lt s_lt (me_var (pv 3) rfl) me_int (nomark _)) (mss_cons (ms_set (i := 8) hl sc__law_row.nd rfl (by first | exact .inl rfl | exact .inr rfl) (me_ix (hu_of hr.toRoom) s_ix (me_lst (ma_cons me_str (ma_cons me_str (ma_cons me_str (ma_cons me_str ma_nil))))) (me_callGG (ds := []) rfl rfl ok__law_draw (hr.less (by decide)) (by rfl) g__law_draw k__law_draw b__law_draw .nil (fun _ => .nil) (ma_cons (me_var (pv 0) rfl) (ma_cons me_int ma_nil))) (fun _ _ => rfl)))
    (mss_one (ms_ret hl (me_tup (ma_cons me_str (ma_cons (me_var (pv 4) rfl) (ma_cons (me_var (pv 8) rfl) (ma_cons (me_var (pv 6) rfl) (ma_cons (me_if (mt_cmp (op_neA hr.toRoom.units) s_neA (me_var (pv 8) rfl) me_str (nomark _)) (me_var (pv 7) rfl) (me_ix (hu_of hr.toRoom) s_ix (me_lst (ma_cons (me_un un_neg s_neg me_int) (ma_cons me_int (ma_cons me_int (ma_cons me_int ma_nil))))) (me_callGG (ds := []) rfl rfl ok__law_draw (hr.less (by decide)) (by rfl) g__law_draw k__law_draw b__law_draw .nil (fun _ => .nil) (ma_cons (me_var (pv 0) rfl) (ma_cons me_int ma_nil))) (fun _ _ => rfl))) ma_nil))))))))) mss_nil)
    (mss_cons (ms_if ((mw_and (mt_cmp (op_eqA hr.toRoom.units) s_eqA (me_var (pv 3) rfl) me_int (nomark _)) (mw_and1 (mt_cmp (op_neA hr.toRoom.units) s_neA (me_var (pv 2) rfl) (me_lst ma_nil) (nomark _))))).pt (mss_one (ms_ret hl (me_tup (ma_cons me_str (ma_cons (me_ix (hu_of hr.toRoom) s_ix (me_var (pv 2) rfl) (me_callGG (ds := []) rfl rfl ok__law_draw (hr.less (by decide)) (by rfl) g__law_draw k__law_draw b__law_draw .nil (fun _ => .nil) (ma_cons (me_var (pv 0) rfl) (ma_cons (me_callB call_lenA s_len (by rfl) m_len boot_len (ma_cons (me_var (pv 2) rfl) ma_nil)) ma_nil))) (fun _ _ => rfl)) ma_nil))))) mss_nil)
    (mss_cons (ms_if (mt_cmp (op_eqA hr.toRoom.units) s_eqA (me_var (pv 3) rfl) me_int (nomark _)) (mss_one (ms_ret hl (me_ix (hu_of hr.toRoom) s_ix (me_lst (ma_cons (me_tup (ma_cons me_str (ma_cons (me_var (pv 6) rfl) ma_nil))) (ma_cons (me_tup (ma_cons me_str (ma_cons me_int ma_nil))) (ma_cons (me_tup (ma_cons me_str (ma_cons (me_var (pv 5) rfl) ma_nil))) ma_nil)))) (me_callGG (ds := []) rfl rfl ok__law_draw (hr.less (by decide)) (by rfl) g__law_draw k__law_draw b__law_draw .nil (fun _ => .nil) (ma_cons (me_var (pv 0) rfl) (ma_cons me_int ma_nil))) (fun _ _ => rfl)))) mss_nil)
    (mss_one (ms_ret hl (me_if (mt_cmp op_lt s_lt (me_var (pv 3) rfl) me_int (nomark _)) (me_tup (ma_cons me_str (ma_cons (me_var (pv 6) rfl) ma_nil))) (me_tup (ma_cons me_str (ma_cons (me_var (pv 5) rfl) ma_nil)))))))))))))
set_option maxHeartbeats 4000000 in
theorem ok__law_plan {f_ : Addr} {fd_ : FuncData} (F_ : Fun K "_law_plan" "_law_plan" st__law_plan f_ fd_) {f__law_objects : Addr} {fd__law_objects : FuncData} (ok__law_objects : FnG P w K mg base 2 f__law_objects fd__law_objects ["_law_feed_here"] (spF K w 1 F__law_objects)) (k__law_objects : PySem.W.keepIn K (.ref f__law_objects) = true) (b__law_objects : Binds K fd__law_objects ["_law_feed_here"] []) (g__law_objects : mg "_law_objects" = some (.ref f__law_objects)) {f__law_draw : Addr} {fd__law_draw : FuncData} (ok__law_draw : FnG P w K mg base 1 f__law_draw fd__law_draw ["_law_feed_here", "_law_many"] (spF K w 2 F__law_draw)) (k__law_draw : PySem.W.keepIn K (.ref f__law_draw) = true) (b__law_draw : Binds K fd__law_draw ["_law_feed_here", "_law_many"] []) (g__law_draw : mg "_law_draw" = some (.ref f__law_draw)) {f__law_row : Addr} {fd__law_row : FuncData} (ok__law_row : FnG P w K mg base 3 f__law_row fd__law_row ["_law_feed_here", "_law_objects_here", "_law_called"] (spF K w 3 F__law_row)) (k__law_row : PySem.W.keepIn K (.ref f__law_row) = true) (b__law_row : Binds K fd__law_row ["_law_feed_here", "_law_objects_here", "_law_called"] []) (g__law_row : mg "_law_row" = some (.ref f__law_row)) {f__law_operand : Addr} {fd__law_operand : FuncData} (ok__law_operand : FnG P w K mg base 2 f__law_operand fd__law_operand ["_law_feed_here"] (spF K w 1 F__law_operand)) (k__law_operand : PySem.W.keepIn K (.ref f__law_operand) = true) (b__law_operand : Binds K fd__law_operand ["_law_feed_here"] []) (g__law_operand : mg "_law_operand" = some (.ref f__law_operand)) (m_range : mg "range" = none) (m_tuple : mg "tuple" = none) : FnG P w K mg base 4 f_ fd_ ["_law_feed_here"] (spF K w 1 F__law_plan) :=
  fn_okG (N := ["_law_feed_here", "_law_objects_here", "_law_called", "_law_found", "_law_routine", "_law_block", "_law_many", "_law_blocks", "_law_rows", "_law_end", "_law_way", "_law_one", "_law_other", "_law_k"]) (n := 14) (c := fun i => i == 13) F_ sc__law_plan rfl rfl (by decide) fun cdv A outer s H G vs bor hr hl =>
    (mss_cons (ms_set (i := 1) hl sc__law_plan.nd rfl (by first | exact .inl rfl | exact .inr rfl) (me_callGG (ds := []) rfl rfl ok__law_objects (hr.less (by decide)) (by rfl) g__law_objects k__law_objects b__law_objects .nil (fun _ => .nil) (ma_cons (me_var (pv 0) rfl) ma_nil)))
    (mss_cons (ms_par2U (i := 2) (j := 3) hl rfl rfl sc__law_plan.nd rfl rfl (by decide) (by first | exact .inl rfl | exact .inr rfl) (by first | exact .inl rfl | exact .inr rfl) (by first | exact .inl rfl | exact .inr rfl) (by first | exact .inl rfl | exact .inr rfl) (ma_cons (me_sl rfl (me_lst (ma_cons me_str (ma_cons me_str ma_nil))) mo_none (mo_some (me_callGG (ds := []) rfl rfl ok__law_draw (hr.less (by decide)) (by rfl) g__law_draw k__law_draw b__law_draw .nil (fun _ => .nil) (ma_cons (me_var (pv 0) rfl) (ma_cons me_int ma_nil))))) (ma_cons (me_lst ma_nil) ma_nil)))
    (mss_cons (ms_for PassesOwn.never rfl (mi_seq rfl (me_bin op_addA s_add (me_var (pv 2) rfl) (me_lst (ma_cons me_str ma_nil)))) (mg_name (i := 4) hl sc__law_plan.nd rfl (by first | exact .inl rfl | exact .inr rfl)) (mss_cons (ms_par2 (i := 6) (j := 7) hl rfl sc__law_plan.nd rfl rfl (by decide) rfl rfl (ma_cons (me_bin op_addA s_add me_int (me_callGG (ds := []) rfl rfl ok__law_draw (hr.less (by decide)) (by rfl) g__law_draw k__law_draw b__law_draw .nil (fun _ => .nil) (ma_cons (me_var (pv 0) rfl) (ma_cons me_int ma_nil)))) (ma_cons (me_lst ma_nil) ma_nil)) (by rfl))
    (mss_cons (ms_for PassesOwn.never rfl (mi_range1 (by rfl) m_range (me_var (pv 6) rfl)) (mg_name (i := 5) hl sc__law_plan.nd rfl (by first | exact .inl rfl | exact .inr rfl)) (mss_cons (ms_set (i := 8) hl sc__law_plan.nd rfl (by first | exact .inl rfl | exact .inr rfl) (me_callTy L2.call_tupF s_tuple (by rfl) m_tuple PyProof.Rows.boot_tuple (ma_cons (me_lc (own := [("_law_k", 13)]) rfl sc__law_plan.nd (all_mem rfl) (all_ge hl rfl) (mi_range1 (by rfl) m_range (me_callGG (ds := []) rfl rfl ok__law_draw (hr.less (by decide)) (by rfl) g__law_draw k__law_draw b__law_draw .nil (fun _ => .nil) (ma_cons (me_var (pv 0) rfl) (ma_cons me_int ma_nil)))) (blkOk_by (by with_unfolding_all rfl)) (fun s0 H0 C cl fp => (mg_name (i := 13) hl sc__law_plan.nd rfl (by first | exact .inl rfl | exact .inr rfl))) (fun s0 H0 C cl fp => mts_nil) (fun s0 H0 C cl fp => (me_callGG (ds := []) rfl rfl ok__law_row (hr.less (by decide)) (by rfl) g__law_row k__law_row b__law_row .nil (fun _ => .nil) (ma_cons (me_var (pv 0) rfl) (ma_cons (me_var (pv 1) rfl) (ma_cons (me_var (pv 2) rfl) ma_nil)))))) ma_nil)))
    (mss_cons (ms_par3 (i := 10) (j := 11) (l := 12) hl rfl sc__law_plan.nd rfl rfl rfl (by decide) (by decide) (by decide) rfl rfl rfl (ma_cons (me_callGG (ds := []) rfl rfl ok__law_draw (hr.less (by decide)) (by rfl) g__law_draw k__law_draw b__law_draw .nil (fun _ => .nil) (ma_cons (me_var (pv 0) rfl) (ma_cons me_int ma_nil))) (ma_cons (me_callGG (ds := []) rfl rfl ok__law_draw (hr.less (by decide)) (by rfl) g__law_draw k__law_draw b__law_draw .nil (fun _ => .nil) (ma_cons (me_var (pv 0) rfl) (ma_cons (me_var (pv 6) rfl) ma_nil))) (ma_cons (me_callGG (ds := []) rfl rfl ok__law_draw (hr.less (by decide)) (by rfl) g__law_draw k__law_draw b__law_draw .nil (fun _ => .nil) (ma_cons (me_var (pv 0) rfl) (ma_cons (me_var (pv 6) rfl) ma_nil))) ma_nil))) (by rfl))
    (mss_cons (ms_set (i := 9) hl sc__law_plan.nd rfl (by first | exact .inl rfl | exact .inr rfl) (me_ix (hu_of hr.toRoom) s_ix (me_lst (ma_cons (me_tup (ma_cons me_str (ma_cons (me_var (pv 11) rfl) ma_nil))) (ma_cons (me_tup (ma_cons me_str (ma_cons (me_callGG (ds := []) rfl rfl ok__law_operand (hr.less (by decide)) (by rfl) g__law_operand k__law_operand b__law_operand .nil (fun _ => .nil) (ma_cons (me_var (pv 0) rfl) ma_nil)) (ma_cons (me_var (pv 11) rfl) (ma_cons (me_var (pv 12) rfl) ma_nil))))) (ma_cons (me_tup (ma_cons me_str ma_nil)) (ma_cons (me_tup (ma_cons me_str ma_nil)) ma_nil))))) (me_var (pv 10) rfl) (fun _ _ => rfl)))
    (mss_one (ms_expr (me_bm rfl PySem.F.plainAttrs_list PySem.F.slot_list_append PySem.F.type_list_append mt_append s_chkL s_append (me_var (pv 7) rfl) (ma_cons (me_tup (ma_cons (me_var (pv 8) rfl) (ma_cons (me_if ((mw_or (mt_cmp op_lt s_lt (me_bin op_addA s_add (me_var (pv 5) rfl) me_int) (me_var (pv 6) rfl) (nomark _)) (mw_or1 (mt_cmp (op_eqA hr.toRoom.units) s_eqA (me_var (pv 10) rfl) me_int (nomark _))))).pt (me_var (pv 9) rfl) (me_tup (ma_cons me_str ma_nil))) ma_nil))) ma_nil))))))))
    (mss_one (ms_expr (me_bm rfl PySem.F.plainAttrs_list PySem.F.slot_list_append PySem.F.type_list_append mt_append s_chkL s_append (me_var (pv 3) rfl) (ma_cons (me_tup (ma_cons (me_var (pv 4) rfl) (ma_cons (me_callTy L2.call_tupF s_tuple (by rfl) m_tuple PyProof.Rows.boot_tuple (ma_cons (me_var (pv 7) rfl) ma_nil)) ma_nil))) ma_nil)))))))
    (mss_one (ms_ret hl (me_tup (ma_cons (me_var (pv 1) rfl) (ma_cons (me_callTy L2.call_tupF s_tuple (by rfl) m_tuple PyProof.Rows.boot_tuple (ma_cons (me_var (pv 3) rfl) ma_nil)) ma_nil))))))))
set_option maxHeartbeats 4000000 in
theorem ok__law_items {f_ : Addr} {fd_ : FuncData} (F_ : Fun K "_law_items" "_law_items" st__law_items f_ fd_) (m_dict : mg "dict" = none) (m_list : mg "list" = none) (m_range : mg "range" = none) (m_len : mg "len" = none) (kb : KBare K) : FnG P w K mg base 1 f_ fd_ ["_law_plan_here", "_law_routine", "_law_block"] (spF K w 3 F__law_items) :=
  fn_okG (N := ["_law_plan_here", "_law_routine", "_law_block", "_law_rows", "_law_end", "_law_both_rows", "_law_k"]) (n := 7) (c := fun i => i == 6) F_ sc__law_items rfl rfl (by decide) fun cdv A outer s H G vs bor hr hl =>
    (mss_cons (ms_asg (me_ix (hu_of hr.toRoom) s_ix (me_ix (hu_of hr.toRoom) s_ix (me_callTy (call_dictA rfl) (s_dictA kb) (by rfl) m_dict PyProof.Rows.boot_dict (ma_cons (me_ix (hu_of hr.toRoom) s_ix (me_var (pv 0) rfl) me_int (fun _ _ => rfl)) ma_nil)) (me_var (pv 1) rfl) (fun _ _ => rfl)) (me_var (pv 2) rfl) (fun _ _ => rfl)) (mg_tup rfl rfl (mgs_cons (mg_name (i := 3) hl sc__law_items.nd rfl (by first | exact .inl rfl | exact .inr rfl)) (mgs_cons (mg_name (i := 4) hl sc__law_items.nd rfl (by first | exact .inl rfl | exact .inr rfl)) mgs_nil))))
    (mss_cons (ms_set (i := 5) hl sc__law_items.nd rfl (by first | exact .inl rfl | exact .inr rfl) (me_bin op_addA s_add (me_callTy call_list_of s_list (by rfl) m_list PyProof.Rows.boot_list (ma_cons (me_var (pv 3) rfl) ma_nil)) (me_lst (ma_cons (me_var (pv 4) rfl) ma_nil))))
    (mss_one (ms_ret hl (me_rev rfl (me_lc (own := [("_law_k", 6)]) rfl sc__law_items.nd (all_mem rfl) (all_ge hl rfl) (mi_range1 (by rfl) m_range (me_callB call_lenA s_len (by rfl) m_len boot_len (ma_cons (me_var (pv 5) rfl) ma_nil))) (blkOk_by (by with_unfolding_all rfl)) (fun s0 H0 C cl fp => (mg_name (i := 6) hl sc__law_items.nd rfl (by first | exact .inl rfl | exact .inr rfl))) (fun s0 H0 C cl fp => mts_nil) (fun s0 H0 C cl fp => (me_tup (ma_cons (me_tup (ma_cons (me_var (pv 1) rfl) (ma_cons (me_var (pv 2) rfl) (ma_cons (me_cvar (pv 6)) ma_nil)))) (ma_cons (me_ix (hu_of hr.toRoom) s_ix (me_var (pv 5) rfl) (me_cvar (pv 6)) (fun _ _ => rfl)) ma_nil))))))))))
set_option maxHeartbeats 4000000 in
theorem ok__law_face {f_ : Addr} {fd_ : FuncData} (F_ : Fun K "_law_face" "_law_face" st__law_face f_ fd_) (m_isinstance : mg "isinstance" = none) (m_str : mg "str" = none) (m_range : mg "range" = none) (m_dict : mg "dict" = none) (m_sorted : mg "sorted" = none) (kb : KBare K) : FnG P w K mg base 1 f_ fd_ ["_law_plan_here", "_law_where_here"] (spF K w 2 F__law_face) :=
  fn_okG (N := ["_law_plan_here", "_law_where_here", "_law_some", "_law_pick", "_law_index", "_law_found", "_law_own", "_law_k"]) (n := 8) (c := fun i => i == 7) F_ sc__law_face rfl rfl (by decide) fun cdv A outer s H G vs bor hr hl =>
    (mss_cons (ms_asg (me_var (pv 1) rfl) (mg_tup rfl rfl (mgs_cons (mg_name (i := 2) hl sc__law_face.nd rfl (by first | exact .inl rfl | exact .inr rfl)) (mgs_cons (mg_name (i := 3) hl sc__law_face.nd rfl (by first | exact .inl rfl | exact .inr rfl)) (mgs_cons (mg_name (i := 4) hl sc__law_face.nd rfl (by first | exact .inl rfl | exact .inr rfl)) mgs_nil)))))
    (mss_cons (ms_set (i := 5) hl sc__law_face.nd rfl (by first | exact .inl rfl | exact .inr rfl) (me_lst ma_nil))
    (mss_cons (ms_for PassesOwn.never rfl (mi_seq rfl (me_if (mt_val (me_isi rfl (by rfl) m_isinstance (by rfl) m_str PyProof.Rows.boot_str (me_var (pv 3) rfl))) (me_var (pv 2) rfl) (me_sl rfl (me_var (pv 2) rfl) (mo_some (me_var (pv 3) rfl)) (mo_some (me_bin op_addA s_add (me_var (pv 3) rfl) me_int))))) (mg_name (i := 6) hl sc__law_face.nd rfl (by first | exact .inl rfl | exact .inr rfl)) (mss_one (ms_expr (me_bm rfl PySem.F.plainAttrs_list PySem.F.slot_list_extend PySem.F.type_list_extend mt_extend s_chkL s_extend (me_var (pv 5) rfl) (ma_cons (me_lc (own := [("_law_k", 7)]) rfl sc__law_face.nd (all_mem rfl) (all_ge hl rfl) (mi_range1 (by rfl) m_range (me_ix (hu_of hr.toRoom) s_ix (me_callTy (call_dictA rfl) (s_dictA kb) (by rfl) m_dict PyProof.Rows.boot_dict (ma_cons (me_ix (hu_of hr.toRoom) s_ix (me_var (pv 0) rfl) me_int (fun _ _ => rfl)) ma_nil)) (me_var (pv 6) rfl) (fun _ _ => rfl))) (blkOk_by (by with_unfolding_all rfl)) (fun s0 H0 C cl fp => (mg_name (i := 7) hl sc__law_face.nd rfl (by first | exact .inl rfl | exact .inr rfl))) (fun s0 H0 C cl fp => (mts_one ((mw_or (mt_val (me_isi rfl (by rfl) m_isinstance (by rfl) m_str PyProof.Rows.boot_str (me_var (pv 4) rfl))) (mw_or1 (mt_cmp (op_eqA hr.toRoom.units) s_eqA (me_cvar (pv 7)) (me_var (pv 4) rfl) (nomark _))))).pt)) (fun s0 H0 C cl fp => (me_tup (ma_cons (me_var (pv 6) rfl) (ma_cons (me_cvar (pv 7)) ma_nil))))) ma_nil)))))
    (mss_one (ms_ret hl (me_callB (call_sortedB rfl (hu65 hr.toRoom)) s_sortedA (by rfl) m_sorted PyProof.Rows.boot_sorted (ma_cons (me_var (pv 5) rfl) ma_nil)))))))
set_option maxHeartbeats 4000000 in
theorem ok__law_choices {f_ : Addr} {fd_ : FuncData} (F_ : Fun K "_law_choices" "_law_choices" st__law_choices f_ fd_) {f__law_face : Addr} {fd__law_face : FuncData} (ok__law_face : FnG P w K mg base 1 f__law_face fd__law_face ["_law_plan_here", "_law_where_here"] (spF K w 2 F__law_face)) (k__law_face : PySem.W.keepIn K (.ref f__law_face) = true) (b__law_face : Binds K fd__law_face ["_law_plan_here", "_law_where_here"] []) (g__law_face : mg "_law_face" = some (.ref f__law_face)) (m_sorted : mg "sorted" = none) (m_set : mg "set" = none) : FnG P w K mg base 2 f_ fd_ ["_law_plan_here", "_law_row_here"] (spF K w 2 F__law_choices) :=
  fn_okG (N := ["_law_plan_here", "_law_row_here"]) (n := 2) (c := fun i => false) F_ sc__law_choices rfl rfl (by decide) fun cdv A outer s H G vs bor hr hl =>
    (mss_cons (ms_if (mt_cmp (op_inA (hu65 hr.toRoom)) s_in (me_ix (hu_of hr.toRoom) s_ix (me_var (pv 1) rfl) me_int (fun _ _ => rfl)) (me_tup (ma_cons me_str (ma_cons me_str (ma_cons me_str ma_nil)))) (by with_unfolding_all rfl)) (mss_one (ms_ret hl (me_callGG (ds := []) rfl rfl ok__law_face (hr.less (by decide)) (by rfl) g__law_face k__law_face b__law_face .nil (fun _ => .nil) (ma_cons (me_var (pv 0) rfl) (ma_cons (me_if (mt_cmp (op_eqA hr.toRoom.units) s_eqA (me_ix (hu_of hr.toRoom) s_ix (me_var (pv 1) rfl) me_int (fun _ _ => rfl)) me_str (nomark _)) (me_ix (hu_of hr.toRoom) s_ix (me_var (pv 1) rfl) me_int (fun _ _ => rfl)) (me_ix (hu_of hr.toRoom) s_ix (me_var (pv 1) rfl) me_int (fun _ _ => rfl))) ma_nil))))) mss_nil)
    (mss_one (ms_ret hl (me_if (mt_cmp (op_eqA hr.toRoom.units) s_eqA (me_ix (hu_of hr.toRoom) s_ix (me_var (pv 1) rfl) me_int (fun _ _ => rfl)) me_str (nomark _)) (me_callB (call_sortedB rfl (hu65 hr.toRoom)) s_sortedA (by rfl) m_sorted PyProof.Rows.boot_sorted (ma_cons (me_callTy (call_setOf rfl) s_set (by rfl) m_set PyProof.Rows.boot_set (ma_cons (me_sl rfl (me_var (pv 1) rfl) (mo_some me_int) mo_none) ma_nil)) ma_nil)) (me_lst (ma_cons me_non ma_nil))))))
set_option maxHeartbeats 4000000 in
theorem ok__law_moved {f_ : Addr} {fd_ : FuncData} (F_ : Fun K "_law_moved" "_law_moved" st__law_moved f_ fd_) {f__law_items : Addr} {fd__law_items : FuncData} (ok__law_items : FnG P w K mg base 1 f__law_items fd__law_items ["_law_plan_here", "_law_routine", "_law_block"] (spF K w 3 F__law_items)) (k__law_items : PySem.W.keepIn K (.ref f__law_items) = true) (b__law_items : Binds K fd__law_items ["_law_plan_here", "_law_routine", "_law_block"] []) (g__law_items : mg "_law_items" = some (.ref f__law_items)) : FnG P w K mg base 2 f_ fd_ ["_law_plan_here", "_law_frames", "_law_choice"] (spF K w 3 F__law_moved) :=
  fn_okG (N := ["_law_plan_here", "_law_frames", "_law_choice", "_law_spot", "_law_row_here", "_law_rest"]) (n := 6) (c := fun i => false) F_ sc__law_moved rfl rfl (by decide) fun cdv A outer s H G vs bor hr hl =>
    (mss_cons (ms_asg (me_ix (hu_of hr.toRoom) s_ix (me_ix (hu_of hr.toRoom) s_ix (me_var (pv 1) rfl) (me_un un_neg s_neg me_int) (fun _ _ => rfl)) (me_un un_neg s_neg me_int) (fun _ _ => rfl)) (mg_tup rfl rfl (mgs_cons (mg_name (i := 3) hl sc__law_moved.nd rfl (by first | exact .inl rfl | exact .inr rfl)) (mgs_cons (mg_name (i := 4) hl sc__law_moved.nd rfl (by first | exact .inl rfl | exact .inr rfl)) mgs_nil))))
    (mss_cons (ms_set (i := 5) hl sc__law_moved.nd rfl (by first | exact .inl rfl | exact .inr rfl) (me_bin op_addA s_add (me_sl rfl (me_var (pv 1) rfl) mo_none (mo_some (me_un un_neg s_neg me_int))) (me_lst (ma_cons (me_sl rfl (me_ix (hu_of hr.toRoom) s_ix (me_var (pv 1) rfl) (me_un un_neg s_neg me_int) (fun _ _ => rfl)) mo_none (mo_some (me_un un_neg s_neg me_int))) ma_nil))))
    (mss_cons (ms_if (mt_cmp (op_eqA hr.toRoom.units) s_eqA (me_ix (hu_of hr.toRoom) s_ix (me_var (pv 4) rfl) me_int (fun _ _ => rfl)) me_str (nomark _)) (mss_one (ms_ret hl (me_bin op_addA s_add (me_var (pv 5) rfl) (me_lst (ma_cons (me_callGG (ds := []) rfl rfl ok__law_items (hr.less (by decide)) (by rfl) g__law_items k__law_items b__law_items .nil (fun _ => .nil) (ma_cons (me_var (pv 0) rfl) (ma_cons (me_ix (hu_of hr.toRoom) s_ix (me_var (pv 4) rfl) me_int (fun _ _ => rfl)) (ma_cons me_int ma_nil)))) ma_nil))))) mss_nil)
    (mss_cons (ms_if (mt_cmp (op_eqA hr.toRoom.units) s_eqA (me_ix (hu_of hr.toRoom) s_ix (me_var (pv 4) rfl) me_int (fun _ _ => rfl)) me_str (nomark _)) (mss_one (ms_ret hl (me_sl rfl (me_var (pv 5) rfl) mo_none (mo_some (me_un un_neg s_neg me_int))))) mss_nil)
    (mss_cons (ms_if (mt_cmp (op_inA (hu65 hr.toRoom)) s_in (me_ix (hu_of hr.toRoom) s_ix (me_var (pv 4) rfl) me_int (fun _ _ => rfl)) (me_tup (ma_cons me_str (ma_cons me_str ma_nil))) (by with_unfolding_all rfl)) (mss_one (ms_ret hl (me_bin op_addA s_add (me_sl rfl (me_var (pv 5) rfl) mo_none (mo_some (me_un un_neg s_neg me_int))) (me_lst (ma_cons (me_callGG (ds := []) rfl rfl ok__law_items (hr.less (by decide)) (by rfl) g__law_items k__law_items b__law_items .nil (fun _ => .nil) (ma_cons (me_var (pv 0) rfl) (ma_cons (me_ix (hu_of hr.toRoom) s_ix (me_var (pv 3) rfl) me_int (fun _ _ => rfl)) (ma_cons (me_if (mt_cmp (op_eqA hr.toRoom.units) s_eqA (me_ix (hu_of hr.toRoom) s_ix (me_var (pv 4) rfl) me_int (fun _ _ => rfl)) me_str (nomark _)) (me_ix (hu_of hr.toRoom) s_ix (me_var (pv 4) rfl) me_int (fun _ _ => rfl)) (me_var (pv 2) rfl)) ma_nil)))) ma_nil))))) mss_nil)
    (mss_one (ms_ret hl (me_var (pv 5) rfl))))))))
set_option maxHeartbeats 4000000 in
theorem ok_law {f_ : Addr} {fd_ : FuncData} (F_ : Fun K "law" "law" st_law f_ fd_) {f__law_feed : Addr} {fd__law_feed : FuncData} (ok__law_feed : FnG P w K mg base 1 f__law_feed fd__law_feed ["_law_script"] (spF K w 1 F__law_feed)) (k__law_feed : PySem.W.keepIn K (.ref f__law_feed) = true) (b__law_feed : Binds K fd__law_feed ["_law_script"] []) (g__law_feed : mg "_law_feed" = some (.ref f__law_feed)) {f__law_plan : Addr} {fd__law_plan : FuncData} (ok__law_plan : FnG P w K mg base 4 f__law_plan fd__law_plan ["_law_feed_here"] (spF K w 1 F__law_plan)) (k__law_plan : PySem.W.keepIn K (.ref f__law_plan) = true) (b__law_plan : Binds K fd__law_plan ["_law_feed_here"] []) (g__law_plan : mg "_law_plan" = some (.ref f__law_plan)) {f__law_items : Addr} {fd__law_items : FuncData} (ok__law_items : FnG P w K mg base 1 f__law_items fd__law_items ["_law_plan_here", "_law_routine", "_law_block"] (spF K w 3 F__law_items)) (k__law_items : PySem.W.keepIn K (.ref f__law_items) = true) (b__law_items : Binds K fd__law_items ["_law_plan_here", "_law_routine", "_law_block"] []) (g__law_items : mg "_law_items" = some (.ref f__law_items)) {f__law_draw : Addr} {fd__law_draw : FuncData} (ok__law_draw : FnG P w K mg base 1 f__law_draw fd__law_draw ["_law_feed_here", "_law_many"] (spF K w 2 F__law_draw)) (k__law_draw : PySem.W.keepIn K (.ref f__law_draw) = true) (b__law_draw : Binds K fd__law_draw ["_law_feed_here", "_law_many"] []) (g__law_draw : mg "_law_draw" = some (.ref f__law_draw)) {f__law_choices : Addr} {fd__law_choices : FuncData} (ok__law_choices : FnG P w K mg base 2 f__law_choices fd__law_choices ["_law_plan_here", "_law_row_here"] (spF K w 2 F__law_choices)) (k__law_choices : PySem.W.keepIn K (.ref f__law_choices) = true) (b__law_choices : Binds K fd__law_choices ["_law_plan_here", "_law_row_here"] []) (g__law_choices : mg "_law_choices" = some (.ref f__law_choices)) {f_goes_on : Addr} {fd_goes_on : FuncData} (ok_goes_on : FnG P w K mg base 6 f_goes_on fd_goes_on ["code", "thing"] (spF K w 2 F_goes_on)) (k_goes_on : PySem.W.keepIn K (.ref f_goes_on) = true) (b_goes_on : Binds K fd_goes_on ["code", "thing"] []) (g_goes_on : mg "goes_on" = some (.ref f_goes_on)) {f_state_of : Addr} {fd_state_of : FuncData} (ok_state_of : FnG P w K mg base 5 f_state_of fd_state_of ["code", "thing"] (spF K w 2 F_state_of)) (k_state_of : PySem.W.keepIn K (.ref f_state_of) = true) (b_state_of : Binds K fd_state_of ["code", "thing"] []) (g_state_of : mg "state_of" = some (.ref f_state_of)) {f__law_moved : Addr} {fd__law_moved : FuncData} (ok__law_moved : FnG P w K mg base 2 f__law_moved fd__law_moved ["_law_plan_here", "_law_frames", "_law_choice"] (spF K w 3 F__law_moved)) (k__law_moved : PySem.W.keepIn K (.ref f__law_moved) = true) (b__law_moved : Binds K fd__law_moved ["_law_plan_here", "_law_frames", "_law_choice"] []) (g__law_moved : mg "_law_moved" = some (.ref f__law_moved)) (m_range : mg "range" = none) (m_repr : mg "repr" = none) (m_tuple : mg "tuple" = none) (m_len : mg "len" = none) : FnG P w K mg base 7 f_ fd_ ["_law_script"] (spF K w 1 F_law) :=
  fn_okG (N := ["_law_script", "_law_feed_here", "_law_turn", "_law_plan_here", "_law_lap", "_law_frames", "_law_way", "_law_seen", "_law_due_now", "_law_state", "_law_step", "_law_spot", "_law_row_here", "_law_choice", "_law_frame"]) (n := 15) (c := fun i => i == 13 || i == 14) F_ sc_law rfl rfl (by decide) fun cdv A outer s H G vs bor hr hl =>
    (mss_cons (ms_set (i := 1) hl sc_law.nd rfl (by first | exact .inl rfl | exact .inr rfl) (me_callGG (ds := []) rfl rfl ok__law_feed (hr.less (by decide)) (by rfl) g__law_feed k__law_feed b__law_feed .nil (fun _ => .nil) (ma_cons (me_var (pv 0) rfl) ma_nil)))
    (mss_cons (ms_for PassesOwn.never rfl (mi_range1 (by rfl) m_range me_int) (mg_name (i := 2) hl sc_law.nd rfl (by first | exact .inl rfl | exact .inr rfl)) (mss_cons (ms_set (i := 3) hl sc_law.nd rfl (by first | exact .inl rfl | exact .inr rfl) (me_callGG (ds := []) rfl rfl ok__law_plan (hr.less (by decide)) (by rfl) g__law_plan k__law_plan b__law_plan .nil (fun _ => .nil) (ma_cons (me_var (pv 1) rfl) ma_nil)))
    (mss_cons (ms_par2 (i := 5) (j := 6) hl rfl sc_law.nd rfl rfl (by decide) rfl rfl (ma_cons (me_lst (ma_cons (me_callGG (ds := []) rfl rfl ok__law_items (hr.less (by decide)) (by rfl) g__law_items k__law_items b__law_items .nil (fun _ => .nil) (ma_cons (me_var (pv 3) rfl) (ma_cons me_str (ma_cons me_int ma_nil)))) ma_nil)) (ma_cons (me_tup ma_nil) ma_nil)) (by rfl))
    (mss_one (ms_for PassesOwn.never rfl (mi_range1 (by rfl) m_range (me_bin op_addA s_add me_int (me_callGG (ds := []) rfl rfl ok__law_draw (hr.less (by decide)) (by rfl) g__law_draw k__law_draw b__law_draw .nil (fun _ => .nil) (ma_cons (me_var (pv 1) rfl) (ma_cons me_int ma_nil))))) (mg_name (i := 4) hl sc_law.nd rfl (by first | exact .inl rfl | exact .inr rfl)) (mss_cons (ms_par3 (i := 7) (j := 8) (l := 9) hl rfl sc_law.nd rfl rfl rfl (by decide) (by decide) (by decide) rfl rfl rfl (ma_cons (me_callB (call_reprC hr.gd (hu65 hr.toRoom)) s_reprC (by rfl) m_repr ML.boot_repr (ma_cons (me_tup (ma_cons (me_var (pv 3) rfl) (ma_cons (me_var (pv 6) rfl) ma_nil))) ma_nil)) (ma_cons (me_tup ma_nil) (ma_cons (me_tup (ma_cons me_non (ma_cons (me_tup ma_nil) ma_nil))) ma_nil))) (by rfl))
    (mss_cons (ms_if (mt_cmp (op_neA hr.toRoom.units) s_neA (me_var (pv 5) rfl) (me_lst ma_nil) (nomark _)) (mss_cons (ms_asg (me_ix (hu_of hr.toRoom) s_ix (me_ix (hu_of hr.toRoom) s_ix (me_var (pv 5) rfl) (me_un un_neg s_neg me_int) (fun _ _ => rfl)) (me_un un_neg s_neg me_int) (fun _ _ => rfl)) (mg_tup rfl rfl (mgs_cons (mg_name (i := 11) hl sc_law.nd rfl (by first | exact .inl rfl | exact .inr rfl)) (mgs_cons (mg_name (i := 12) hl sc_law.nd rfl (by first | exact .inl rfl | exact .inr rfl)) mgs_nil))))
    (mss_cons (ms_set (i := 8) hl sc_law.nd rfl (by first | exact .inl rfl | exact .inr rfl) (me_callTy L2.call_tupF s_tuple (by rfl) m_tuple PyProof.Rows.boot_tuple (ma_cons (me_lc (own := [("_law_choice", 13)]) rfl sc_law.nd (all_mem rfl) (all_ge hl rfl) (mi_seq rfl (me_callGG (ds := []) rfl rfl ok__law_choices (hr.less (by decide)) (by rfl) g__law_choices k__law_choices b__law_choices .nil (fun _ => .nil) (ma_cons (me_var (pv 3) rfl) (ma_cons (me_var (pv 12) rfl) ma_nil)))) (blkOk_by (by with_unfolding_all rfl)) (fun s0 H0 C cl fp => (mg_name (i := 13) hl sc_law.nd rfl (by first | exact .inl rfl | exact .inr rfl))) (fun s0 H0 C cl fp => mts_nil) (fun s0 H0 C cl fp => (me_tup (ma_cons (me_var (pv 11) rfl) (ma_cons (me_cvar (pv 13)) ma_nil))))) ma_nil)))
    (mss_one (ms_set (i := 9) hl sc_law.nd rfl (by first | exact .inl rfl | exact .inr rfl) (me_tup (ma_cons (me_var (pv 11) rfl) (ma_cons (me_callTy L2.call_tupF s_tuple (by rfl) m_tuple PyProof.Rows.boot_tuple (ma_cons (me_lc (own := [("_law_frame", 14)]) rfl sc_law.nd (all_mem rfl) (all_ge hl rfl) (mi_seq rfl (me_sl rfl (me_var (pv 5) rfl) mo_none (mo_some (me_un un_neg s_neg me_int)))) (blkOk_by (by with_unfolding_all rfl)) (fun s0 H0 C cl fp => (mg_name (i := 14) hl sc_law.nd rfl (by first | exact .inl rfl | exact .inr rfl))) (fun s0 H0 C cl fp => mts_nil) (fun s0 H0 C cl fp => (me_ix (hu_of hr.toRoom) s_ix (me_ix (hu_of hr.toRoom) s_ix (me_cvar (pv 14)) (me_un un_neg s_neg me_int) (fun _ _ => rfl)) me_int (fun _ _ => rfl)))) ma_nil)) ma_nil))))))) mss_nil)
    (mss_cons (ms_if (mt_cmp (op_neA hr.toRoom.units) s_neA (me_callB (call_reprC hr.gd (hu65 hr.toRoom)) s_reprC (by rfl) m_repr ML.boot_repr (ma_cons (me_tup (ma_cons (me_callGG (ds := []) rfl rfl ok_goes_on (hr.less (by decide)) (by rfl) g_goes_on k_goes_on b_goes_on .nil (fun _ => .nil) (ma_cons (me_var (pv 3) rfl) (ma_cons (me_var (pv 6) rfl) ma_nil))) (ma_cons (me_callGG (ds := []) rfl rfl ok_state_of (hr.less (by decide)) (by rfl) g_state_of k_state_of b_state_of .nil (fun _ => .nil) (ma_cons (me_var (pv 3) rfl) (ma_cons (me_var (pv 6) rfl) ma_nil))) ma_nil))) ma_nil)) (me_callB (call_reprC hr.gd (hu65 hr.toRoom)) s_reprC (by rfl) m_repr ML.boot_repr (ma_cons (me_tup (ma_cons (me_var (pv 8) rfl) (ma_cons (me_var (pv 9) rfl) ma_nil))) ma_nil)) (nomark _)) (mss_one (ms_ret hl me_bl)) mss_nil)
    (mss_cons (ms_if (mt_cmp (op_neA hr.toRoom.units) s_neA (me_callB (call_reprC hr.gd (hu65 hr.toRoom)) s_reprC (by rfl) m_repr ML.boot_repr (ma_cons (me_tup (ma_cons (me_var (pv 3) rfl) (ma_cons (me_var (pv 6) rfl) ma_nil))) ma_nil)) (me_var (pv 7) rfl) (nomark _)) (mss_one (ms_ret hl me_bl)) mss_nil)
    (mss_one (ms_if (mt_cmp (op_neA hr.toRoom.units) s_neA (me_var (pv 5) rfl) (me_lst ma_nil) (nomark _)) (mss_cons (ms_set (i := 10) hl sc_law.nd rfl (by first | exact .inl rfl | exact .inr rfl) (me_ix (hu_of hr.toRoom) s_ix (me_var (pv 8) rfl) (me_callGG (ds := []) rfl rfl ok__law_draw (hr.less (by decide)) (by rfl) g__law_draw k__law_draw b__law_draw .nil (fun _ => .nil) (ma_cons (me_var (pv 1) rfl) (ma_cons (me_callB call_lenA s_len (by rfl) m_len boot_len (ma_cons (me_var (pv 8) rfl) ma_nil)) ma_nil))) (fun _ _ => rfl)))
    (mss_one (ms_par2 (i := 5) (j := 6) hl rfl sc_law.nd rfl rfl (by decide) rfl rfl (ma_cons (me_callGG (ds := []) rfl rfl ok__law_moved (hr.less (by decide)) (by rfl) g__law_moved k__law_moved b__law_moved .nil (fun _ => .nil) (ma_cons (me_var (pv 3) rfl) (ma_cons (me_var (pv 5) rfl) (ma_cons (me_ix (hu_of hr.toRoom) s_ix (me_var (pv 10) rfl) me_int (fun _ _ => rfl)) ma_nil)))) (ma_cons (me_bin op_addA s_add (me_var (pv 6) rfl) (me_tup (ma_cons (me_var (pv 10) rfl) ma_nil))) ma_nil)) (by rfl)))) mss_nil)))))))))))
    (mss_one (ms_ret hl me_bl))))
end
end K28

/-! what some defs do: printed by gen.py -/
namespace Cg
open PySem PySem.Spec PyProof.Rows L2 ML Dm
def BW__law_after_1 : FS := (sAugN 1 2 (fun i j => i - j) (eK (.int 1)))
def TW__law_after_2 : FT := (fAnd (rB (e2 gGt (eV 2) (eK (.int 0)))) (rB (e2 (gEqA false) (e2 gIx (eV 0) (eV 2)) (eK (.str "z")))))
def LW__law_after_3 : FS := (whileL TW__law_after_2 BW__law_after_1 4096)
def F__law_after : Fn := fnBody 1 4
    (sSeq (sSet 1 1 (eK (.str "abcdefghijklmnopqrstuvwxyz")))
    (sSeq (sIf (rB (e2 gLt (eN gLen (aCons (eV 0) aNil)) (eK (.int 8)))) (sRet 1 (e2 gAdd (eV 0) (eK (.str "a")))) sNil)
    (sSeq (sSet 1 2 (eK (.int 7)))
    (sSeq LW__law_after_3
    (sSeq (sSet 1 3 (e2 gIx (eV 1) (e2 gMod (e2 gAdd (eM chkS gSIndex (eV 1) (aCons (e2 gIx (eV 0) (eV 2)) aNil)) (eK (.int 1))) (eK (.int 26)))))
    (sRet 1 (e2 gAdd (e2 gAdd (eSl (eV 0) oNone (oSome (eV 2))) (eV 3)) (e2 gMulS (eK (.str "a")) (e2 gSub (eK (.int 7)) (eV 2))))))))))
def BF__law_word_1 : FS := (sSet 2 4 (e2 gAdd (eV 4) (e2 gIx (eV 2) (eCall 2 F__law_draw [] (aCons (eV 0) (aCons (eK (.int 26)) aNil))))))
def LF__law_word_2 : FS := (sFor 2 (iRng1 (eCall 2 F__law_draw [] (aCons (eV 0) (aCons (eK (.int 8)) aNil)))) (.nm 5) BF__law_word_1)
def BF__law_word_3 : FS := (sSeq (sIf (rB (e2 (gIn true) (eV 4) (eV 1))) sBk sNil)
    (sSet 2 4 (eCall 1 F__law_after [] (aCons (eV 4) aNil))))
def LF__law_word_4 : FS := (sFor 2 (iRng1 (eK (.int 60))) (.nm 5) BF__law_word_3)
def F__law_word : Fn := fnBody 2 7
    (sSeq (sSet 2 2 (eK (.str "abcdefghijklmnopqrstuvwxyz")))
    (sSeq (sSet 2 3 (eCall 2 F__law_draw [] (aCons (eV 0) (aCons (eK (.int 5)) aNil))))
    (sSeq (sSet 2 4 (e2 gIx (eV 2) (eCall 2 F__law_draw [] (aCons (eV 0) (aCons (eK (.int 26)) aNil)))))
    (sSeq (sIf (fOr (rB (e2 gGt (eV 3) (eK (.int 1)))) (rB (e2 (gEqA false) (eV 1) (eLst aNil)))) LF__law_word_2 (sSeq (sSet 2 6 (e2 gIx (eV 1) (eCall 2 F__law_draw [] (aCons (eV 0) (aCons (eN gLen (aCons (eV 1) aNil)) aNil)))))
    (sSet 2 4 (eIf (rB (e2 (gEqA false) (eV 3) (eK (.int 0)))) (eSl (eV 6) oNone (oSome (e2 gAdd (eK (.int 1)) (eCall 2 F__law_draw [] (aCons (eV 0) (aCons (eN gLen (aCons (eV 6) aNil)) aNil)))))) (e2 gAdd (eSl (eV 6) oNone (oSome (eK (.int 7)))) (e2 gIx (eV 2) (eCall 2 F__law_draw [] (aCons (eV 0) (aCons (eK (.int 26)) aNil)))))))))
    (sSeq LF__law_word_4
    (sRet 2 (eV 4)))))))
def BF__law_objects_1 : FS := (sExpr (eM chkL gAppend (eV 1) (aCons (eCall 2 F__law_word [] (aCons (eV 0) (aCons (eV 1) aNil))) aNil)))
def LF__law_objects_2 : FS := (sFor 1 (iRng1 (e2 gAdd (eK (.int 1)) (eCall 2 F__law_draw [] (aCons (eV 0) (aCons (eK (.int 4)) aNil))))) (.nm 2) BF__law_objects_1)
def LC__law_objects_3 : FE := (eLc 1 [3] (iSeq (eN gSortedA (aCons (eV 1) aNil))) (.nm 3) tTrue (eTup (aCons (eC 3) (aCons (e2 gAdd (eK (.int 1)) (eCall 2 F__law_draw [] (aCons (eV 0) (aCons (eK (.int 4)) aNil)))) aNil))))
def F__law_objects : Fn := fnBody 1 4
    (sSeq (sSet 1 1 (eLst aNil))
    (sSeq LF__law_objects_2
    (sRet 1 (eN gTuple (aCons LC__law_objects_3 aNil)))))
def F__law_operand : Fn := fnBody 1 2
    (sSeq (sSet 1 1 (e2 gIx (eTup (aCons (e2 gSub (eCall 2 F__law_draw [] (aCons (eV 0) (aCons (eK (.int 5)) aNil))) (eK (.int 1))) (aCons (e2 gSub (e2 gPow (eK (.int 10)) (eK (.int 6))) (eCall 2 F__law_draw [] (aCons (eV 0) (aCons (eK (.int 2)) aNil)))) (aCons (e1 gNeg (e2 gPow (eK (.int 10)) (eK (.int 6)))) aNil)))) (eCall 2 F__law_draw [] (aCons (eV 0) (aCons (eK (.int 3)) aNil)))))
    (sRet 1 (e2 gIx (eTup (aCons (eV 1) (aCons (eV 1) (aCons (eK (.str "i")) (aCons (eK (.str "j")) (aCons (eK (.str "ij")) (aCons (eK (.str "n")) aNil))))))) (eCall 2 F__law_draw [] (aCons (eV 0) (aCons (eK (.int 6)) aNil))))))
def LC__law_address_1 : FE := (eLc 2 [8, 9] (iSeq (eV 1)) (.tp [(.nm 8), (.nm 9)]) tTrue (eC 8))
def BF__law_address_2 : FS := (sExpr (eM chkL gAppend (eV 3) (aCons (eM chkL gPopAt (eV 2) (aCons (eCall 2 F__law_draw [] (aCons (eV 0) (aCons (eN gLen (aCons (eV 2) aNil)) aNil))) aNil)) aNil)))
def LF__law_address_3 : FS := (sFor 2 (iRng1 (e2 gAdd (eK (.int 1)) (eCall 2 F__law_draw [] (aCons (eV 0) (aCons (eN gLen (aCons (eV 1) aNil)) aNil))))) (.nm 4) BF__law_address_2)
def LC__law_address_4 : FE := (eLc 2 [8] (iSeq (eV 3)) (.nm 8) tTrue (e2 gIx (eN gDictA (aCons (eV 1) aNil)) (eC 8)))
def F__law_address : Fn := fnBody 2 10
    (sSeq (sPar2 2 2 3 (aCons LC__law_address_1 (aCons (eLst aNil) aNil)))
    (sSeq LF__law_address_3
    (sSeq (sSet 2 5 (eN gMin (aCons LC__law_address_4 aNil)))
    (sSeq (sSet 2 6 (e2 gIx (eTup (aCons (eCall 2 F__law_draw [] (aCons (eV 0) (aCons (eN gLen (aCons (eV 3) aNil)) aNil))) (aCons (e2 gIx (eTup (aCons (eK (.str "i")) (aCons (eK (.str "p")) aNil))) (eCall 2 F__law_draw [] (aCons (eV 0) (aCons (eK (.int 2)) aNil)))) aNil))) (eCall 2 F__law_draw [] (aCons (eV 0) (aCons (eK (.int 2)) aNil)))))
    (sSeq (sSet 2 7 (e2 gIx (eTup (aCons (eCall 2 F__law_draw [] (aCons (eV 0) (aCons (eV 5) aNil))) (aCons (e2 gIx (eTup (aCons (eK (.str "i")) (aCons (eK (.str "j")) aNil))) (eCall 2 F__law_draw [] (aCons (eV 0) (aCons (eK (.int 2)) aNil)))) aNil))) (eCall 2 F__law_draw [] (aCons (eV 0) (aCons (eK (.int 2)) aNil)))))
    (sRet 2 (eTup (aCons (eN gTuple (aCons (eV 3) aNil)) (aCons (eV 6) (aCons (eV 7) aNil))))))))))
def F__law_row : Fn := fnBody 3 9
    (sSeq (sSet 3 3 (e2 gIx (eTup (aCons (eK (.str "load")) (aCons (eK (.str "store")) (aCons (eK (.str "touch")) (aCons (eK (.str "set")) (aCons (eK (.str "tell")) (aCons (eK (.str "need")) (aCons (eK (.str "call")) aNil)))))))) (eCall 2 F__law_draw [] (aCons (eV 0) (aCons (e2 gAdd (eK (.int 6)) (eN gInt (aCons (e2 (gEqA true) (eV 2) (eLst aNil)) aNil))) aNil)))))
    (sSeq (sPar3 3 4 5 6 (aCons (e2 gIx (eTup (aCons (eK (.str "i")) (aCons (eK (.str "j")) (aCons (eK (.str "n")) aNil)))) (eCall 2 F__law_draw [] (aCons (eV 0) (aCons (eK (.int 3)) aNil)))) (aCons (eCall 2 F__law_address [] (aCons (eV 0) (aCons (eV 1) aNil))) (aCons (eCall 1 F__law_operand [] (aCons (eV 0) aNil)) aNil))))
    (sSeq (sPar2 3 7 8 (aCons (e2 gIx (eTup (aCons (eK (.str "+")) (aCons (eK (.str "-")) (aCons (eK (.str "*")) (aCons (eK (.str "<")) aNil))))) (eCall 2 F__law_draw [] (aCons (eV 0) (aCons (eK (.int 4)) aNil)))) (aCons (eCall 1 F__law_operand [] (aCons (eV 0) aNil)) aNil)))
    (sSeq (sIf (rB (e2 (gEqA false) (eV 3) (eK (.str "load")))) (sRet 3 (eTup (aCons (eV 3) (aCons (eV 4) (aCons (eV 5) aNil))))) sNil)
    (sSeq (sIf (rB (e2 (gEqA false) (eV 3) (eK (.str "store")))) (sRet 3 (eTup (aCons (eV 3) (aCons (eV 5) (aCons (eV 6) aNil))))) sNil)
    (sSeq (sIf (rB (e2 (gEqA false) (eV 3) (eK (.str "touch")))) (sRet 3 (eTup (aCons (eV 3) (aCons (eV 5) aNil)))) sNil)
    (sSeq (sIf (rB (e2 (gEqA false) (eV 3) (eK (.str "set")))) (sRet 3 (eTup (aCons (eV 3) (aCons (eV 4) (aCons (eV 7) (aCons (eV 6) (aCons (eV 8) aNil))))))) sNil)
    (sRet 3 (eIf (rB (e2 (gEqA false) (eV 3) (eK (.str "call")))) (eTup (aCons (eV 3) (aCons (e2 gIx (eV 2) (eCall 2 F__law_draw [] (aCons (eV 0) (aCons (eN gLen (aCons (eV 2) aNil)) aNil)))) aNil))) (eTup (aCons (eV 3) (aCons (eV 6) aNil))))))))))))
def F__law_end : Fn := fnBody 2 6
    (sSeq (sPar3 2 2 3 4 (aCons (eCall 2 F__law_draw [] (aCons (eV 0) (aCons (eV 1) aNil))) (aCons (eCall 2 F__law_draw [] (aCons (eV 0) (aCons (eV 1) aNil))) (aCons (eCall 1 F__law_operand [] (aCons (eV 0) aNil)) aNil))))
    (sSeq (sSet 2 5 (eLst (aCons (eTup (aCons (eK (.str "go")) (aCons (eV 2) aNil))) (aCons (eTup (aCons (eK (.str "if")) (aCons (eV 4) (aCons (eV 2) (aCons (eV 3) aNil))))) (aCons (eTup (aCons (eK (.str "if")) (aCons (eV 4) (aCons (eV 2) (aCons (eV 3) aNil))))) (aCons (eTup (aCons (eK (.str "back")) aNil)) aNil))))))
    (sRet 2 (e2 gIx (eV 5) (eCall 2 F__law_draw [] (aCons (eV 0) (aCons (eK (.int 4)) aNil)))))))
def LC__law_code_3 : FE := (eLc 4 [6] (iRng1 (eCall 2 F__law_draw [] (aCons (eV 0) (aCons (e2 gAdd (eV 3) (eK (.int 1))) aNil)))) (.nm 6) tTrue (eCall 3 F__law_row [] (aCons (eV 0) (aCons (eV 4) (aCons (eV 5) aNil)))))
def BF__law_code_4 : FS := (sSeq (sSet 4 12 LC__law_code_3)
    (sExpr (eM chkL gAppend (eV 10) (aCons (eTup (aCons (eN gTuple (aCons (eV 12) aNil)) (aCons (eCall 2 F__law_end [] (aCons (eV 0) (aCons (eV 9) aNil))) aNil))) aNil))))
def LF__law_code_5 : FS := (sFor 4 (iRng1 (eV 9)) (.nm 11) BF__law_code_4)
def BF__law_code_6 : FS := (sSeq (sSet 4 9 (e2 gAdd (eK (.int 1)) (eCall 2 F__law_draw [] (aCons (eV 0) (aCons (eV 2) aNil)))))
    (sSeq (sSet 4 10 (eLst aNil))
    (sSeq LF__law_code_5
    (sExpr (eM chkL gAppend (eV 7) (aCons (eTup (aCons (eV 8) (aCons (eN gTuple (aCons (eV 10) aNil)) aNil))) aNil))))))
end Cg

namespace Dm
open PySem PySem.Spec PyProof.Rows L2 ML
/-! ### the graph as data -/
inductive Gd where
  | go (a : Int) | iff (op : D) (a b : Int) | back
def Gd.d : Gd → D
  | .go a => .tuple [.str "go", .int a]
  | .iff op a b => .tuple [.str "if", op, .int a, .int b]
  | .back => .tuple [.str "back"]
def Gd.outs : Gd → List Int
  | .go a => [a]
  | .iff _ a b => [a, b]
  | .back => []
/-- a routine's blocks: rows and end each -/
abbrev Gr := List (D × Gd)
def blkD (g : D × Gd) : D := .tuple [g.1, g.2.d]
/-- a routine of a code has these blocks -/
class CodeAt (C nm : outParam D) (gs : Gr) : Prop where
  run : F_blocks_of [.val C, .val nm] = some (.val (.tuple (gs.map blkD)), [.val C, .val nm])
def tupI (ns : List Int) : D := .tuple (ns.map PyData.int)
def E (gs : Gr) (b : Int) : List Int := match gs[b.toNat]? with
  | some g => usort g.2.outs
  | none => []
theorem eqs (x : Str) : PyData.eqv (.str x) (.str x) = true := by simp [PyData.eqv]
theorem intsOf_map (ns : List Int) : intsOf (ns.map PyData.int) = some ns := by
  induction ns with
  | nil => rfl
  | cons n ns ih => simp [intsOf, ih]
theorem disp3 (A B C : D) : mergeD [] [(.inr "go", A), (.inr "if", B), (.inr "back", C)] = [(.inr "go", A), (.inr "if", B), (.inr "back", C)] := by rfl
theorem lk_go (A B C : D) : lkD [(.inr "go", A), (.inr "if", B), (.inr "back", C)] (.inr "go") = some A := by rfl
theorem lk_if (A B C : D) : lkD [(.inr "go", A), (.inr "if", B), (.inr "back", C)] (.inr "if") = some B := by rfl
theorem lk_back (A B C : D) : lkD [(.inr "go", A), (.inr "if", B), (.inr "back", C)] (.inr "back") = some C := by rfl
theorem usort_len (l : List Int) : (usort l).length ≤ l.length := by
  induction l with
  | nil => simp [usort]
  | cons x l ih =>
    have h : ∀ l : List Int, (insU x l).length ≤ l.length + 1 := fun l => by
      induction l with
      | nil => simp [insU]
      | cons y l ih =>
        unfold insU
        split
        · simp
        · split
          · simp
          · simp only [List.length_cons]; omega
    have := h (usort l)
    simp only [usort, List.length_cons]; omega
theorem atI_get {α : Type} {xs : List α} {i : Int} {x : α} (h0 : 0 ≤ i) (h : xs[i.toNat]? = some x) : atI xs i = some x := by
  have h1 : i.toNat < xs.length := (List.getElem?_eq_some_iff.mp h).1
  have h2 : i < (xs.length : Int) := by omega
  simp only [atI, ixN, h0, h2, ↓reduceIte, Option.bind_some, h]
theorem us2 (l : List Int) : usort (usort l) = usort l := (usort_of (usort_sorted l) fun x => Iff.rfl).symm
theorem ushort {l : List Int} (h : l.length ≤ 2) : (usort l).length < 64 := by have := usort_len l; omega
theorem nexts_spec {C nm : D} (gs : Gr) [hC : CodeAt C nm gs] (b : Int) (h0 : 0 ≤ b) (h1 : b < gs.length) :
    F_nexts [.val C, .val nm, .val (.int b)] = some (.val (tupI (E gs b)), [.val C, .val nm, .val (.int b)]) := by
  have blocks_spec := hC.run
  have hj : b.toNat < gs.length := by omega
  have hat : atI (gs.map blkD) b = some (blkD gs[b.toNat]) := atI_get h0 (by simp [hj])
  have hE : E gs b = usort gs[b.toNat].2.outs := by unfold E; simp [hj]
  rw [hE]
  generalize gs[b.toNat] = g at hat
  obtain ⟨rw, g⟩ := g
  unfold tupI
  cases g with
  | go a =>
    have c1 : cutD [PyData.str "go", .int a] (some 1) none = [.int a] := rfl
    have c2 : cutD [PyData.str "go", .int a] (some 2) none = [] := rfl
    simp_arith [F_nexts, blocks_spec, hat, blkD, Gd.d, c1, c2, disp3, lk_go, intsOf, intsOf_map, Gd.outs, us2, ushort (l := [a]) (by simp)]
  | iff op a c =>
    have c1 : cutD [PyData.str "if", op, .int a, .int c] (some 1) none = [op, .int a, .int c] := rfl
    have c2 : cutD [PyData.str "if", op, .int a, .int c] (some 2) none = [.int a, .int c] := rfl
    simp_arith [F_nexts, blocks_spec, hat, blkD, Gd.d, c1, c2, disp3, lk_if, intsOf, intsOf_map, Gd.outs, us2, ushort (l := [a, c]) (by simp)]
  | back =>
    have c1 : cutD [PyData.str "back"] (some 1) none = [] := rfl
    have c2 : cutD [PyData.str "back"] (some 2) none = [] := rfl
    simp_arith [F_nexts, blocks_spec, hat, blkD, Gd.d, c1, c2, disp3, lk_back, intsOf, intsOf_map, Gd.outs, us2, ushort (l := []) (by simp)]
/-! ### befores -/
def nodes (gs : Gr) : List Int := (List.range gs.length).map fun i : Nat => (i : Int)
def pre (gs : Gr) (b : Int) : List Int := (nodes gs).filter fun p => (E gs p).contains b
theorem rangeD_nodes (gs : Gr) : rangeD 0 gs.length = (nodes gs).map PyData.int := by
  simp [rangeD, nodes]
theorem nodes_mem {gs : Gr} {x : Int} : x ∈ nodes gs ↔ 0 ≤ x ∧ x < gs.length := by
  unfold nodes
  rw [List.mem_map]
  constructor
  · rintro ⟨i, hi, rfl⟩
    have := List.mem_range.mp hi
    omega
  · intro ⟨h0, h1⟩
    exact ⟨x.toNat, List.mem_range.mpr (by omega), by omega⟩
theorem any_int (ns : List Int) (b : Int) : ((ns.map PyData.int).any fun z => PyData.eqv z (.int b)) = ns.contains b := by
  induction ns with
  | nil => rfl
  | cons n ns ih =>
    simp only [List.map_cons, List.any_cons, ih, PyData.eqv, List.contains_cons]
    congr 1
    exact Bool.beq_comm ..
theorem flat_ints (ns : List Int) : (ns.map PyData.int).all flatD = true := by
  induction ns with
  | nil => rfl
  | cons n ns ih => simp [flatD, ih]
theorem ite_val (p : Bool) (d : D) (e : En) : (if p = true then some (some d, e) else some (none, e)) = some (if p = true then some d else none, e) := by cases p <;> rfl
theorem nodes_len (gs : Gr) : (nodes gs).length = gs.length := by simp [nodes]
theorem befores_spec {C nm : D} (gs : Gr) [hC : CodeAt C nm gs] (b : Int) (hn : gs.length ≤ 6) :
    F_befores [.val C, .val nm, .val (.int b)] = some (.val (tupI (pre gs b)), [.val C, .val nm, .val (.int b)]) := by
  have hb := hC.run
  have hlc : LC_befores_1 [some (.val C), some (.val nm), some (.val (.int b)), none] = some (.new (.lst ((pre gs b).map PyData.int)), [some (.val C), some (.val nm), some (.val (.int b)), none]) := by
    have hi := rgI_of (n := (gs.length : Nat)) (by omega) (by omega)
    unfold LC_befores_1
    refine (eLc_of (env1 := [some (.val C), some (.val nm), some (.val (.int b)), none]) (src := none) (nodes gs) PyData.int (fun p => (E gs p).contains b) PyData.int ?_ rfl (fun x hx => ?_) ?_)
    · simp_arith [hb, hi, rangeD_nodes]
    · have hx := nodes_mem.mp hx
      simp_arith [nexts_spec (C := C) (nm := nm) gs x hx.1 hx.2, tupI, flatD, flat_ints, any_int, v_lcS]
      exact ite_val ..
    · rw [nodes_len]; omega
  simp_arith [F_befores, hlc, tupI]
end Dm

namespace Dm
open PySem PySem.Spec PyProof.Rows L2 ML
/-! ### walks -/
structure OkG (gs : Gr) : Prop where
  pos : 0 < gs.length
  six : gs.length ≤ 6
  go : ∀ b c, c ∈ E gs b → 0 ≤ c ∧ c < gs.length
inductive Wk (gs : Gr) : List Int → Int → Prop where
  | start : Wk gs [0] 0
  | step {w : List Int} {b c : Int} : Wk gs w b → c ∈ E gs b → Wk gs (w ++ [c]) c
/-! ### dicts by ints -/
def KS (kvs : List (Key × D)) (ks : List Int) : Prop := kvs.map (·.1) = ks.map Sum.inl
theorem KS.len {kvs : List (Key × D)} {ks : List Int} (h : KS kvs ks) : kvs.length = ks.length := by
  have := congrArg List.length h
  simpa using this
theorem lk_isSome : ∀ {kvs : List (Key × D)} {ks : List Int} (x : Int), KS kvs ks → (lkD kvs (.inl x)).isSome = ks.contains x
  | [], [], x, _ => rfl
  | [], k :: ks, x, h => by cases h
  | p :: kvs, [], x, h => by cases h
  | (k1, d) :: kvs, k :: ks, x, h => by
    have h1 : k1 = .inl k := List.head_eq_of_cons_eq h
    have h2 : KS kvs ks := List.tail_eq_of_cons_eq h
    have ih := lk_isSome x h2
    subst h1
    by_cases hx : k = x
    · subst hx
      rw [lkD_pos rfl]
      simp
    · rw [lkD_neg (fun z => hx (Sum.inl.inj z)), ih]
      simp only [List.contains_cons]
      have : (x == k) = false := by simpa using fun z => hx z.symm
      rw [this]; rfl
theorem KS.snoc {kvs : List (Key × D)} {ks : List Int} {x : Int} {d : D} (h : KS kvs ks) : KS (kvs ++ [(.inl x, d)]) (ks ++ [x]) := by
  unfold KS at h ⊢
  simp [h]
/-! ### without -/
/-- what came from where: each by one that came ahead of it -/
inductive Came (gs : Gr) (ov : Option Int) : List (Key × D) → List Int → Prop where
  | nil : ov = some 0 → Came gs ov [] []
  | root : ov ≠ some 0 → Came gs ov [(.inl 0, .none)] [0]
  | snoc {kvs : List (Key × D)} {ks : List Int} {p x : Int} : Came gs ov kvs ks → p ∈ ks → x ∈ E gs p → x ∉ ks → ov ≠ some x → Came gs ov (kvs ++ [(.inl x, .int p)]) (ks ++ [x])
theorem Came.ks {gs : Gr} {ov : Option Int} {kvs : List (Key × D)} {ks : List Int} (h : Came gs ov kvs ks) : KS kvs ks := by
  induction h with
  | nil => rfl
  | root => rfl
  | snoc _ _ _ _ _ ih => exact ih.snoc
theorem Came.nd {gs : Gr} {ov : Option Int} {kvs : List (Key × D)} {ks : List Int} (h : Came gs ov kvs ks) : ks.Nodup := by
  induction h with
  | nil => simp
  | root => simp
  | snoc _ _ _ hx _ ih =>
    rw [List.nodup_append]
    exact ⟨ih, by simp, fun a ha b hb => by simp at hb; subst hb; exact fun z => hx (z ▸ ha)⟩
theorem Came.z {gs : Gr} {ov : Option Int} {kvs : List (Key × D)} {ks : List Int} (h : Came gs ov kvs ks) : ov = some 0 ∨ (0 : Int) ∈ ks := by
  induction h with
  | nil h => exact .inl h
  | root => exact .inr (by simp)
  | snoc _ _ _ _ _ ih => exact ih.imp id fun z => List.mem_append_left _ z
/-! ### reached -/
end Dm

namespace Dm
open PySem PySem.Spec PyProof.Rows L2 ML
/-! ### the tables -/
def tabK (rs : List Int) (T : Int → List Int) : List (Key × D) := rs.map fun b => (.inl b, tupI (T b))
theorem tab_ks (rs : List Int) (T : Int → List Int) : KS (tabK rs T) rs := by
  unfold KS tabK
  simp
theorem tab_lk {rs : List Int} {T : Int → List Int} {b : Int} (h : b ∈ rs) : lkD (tabK rs T) (.inl b) = some (tupI (T b)) := by
  induction rs with
  | nil => cases h
  | cons r rs ih =>
    by_cases hb : r = b
    · subst hb
      exact lkD_pos rfl
    · have : lkD (tabK (r :: rs) T) (.inl b) = lkD (tabK rs T) (.inl b) := lkD_neg fun z => hb (Sum.inl.inj z)
      rw [this]
      exact ih ((List.mem_cons.mp h).resolve_left fun z => hb z.symm)
theorem bools_map {α : Type} (q : α → Bool) : ∀ l : List α, bools (l.map fun p => PyData.bool (q p)) = some (l.map q)
  | [] => rfl
  | x :: l => by simp [bools, bools_map q l]
/-! ### one turn -/
def jm (o : Option (List D)) : Option B := o.map fun l => .mu (.lst l)
theorem jk_some (d : D) : jk (some d) = some (.val d) := rfl
def tEnv (C nm : D) (gs : Gr) (rs : List Int) (T : Int → List Int) (turned : Bool) (blk : Option D) (r6 c7 : Option (List D)) (a8 : Option D) : En :=
  [some (.val C), some (.val nm), some (.val (tupI rs)), some (.mu (.dK (tabK rs T))), some (.val (.bool turned)), jk blk, jm r6, jm c7, jk a8, none, none]
def prs (gs : Gr) (rs : List Int) (b : Int) : List Int := (pre gs b).filter fun p => rs.contains p
def com (T : Int → List Int) : List Int → List Int
  | [] => []
  | p :: ps => (T p).filter fun x => (p :: ps).all fun q => (T q).contains x
def nxT (gs : Gr) (rs : List Int) (T : Int → List Int) (b : Int) : List Int := usort (com T (prs gs rs b) ++ [b])
theorem rows_spec {C nm : D} {gs : Gr} [hC : CodeAt C nm gs] (ok : OkG gs) {rs : List Int} (T : Int → List Int) (turned : Bool) (b : Int) (r6 c7 : Option (List D)) (a8 : Option D) :
    LC_tables_over_2 (tEnv C nm gs rs T turned (some (.int b)) r6 c7 a8) = some (.new (.lst ((prs gs rs b).map fun p => tupI (T p))), tEnv C nm gs rs T turned (some (.int b)) r6 c7 a8) := by
  unfold LC_tables_over_2
  refine (eLc_of (env1 := tEnv C nm gs rs T turned (some (.int b)) r6 c7 a8) (src := none) (pre gs b) PyData.int (fun p => rs.contains p) (fun p => tupI (T p)) ?_ rfl (fun x hx => ?_) ?_).trans ?_
  · have e := befores_spec gs b ok.six
    unfold tEnv
    unfold tupI at e ⊢
    simp_arith [jk_some, e]
  · have e := lk_isSome x (tab_ks rs T)
    unfold tEnv
    by_cases h : x ∈ rs
    · have e2 : rs.contains x = true := by simpa using h
      have e3 := tab_lk (T := T) h
      simp_arith [v_lcS, e, e2, e3]
    · have e2 : rs.contains x = false := by simpa using h
      simp_arith [v_lcS, e, e2]
  · have : (pre gs b).length ≤ (nodes gs).length := List.length_filter_le ..
    rw [nodes_len] at this
    have := ok.six
    omega
  · rfl
end Dm

namespace Dm
open PySem PySem.Spec PyProof.Rows L2 ML
/-! ### walks and who is on all of them -/
def Dom (gs : Gr) (x b : Int) : Prop := ∀ w, Wk gs w b → x ∈ w
structure TI (gs : Gr) (rs : List Int) (T : Int → List Int) : Prop where
  srt : ∀ b ∈ rs, (T b).Pairwise (· < ·)
  sub : ∀ b ∈ rs, ∀ x ∈ T b, x ∈ rs
  dom : ∀ b ∈ rs, ∀ x, Dom gs x b → x ∈ T b
  zero : T 0 = [0]
  dec : ∀ b ∈ rs, b ≠ 0 → ∀ x ∈ nxT gs rs T b, x ∈ T b
/-! ### the measure -/
def mu (rs : List Int) (T : Int → List Int) : Nat := (rs.map fun b => (T b).length).sum
/-! ### where it stands still, it is what is meant -/
end Dm

namespace Dm
open PySem PySem.Spec PyProof.Rows L2 ML
end Dm

namespace Dm
open PySem PySem.Spec PyProof.Rows L2 ML
/-! ### dominators, dominates -/
end Dm

namespace Dm
open PySem PySem.Spec PyProof.Rows L2 ML
/-! ### the graph that is drawn -/
theorem draw_eq : F__law_draw = drawF := rfl
theorem draw_spec (cells : List Int) (p l t m : Int) (hp : 0 ≤ p) (hm : 0 < m) (hm2 : m < 1000) (ht : 0 ≤ t) (ht2 : t < 1000000) :
    ∃ r p' l', F__law_draw [feedB cells p l t, .val (.int m)] = some (.val (.int r), [feedB cells p' l' (t + 1), .val (.int m)]) ∧ 0 ≤ r ∧ r < m ∧ 0 ≤ p' := by
  rw [draw_eq]; exact drawF_spec cells p l t m hp hm hm2 ht ht2
/-! ### the law -/
theorem feed_spec (ns : List Int) (h : ns.length ≤ 63) : F__law_feed [.val (.list (ns.map PyData.int))] = some (.new (.lst [.list (ns.map PyData.int), .int 0, .int 0, .int 0]), [.val (.list (ns.map PyData.int))]) := by
  have e : ML.cutD (ns.map PyData.int) none (some 63) = ns.map PyData.int := by
    unfold ML.cutD
    rw [HT.sIx_none, show HT.sIx (ns.map PyData.int).length (ns.map PyData.int).length (some 63) = min 63 (ns.map PyData.int).length from HT.sIx_nat _ _ 63]
    have : min 63 (ns.map PyData.int).length = (ns.map PyData.int).length := by simp; omega
    rw [this]
    simp
    exact List.take_of_length_le (by simp)
  simp_arith [F__law_feed, e]
end Dm

/-! CgW: words: what _law_after does. -/
namespace Cg
open PySem PySem.Spec PyProof.Rows L2 ML Dm
/-! ### texts as lists of signs -/
def tx (l : List Nat) : Str := ⟨l.toArray⟩
theorem tx_len (l : List Nat) : (tx l).length = l.length := by show l.toArray.size = _; simp
theorem tx_list (l : List Nat) : (tx l).cps.toList = l := by simp [tx]
theorem tx_app (l m : List Nat) : tx l ++ tx m = tx (l ++ m) := by
  show (⟨l.toArray ++ m.toArray⟩ : Str) = ⟨(l ++ m).toArray⟩
  rw [List.append_toArray]
theorem tx_inj {l m : List Nat} (h : tx l = tx m) : l = m := by
  have := congrArg (fun s : Str => s.cps.toList) h
  simpa [tx] using this
theorem tx_of (x : Str) : x = tx x.cps.toList := by cases x; simp [tx]
theorem tx_one (c : Nat) : (⟨#[c]⟩ : Str) = tx [c] := rfl
theorem tx_a : (Str.ofString "a") = tx [97] := by decide +kernel
theorem tx_z : (Str.ofString "z") = tx [122] := by decide +kernel
def abc : List Nat := (List.range 26).map (· + 97)
theorem tx_abc : (Str.ofString "abcdefghijklmnopqrstuvwxyz") = tx abc := by decide +kernel
theorem abc_get {k : Nat} (h : k < 26) : abc[k]? = some (k + 97) := by
  unfold abc
  simp [h]
theorem cutS_tx (l : List Nat) (lo hi : Option Int) : cutS (tx l) lo hi = tx (ML.cutD l lo hi) := by
  unfold cutS ML.cutD tx
  simp [Str.length]
theorem eqv_str (x y : Str) : PyData.eqv (.str x) (.str y) = decide (x = y) := by
  simp only [PyData.eqv]
  by_cases h : x = y <;> simp [h]
/-- lower letters alone -/
def Lw (l : List Nat) : Prop := ∀ c ∈ l, 97 ≤ c ∧ c ≤ 122
def nxt (c : Nat) : Nat := 97 + (c - 97 + 1) % 26
theorem nxt_lw (c : Nat) : 97 ≤ nxt c ∧ nxt c ≤ 122 := by unfold nxt; omega
/-- the last place that is not z; 0 if there is none -/
def atZ (l : List Nat) : Nat → Nat
  | 0 => 0
  | k + 1 => if l[k + 1]? = some 122 then atZ l k else k + 1
theorem atZ_le (l : List Nat) : ∀ k, atZ l k ≤ k
  | 0 => Nat.le_refl _
  | k + 1 => by
    unfold atZ
    split
    · exact Nat.le_succ_of_le (atZ_le l k)
    · exact Nat.le_refl _
def aft (l : List Nat) : List Nat :=
  if l.length < 8 then l ++ [97] else l.take (atZ l 7) ++ [nxt (l.getD (atZ l 7) 0)] ++ List.replicate (7 - atZ l 7) 97
theorem index_abc : ∀ k < 26, Txt.index0 (tx abc) (tx [k + 97]) = some k := by decide +kernel
theorem index_lw {c : Nat} (h : 97 ≤ c ∧ c ≤ 122) : Txt.index0 (tx abc) (tx [c]) = some (c - 97) := by
  have := index_abc (c - 97) (by omega)
  rwa [show c - 97 + 97 = c by omega] at this
def afEnv (l : List Nat) (at' : Option Int) (sg : Option D) : En := [some (.val (.str (tx l))), some (.val (.str (tx abc))), at'.map fun i => .val (.int i), jk sg]
theorem atI_tx {l : List Nat} {k : Nat} {c : Nat} (h : l[k]? = some c) : atI l (k : Int) = some c := atI_get (by omega) (by simpa using h)
theorem repS_a (n : Nat) (h : n ≤ 7) : repS (tx [97]) (n : Int) = tx (List.replicate n 97) := by
  have : ∀ n ≤ 7, repS (tx [97]) ((n : Nat) : Int) = tx (List.replicate n 97) := by decide +kernel
  exact this n h
theorem after_while (l : List Nat) (hl : l.length = 8) : ∃ env', LW__law_after_3 (afEnv l (some 7) none) = some (.nx, env') ∧ env' = afEnv l (some (atZ l 7 : Nat)) none := by
  have h8 : l.length ≤ sizeLine := sl_le (by omega)
  refine Exists.elim (whileL_inv (t := TW__law_after_2) (f := BW__law_after_1) (Q := fun env => env = afEnv l (some (atZ l 7 : Nat)) none) (fun m env => env = afEnv l (some (m : Int)) none ∧ m ≤ 7 ∧ atZ l 7 = atZ l m) ?hh (n := 4096) (m := 7) (env := afEnv l (some 7) none) ?hp (by omega)) ?fin
  case fin => exact fun env' h => ⟨env', h.1, h.2⟩
  case hp => exact ⟨rfl, by omega, rfl⟩
  case hh =>
    rintro m env ⟨rfl, hm, hz⟩
    cases m with
    | zero =>
      refine .inl ⟨?_, by rw [hz]; rfl⟩
      unfold afEnv
      simp_arith [TW__law_after_2]
    | succ m =>
      have hlt : m + 1 < l.length := by omega
      have hg : l[m + 1]? = some l[m + 1] := List.getElem?_eq_getElem hlt
      have ha : atI l ((m + 1 : Nat) : Int) = some l[m + 1] := atI_tx hg
      have hpos : (0 : Int) < ((m + 1 : Nat) : Int) := by omega
      have hst : (tx l).length ≤ sizeLine := by rw [tx_len]; exact h8
      by_cases hc : l[m + 1] = 122
      · refine .inr ⟨?_, m, afEnv l (some (m : Int)) none, ?_, by omega, rfl, by omega, ?_⟩
        · have hb : (tx [l[m + 1]] == tx [122]) = true := by rw [hc]; simp
          unfold afEnv
          simp_all_arith [TW__law_after_2, decide_eq_true hpos, hst, tx_list, ha, tx_one, tx_z, hb]
        · have e1 : ((m + 1 : Nat) : Int) - 1 = (m : Int) := by omega
          unfold afEnv
          simp_all_arith [BW__law_after_1, e1]
        · rw [hz, atZ, hg, hc, if_pos rfl]
      · refine .inl ⟨?_, ?_⟩
        · have hb : (tx [l[m + 1]] == tx [122]) = false := by
            rw [beq_eq_false_iff_ne]
            intro z
            exact hc (by simpa using tx_inj z)
          unfold afEnv
          simp_all_arith [TW__law_after_2, decide_eq_true hpos, hst, tx_list, ha, tx_one, tx_z, hb]
        · rw [hz, atZ, hg, if_neg (fun z => hc (Option.some.inj z))]
theorem cut_nat {α : Type} (l : List α) (k : Nat) (h : k ≤ l.length) : ML.cutD l none (some (k : Int)) = l.take k := by
  unfold ML.cutD
  have h0 : HT.sIx l.length 0 none = 0 := rfl
  have h1 : HT.sIx l.length l.length (some (k : Int)) = k := by
    unfold HT.sIx
    have : ¬ (k : Int) < 0 := by omega
    simp [this]
    omega
  rw [h0, h1]
  simp
theorem after_spec (l : List Nat) (hl : l.length ≤ 8) (lw : Lw l) : F__law_after [.val (.str (tx l))] = some (.val (.str (tx (aft l))), [.val (.str (tx l))]) := by
  have h8 : l.length ≤ sizeLine := sl_le (by omega)
  have hst : (tx l).length ≤ sizeLine := by rw [tx_len]; exact h8
  by_cases h : l.length < 8
  · have hd : (((tx l).length : Nat) : Int) < 8 := by rw [tx_len]; omega
    have hap : (tx l).length + (tx [97]).length ≤ sizeLine := by rw [tx_len, tx_len]; exact sl_le (by simp; omega)
    have ea : aft l = l ++ [97] := by unfold aft; rw [if_pos h]
    simp_all_arith [F__law_after, tx_abc, hst, hd, tx_a, hap, tx_app, ea]
  · have h7 : l.length = 8 := by omega
    obtain ⟨env', q1, q2⟩ := after_while l h7
    subst q2
    have hz := atZ_le l 7
    generalize hk : atZ l 7 = k at q1 hz
    have hlt : k < l.length := by omega
    have hg : l[k]? = some l[k] := List.getElem?_eq_getElem hlt
    have ha : atI l (k : Int) = some l[k] := atI_tx hg
    have lc := lw l[k] (List.getElem_mem hlt)
    have hd : ¬ (((tx l).length : Nat) : Int) < 8 := by rw [tx_len]; omega
    unfold afEnv at q1
    have jn : jk none = none := rfl
    simp only [Option.map_some, jn] at q1
    have hix := index_lw lc
    have e1 : (((l[k] - 97 : Nat) : Int) + 1) % 26 = ((nxt l[k] - 97 : Nat) : Int) := by unfold nxt; omega
    have hn := nxt_lw l[k]
    have e2 : atI abc ((nxt l[k] - 97 : Nat) : Int) = some (nxt l[k]) := by
      have := abc_get (k := nxt l[k] - 97) (by omega)
      rw [show nxt l[k] - 97 + 97 = nxt l[k] by omega] at this
      exact atI_tx this
    have habc : (tx abc).length ≤ sizeLine := by rw [tx_len]; exact sl_le (by decide)
    have hc := cut_nat l k (by omega)
    have e3 : (7 : Int) - (k : Int) = ((7 - k : Nat) : Int) := by omega
    have hr : repOk (tx [97]) ((7 - k : Nat) : Int) = true := by
      unfold repOk
      rw [tx_len]
      exact decide_eq_true ⟨by simp, by omega, by omega⟩
    have e4 := repS_a (7 - k) (by omega)
    have hl1 : (tx (l.take k)).length + (tx [nxt l[k]]).length ≤ sizeLine := by rw [tx_len, tx_len]; exact sl_le (by simp; omega)
    have hl2 : (tx (l.take k ++ [nxt l[k]])).length + (tx (List.replicate (7 - k) 97)).length ≤ sizeLine := by rw [tx_len, tx_len]; exact sl_le (by simp; omega)
    have ea : aft l = l.take k ++ [nxt l[k]] ++ List.replicate (7 - k) 97 := by
      unfold aft
      rw [if_neg h, hk, List.getD_eq_getElem?_getD, hg]
      rfl
    simp_all_arith [F__law_after, tx_abc, hst, hd, tx_a, q1, tx_list, ha, tx_one, hix, e1, e2, habc, cutS_tx, hc, e3, hr, e4, hl1, hl2, tx_app, ea]
/-! ### one word after another: all apart -/
def v8 (l : List Nat) : Nat := l.foldl (fun a c => a * 26 + (c - 97)) 0
theorem aft_short {l : List Nat} (h : l.length < 8) : aft l = l ++ [97] := by unfold aft; rw [if_pos h]
theorem aft_lw {l : List Nat} (lw : Lw l) : Lw (aft l) := by
  unfold aft
  split
  · intro c hc
    rcases List.mem_append.mp hc with z | z
    · exact lw c z
    · simp at z; omega
  · intro c hc
    rcases List.mem_append.mp hc with z | z
    · rcases List.mem_append.mp z with z | z
      · exact lw c (List.mem_of_mem_take z)
      · simp at z; subst z; exact nxt_lw _
    · have := (List.mem_replicate.mp z).2; omega
theorem aft_len {l : List Nat} (h : l.length = 8) : (aft l).length = 8 := by
  have := atZ_le l 7
  unfold aft
  rw [if_neg (by omega)]
  simp
  omega
theorem aft_val {l : List Nat} (h : l.length = 8) (lw : Lw l) : v8 (aft l) = (v8 l + 1) % 26 ^ 8 := by
  have hn : ¬ l.length < 8 := by omega
  match l, h with
  | [a0, a1, a2, a3, a4, a5, a6, a7], _ =>
    have b0 := lw a0 (by simp)
    have b1 := lw a1 (by simp)
    have b2 := lw a2 (by simp)
    have b3 := lw a3 (by simp)
    have b4 := lw a4 (by simp)
    have b5 := lw a5 (by simp)
    have b6 := lw a6 (by simp)
    have b7 := lw a7 (by simp)
    unfold aft
    rw [if_neg hn]
    simp only [atZ, List.getElem?_cons_succ, List.getElem?_cons_zero, Option.some.injEq]
    clear hn lw
    by_cases c7 : a7 = 122
    · by_cases c6 : a6 = 122
      · by_cases c5 : a5 = 122
        · by_cases c4 : a4 = 122
          · by_cases c3 : a3 = 122
            · by_cases c2 : a2 = 122
              · by_cases c1 : a1 = 122
                · subst c7 c6 c5 c4 c3 c2 c1
                  simp [v8, nxt]; omega
                · subst c7 c6 c5 c4 c3 c2
                  simp [v8, nxt, c1]; omega
              · subst c7 c6 c5 c4 c3
                simp [v8, nxt, c2]; omega
            · subst c7 c6 c5 c4
              simp [v8, nxt, c3]; omega
          · subst c7 c6 c5
            simp [v8, nxt, c4]; omega
        · subst c7 c6
          simp [v8, nxt, c5]; omega
      · subst c7
        simp [v8, nxt, c6]; omega
    · simp [v8, nxt, c7]; omega
def its : Nat → List Nat → List Nat
  | 0, l => l
  | n + 1, l => aft (its n l)
theorem its_lw {l : List Nat} (lw : Lw l) : ∀ n, Lw (its n l)
  | 0 => lw
  | n + 1 => aft_lw (its_lw lw n)
theorem its_len {l : List Nat} (h : l.length ≤ 8) : ∀ n, (its n l).length = min 8 (l.length + n)
  | 0 => by show l.length = _; omega
  | n + 1 => by
    have ih := its_len h n
    show (aft (its n l)).length = _
    by_cases hs : (its n l).length < 8
    · rw [aft_short hs, List.length_append, List.length_singleton]; omega
    · rw [aft_len (by omega)]; omega
theorem its_val {l : List Nat} (h : l.length = 8) (lw : Lw l) : ∀ n, v8 (its n l) = (v8 l + n) % 26 ^ 8 ∨ n = 0
  | 0 => .inr rfl
  | n + 1 => by
    have hl : (its n l).length = 8 := by rw [its_len (by omega)]; omega
    have e := aft_val hl (its_lw lw n)
    refine .inl ?_
    show v8 (aft (its n l)) = _
    rw [e]
    rcases its_val h lw n with z | z
    · rw [z]; omega
    · subst z; rfl
theorem its_add {l : List Nat} (i : Nat) : ∀ d, its (i + d) l = its d (its i l)
  | 0 => rfl
  | d + 1 => by show aft (its (i + d) l) = aft (its d (its i l)); rw [its_add i d]
theorem v8_lt {l : List Nat} (h : l.length = 8) (lw : Lw l) : v8 l < 26 ^ 8 := by
  match l, h with
  | [a0, a1, a2, a3, a4, a5, a6, a7], _ =>
    have b0 := lw a0 (by simp)
    have b1 := lw a1 (by simp)
    have b2 := lw a2 (by simp)
    have b3 := lw a3 (by simp)
    have b4 := lw a4 (by simp)
    have b5 := lw a5 (by simp)
    have b6 := lw a6 (by simp)
    have b7 := lw a7 (by simp)
    simp [v8]; omega
theorem its_ne {l : List Nat} (h : l.length ≤ 8) (lw : Lw l) {i d : Nat} (hd : 0 < d) (hd2 : d < 1000) : its i l ≠ its (i + d) l := by
  intro e
  have e1 := congrArg List.length e
  rw [its_len h, its_len h] at e1
  have h8 : (its i l).length = 8 := by rw [its_len h]; omega
  rw [its_add] at e
  rcases its_val h8 (its_lw lw i) d with z | z
  · rw [← e] at z
    have := v8_lt h8 (its_lw lw i)
    omega
  · omega
end Cg

namespace Dm
open PySem PySem.Spec PyProof.Rows L2 ML
/-! ### _law_arrows -/
def isI : D → Bool
  | .int _ => true
  | _ => false
end Dm

namespace Dm
open PySem PySem.Spec PyProof.Rows L2 ML
/-! ### _law_comes: who is come to without o -/
theorem mem_E {gs : Gr} {b c : Int} {g : D × Gd} (h : gs[b.toNat]? = some g) : c ∈ E gs b ↔ c ∈ g.2.outs := by
  unfold E
  rw [h]
  exact usort_mem ..
end Dm

namespace Dm
open PySem PySem.Spec PyProof.Rows L2 ML
/-! ### _law_over -/
end Dm

namespace Dm
open PySem PySem.Spec PyProof.Rows L2 ML
/-! ### where each came from -/
theorem lkD_append {kvs more : List (Key × D)} {k : Key} {d : D} (h : lkD kvs k = some d) : lkD (kvs ++ more) k = some d := by
  induction kvs with
  | nil => cases h
  | cons p kvs ih =>
    obtain ⟨k1, d1⟩ := p
    by_cases hk : k1 = k
    · subst hk
      rw [List.cons_append, lkD_pos rfl]
      rw [lkD_pos rfl] at h
      exact h
    · rw [List.cons_append, lkD_neg hk]
      rw [lkD_neg hk] at h
      exact ih h
theorem lkD_last {kvs : List (Key × D)} {ks : List Int} {x : Int} {d : D} (h : KS kvs ks) (hx : x ∉ ks) : lkD (kvs ++ [(.inl x, d)]) (.inl x) = some d := by
  induction kvs generalizing ks with
  | nil => exact lkD_pos rfl
  | cons p kvs ih =>
    obtain ⟨k1, d1⟩ := p
    cases ks with
    | nil => cases h
    | cons k ks =>
      have h1 : k1 = .inl k := List.head_eq_of_cons_eq h
      have h2 : KS kvs ks := List.tail_eq_of_cons_eq h
      have hk : k1 ≠ .inl x := by
        rw [h1]
        intro z
        exact hx (by rw [Sum.inl.inj z]; exact List.mem_cons_self ..)
      rw [List.cons_append, lkD_neg hk]
      exact ih h2 fun z => hx (List.mem_cons_of_mem _ z)
theorem Came.nil_of {gs : Gr} {ov : Option Int} {kvs : List (Key × D)} {ks : List Int} (h : Came gs ov kvs ks) (z : ov = some 0) : ks = [] := by
  induction h with
  | nil => rfl
  | root h => exact absurd z h
  | snoc c hp he hx ho ih => rw [ih] at hp; cases hp
theorem Came.back {gs : Gr} {ov : Option Int} {kvs : List (Key × D)} {ks : List Int} (h : Came gs ov kvs ks) : ∀ (n : Nat) (x : Int), ks[n]? = some x → (x = 0 ∧ Wk gs [0] 0) ∨ ∃ p m, x ≠ 0 ∧ m < n ∧ ks[m]? = some p ∧ lkD kvs (.inl x) = some (.int p) ∧ x ∈ E gs p := by
  induction h with
  | nil => intro n x h; simp at h
  | root ho =>
    intro n x h
    cases n with
    | zero => simp at h; subst h; exact .inl ⟨rfl, .start⟩
    | succ n => simp at h
  | @snoc kvs ks p x c hp he hx ho ih =>
    intro n y hn
    by_cases hl : n < ks.length
    · rw [List.getElem?_append_left hl] at hn
      rcases ih n y hn with z | ⟨q, m, h0, hm, hq, hlk, hE⟩
      · exact .inl z
      · exact .inr ⟨q, m, h0, hm, by rw [List.getElem?_append_left (by omega)]; exact hq, lkD_append hlk, hE⟩
    · have hn1 : n < (ks ++ [x]).length := (List.getElem?_eq_some_iff.mp hn).1
      have hn2 : n = ks.length := by simp at hn1; omega
      subst hn2
      rw [List.getElem?_append_right (Nat.le_refl _)] at hn
      simp at hn
      subst hn
      obtain ⟨m, hm, e⟩ := List.getElem_of_mem hp
      refine .inr ⟨p, m, ?_, hm, by rw [List.getElem?_append_left hm, List.getElem?_eq_getElem hm, e], lkD_last c.ks hx, he⟩
      rintro rfl
      rcases c.z with z | z
      · have : ks = [] := c.nil_of z
        subst this
        cases hp
      · exact hx z
/-! ### around -/
theorem eqv_int (x y : Int) : PyData.eqv (.int x) (.int y) = decide (x = y) := by
  by_cases h : x = y
  · subst h; simp [PyData.eqv]
  · simp [PyData.eqv, h]
/-! ### fence -/
/-! ### a way, step by step -/
/-- each block is among those that can be; the first among cb -/
def Chn (gs : Gr) : List Int → List Int → Prop
  | _, [] => True
  | cb, b :: w => b ∈ cb ∧ Chn gs (E gs b) w
theorem Chn.snoc {gs : Gr} {b c : Int} (hc : c ∈ E gs b) : ∀ {w cb : List Int}, Chn gs cb (w ++ [b]) → Chn gs cb (w ++ [b] ++ [c])
  | [], cb, h => ⟨h.1, hc, trivial⟩
  | a :: w, cb, h => ⟨h.1, Chn.snoc hc h.2⟩
/-! ### _law_over -/
end Dm

/-! CgX: _law_word gives a word that is not there yet. -/
namespace Cg
open PySem PySem.Spec PyProof.Rows L2 ML Dm
/-! ### the tape -/
structure Tp where
  cells : List Int
  p : Int
  l : Int
  t : Int
def fb (s : Tp) : B := feedB s.cells s.p s.l s.t
def Tok (n : Int) (s : Tp) : Prop := 0 ≤ s.p ∧ 0 ≤ s.t ∧ s.t ≤ n
theorem Tok.up {n m : Int} {s : Tp} (h : Tok n s) (e : n ≤ m) : Tok m s := ⟨h.1, h.2.1, Int.le_trans h.2.2 e⟩
theorem evO_fb {i : Nat} {env : En} {s : Tp} : evO i env (some (fb s)) = some (.bor i, env) := rfl
theorem argO_fb {s : Tp} : argO (some (fb s)) = some (fb s) := rfl
theorem isMu_fb {s : Tp} : isMu (some (fb s)) = true := rfl
theorem isLk_fb {s : Tp} : isLk (some (fb s)) = false := rfl
theorem draw {n : Int} {s : Tp} (h : Tok n s) (m : Int) (hn : n < 900000 := by omega) (hm : 0 < m := by omega) (hm2 : m < 1000 := by omega) :
    ∃ r s', F__law_draw [fb s, .val (.int m)] = some (.val (.int r), [fb s', .val (.int m)]) ∧ 0 ≤ r ∧ r < m ∧ Tok (n + 1) s' := by
  obtain ⟨h1, h2, h3⟩ := h
  obtain ⟨r, p', l', e, r0, r1, hp⟩ := draw_spec s.cells s.p s.l s.t m h1 hm hm2 h2 (by omega)
  exact ⟨r, ⟨s.cells, p', l', s.t + 1⟩, e, r0, r1, hp, by show (0 : Int) ≤ s.t + 1; omega, by show s.t + 1 ≤ n + 1; omega⟩
theorem sh_int (i : Int) : SeqAt.shaped (.int i) = true := by simp [SeqAt.shaped, PyData.canLay0, PyData.depth]
/-! ### words -/
def Wd (w : List Nat) : Prop := 1 ≤ w.length ∧ w.length ≤ 8 ∧ Lw w
def wS (w : List Nat) : D := .str (tx w)
theorem strOk_lw {l : List Nat} (h : Lw l) : PyData.strOk (tx l) = true := by
  unfold PyData.strOk tx
  rw [Array.all_eq_true']
  intro x hx
  have hx : x ∈ l := by simpa using hx
  have := h x hx
  exact decide_eq_true (by omega)
theorem can_words : ∀ {ws : List (List Nat)}, (∀ w ∈ ws, Lw w) → PyData.canLayAll0 (ws.map wS) = true
  | [], _ => by simp [PyData.canLayAll0]
  | w :: ws, h => by
    have ih := can_words (ws := ws) fun x hx => h x (List.mem_cons_of_mem _ hx)
    simp only [List.map_cons, PyData.canLayAll0, ih, Bool.and_true, wS, PyData.canLay0]
    exact strOk_lw (h w (List.mem_cons_self ..))
theorem dep_words : ∀ {ws : List (List Nat)}, PyData.depthAll (ws.map wS) = 0
  | [] => by simp [PyData.depthAll]
  | w :: ws => by simp [PyData.depthAll, wS, PyData.depth, dep_words (ws := ws)]
theorem sh_word {w : List Nat} (h : Lw w) : SeqAt.shaped (.str (tx w)) = true := by
  simp [SeqAt.shaped, PyData.canLay0, PyData.depth, strOk_lw h]
theorem sh_words {ws : List (List Nat)} (h : ∀ w ∈ ws, Lw w) : SeqAt.shaped (.list (ws.map wS)) = true := by
  simp [SeqAt.shaped, PyData.canLay0, PyData.depth, can_words h, dep_words]
theorem any_words (ws : List (List Nat)) (w : List Nat) : ((ws.map wS).any fun z => PyData.eqv z (.str (tx w))) = decide (w ∈ ws) := by
  induction ws with
  | nil => simp
  | cons v ws ih =>
    simp only [List.map_cons, List.any_cons, ih, wS, eqv_str]
    by_cases h : v = w
    · subst h; simp
    · have : tx v ≠ tx w := fun z => h (tx_inj z)
      simp [this, Ne.symm h]
theorem eqv_words_nil (ws : List (List Nat)) : PyData.eqv (.list (ws.map wS)) (.list []) = ws.isEmpty := by
  cases ws <;> simp [PyData.eqv, PyData.eqvAll]
def wE (s : Tp) (found : List (List Nat)) (way : Option D) (w : List Nat) (k own : Option D) : En :=
  [some (fb s), some (.mu (.lst (found.map wS))), some (.val (.str (tx abc))), jk way, some (.val (.str (tx w))), jk k, jk own]
theorem abc_at {r : Int} (h0 : 0 ≤ r) (h1 : r < 26) : ∃ c, atI abc r = some c ∧ 97 ≤ c ∧ c ≤ 122 := by
  have := abc_get (k := r.toNat) (by omega)
  exact ⟨_, atI_get h0 this, by omega, by omega⟩
theorem abc_sl : (tx abc).length ≤ sizeLine := by rw [tx_len]; exact sl_le (by decide)
theorem tx_sl {l : List Nat} (h : l.length ≤ 1000) : (tx l).length ≤ sizeLine := by rw [tx_len]; exact sl_le (by omega)
theorem tx_sl2 {l m : List Nat} (h : l.length + m.length ≤ 1000) : (tx l).length + (tx m).length ≤ sizeLine := by rw [tx_len, tx_len]; exact sl_le (by omega)
theorem Lw.snoc {l : List Nat} {c : Nat} (h : Lw l) (hc : 97 ≤ c ∧ c ≤ 122) : Lw (l ++ [c]) := fun x hx => by
  rcases List.mem_append.mp hx with z | z
  · exact h x z
  · simp at z; subst z; exact hc
/-- the letters put on -/
theorem word_grow {n : Int} {s : Tp} (h : Tok n s) (hn : n < 800000) (found : List (List Nat)) (way own : Option D) (c : Nat) (hc : 97 ≤ c ∧ c ≤ 122) (k : Option D) :
    ∃ s' w k', LF__law_word_2 (wE s found way [c] k own) = some (.nx, wE s' found way w k' own) ∧ Wd w ∧ Tok (n + 9) s' := by
  obtain ⟨m, s1, d1, m0, m1, h1⟩ := draw h 8
  have hi := rgI_of (n := m) (by omega) (by omega)
  refine Exists.elim (sFor_list (np := 2) (fi := iRng1 (eCall 2 F__law_draw [] (aCons (eV 0) (aCons (eK (.int 8)) aNil)))) (t := .nm 5) (body := BF__law_word_1) (env := wE s found way [c] k own) (env1 := wE s1 found way [c] k own) (src := none)
    ((List.range m.toNat).map fun i : Nat => (i : Int)) PyData.int (fun left env => ∃ s' w k', env = wE s' found way w k' own ∧ 1 ≤ w.length ∧ w.length + left.length ≤ 8 ∧ Lw w ∧ Tok (n + 9 - left.length) s') ?fhi ?fp ?fh) ?ffin
  case fhi =>
    have er : rangeD 0 m = ((List.range m.toNat).map fun i : Nat => (i : Int)).map PyData.int := by simp [rangeD]
    unfold wE
    simp_arith [evO_fb, argO_fb, isMu_fb, isLk_fb, d1, hi, er]
  case fp => exact ⟨s1, [c], k, rfl, by simp, by simp; omega, fun x hx => by simp at hx; subst hx; exact hc, h1.up (by simp; omega)⟩
  case fh =>
    rintro x left env ⟨s2, w, k', rfl, w1, w2, lw, h2⟩
    simp only [List.length_cons] at w2 h2
    obtain ⟨r, s3, d3, r0, r1, h3⟩ := draw h2 26
    obtain ⟨c', hc', lc⟩ := abc_at r0 r1
    have hs : (tx w).length + (tx [c']).length ≤ sizeLine := tx_sl2 (by simp; omega)
    refine ⟨wE s2 found way w (some (.int x)) own, wE s3 found way (w ++ [c']) (some (.int x)) own, ?_, ?_, s3, w ++ [c'], _, rfl, by simp, by simp; omega, lw.snoc lc, h3.up (by omega)⟩
    · unfold wE
      simp_arith [jk_some]
    · unfold wE
      simp_all_arith [BF__law_word_1, evO_fb, argO_fb, isMu_fb, isLk_fb, d3, abc_sl, tx_list, hc', tx_one, hs, tx_app, jk_some]
  case ffin =>
    rintro env' ⟨q1, s', w, k', rfl, w1, w2, lw, h2⟩
    simp at w2 h2
    exact ⟨s', w, k', q1, ⟨w1, w2, lw⟩, h2⟩
/-- the first that is not there -/
theorem word_find {s : Tp} {found : List (List Nat)} (hf : ∀ w ∈ found, Lw w) (way own : Option D) {w : List Nat} (hw : w.length ≤ 8) (h1 : 1 ≤ w.length) (lw : Lw w) (left : List Int) (k : Option D) (i : Nat) (hi : ∃ j, j < left.length ∧ its j w ∉ found) :
    ∃ w' k', loopL (fun d e => (setT 2 (.nm 5) d e).bind BF__law_word_3) (left.map PyData.int) (wE s found way w k own) = some (.nx, wE s found way w' k' own) ∧ Wd w' ∧ w' ∉ found := by
  induction left generalizing w k with
  | nil => obtain ⟨j, h, _⟩ := hi; simp at h
  | cons x left ih =>
    have sh := sh_word lw
    have shs := sh_words hf
    have hset : setT 2 (.nm 5) (.int x) (wE s found way w k own) = some (wE s found way w (some (.int x)) own) := by
      unfold wE
      simp_arith [jk_some]
    by_cases hin : w ∈ found
    · have hb : BF__law_word_3 (wE s found way w (some (.int x)) own) = some (.nx, wE s found way (aft w) (some (.int x)) own) := by
        have e2 : decide (w ∈ found) = true := decide_eq_true hin
        have aw := after_spec w hw lw
        unfold wE
        simp_all_arith [BF__law_word_3, sh, shs, any_words, e2, v_bneg_t, Bool.not_true, aw, sBk]
      obtain ⟨w', k', q1, q2, q3⟩ := ih (w := aft w) (by have := its_len hw 1; simp [its] at this; omega) (by have := its_len hw 1; simp [its] at this; omega) (aft_lw lw) (some (.int x)) (by
        obtain ⟨j, hj, hn⟩ := hi
        cases j with
        | zero => exact absurd hin hn
        | succ j =>
          refine ⟨j, by simpa using hj, ?_⟩
          have e := its_add (l := w) 1 j
          rw [Nat.add_comm] at e
          rwa [e] at hn)
      refine ⟨w', k', ?_, q2, q3⟩
      rw [List.map_cons, loopL]
      simp only [hset, Option.bind_some, hb]
      exact q1
    · have hb : BF__law_word_3 (wE s found way w (some (.int x)) own) = some (.bk, wE s found way w (some (.int x)) own) := by
        have e2 : decide (w ∈ found) = false := decide_eq_false hin
        unfold wE
        simp_all_arith [BF__law_word_3, sh, shs, any_words, e2, v_bneg_t, Bool.not_false, sBk]
      refine ⟨w, some (.int x), ?_, ⟨h1, hw, lw⟩, hin⟩
      rw [List.map_cons, loopL]
      simp only [hset, Option.bind_some, hb]
/-- some word in a row is not there -/
theorem its_free {w : List Nat} (hw : w.length ≤ 8) (lw : Lw w) (found : List (List Nat)) (hl : found.length ≤ 50) : ∃ j, j < 60 ∧ its j w ∉ found := by
  apply Classical.byContradiction
  intro hno
  have hall : ∀ j, j < 60 → its j w ∈ found := fun j hj => Classical.byContradiction fun z => hno ⟨j, hj, z⟩
  have nd : ((List.range 60).map fun j => its j w).Nodup := by
    refine List.pairwise_map.mpr (List.Pairwise.imp_of_mem (fun {a b} ha hb h z => ?_) (List.pairwise_lt_range (n := 60)))
    have hb := List.mem_range.mp hb
    have := its_ne hw lw (i := a) (d := b - a) (by omega) (by omega)
    rw [show a + (b - a) = b by omega] at this
    exact this z
  have := List.Nodup.length_le_of_subset nd (l₂ := found) fun x hx => by
    obtain ⟨j, hj, rfl⟩ := List.mem_map.mp hx
    exact hall j (List.mem_range.mp hj)
  simp at this
  omega
theorem atI_map {l : List (List Nat)} {r : Int} (h0 : 0 ≤ r) (h1 : r < (l.length : Nat)) : ∃ w, w ∈ l ∧ atI (l.map wS) r = some (.str (tx w)) := by
  have hj : r.toNat < l.length := by omega
  exact ⟨l[r.toNat], List.getElem_mem hj, atI_get h0 (by simp [hj, wS])⟩
theorem word_spec {n : Int} {s : Tp} (h : Tok n s) (hn : n < 700000) (found : List (List Nat)) (hf : ∀ w ∈ found, Wd w) (hl : found.length ≤ 50) :
    ∃ w s', F__law_word [fb s, .mu (.lst (found.map wS))] = some (.val (.str (tx w)), [fb s', .mu (.lst (found.map wS))]) ∧ Wd w ∧ w ∉ found ∧ Tok (n + 20) s' := by
  obtain ⟨way, s1, d1, y0, y1, h1⟩ := draw h 5
  obtain ⟨r, s2, d2, r0, r1, h2⟩ := draw h1 26
  obtain ⟨c, hc, lc⟩ := abc_at r0 r1
  have hlf : ∀ w ∈ found, Lw w := fun w hw => (hf w hw).2.2
  have shs := sh_words hlf
  have sh0 : SeqAt.shaped (.list []) = true := by decide +kernel
  -- the word ahead of the search
  have mid : ∃ s3 w k own, (sIf (fOr (rB (e2 gGt (eV 3) (eK (.int 1)))) (rB (e2 (gEqA false) (eV 1) (eLst aNil)))) LF__law_word_2 (sSeq (sSet 2 6 (e2 gIx (eV 1) (eCall 2 F__law_draw [] (aCons (eV 0) (aCons (eN gLen (aCons (eV 1) aNil)) aNil)))))
    (sSet 2 4 (eIf (rB (e2 (gEqA false) (eV 3) (eK (.int 0)))) (eSl (eV 6) oNone (oSome (e2 gAdd (eK (.int 1)) (eCall 2 F__law_draw [] (aCons (eV 0) (aCons (eN gLen (aCons (eV 6) aNil)) aNil)))))) (e2 gAdd (eSl (eV 6) oNone (oSome (eK (.int 7)))) (e2 gIx (eV 2) (eCall 2 F__law_draw [] (aCons (eV 0) (aCons (eK (.int 26)) aNil))))))))) (wE s2 found (some (.int way)) [c] none none) = some (.nx, wE s3 found (some (.int way)) w k own) ∧ Wd w ∧ Tok (n + 15) s3 := by
    by_cases hy : 1 < way ∨ found = []
    · obtain ⟨s3, w, k, q1, q2, q3⟩ := word_grow h2 (by omega) found (some (.int way)) none c lc none
      refine ⟨s3, w, k, none, ?_, q2, q3.up (by omega)⟩
      rw [← q1]
      by_cases hy1 : 1 < way
      · unfold wE
        simp_all_arith [decide_eq_true hy1, jk_some]
      · have : found = [] := hy.resolve_left hy1
        subst this
        unfold wE
        simp_all_arith [decide_eq_false hy1, jk_some, sh0, eqv_nil_nil, List.map_nil]
    · have hy1 : ¬ 1 < way := fun z => hy (.inl z)
      have hne : found ≠ [] := fun z => hy (.inr z)
      have hpos : 0 < found.length := List.length_pos_iff.mpr hne
      have hie : found.isEmpty = false := by cases found with | nil => exact absurd rfl hne | cons _ _ => rfl
      obtain ⟨m, s3, d3, m0, m1, h3⟩ := draw h2 (found.length : Nat)
      obtain ⟨o, ho, ha⟩ := atI_map m0 m1
      obtain ⟨o1, o2, ol⟩ := hf o ho
      by_cases hz : way = 0
      · obtain ⟨q, s4, d4, q0, q1, h4⟩ := draw h3 (o.length : Nat)
        have hcut : ML.cutD o none (some (1 + q)) = o.take (q.toNat + 1) := by
          have := cut_nat o (q.toNat + 1) (by omega)
          rwa [show ((q.toNat + 1 : Nat) : Int) = 1 + q by omega] at this
        refine ⟨s4, o.take (q.toNat + 1), none, some (.str (tx o)), ?_, ⟨by simp; omega, by simp; omega, fun x hx => ol x (List.mem_of_mem_take hx)⟩, h4.up (by omega)⟩
        subst hz
        unfold wE
        simp_all_arith [jk_some, decide_eq_false hy1, eqv_int, sh_int, decide_eq_true (rfl : (0 : Int) = 0), sh0, shs, eqv_words_nil, hie, evO_fb, argO_fb, isMu_fb, isLk_fb, List.length_map, d3, ha, tx_len, sl_le (show o.length ≤ 1000000 by omega), d4, cutS_tx, hcut]
      · obtain ⟨q, s4, d4, q0, q1, h4⟩ := draw h3 26
        obtain ⟨c2, hc2, lc2⟩ := abc_at q0 q1
        have hcut : ML.cutD o none (some 7) = o.take 7 := by
          unfold ML.cutD
          have h0 : HT.sIx o.length 0 none = 0 := rfl
          have h1 : HT.sIx o.length o.length (some 7) = min 7 o.length := by
            unfold HT.sIx
            simp
          rw [h0, h1, List.drop_zero, Nat.sub_zero]
          rcases Nat.le_total 7 o.length with z | z
          · rw [Nat.min_eq_left z]
          · rw [Nat.min_eq_right z, List.take_of_length_le (Nat.le_refl _), List.take_of_length_le z]
        have hs2 : (tx (o.take 7)).length + (tx [c2]).length ≤ sizeLine := tx_sl2 (by simp; omega)
        refine ⟨s4, o.take 7 ++ [c2], none, some (.str (tx o)), ?_, ⟨by simp, by simp; omega, Lw.snoc (fun x hx => ol x (List.mem_of_mem_take hx)) lc2⟩, h4.up (by omega)⟩
        unfold wE
        simp_all_arith [jk_some, decide_eq_false hy1, eqv_int, sh_int, decide_eq_false hz, sh0, shs, eqv_words_nil, hie, evO_fb, argO_fb, isMu_fb, isLk_fb, List.length_map, d3, ha, d4, cutS_tx, hcut, tx_sl (show o.length ≤ 1000 by omega), abc_sl, tx_list, hc2, tx_one, hs2, tx_app]
  obtain ⟨s3, w, k, own, q1, q2, q3⟩ := mid
  obtain ⟨w', k', g1, g2, g3⟩ := word_find (s := s3) hlf (some (.int way)) own q2.2.1 q2.1 q2.2.2 ((List.range 60).map fun i : Nat => (i : Int)) k 0 (by simpa using its_free q2.2.1 q2.2.2 found hl)
  refine ⟨w', s3, ?_, g2, g3, q3.up (by omega)⟩
  have g : LF__law_word_4 (wE s3 found (some (.int way)) w k own) = some (.nx, wE s3 found (some (.int way)) w' k' own) := by
    have er : rangeD 0 60 = ((List.range 60).map fun i : Nat => (i : Int)).map PyData.int := by simp [rangeD]
    have hr : rgI 60 = true := rgI_of (by omega) (by omega)
    unfold LF__law_word_4 sFor
    have : iRng1 (eK (.int 60)) (wE s3 found (some (.int way)) w k own) = some ((((List.range 60).map fun i : Nat => (i : Int)).map PyData.int, none), wE s3 found (some (.int way)) w k own) := by
      simp_arith [hr, er]
    rw [this]
    simp only [Option.bind_some, g1, Option.map_some]
    rfl
  have jn : jk none = none := rfl
  unfold wE at q1 g
  simp only [jk_some, jn] at q1 g
  simp_all_arith [F__law_word, tx_abc, evO_fb, argO_fb, isMu_fb, isLk_fb, d1, d2, abc_sl, tx_list, hc, tx_one, ↓q1, g]
end Cg

namespace Dm
open PySem PySem.Spec PyProof.Rows L2 ML
/-! ### what may be shown -/
/-- data that is short in every way -/
structure Sm (d : D) (dep wt : Nat) : Prop where
  can : PyData.canLay0 d = true
  dep : PyData.depth d ≤ dep
  wt : PyData.weight d ≤ wt
  int : PyData.intsShort 13 d = true
  sho : PyData.showable d = true
structure SmA (ds : List D) (dep wt : Nat) : Prop where
  can : PyData.canLayAll0 ds = true
  dep : PyData.depthAll ds ≤ dep
  wt : PyData.weightAll ds ≤ wt
  int : PyData.intsShortAll 13 ds = true
  sho : PyData.showableAll ds = true
theorem Sm.ok {d : D} {dep wt : Nat} (h : Sm d dep wt) (h1 : dep ≤ 64) (h2 : wt ≤ 1000000) : reprOk d = true := by
  have e1 : decide (PyData.depth d ≤ 64) = true := decide_eq_true (Nat.le_trans h.dep h1)
  have e2 : decide (PyData.weight d ≤ 2 ^ 20) = true := decide_eq_true (Nat.le_trans h.wt (Nat.le_trans h2 (by decide)))
  unfold reprOk PyData.layable0
  rw [h.can, h.int, h.sho, e1, e2]
  rfl
theorem SmA.nil : SmA [] 0 0 := ⟨by simp [PyData.canLayAll0], by simp [PyData.depthAll], by simp [PyData.weightAll], by simp [PyData.intsShortAll], by simp [PyData.showableAll]⟩
theorem SmA.cons {d : D} {ds : List D} {a b n m : Nat} (h : Sm d a n) (t : SmA ds b m) : SmA (d :: ds) (max a b) (n + 1 + m) := by
  refine ⟨by simp [PyData.canLayAll0, h.can, t.can], ?_, ?_, by simp [PyData.intsShortAll, h.int, t.int], by simp [PyData.showableAll, h.sho, t.sho]⟩
  · have := h.dep; have := t.dep
    simp only [PyData.depthAll]; omega
  · have := h.wt; have := t.wt
    simp only [PyData.weightAll]; omega
theorem SmA.tup {ds : List D} {a n : Nat} (t : SmA ds a n) : Sm (.tuple ds) (a + 1) n := by
  refine ⟨by simp only [PyData.canLay0]; exact t.can, ?_, ?_, by simp only [PyData.intsShort]; exact t.int, by simp only [PyData.showable]; exact t.sho⟩
  · have := t.dep; simp only [PyData.depth]; omega
  · have := t.wt; simp only [PyData.weight]; exact this
theorem Sm.mono {d : D} {a b n m : Nat} (h : Sm d a n) (h1 : a ≤ b) (h2 : n ≤ m) : Sm d b m := ⟨h.can, Nat.le_trans h.dep h1, Nat.le_trans h.wt h2, h.int, h.sho⟩
theorem SmA.mono {d : List D} {a b n m : Nat} (h : SmA d a n) (h1 : a ≤ b) (h2 : n ≤ m) : SmA d b m := ⟨h.can, Nat.le_trans h.dep h1, Nat.le_trans h.wt h2, h.int, h.sho⟩
theorem OkG.outs {gs : Gr} (ok : OkG gs) : ∀ g ∈ gs, ∀ c ∈ g.2.outs, 0 ≤ c ∧ c < 6 := by
  intro g hg c hc
  obtain ⟨i, hi, e⟩ := List.getElem_of_mem hg
  have e2 : gs[((i : Nat) : Int).toNat]? = some g := by
    rw [Int.toNat_natCast, List.getElem?_eq_getElem hi, e]
  have := ok.go i c ((mem_E e2).mpr hc)
  have := ok.six
  omega
end Dm

/-! CgO: _law_objects, _law_operand. -/
namespace ML
open PySem PySem.Spec PyProof.Rows L2
theorem eLc_list {np : Nat} {own : List Nat} {fi : FI} {t : Tg} {tst : FT} {elt : FE} {env env1 : En} {src : Option Nat} {α : Type} (xs : List α) (k : α → D) (P : List α → List D → En → Prop) (hi : fi env = some ((xs.map k, src), env1)) (ok : lcOk own t env1 = true)
    (p : P xs [] (wipeE env1 own)) (h : ∀ x l acc env, P (x :: l) acc env → ∃ o env', lcS np own t tst elt env (k x) = some (o, env') ∧ P l (acc ++ o.toList) env') (hl : xs.length ≤ 1000000) :
    ∃ out env', eLc np own fi t tst elt env = some (.new (.lst out), unlock src (restE env1 env' own)) ∧ P [] out env' := by
  obtain ⟨out, env', q1, l, e, q2⟩ := eLc_inv (fun ds acc env => ∃ l : List α, ds = l.map k ∧ P l acc env) hi ok ⟨xs, rfl, p⟩ (fun d ds acc env ⟨l, e, q⟩ => by
    cases l with
    | nil => simp at e
    | cons x l =>
      rw [List.map_cons] at e
      obtain ⟨rfl, rfl⟩ := List.cons.inj e
      obtain ⟨o, e2, q1, q2⟩ := h x l acc env q
      exact ⟨o, e2, q1, l, rfl, q2⟩) (by rw [List.length_map]; exact hl)
  have : l = [] := by cases l with | nil => rfl | cons _ _ => simp at e
  subst this
  exact ⟨out, env', q1, q2⟩
end ML
namespace Cg
open PySem PySem.Spec PyProof.Rows L2 ML Dm
/-- 0 .. n - 1 -/
def upto (n : Int) : List Int := (List.range n.toNat).map fun i : Nat => (i : Int)
theorem rangeD_upto (n : Int) : rangeD 0 n = (upto n).map PyData.int := by simp [rangeD, upto]
theorem upto_len {n : Int} (h : 0 ≤ n) : ((upto n).length : Int) = n := by simp [upto]; omega
theorem nd01 : ([0, 1] : List Nat).Nodup := by decide
/-! ### words sorted -/
def leW (a b : List Nat) : Bool := PySem.W.dataLe false id (wS a) (wS b)
def sortW (ws : List (List Nat)) : List (List Nat) := ws.mergeSort leW
theorem sortD_words (ws : List (List Nat)) : sortD (ws.map wS) = (sortW ws).map wS := by
  unfold sortD sortW
  exact (PySem.W.sort_maps (r := leW) (s := PySem.W.dataLe false id) wS (fun _ _ _ _ => rfl)).symm
theorem sortW_perm (ws : List (List Nat)) : (sortW ws).Perm ws := List.mergeSort_perm ..
theorem sortOk_words {ws : List (List Nat)} (h : ws.length ≤ 1000) : sortOk (ws.map wS) = true := by
  unfold sortOk
  rw [Bool.and_eq_true, Bool.and_eq_true, Bool.and_eq_true, Bool.or_eq_true, List.all_eq_true, List.all_eq_true, List.all_eq_true, List.all_eq_true]
  refine ⟨⟨⟨fun d hd => List.all_eq_true.mpr fun e he => ?_, .inr fun d hd => ?_⟩, fun d hd => ?_⟩, decide_eq_true (by rw [List.length_map]; exact sl_le (by omega))⟩
  · obtain ⟨a, _, rfl⟩ := List.mem_map.mp hd
    obtain ⟨b, _, rfl⟩ := List.mem_map.mp he
    rfl
  · obtain ⟨a, _, rfl⟩ := List.mem_map.mp hd
    rfl
  · obtain ⟨a, _, rfl⟩ := List.mem_map.mp hd
    exact decide_eq_true (by simp [wS, PyData.depth])
theorem sortL_words {env : En} {ws : List (List Nat)} (h : ws.length ≤ 1000) (hn : ws ≠ []) : sortL env (ws.map wS) = some (.new (.lst ((sortW ws).map wS)), env) := by
  have e : intsOf (ws.map wS) = none := by
    cases ws with
    | nil => exact absurd rfl hn
    | cons w ws => rfl
  unfold sortL
  rw [e]
  simp only [sortOk_words h, ↓reduceIte, sortD_words]
/-! ### objects -/
def obD (o : List Nat × Int) : D := .tuple [wS o.1, .int o.2]
def objsD (os : List (List Nat × Int)) : D := .tuple (os.map obD)
structure ObjsOk (os : List (List Nat × Int)) : Prop where
  pos : 0 < os.length
  four : os.length ≤ 4
  wd : ∀ o ∈ os, Wd o.1
  size : ∀ o ∈ os, 1 ≤ o.2 ∧ o.2 ≤ 4
  names : ∃ ws : List (List Nat), ws.Nodup ∧ os.map (·.1) = sortW ws
theorem ObjsOk.nodup {os : List (List Nat × Int)} (h : ObjsOk os) : (os.map (·.1)).Nodup := by
  obtain ⟨ws, h1, h2⟩ := h.names
  rw [h2]
  exact (sortW_perm ws).nodup_iff.mpr h1
def oE (s : Tp) (found : List (List Nat)) (k : Option D) : En := [some (fb s), some (.mu (.lst (found.map wS))), jk k, none]
theorem jk_none : jk none = none := rfl
theorem Wd.app {found : List (List Nat)} {w : List Nat} (h : ∀ v ∈ found, Wd v) (hw : Wd w) : ∀ v ∈ found ++ [w], Wd v := fun v hv => by
  rcases List.mem_append.mp hv with z | z
  · exact h v z
  · simp at z; subst z; exact hw
theorem nodup_snoc {α : Type} {l : List α} {x : α} (h : l.Nodup) (hx : x ∉ l) : (l ++ [x]).Nodup := by
  rw [List.nodup_append]
  exact ⟨h, by simp, fun a ha b hb => by simp at hb; subst hb; exact fun z => hx (z ▸ ha)⟩
theorem objects_spec {n : Int} {s : Tp} (h : Tok n s) (hn : n < 600000) : ∃ os s', F__law_objects [fb s] = some (.val (objsD os), [fb s']) ∧ ObjsOk os ∧ Tok (n + 100) s' := by
  obtain ⟨m, s1, d1, m0, m1, h1⟩ := draw h 4
  have hi := rgI_of (n := 1 + m) (by omega) (by omega)
  have lf : ∃ s2 found k, LF__law_objects_2 (oE s [] none) = some (.nx, oE s2 found k) ∧ (found.length : Int) = 1 + m ∧ (∀ w ∈ found, Wd w) ∧ found.Nodup ∧ Tok (n + 90) s2 := by
    refine Exists.elim (sFor_list (np := 1) (fi := iRng1 (e2 gAdd (eK (.int 1)) (eCall 2 F__law_draw [] (aCons (eV 0) (aCons (eK (.int 4)) aNil))))) (t := .nm 2) (body := BF__law_objects_1) (env := oE s [] none) (env1 := oE s1 [] none) (src := none)
      (upto (1 + m)) PyData.int (fun left env => ∃ s' found k, env = oE s' found k ∧ (found.length : Int) + left.length = 1 + m ∧ (∀ w ∈ found, Wd w) ∧ found.Nodup ∧ Tok (n + 1 + 20 * found.length) s') ?fhi ?fp ?fh) ?ffin
    case fhi =>
      unfold oE
      simp_arith [evO_fb, argO_fb, isMu_fb, isLk_fb, d1, hi, rangeD_upto]
    case fp => exact ⟨s1, [], none, rfl, by simp [upto_len (show 0 ≤ 1 + m by omega)], fun w hw => by simp at hw, by simp, h1.up (by simp)⟩
    case fh =>
      rintro x left env ⟨s2, found, k, rfl, e1, wd, nd, h2⟩
      simp only [List.length_cons] at e1
      obtain ⟨w, s3, d3, w1, w2, h3⟩ := word_spec h2 (by omega) found wd (by omega)
      have hl : found.length < sizeLine := sl_lt (by omega)
      refine ⟨oE s2 found (some (.int x)), oE s3 (found ++ [w]) (some (.int x)), ?_, ?_, s3, found ++ [w], _, rfl, by simp; omega, Wd.app wd w1, nodup_snoc nd w2, h3.up (by simp; omega)⟩
      · unfold oE
        simp_arith [jk_some]
      · unfold oE
        simp_arith [BF__law_objects_1, evO_fb, argO_fb, isMu_fb, isLk_fb, d3, jk_some, hl, nd01, List.length_map, List.map_append, wS]
    case ffin =>
      rintro env' ⟨q1, s', found, k, rfl, e1, wd, nd, h2⟩
      simp at e1
      exact ⟨s', found, k, q1, e1, wd, nd, h2.up (by omega)⟩
  obtain ⟨s2, found, k, q1, e1, wd, nd, h2⟩ := lf
  have hne : found ≠ [] := by rintro rfl; simp at e1; omega
  have hsl := (sortW_perm found).length_eq
  have lc : ∃ (s3 : Tp) (os : List (List Nat × Int)), LC__law_objects_3 (oE s2 found k) = some (.new (.lst (os.map obD)), oE s3 found k) ∧ os.map (·.1) = sortW found ∧ (∀ o ∈ os, 1 ≤ o.2 ∧ o.2 ≤ 4) ∧ Tok (n + 100) s3 := by
    unfold LC__law_objects_3
    obtain ⟨out, env', q1, s3, os, rfl, rfl, e3, e4, h3⟩ := eLc_list (np := 1) (own := [3]) (fi := iSeq (eN gSortedA (aCons (eV 1) aNil))) (t := .nm 3) (tst := tTrue) (elt := eTup (aCons (eC 3) (aCons (e2 gAdd (eK (.int 1)) (eCall 2 F__law_draw [] (aCons (eV 0) (aCons (eK (.int 4)) aNil)))) aNil)))
      (env := oE s2 found k) (env1 := oE s2 found k) (src := none) (sortW found) wS
      (fun l acc env => ∃ (s3 : Tp) (os : List (List Nat × Int)), env = oE s3 found k ∧ acc = os.map obD ∧ os.map (·.1) ++ l = sortW found ∧ (∀ o ∈ os, 1 ≤ o.2 ∧ o.2 ≤ 4) ∧ Tok (n + 90 + os.length) s3)
      (by
        unfold oE
        simp_all_arith [sortL_words (ws := found) (by omega) hne])
      rfl ⟨s2, [], rfl, rfl, by simp, fun o ho => by simp at ho, h2.up (by simp)⟩ (by
        rintro w l acc env ⟨s3, os, rfl, rfl, e2, e3, h3⟩
        have := congrArg List.length e2
        simp at this
        obtain ⟨z, s4, d4, z0, z1, h4⟩ := draw h3 4
        refine ⟨some (obD (w, 1 + z)), oE s4 found k, ?_, s4, os ++ [(w, 1 + z)], rfl, by simp, by simpa using e2, fun o ho => ?_, h4.up (by simp; omega)⟩
        · unfold oE
          simp_all_arith [v_lcS, tTrue, evO_fb, argO_fb, isMu_fb, isLk_fb, isLk_none, d4, obD, isLk_jk]
        · rcases List.mem_append.mp ho with y | y
          · exact e3 o y
          · simp at y; subst y; exact ⟨by show 1 ≤ 1 + z; omega, by show 1 + z ≤ 4; omega⟩) (by omega)
    have hl := congrArg List.length e3
    simp at hl
    exact ⟨s3, os, q1, by simpa using e3, e4, h3.up (by omega)⟩
  obtain ⟨s3, os, q2, e2, e3, h3⟩ := lc
  have hos := congrArg List.length e2
  rw [List.length_map, hsl] at hos
  refine ⟨os, s3, ?_, ⟨by omega, by omega, fun o ho => ?_, e3, found, nd, e2⟩, h3⟩
  · unfold oE at q1 q2
    simp only [jk_none, List.map_nil] at q1 q2
    simp_all_arith [F__law_objects, q1, q2, objsD]
  · have : o.1 ∈ sortW found := by rw [← e2]; exact List.mem_map_of_mem ho
    exact wd o.1 ((sortW_perm found).mem_iff.mp this)
end Cg

/-! CgA: _law_operand, _law_address. -/
namespace Cg
open PySem PySem.Spec PyProof.Rows L2 ML Dm
/-! ### one of a few -/
theorem at1 {a : D} {r : Int} (h0 : 0 ≤ r) (h1 : r < 1) : atI [a] r = some a := by
  have : r = 0 := by omega
  subst this; rfl
theorem at2 (a b : D) {r : Int} (h0 : 0 ≤ r) (h1 : r < 2) : ∃ d, atI [a, b] r = some d ∧ (d = a ∨ d = b) := by
  have : r = 0 ∨ r = 1 := by omega
  rcases this with rfl | rfl
  · exact ⟨a, rfl, .inl rfl⟩
  · exact ⟨b, rfl, .inr rfl⟩
theorem at3 (a b c : D) {r : Int} (h0 : 0 ≤ r) (h1 : r < 3) : ∃ d, atI [a, b, c] r = some d ∧ (d = a ∨ d = b ∨ d = c) := by
  have : r = 0 ∨ r = 1 ∨ r = 2 := by omega
  rcases this with rfl | rfl | rfl
  · exact ⟨a, rfl, .inl rfl⟩
  · exact ⟨b, rfl, .inr (.inl rfl)⟩
  · exact ⟨c, rfl, .inr (.inr rfl)⟩
theorem at_mem {ds : List D} {r : Int} (h0 : 0 ≤ r) (h1 : r < (ds.length : Nat)) : ∃ d, atI ds r = some d ∧ d ∈ ds := by
  have hj : r.toNat < ds.length := by omega
  exact ⟨ds[r.toNat], atI_get h0 (by simp [hj]), List.getElem_mem hj⟩
/-! ### operands -/
def wi : List Nat := [105]
def wj : List Nat := [106]
def wij : List Nat := [105, 106]
def wn : List Nat := [110]
def wp : List Nat := [112]
theorem str_i : PyData.str (Str.ofString "i") = wS wi := congrArg PyData.str (by decide +kernel)
theorem str_j : PyData.str (Str.ofString "j") = wS wj := congrArg PyData.str (by decide +kernel)
theorem str_ij : PyData.str (Str.ofString "ij") = wS wij := congrArg PyData.str (by decide +kernel)
theorem str_n : PyData.str (Str.ofString "n") = wS wn := congrArg PyData.str (by decide +kernel)
theorem str_p : PyData.str (Str.ofString "p") = wS wp := congrArg PyData.str (by decide +kernel)
/-- an operand: a number of no great size, a word -/
inductive Opd : D → Prop where
  | num (i : Int) : -1000000 ≤ i → i ≤ 1000000 → Opd (.int i)
  | word (w : List Nat) : Wd w → Opd (wS w)
theorem wd_i : Wd wi := ⟨by decide, by decide, fun c hc => by simp [wi] at hc; omega⟩
theorem wd_j : Wd wj := ⟨by decide, by decide, fun c hc => by simp [wj] at hc; omega⟩
theorem wd_ij : Wd wij := ⟨by decide, by decide, fun c hc => by simp [wij] at hc; omega⟩
theorem wd_n : Wd wn := ⟨by decide, by decide, fun c hc => by simp [wn] at hc; omega⟩
theorem wd_p : Wd wp := ⟨by decide, by decide, fun c hc => by simp [wp] at hc; omega⟩
theorem operand_spec {n : Int} {s : Tp} (h : Tok n s) (hn : n < 800000) : ∃ d s', F__law_operand [fb s] = some (.val d, [fb s']) ∧ Opd d ∧ Tok (n + 4) s' := by
  obtain ⟨a, s1, d1, a0, a1, h1⟩ := draw h 5
  obtain ⟨b, s2, d2, b0, b1, h2⟩ := draw h1 2
  obtain ⟨c, s3, d3, c0, c1, h3⟩ := draw h2 3
  obtain ⟨e, s4, d4, e0, e1, h4⟩ := draw h3 6
  have p6 : ((10 : Int) ^ (Int.toNat 6)) = 1000000 := by decide +kernel
  have hx : ∃ x : Int, atI [PyData.int (a - 1), PyData.int (1000000 - b), PyData.int (-1000000)] c = some (.int x) ∧ -1000000 ≤ x ∧ x ≤ 1000000 := by
    obtain ⟨d, q1, q2⟩ := at3 (.int (a - 1)) (.int (1000000 - b)) (.int (-1000000)) c0 c1
    rcases q2 with z | z | z <;> subst z
    · exact ⟨_, q1, by omega, by omega⟩
    · exact ⟨_, q1, by omega, by omega⟩
    · exact ⟨_, q1, by omega, by omega⟩
  obtain ⟨x, q1, x0, x1⟩ := hx
  obtain ⟨d, q2, q3⟩ := at_mem (ds := [PyData.int x, PyData.int x, wS wi, wS wj, wS wij, wS wn]) e0 (by simpa using e1)
  refine ⟨d, s4, ?_, ?_, h4.up (by omega)⟩
  · simp_all_arith [F__law_operand, evO_fb, argO_fb, isMu_fb, isLk_fb, d1, d2, d3, d4, p6, q1, q2, str_i, str_j, str_ij, str_n, natAbs10]
  · simp at q3
    rcases q3 with z | z | z | z | z <;> subst z
    · exact .num x x0 x1
    · exact .word _ wd_i
    · exact .word _ wd_j
    · exact .word _ wd_ij
    · exact .word _ wd_n
/-! ### addresses -/
def kvO (os : List (List Nat × Int)) : List (Key × D) := os.map fun o => (.inr (tx o.1), .int o.2)
theorem pairsOf_objs : ∀ os : List (List Nat × Int), ML.pairsOf (os.map obD) = some (kvO os)
  | [] => rfl
  | o :: os => by
    have ih := pairsOf_objs os
    simp only [List.map_cons, obD, wS, ML.pairsOf, keyD, Option.bind_some, kvO] at ih ⊢
    rw [ih]; rfl
theorem putD_new {kvs : List (Key × D)} {k : Key} {d : D} (h : ∀ p ∈ kvs, p.1 ≠ k) : putD kvs k d = kvs ++ [(k, d)] := by
  unfold putD
  have : (kvs.any fun kv => decide (kv.1 = k)) = false := by
    rw [List.any_eq_false]
    intro p hp
    simpa using h p hp
  rw [this]; rfl
theorem mergeD_new : ∀ {more acc : List (Key × D)}, ((acc ++ more).map (·.1)).Nodup → mergeD acc more = acc ++ more
  | [], acc, _ => by simp [mergeD]
  | (k, d) :: more, acc, h => by
    have hk : ∀ p ∈ acc, p.1 ≠ k := fun p hp z => by
      rw [List.map_append, List.nodup_append] at h
      exact h.2.2 _ (List.mem_map_of_mem hp) k (by simp) z
    have : mergeD acc ((k, d) :: more) = mergeD (putD acc k d) more := rfl
    rw [this, putD_new hk, mergeD_new (by simpa using h)]
    simp
theorem kvO_nodup {os : List (List Nat × Int)} (h : (os.map (·.1)).Nodup) : ((kvO os).map (·.1)).Nodup := by
  have e : (kvO os).map (·.1) = (os.map (·.1)).map fun w => (Sum.inr (tx w) : Key) := by simp [kvO]
  rw [e]
  exact List.pairwise_map.mpr (h.imp fun hne z => hne (tx_inj (Sum.inr.inj z)))
theorem dict_objs {os : List (List Nat × Int)} (h : (os.map (·.1)).Nodup) : mergeD [] (kvO os) = kvO os := mergeD_new (by simpa using kvO_nodup h)
def szOf (os : List (List Nat × Int)) (w : List Nat) : Int := ((os.find? fun o => decide (o.1 = w)).map (·.2)).getD 0
theorem lk_objs {w : List Nat} : ∀ {os : List (List Nat × Int)}, w ∈ os.map (·.1) → lkD (kvO os) (.inr (tx w)) = some (.int (szOf os w)) ∧ ∃ o ∈ os, szOf os w = o.2 ∧ o.1 = w
  | [], h => by simp at h
  | o :: os, h => by
    by_cases e : o.1 = w
    · refine ⟨?_, o, List.mem_cons_self .., ?_, e⟩
      · show lkD ((.inr (tx o.1), .int o.2) :: kvO os) _ = _
        rw [lkD_pos (by rw [e])]
        simp [szOf, e]
      · simp [szOf, e]
    · have hm : w ∈ os.map (·.1) := by
        rw [List.map_cons] at h
        exact (List.mem_cons.mp h).resolve_left (Ne.symm e)
      obtain ⟨h1, o', h2, h3, h4⟩ := lk_objs hm
      have es : szOf (o :: os) w = szOf os w := by simp [szOf, e]
      refine ⟨?_, o', List.mem_cons_of_mem _ h2, by rw [es]; exact h3, h4⟩
      show lkD ((.inr (tx o.1), .int o.2) :: kvO os) _ = _
      rw [lkD_neg (fun z => e (tx_inj (Sum.inr.inj z))), h1, es]
def aE (s : Tp) (os : List (List Nat × Int)) (rest som : Option (List (List Nat))) (k least pick index : Option D) : En :=
  [some (fb s), some (.val (objsD os)), rest.map fun l => .mu (.lst (l.map wS)), som.map fun l => .mu (.lst (l.map wS)), jk k, jk least, jk pick, jk index, none, none]
def aD (som : List (List Nat)) (pick index : D) : D := .tuple [.tuple (som.map wS), pick, index]
structure AdrOk (os : List (List Nat × Int)) (som : List (List Nat)) (pick index : D) : Prop where
  pos : 0 < som.length
  len : som.length ≤ 4
  nd : som.Nodup
  sub : ∀ w ∈ som, w ∈ os.map (·.1)
  pick : (∃ i : Int, pick = .int i ∧ 0 ≤ i ∧ i < som.length) ∨ ∃ w, Wd w ∧ pick = wS w
  index : (∃ i : Int, index = .int i ∧ 0 ≤ i ∧ ∀ w ∈ som, i < szOf os w) ∨ ∃ w, Wd w ∧ index = wS w
theorem seqIndex_of {n : Int} {m : Nat} (h0 : 0 ≤ n) (h1 : n < m) : seqIndex? n m = some n.toNat := (ixN_seq (by unfold L2.ixN; simp [h0, h1])).1
theorem erase_map : ∀ {l : List (List Nat)} (j : Nat), (l.map wS).eraseIdx j = (l.eraseIdx j).map wS
  | [], j => by simp
  | w :: l, 0 => by simp
  | w :: l, j + 1 => by simp [erase_map (l := l) j]
theorem erase_perm {α : Type} : ∀ {l : List α} {j : Nat} (h : j < l.length), (l[j] :: l.eraseIdx j).Perm l
  | w :: l, 0, _ => by simp
  | w :: l, j + 1, h => by
    have ih := erase_perm (l := l) (j := j) (by simpa using h)
    simp only [List.getElem_cons_succ, List.eraseIdx_cons_succ]
    exact (List.Perm.swap ..).trans (ih.cons w)
theorem address_spec {n : Int} {s : Tp} (h : Tok n s) (hn : n < 700000) {os : List (List Nat × Int)} (ok : ObjsOk os) :
    ∃ som pick index s', F__law_address [fb s, .val (objsD os)] = some (.val (aD som pick index), [fb s', .val (objsD os)]) ∧ AdrOk os som pick index ∧ Tok (n + 20) s' := by
  have h4 := ok.four
  have hp := ok.pos
  have lc1 : LC__law_address_1 (aE s os none none none none none none) = some (.new (.lst ((os.map (·.1)).map wS)), aE s os none none none none none none) := by
    unfold LC__law_address_1
    have := eLc_of (np := 2) (own := [8, 9]) (fi := iSeq (eV 1)) (t := .tp [(.nm 8), (.nm 9)]) (tst := tTrue) (elt := eC 8) (env := aE s os none none none none none none) (env1 := aE s os none none none none none none) (src := none)
      os obD (fun _ => true) (fun o => wS o.1) (by unfold aE objsD; simp_all_arith [jk_none]) rfl (fun o ho => by unfold aE; simp_all_arith [v_lcS, tTrue, obD, isLk_fb, isLk_none, jk_none]) (by omega)
    rw [this, List.filter_eq_self.mpr (by simp)]
    simp [unlock]
  obtain ⟨m, s1, d1, m0, m1, h1⟩ := draw h (os.length : Nat)
  have hi := rgI_of (n := 1 + m) (by omega) (by omega)
  have lf : ∃ s2 rest som k, LF__law_address_3 (aE s os (some (os.map (·.1))) (some []) none none none none) = some (.nx, aE s2 os (some rest) (some som) k none none none) ∧ (som.length : Int) = 1 + m ∧ (rest ++ som).Perm (os.map (·.1)) ∧ Tok (n + 6) s2 := by
    refine Exists.elim (sFor_list (np := 2) (fi := iRng1 (e2 gAdd (eK (.int 1)) (eCall 2 F__law_draw [] (aCons (eV 0) (aCons (eN gLen (aCons (eV 1) aNil)) aNil))))) (t := .nm 4) (body := BF__law_address_2) (env := aE s os (some (os.map (·.1))) (some []) none none none none) (env1 := aE s1 os (some (os.map (·.1))) (some []) none none none none) (src := none)
      (upto (1 + m)) PyData.int (fun left env => ∃ (s2 : Tp) (rest som : List (List Nat)) (k : Option D), env = aE s2 os (some rest) (some som) k none none none ∧ (som.length : Int) + left.length = 1 + m ∧ (rest ++ som).Perm (os.map (·.1)) ∧ Tok (n + 1 + som.length) s2) ?fhi ?fp ?fh) ?ffin
    case fhi =>
      unfold aE objsD
      simp_all_arith [evO_fb, argO_fb, isMu_fb, isLk_fb, d1, hi, rangeD_upto, Option.map_some, jk_none, List.length_map]
    case fp => exact ⟨s1, os.map (·.1), [], none, rfl, by simp [upto_len (show 0 ≤ 1 + m by omega)], by simp, h1.up (by simp)⟩
    case fh =>
      rintro x left env ⟨s2, rest, som, k, rfl, e1, pm, h2⟩
      simp only [List.length_cons] at e1
      have hpl := pm.length_eq
      rw [List.length_append, List.length_map] at hpl
      obtain ⟨r, s3, d3, r0, r1, h3⟩ := draw h2 (rest.length : Nat)
      have hr : r.toNat < rest.length := by omega
      have hix : seqIndex? r ((rest.map wS).length) = some r.toNat := by rw [List.length_map]; exact seqIndex_of r0 r1
      have hget : (rest.map wS)[r.toNat]? = some (wS rest[r.toNat]) := by simp [hr]
      have hpop := @v_popA [some (fb s3), some (.val (objsD os)), some (.mu (.lst (rest.map wS))), some (.mu (.lst (som.map wS))), some (.val (.int x)), none, none, none, none, none] 2 (wS rest[r.toNat]) (rest.map wS) r r.toNat ⟨by omega, by omega⟩ hix hget
      have hsl : som.length < sizeLine := sl_lt (by omega)
      refine ⟨aE s2 os (some rest) (some som) (some (.int x)) none none none, aE s3 os (some (rest.eraseIdx r.toNat)) (some (som ++ [rest[r.toNat]])) (some (.int x)) none none none, ?_, ?_, s3, _, _, _, rfl, by simp; omega, ?_, h3.up (by simp; omega)⟩
      · unfold aE
        simp_arith [jk_some, jk_none, Option.map_some]
      · rw [erase_map] at hpop
        unfold aE
        simp_all_arith [BF__law_address_2, evO_fb, argO_fb, isMu_fb, isLk_fb, d3, jk_some, jk_none, Option.map_some, List.length_map, hpop, hsl, List.map_append, List.map_cons, List.map_nil]
      · refine List.Perm.trans ?_ pm
        have e := erase_perm hr
        rw [← List.append_assoc]
        refine List.Perm.trans List.perm_append_comm ?_
        exact e.append_right som
    case ffin =>
      rintro env' ⟨q1, s', rest, som, k, rfl, e1, pm, h2⟩
      simp at e1
      exact ⟨s', rest, som, k, q1, e1, pm, h2.up (by omega)⟩
  obtain ⟨s2, rest, som, k, q1, e1, pm, h2⟩ := lf
  have hsl : som.length ≤ 4 := by omega
  have hnd : (rest ++ som).Nodup := pm.nodup_iff.mpr ok.nodup
  have hsub : ∀ w ∈ som, w ∈ os.map (·.1) := fun w hw => pm.mem_iff.mp (List.mem_append_right _ hw)
  have hsz : ∀ w ∈ som, 1 ≤ szOf os w ∧ szOf os w ≤ 4 := fun w hw => by
    obtain ⟨_, o, ho, e, _⟩ := lk_objs (hsub w hw)
    rw [e]; exact ok.size o ho
  have lc2 : LC__law_address_4 (aE s2 os (some rest) (some som) k none none none) = some (.new (.lst ((som.map (szOf os)).map PyData.int)), aE s2 os (some rest) (some som) k none none none) := by
    unfold LC__law_address_4
    have hd := dict_objs ok.nodup
    have hp2 := pairsOf_objs os
    have := eLc_of (np := 2) (own := [8]) (fi := iSeq (eV 3)) (t := .nm 8) (tst := tTrue) (elt := e2 gIx (eN gDictA (aCons (eV 1) aNil)) (eC 8)) (env := aE s2 os (some rest) (some som) k none none none) (env1 := [some (fb s2), some (.val (objsD os)), some (.mu (.lst (rest.map wS))), some (.lk (.lst (som.map wS))), jk k, none, none, none, none, none]) (src := some 3)
      som wS (fun _ => true) (fun w => .int (szOf os w)) (by unfold aE; simp_all_arith [jk_none, Option.map_some]) rfl (fun w hw => by
        have hlk := (lk_objs (hsub w hw)).1
        unfold objsD wS
        simp_all_arith [v_lcS, tTrue, hp2, hd, hlk, isLk_fb, isLk_none, isLk_jk, jk_none]) (by omega)
    rw [this, List.filter_eq_self.mpr (by simp)]
    simp [unlock, aE]
    rfl
  have hmin : ∃ least, minI (som.map (szOf os)) = some least ∧ 1 ≤ least ∧ least ≤ 4 ∧ ∀ w ∈ som, least ≤ szOf os w := by
    obtain ⟨x, hx⟩ := minI_some (ns := som.map (szOf os)) (fun z => by rw [List.map_eq_nil_iff] at z; rw [z] at e1; simp at e1; omega)
    obtain ⟨x1, x2⟩ := minI_spec hx
    obtain ⟨w, hw, rfl⟩ := List.mem_map.mp x1
    exact ⟨_, hx, (hsz w hw).1, (hsz w hw).2, fun v hv => x2 _ (List.mem_map_of_mem hv)⟩
  obtain ⟨least, hmin, l0, l1, l2⟩ := hmin
  obtain ⟨a, s3, d3, a0, a1, h3⟩ := draw h2 (som.length : Nat)
  obtain ⟨b, s4, d4, b0, b1, h4'⟩ := draw h3 2
  obtain ⟨c, s5, d5, c0, c1, h5⟩ := draw h4' 2
  obtain ⟨x, q2, x2⟩ := at2 (wS wi) (wS wp) b0 b1
  obtain ⟨pick, q3, x3⟩ := at2 (.int a) x c0 c1
  obtain ⟨a', s6, d6, a0', a1', h6⟩ := draw h5 least
  obtain ⟨b', s7, d7, b0', b1', h7⟩ := draw h6 2
  obtain ⟨c', s8, d8, c0', c1', h8⟩ := draw h7 2
  obtain ⟨x', q2', x2'⟩ := at2 (wS wi) (wS wj) b0' b1'
  obtain ⟨index, q3', x3'⟩ := at2 (.int a') x' c0' c1'
  refine ⟨som, pick, index, s8, ?_, ⟨by omega, hsl, (List.nodup_append.mp hnd).2.1, hsub, ?_, ?_⟩, h8.up (by omega)⟩
  · unfold aE at lc1 q1 lc2
    simp only [jk_none, Option.map_some, Option.map_none, List.map_nil] at lc1 q1 lc2
    simp_all_arith [F__law_address, lc1, q1, lc2, intsOf_map, hmin, evO_fb, argO_fb, isMu_fb, isLk_fb, List.length_map, d3, d4, d5, d6, d7, d8, str_i, str_p, str_j, q2, q3, q2', q3', isLk_jk, aD]
  · rcases x3 with z | z
    · exact .inl ⟨a, z, a0, a1⟩
    · rcases x2 with y | y
      · exact .inr ⟨_, wd_i, z.trans y⟩
      · exact .inr ⟨_, wd_p, z.trans y⟩
  · rcases x3' with z | z
    · exact .inl ⟨a', z, a0', fun w hw => by have := l2 w hw; omega⟩
    · rcases x2' with y | y
      · exact .inr ⟨_, wd_i, z.trans y⟩
      · exact .inr ⟨_, wd_j, z.trans y⟩
end Cg

/-! CgR: _law_row, _law_end. -/
namespace Cg
open PySem PySem.Spec PyProof.Rows L2 ML Dm
theorem k_load_load : (Str.ofString "load" == Str.ofString "load") = true := by decide +kernel
theorem k_store_load : (Str.ofString "store" == Str.ofString "load") = false := by decide +kernel
theorem k_store_store : (Str.ofString "store" == Str.ofString "store") = true := by decide +kernel
theorem k_touch_load : (Str.ofString "touch" == Str.ofString "load") = false := by decide +kernel
theorem k_touch_store : (Str.ofString "touch" == Str.ofString "store") = false := by decide +kernel
theorem k_touch_touch : (Str.ofString "touch" == Str.ofString "touch") = true := by decide +kernel
theorem k_set_load : (Str.ofString "set" == Str.ofString "load") = false := by decide +kernel
theorem k_set_store : (Str.ofString "set" == Str.ofString "store") = false := by decide +kernel
theorem k_set_touch : (Str.ofString "set" == Str.ofString "touch") = false := by decide +kernel
theorem k_set_set : (Str.ofString "set" == Str.ofString "set") = true := by decide +kernel
theorem k_tell_load : (Str.ofString "tell" == Str.ofString "load") = false := by decide +kernel
theorem k_tell_store : (Str.ofString "tell" == Str.ofString "store") = false := by decide +kernel
theorem k_tell_touch : (Str.ofString "tell" == Str.ofString "touch") = false := by decide +kernel
theorem k_tell_set : (Str.ofString "tell" == Str.ofString "set") = false := by decide +kernel
theorem k_tell_call : (Str.ofString "tell" == Str.ofString "call") = false := by decide +kernel
theorem k_need_load : (Str.ofString "need" == Str.ofString "load") = false := by decide +kernel
theorem k_need_store : (Str.ofString "need" == Str.ofString "store") = false := by decide +kernel
theorem k_need_touch : (Str.ofString "need" == Str.ofString "touch") = false := by decide +kernel
theorem k_need_set : (Str.ofString "need" == Str.ofString "set") = false := by decide +kernel
theorem k_need_call : (Str.ofString "need" == Str.ofString "call") = false := by decide +kernel
theorem k_call_load : (Str.ofString "call" == Str.ofString "load") = false := by decide +kernel
theorem k_call_store : (Str.ofString "call" == Str.ofString "store") = false := by decide +kernel
theorem k_call_touch : (Str.ofString "call" == Str.ofString "touch") = false := by decide +kernel
theorem k_call_set : (Str.ofString "call" == Str.ofString "set") = false := by decide +kernel
theorem k_call_call : (Str.ofString "call" == Str.ofString "call") = true := by decide +kernel
inductive RowOk (os : List (List Nat × Int)) (called : List (List Nat)) : D → Prop where
  | load (nm som : List _) (p x : D) : Wd nm → AdrOk os som p x → RowOk os called (.tuple [.str "load", wS nm, aD som p x])
  | store (som : List _) (p x o : D) : AdrOk os som p x → Opd o → RowOk os called (.tuple [.str "store", aD som p x, o])
  | touch (som : List _) (p x : D) : AdrOk os som p x → RowOk os called (.tuple [.str "touch", aD som p x])
  | set (nm : List Nat) (sg : Str) (a b : D) : Wd nm → sg = "+" ∨ sg = "-" ∨ sg = "*" ∨ sg = "<" → Opd a → Opd b → RowOk os called (.tuple [.str "set", wS nm, .str sg, a, b])
  | tell (o : D) : Opd o → RowOk os called (.tuple [.str "tell", o])
  | need (o : D) : Opd o → RowOk os called (.tuple [.str "need", o])
  | call (w : List Nat) : w ∈ called → RowOk os called (.tuple [.str "call", wS w])
theorem row_spec {n : Int} {s : Tp} (h : Tok n s) (hn : n < 600000) {os : List (List Nat × Int)} (ok : ObjsOk os) (called : List (List Nat)) (hc : ∀ w ∈ called, Wd w) (hcl : called.length ≤ 10) :
    ∃ d s', F__law_row [fb s, .val (objsD os), .mu (.lst (called.map wS))] = some (.val d, [fb s', .val (objsD os), .mu (.lst (called.map wS))]) ∧ RowOk os called d ∧ Tok (n + 50) s' := by
  have hlw : ∀ w ∈ called, Lw w := fun w hw => (hc w hw).2.2
  have shs := sh_words hlw
  have sh0 : SeqAt.shaped (.list []) = true := by decide +kernel
  have hm : ∃ m : Int, (6 : Int) + (if (!called.isEmpty) = true then 1 else 0) = m ∧ 6 ≤ m ∧ m ≤ 7 ∧ (m = 7 → called ≠ []) := by
    cases called with
    | nil => exact ⟨6, rfl, by omega, by omega, by omega⟩
    | cons a l => exact ⟨7, rfl, by omega, by omega, fun _ z => by cases z⟩
  obtain ⟨m, em, m6, m7, mne⟩ := hm
  obtain ⟨r, s1, d1, r0, r1, h1⟩ := draw h m
  obtain ⟨b, s2, d2, b0, b1, h2⟩ := draw h1 3
  obtain ⟨nm, q2, hnm⟩ := at3 (wS wi) (wS wj) (wS wn) b0 b1
  obtain ⟨som, p, x, s3, d3, adr, h3⟩ := address_spec h2 (by omega) ok
  obtain ⟨o, s4, d4, ho, h4⟩ := operand_spec h3 (by omega)
  obtain ⟨c, s5, d5, c0, c1, h5⟩ := draw h4 4
  obtain ⟨sg, q5, hsg⟩ := at_mem (ds := [PyData.str "+", .str "-", .str "*", .str "<"]) c0 (by simpa using c1)
  obtain ⟨o2, s6, d6, ho2, h6⟩ := operand_spec h5 (by omega)
  have hnm' : ∃ w : List Nat, nm = wS w ∧ Wd w := by
    rcases hnm with z | z | z
    · exact ⟨_, z, wd_i⟩
    · exact ⟨_, z, wd_j⟩
    · exact ⟨_, z, wd_n⟩
  have hsg' : ∃ g : Str, sg = .str g ∧ (g = "+" ∨ g = "-" ∨ g = "*" ∨ g = "<") := by
    simp at hsg
    rcases hsg with z | z | z | z
    · exact ⟨_, z, .inl rfl⟩
    · exact ⟨_, z, .inr (.inl rfl)⟩
    · exact ⟨_, z, .inr (.inr (.inl rfl))⟩
    · exact ⟨_, z, .inr (.inr (.inr rfl))⟩
  obtain ⟨w, rfl, hw⟩ := hnm'
  obtain ⟨g, rfl, hg⟩ := hsg'
  have hr : r = 0 ∨ r = 1 ∨ r = 2 ∨ r = 3 ∨ r = 4 ∨ r = 5 ∨ r = 6 := by omega
  have at0 : atI [PyData.str "load", .str "store", .str "touch", .str "set", .str "tell", .str "need", .str "call"] 0 = some (.str "load") := rfl
  have at1 : atI [PyData.str "load", .str "store", .str "touch", .str "set", .str "tell", .str "need", .str "call"] 1 = some (.str "store") := rfl
  have at2 : atI [PyData.str "load", .str "store", .str "touch", .str "set", .str "tell", .str "need", .str "call"] 2 = some (.str "touch") := rfl
  have at3 : atI [PyData.str "load", .str "store", .str "touch", .str "set", .str "tell", .str "need", .str "call"] 3 = some (.str "set") := rfl
  have at4 : atI [PyData.str "load", .str "store", .str "touch", .str "set", .str "tell", .str "need", .str "call"] 4 = some (.str "tell") := rfl
  have at5 : atI [PyData.str "load", .str "store", .str "touch", .str "set", .str "tell", .str "need", .str "call"] 5 = some (.str "need") := rfl
  have at6 : atI [PyData.str "load", .str "store", .str "touch", .str "set", .str "tell", .str "need", .str "call"] 6 = some (.str "call") := rfl
  rcases hr with rfl | rfl | rfl | rfl | rfl | rfl | rfl
  · refine ⟨_, s6, ?_, .load w som p x hw adr, h6.up (by omega)⟩
    simp_all_arith [F__law_row, evO_fb, argO_fb, isMu_fb, isLk_fb, shs, sh0, eqv_words_nil, em, d1, d2, d3, d4, d5, d6, str_i, str_j, str_n, q2, q5, at0, k_load_load]
  · refine ⟨_, s6, ?_, .store som p x o adr ho, h6.up (by omega)⟩
    simp_all_arith [F__law_row, evO_fb, argO_fb, isMu_fb, isLk_fb, shs, sh0, eqv_words_nil, em, d1, d2, d3, d4, d5, d6, str_i, str_j, str_n, q2, q5, at1, k_store_load, k_store_store]
  · refine ⟨_, s6, ?_, .touch som p x adr, h6.up (by omega)⟩
    simp_all_arith [F__law_row, evO_fb, argO_fb, isMu_fb, isLk_fb, shs, sh0, eqv_words_nil, em, d1, d2, d3, d4, d5, d6, str_i, str_j, str_n, q2, q5, at2, k_touch_load, k_touch_store, k_touch_touch]
  · refine ⟨_, s6, ?_, .set w g o o2 hw hg ho ho2, h6.up (by omega)⟩
    simp_all_arith [F__law_row, evO_fb, argO_fb, isMu_fb, isLk_fb, shs, sh0, eqv_words_nil, em, d1, d2, d3, d4, d5, d6, str_i, str_j, str_n, q2, q5, at3, k_set_load, k_set_store, k_set_touch, k_set_set]
  · refine ⟨_, s6, ?_, .tell o ho, h6.up (by omega)⟩
    simp_all_arith [F__law_row, evO_fb, argO_fb, isMu_fb, isLk_fb, shs, sh0, eqv_words_nil, em, d1, d2, d3, d4, d5, d6, str_i, str_j, str_n, q2, q5, at4, k_tell_load, k_tell_store, k_tell_touch, k_tell_set, k_tell_call]
  · refine ⟨_, s6, ?_, .need o ho, h6.up (by omega)⟩
    simp_all_arith [F__law_row, evO_fb, argO_fb, isMu_fb, isLk_fb, shs, sh0, eqv_words_nil, em, d1, d2, d3, d4, d5, d6, str_i, str_j, str_n, q2, q5, at5, k_need_load, k_need_store, k_need_touch, k_need_set, k_need_call]
  · have hne := mne (by omega)
    have hpos := List.length_pos_iff.mpr hne
    obtain ⟨e, s7, d7, e0, e1, h7⟩ := draw h6 (called.length : Nat)
    obtain ⟨v, hv, hat⟩ := atI_map e0 e1
    have hat : atI (called.map wS) e = some (wS v) := hat
    refine ⟨_, s7, ?_, .call v hv, h7.up (by omega)⟩
    simp_all_arith [F__law_row, evO_fb, argO_fb, isMu_fb, isLk_fb, shs, sh0, eqv_words_nil, em, d1, d2, d3, d4, d5, d6, str_i, str_j, str_n, q2, q5, at6, k_call_load, k_call_store, k_call_touch, k_call_set, k_call_call, List.length_map, d7, hat]
theorem end_spec {n : Int} {s : Tp} (h : Tok n s) (hn : n < 700000) (m : Int) (hm : 0 < m) (hm2 : m < 1000) :
    ∃ g s', F__law_end [fb s, .val (.int m)] = some (.val (Gd.d g), [fb s', .val (.int m)]) ∧ (∀ c ∈ g.outs, 0 ≤ c ∧ c < m) ∧ (∀ op a b, g = .iff op a b → Opd op) ∧ Tok (n + 10) s' := by
  obtain ⟨a, s1, d1, a0, a1, h1⟩ := draw h m
  obtain ⟨b, s2, d2, b0, b1, h2⟩ := draw h1 m
  obtain ⟨o, s3, d3, ho, h3⟩ := operand_spec h2 (by omega)
  obtain ⟨c, s4, d4, c0, c1, h4⟩ := draw h3 4
  have key : ∃ g : Gd, atI [Gd.d (.go a), Gd.d (.iff o a b), Gd.d (.iff o a b), Gd.d .back] c = some g.d ∧ (∀ c ∈ g.outs, 0 ≤ c ∧ c < m) ∧ (∀ op a b, g = .iff op a b → Opd op) := by
    have : c = 0 ∨ c = 1 ∨ c = 2 ∨ c = 3 := by omega
    rcases this with rfl | rfl | rfl | rfl
    · exact ⟨.go a, rfl, fun c hc => by simp [Gd.outs] at hc; omega, fun _ _ _ z => by cases z⟩
    · exact ⟨.iff o a b, rfl, fun c hc => by simp [Gd.outs] at hc; omega, fun _ _ _ z => by cases z; exact ho⟩
    · exact ⟨.iff o a b, rfl, fun c hc => by simp [Gd.outs] at hc; omega, fun _ _ _ z => by cases z; exact ho⟩
    · exact ⟨.back, rfl, fun c hc => by simp [Gd.outs] at hc, fun _ _ _ z => by cases z⟩
  obtain ⟨g, q, g1, g2⟩ := key
  refine ⟨g, s4, ?_, g1, g2, h4.up (by omega)⟩
  have q : atI [PyData.tuple [.str "go", .int a], .tuple [.str "if", o, .int a, .int b], .tuple [.str "if", o, .int a, .int b], .tuple [.str "back"]] c = some g.d := q
  simp_all_arith [F__law_end, evO_fb, argO_fb, isMu_fb, isLk_fb, d1, d2, d3, d4, q]
end Cg

/-! CgC: _law_code. -/
namespace Cg
open PySem PySem.Spec PyProof.Rows L2 ML Dm
def rtD (r : List Nat × Gr) : D := .tuple [wS r.1, .tuple (r.2.map blkD)]
def cdD (os : List (List Nat × Int)) (rts : List (List Nat × Gr)) : D := .tuple [objsD os, .tuple (rts.map rtD)]
def wmain : List Nat := [109, 97, 105, 110]
theorem str_main : PyData.str (Str.ofString "main") = wS wmain := congrArg PyData.str (by decide +kernel)
theorem wd_main : Wd wmain := ⟨by decide, by decide, fun c hc => by simp [wmain] at hc; omega⟩
/-- a block: rows, an end among m blocks -/
structure BlkOk (os : List (List Nat × Int)) (called : List (List Nat)) (m : Int) (g : D × Gd) : Prop where
  rows : ∃ rs : List D, g.1 = .tuple rs ∧ rs.length ≤ 6 ∧ ∀ r ∈ rs, RowOk os called r
  outs : ∀ c ∈ g.2.outs, 0 ≤ c ∧ c < m
  opd : ∀ op a b, g.2 = .iff op a b → Opd op
structure RtOk (os : List (List Nat × Int)) (called : List (List Nat)) (r : List Nat × Gr) : Prop where
  pos : 0 < r.2.length
  six : r.2.length ≤ 6
  blk : ∀ g ∈ r.2, BlkOk os called r.2.length g
structure CodeOk (os : List (List Nat × Int)) (called : List (List Nat)) (rts : List (List Nat × Gr)) : Prop where
  objs : ObjsOk os
  len : called.length ≤ 5
  wd : ∀ w ∈ called, Wd w
  nd : (called ++ [wmain]).Nodup
  names : rts.map (·.1) = sortW (called ++ [wmain])
  rt : ∀ r ∈ rts, RtOk os called r
def cE (s : Tp) (nr nb nw : Int) (os : List (List Nat × Int)) (called : List (List Nat)) (k : Option D) (found : Option (List (List Nat × Gr))) (name many : Option D) (own : Option Gr) (block : Option D) (som : Option (List D)) : En :=
  [some (fb s), some (.val (.int nr)), some (.val (.int nb)), some (.val (.int nw)), some (.val (objsD os)), some (.mu (.lst (called.map wS))), jk k, found.map fun l => .mu (.lst (l.map rtD)), jk name, jk many, own.map fun g => .mu (.lst (g.map blkD)), jk block, som.map fun l => .mu (.lst l)]
theorem nd05 : ([0, 5] : List Nat).Nodup := by decide
/-- the rows of one block -/
theorem rows_spec {n : Int} {s : Tp} (h : Tok n s) (hn : n < 500000) {nr nb nw : Int} (hw0 : 0 ≤ nw) (hw : nw ≤ 6) {os : List (List Nat × Int)} (ok : ObjsOk os) {called : List (List Nat)} (hc : ∀ w ∈ called, Wd w) (hcl : called.length ≤ 10) (k : Option D) (found : Option (List (List Nat × Gr))) (name many : Option D) (own : Option Gr) (block : Option D) (som : Option (List D)) :
    ∃ rs s', LC__law_code_3 (cE s nr nb nw os called k found name many own block som) = some (.new (.lst rs), cE s' nr nb nw os called k found name many own block som) ∧ rs.length ≤ 6 ∧ (∀ r ∈ rs, RowOk os called r) ∧ Tok (n + 310) s' := by
  obtain ⟨m, s1, d1, m0, m1, h1⟩ := draw h (nw + 1)
  have hi := rgI_of (n := m) (by omega) (by omega)
  unfold LC__law_code_3
  obtain ⟨out, env', q1, s2, rfl, e1, e2, h2⟩ := eLc_list (np := 4) (own := [6]) (fi := iRng1 (eCall 2 F__law_draw [] (aCons (eV 0) (aCons (e2 gAdd (eV 3) (eK (.int 1))) aNil)))) (t := .nm 6) (tst := tTrue) (elt := eCall 3 F__law_row [] (aCons (eV 0) (aCons (eV 4) (aCons (eV 5) aNil))))
    (env := cE s nr nb nw os called k found name many own block som) (env1 := cE s1 nr nb nw os called k found name many own block som) (src := none) (upto m) PyData.int
    (fun l acc env => ∃ s2, env = cE s2 nr nb nw os called none found name many own block som ∧ (acc.length : Int) + l.length = m ∧ (∀ r ∈ acc, RowOk os called r) ∧ Tok (n + 1 + 50 * acc.length) s2)
    (by
      unfold cE
      simp_all_arith [evO_fb, argO_fb, isMu_fb, isLk_fb, d1, hi, rangeD_upto])
    (by cases k <;> cases found <;> cases name <;> cases many <;> cases own <;> cases block <;> cases som <;> rfl) ⟨s1, rfl, by simp [upto_len m0], fun r hr => by simp at hr, h1.up (by simp)⟩ (by
      rintro x l acc env ⟨s2, rfl, e1, e2, h2⟩
      simp only [List.length_cons] at e1
      obtain ⟨d, s3, d3, rk, h3⟩ := row_spec h2 (by omega) ok called hc hcl
      refine ⟨some d, cE s3 nr nb nw os called none found name many own block som, ?_, s3, rfl, by simp; omega, fun r hr => ?_, h3.up (by simp; omega)⟩
      · unfold cE
        simp_all_arith [v_lcS, tTrue, evO_fb, argO_fb, isMu_fb, isLk_fb, isLk_none, jk_none, d3, nd05]
      · rcases List.mem_append.mp hr with z | z
        · exact e2 r z
        · simp at z; subst z; exact rk) (by have := upto_len m0; omega)
  simp at e1
  refine ⟨out, s2, ?_, by omega, e2, h2.up (by omega)⟩
  rw [q1]
  rfl
theorem isLk_om {α : Type} {o : Option α} {f : α → List D} : isLk (o.map fun l => B.mu (.lst (f l))) = false := by cases o <;> rfl
/-- one block -/
theorem block_turn {n : Int} {s : Tp} (h : Tok n s) (hn : n < 400000) {nr nb nw : Int} (hw0 : 0 ≤ nw) (hw : nw ≤ 6) {os : List (List Nat × Int)} (ok : ObjsOk os) {called : List (List Nat)} (hc : ∀ w ∈ called, Wd w) (hcl : called.length ≤ 10) (k : Option D) (found : List (List Nat × Gr)) (name : Option D) (m : Int) (hm0 : 0 < m) (hm : m ≤ 6) (own : Gr) (ho : own.length ≤ 6) (block : Option D) (som : Option (List D)) :
    ∃ g s' som', BF__law_code_4 (cE s nr nb nw os called k (some found) name (some (.int m)) (some own) block som) = some (.nx, cE s' nr nb nw os called k (some found) name (some (.int m)) (some (own ++ [g])) block som') ∧ BlkOk os called m g ∧ Tok (n + 330) s' := by
  obtain ⟨rs, s1, q1, rl, rk, h1⟩ := rows_spec h (by omega) hw0 hw ok hc hcl k (some found) name (some (.int m)) (some own) block som (nr := nr) (nb := nb)
  obtain ⟨g, s2, d2, g1, g2, h2⟩ := end_spec h1 (by omega) m hm0 (by omega)
  have hl : own.length < sizeLine := sl_lt (by omega)
  refine ⟨(.tuple rs, g), s2, some rs, ?_, ⟨⟨rs, rfl, rl, rk⟩, g1, g2⟩, h2.up (by omega)⟩
  unfold cE at q1 ⊢
  simp only [Option.map_some, jk_some] at q1 ⊢
  simp_all_arith [BF__law_code_4, q1, evO_fb, argO_fb, isMu_fb, isLk_fb, isLk_om, isLk_jk, d2, hl, List.length_map, List.map_append, blkD]
/-- a routine's blocks -/
theorem blocks_loop {n : Int} {s : Tp} (h : Tok n s) (hn : n < 300000) {nr nb nw : Int} (hw0 : 0 ≤ nw) (hw : nw ≤ 6) {os : List (List Nat × Int)} (ok : ObjsOk os) {called : List (List Nat)} (hc : ∀ w ∈ called, Wd w) (hcl : called.length ≤ 10) (k : Option D) (found : List (List Nat × Gr)) (name : Option D) (m : Int) (hm0 : 0 < m) (hm : m ≤ 6) (block : Option D) (som : Option (List D)) :
    ∃ gs s' block' som', LF__law_code_5 (cE s nr nb nw os called k (some found) name (some (.int m)) (some []) block som) = some (.nx, cE s' nr nb nw os called k (some found) name (some (.int m)) (some gs) block' som') ∧ (gs.length : Int) = m ∧ (∀ g ∈ gs, BlkOk os called m g) ∧ Tok (n + 2000) s' := by
  have hi := rgI_of (n := m) (by omega) (by omega)
  refine Exists.elim (sFor_list (np := 4) (fi := iRng1 (eV 9)) (t := .nm 11) (body := BF__law_code_4) (env := cE s nr nb nw os called k (some found) name (some (.int m)) (some []) block som) (env1 := cE s nr nb nw os called k (some found) name (some (.int m)) (some []) block som) (src := none)
    (upto m) PyData.int (fun left env => ∃ (s2 : Tp) (gs : Gr) (b2 : Option D) (som2 : Option (List D)), env = cE s2 nr nb nw os called k (some found) name (some (.int m)) (some gs) b2 som2 ∧ (gs.length : Int) + left.length = m ∧ (∀ g ∈ gs, BlkOk os called m g) ∧ Tok (n + 330 * gs.length) s2) ?fhi ?fp ?fh) ?ffin
  case fhi =>
    unfold cE
    simp_all_arith [hi, rangeD_upto, Option.map_some, jk_some]
  case fp => exact ⟨s, [], block, som, rfl, by simp [upto_len (show 0 ≤ m by omega)], fun g hg => (by simp at hg), h.up (by simp)⟩
  case fh =>
    rintro x left env ⟨s2, gs, b2, som2, rfl, e1, e2, h2⟩
    simp only [List.length_cons] at e1
    obtain ⟨g, s3, som3, q, bk, h3⟩ := block_turn h2 (by omega) hw0 hw ok hc hcl k found name m hm0 hm gs (by omega) (some (.int x)) som2 (nr := nr) (nb := nb)
    refine ⟨cE s2 nr nb nw os called k (some found) name (some (.int m)) (some gs) (some (.int x)) som2, _, ?_, q, s3, gs ++ [g], _, som3, rfl, by simp; omega, fun y hy => ?_, h3.up (by simp; omega)⟩
    · unfold cE
      simp_all_arith [Option.map_some, jk_some, isLk_jk]
    · rcases List.mem_append.mp hy with z | z
      · exact e2 y z
      · simp at z; subst z; exact bk
  case ffin =>
    rintro env' ⟨q1, s', gs, b', som', rfl, e1, e2, h2⟩
    simp at e1
    exact ⟨gs, s', b', som', q1, e1, e2, h2.up (by omega)⟩
/-- one routine -/
theorem routine_turn {n : Int} {s : Tp} (h : Tok n s) (hn : n < 200000) {nr nb nw : Int} (hw0 : 0 ≤ nw) (hw : nw ≤ 6) (hb0 : 0 < nb) (hb : nb ≤ 6) {os : List (List Nat × Int)} (ok : ObjsOk os) {called : List (List Nat)} (hc : ∀ w ∈ called, Wd w) (hcl : called.length ≤ 10) (k : Option D) (found : List (List Nat × Gr)) (hf : found.length ≤ 100) (w : List Nat) (many : Option D) (own : Option Gr) (block : Option D) (som : Option (List D)) :
    ∃ g s' many' own' block' som', BF__law_code_6 (cE s nr nb nw os called k (some found) (some (wS w)) many own block som) = some (.nx, cE s' nr nb nw os called k (some (found ++ [(w, g)])) (some (wS w)) many' own' block' som') ∧ RtOk os called (w, g) ∧ Tok (n + 2100) s' := by
  obtain ⟨m, s1, d1, m0, m1, h1⟩ := draw h nb
  obtain ⟨gs, s2, b2, som2, q1, e1, e2, h2⟩ := blocks_loop h1 (by omega) hw0 hw ok hc hcl k found (some (wS w)) (1 + m) (by omega) (by omega) block som (nr := nr) (nb := nb)
  have hl : found.length < sizeLine := sl_lt (by omega)
  refine ⟨gs, s2, some (.int (1 + m)), some gs, b2, som2, ?_, ⟨by show 0 < gs.length; omega, by show gs.length ≤ 6; omega, fun g hg => by show BlkOk os called (gs.length : Nat) g; rw [e1]; exact e2 g hg⟩, h2.up (by omega)⟩
  unfold cE at q1 ⊢
  simp only [Option.map_some, jk_some, List.map_nil] at q1 ⊢
  simp_all_arith [BF__law_code_6, q1, evO_fb, argO_fb, isMu_fb, isLk_fb, isLk_om, isLk_jk, d1, hl, List.length_map, List.map_append, rtD]
end Cg

/-! CgK: any code's routines; what may be shown of a code. -/
namespace Cg
open PySem PySem.Spec PyProof.Rows L2 ML Dm
end Cg

/-! CgM: a code may be shown. -/
namespace Cg
open PySem PySem.Spec PyProof.Rows L2 ML Dm
theorem log2_lt {n k : Nat} (hk : n < 2 ^ k) (h0 : 0 < k) : n.log2 < k := by
  by_cases h : n = 0
  · subst h; simpa using h0
  · exact (Nat.log2_lt h).mpr hk
end Cg

/-! CkA: K04A.lean again. -/
namespace Ck
open PySem PySem.Spec PyProof.Rows L2 ML Dm Cg
/-- a number, a length of a list or a tuple that stands somewhere in it -/
inductive Occ : (Int ⊕ Nat) → D → Prop
  | int {i : Int} : Occ (.inl i) (.int i)
  | lstN {ds : List D} : Occ (.inr ds.length) (.list ds)
  | tupN {ds : List D} : Occ (.inr ds.length) (.tuple ds)
  | lst {i : Int ⊕ Nat} {e : D} {ds : List D} : e ∈ ds → Occ i e → Occ i (.list ds)
  | tup {i : Int ⊕ Nat} {e : D} {ds : List D} : e ∈ ds → Occ i e → Occ i (.tuple ds)
/-- data that the words can look at -/
structure Th (d : D) : Prop where
  sh : SeqAt.shaped d = true
  wt : PyData.weight d ≤ 300000
  num : ∀ n, Occ (.inr n) d → n ≤ 3000
def isN : D → Bool
  | .int _ => true
  | _ => false
def lwB (l : List Nat) : Bool := l.all fun c => decide (97 ≤ c ∧ c ≤ 122)
def isW : D → Bool
  | .str x => decide (1 ≤ x.length ∧ x.length ≤ 8) && lwB x.cps.toList
  | _ => false
def isS : D → Bool
  | .str _ => true
  | _ => false
def isI : D → Bool
  | .int _ => true
  | .bool _ => true
  | _ => false
def isBl : D → Bool
  | .bool _ => true
  | _ => false
def isTp : D → Bool
  | .tuple _ => true
  | _ => false
theorem kit_str (d : D) : kitB (tyD d) "str" = some (isS d) := by
  have h : kitB "NoneType" "str" = some false ∧ kitB "bool" "str" = some false ∧ kitB "int" "str" = some false ∧ kitB "str" "str" = some true ∧ kitB "list" "str" = some false ∧ kitB "tuple" "str" = some false ∧ kitB "dict" "str" = some false := by decide +kernel
  cases d <;> simp only [tyD, isS, h]
theorem kit_int (d : D) : kitB (tyD d) "int" = some (isI d) := by
  have h : kitB "NoneType" "int" = some false ∧ kitB "bool" "int" = some true ∧ kitB "int" "int" = some true ∧ kitB "str" "int" = some false ∧ kitB "list" "int" = some false ∧ kitB "tuple" "int" = some false ∧ kitB "dict" "int" = some false := by decide +kernel
  cases d <;> simp only [tyD, isI, h]
theorem kit_bool (d : D) : kitB (tyD d) "bool" = some (isBl d) := by
  have h : kitB "NoneType" "bool" = some false ∧ kitB "bool" "bool" = some true ∧ kitB "int" "bool" = some false ∧ kitB "str" "bool" = some false ∧ kitB "list" "bool" = some false ∧ kitB "tuple" "bool" = some false ∧ kitB "dict" "bool" = some false := by decide +kernel
  cases d <;> simp only [tyD, isBl, h]
theorem kit_tup (d : D) : kitB (tyD d) "tuple" = some (isTp d) := by
  have h : kitB "NoneType" "tuple" = some false ∧ kitB "bool" "tuple" = some false ∧ kitB "int" "tuple" = some false ∧ kitB "str" "tuple" = some false ∧ kitB "list" "tuple" = some false ∧ kitB "tuple" "tuple" = some true ∧ kitB "dict" "tuple" = some false := by decide +kernel
  cases d <;> simp only [tyD, isTp, h]
theorem number_spec (d : D) : F_is_number [.val d] = some (.val (.bool (isN d)), [.val d]) := by
  cases d <;> simp_all_arith! [F_is_number, kit_int, kit_bool, isI, isBl, isN, Bool.not_true, Bool.not_false]
/-! ### words -/
theorem Th.str {x : Str} (h : Th (.str x)) : x.length ≤ sizeLine := by
  have := h.wt
  simp only [PyData.weight] at this
  exact sl_le (by show x.cps.size ≤ 1000000; omega)
theorem oneS_one (c : Nat) : oneS (tx [c]) = some c := rfl
theorem bools_map (l : List Bool) : bools (l.map PyData.bool) = some l := by
  induction l with
  | nil => rfl
  | cons b l ih => simp [bools, ih]
theorem signs_tx (l : List Nat) : ML.signs (tx l) = l.map fun c => wS [c] := by
  unfold ML.signs
  rw [tx_list]
  rfl
theorem in_abc (c : Nat) : decide (c ∈ (tx abc).cps.toList) = decide (97 ≤ c ∧ c ≤ 122) := by
  rw [tx_list]
  rw [decide_eq_decide]
  unfold abc
  rw [List.mem_map]
  constructor
  · rintro ⟨k, hk, rfl⟩
    have := List.mem_range.mp hk
    omega
  · intro ⟨h0, h1⟩
    exact ⟨c - 97, List.mem_range.mpr (by omega), by omega⟩
theorem word_spec (d : D) (h : Th d) : F_is_word [.val d] = some (.val (.bool (isW d)), [.val d]) := by
  cases d with
  | str x =>
    have hx := h.str
    by_cases hl : 1 ≤ x.length ∧ x.length ≤ 8
    · obtain ⟨h1, h8⟩ := hl
      have c1 : (1 : Int) ≤ (x.length : Nat) := by omega
      have c8 : ((x.length : Nat) : Int) ≤ 8 := by omega
      have hw := tx_of x
      generalize hlst : x.cps.toList = l at hw
      subst hw
      rw [tx_len] at *
      have lc : LC_is_word_1 [some (.val (.str (tx l))), none] = some (.new (.lst ((l.map fun c => decide (97 ≤ c ∧ c ≤ 122)).map PyData.bool)), [some (.val (.str (tx l))), none]) := by
        unfold LC_is_word_1
        have := eLc_of (np := 1) (own := [1]) (fi := iAny (eV 0)) (t := .nm 1) (tst := tTrue) (elt := e2 (gInT false) (eC 1) (eK (.str "abcdefghijklmnopqrstuvwxyz"))) (env := [some (.val (.str (tx l))), none]) (env1 := [some (.val (.str (tx l))), none]) (src := none)
          l (fun c => wS [c]) (fun _ => true) (fun c => .bool (decide (97 ≤ c ∧ c ≤ 122))) (by simp_all_arith! [signs_tx]) rfl (fun c hc => by
            unfold wS
            simp_all_arith! [v_lcS, tTrue, tx_abc, oneS_one, in_abc, v_bneg_f]) (by omega)
        rw [this, List.filter_eq_self.mpr (by simp), List.map_map]
        rfl
      have ew : isW (.str (tx l)) = (l.map fun c => decide (97 ≤ c ∧ c ≤ 122)).all id := by
        show (decide (1 ≤ (tx l).length ∧ (tx l).length ≤ 8) && lwB (tx l).cps.toList) = _
        rw [tx_list, tx_len, decide_eq_true ⟨h1, h8⟩, List.all_map, Bool.true_and]
        rfl
      simp_all_arith! [F_is_word, kit_str, isS, tx_len, hx, c1, c8, decide_eq_true c1, decide_eq_true c8, Bool.not_true, Bool.not_false, lc, bools_map, ew]
    · have ew : isW (.str x) = false := by
        show (decide (1 ≤ x.length ∧ x.length ≤ 8) && lwB x.cps.toList) = false
        rw [decide_eq_false hl]; rfl
      rw [ew]
      by_cases h1 : 1 ≤ x.length
      · have c1 : (1 : Int) ≤ (x.length : Nat) := by omega
        have c8 : ¬ ((x.length : Nat) : Int) ≤ 8 := by omega
        simp_all_arith! [F_is_word, kit_str, isS, hx, decide_eq_true c1, decide_eq_false c8, Bool.not_true, Bool.not_false]
      · have c1 : ¬ (1 : Int) ≤ (x.length : Nat) := by omega
        simp_all_arith! [F_is_word, kit_str, isS, hx, decide_eq_false c1, Bool.not_true, Bool.not_false]
  | _ => simp_all_arith! [F_is_word, kit_str, isS, isW, Bool.not_true, Bool.not_false]
theorem operand_spec (d : D) (h : Th d) : F_is_operand [.val d] = some (.val (.bool (isN d || isW d)), [.val d]) := by
  cases hn : isN d with
  | true => simp_all_arith! [F_is_operand, number_spec, hn, Bool.true_or]
  | false => simp_all_arith! [F_is_operand, number_spec, hn, word_spec d h, Bool.false_or]
end Ck

/-! CkB: K04B.lean again. -/
namespace Ck
open PySem PySem.Spec PyProof.Rows L2 ML Dm Cg
theorem can_all {ds : List D} (h : PyData.canLayAll0 ds = true) : ∀ d ∈ ds, PyData.canLay0 d = true := by
  induction ds with
  | nil => intro d hd; cases hd
  | cons e ds ih =>
    simp only [PyData.canLayAll0, Bool.and_eq_true] at h
    intro d hd
    rcases List.mem_cons.mp hd with z | z
    · subst z; exact h.1
    · exact ih h.2 d z
theorem dep_all {ds : List D} : ∀ d ∈ ds, PyData.depth d ≤ PyData.depthAll ds := by
  induction ds with
  | nil => intro d hd; cases hd
  | cons e ds ih =>
    intro d hd
    simp only [PyData.depthAll]
    rcases List.mem_cons.mp hd with z | z
    · subst z; omega
    · have := ih d z; omega
theorem wt_all {ds : List D} : (∀ d ∈ ds, PyData.weight d ≤ PyData.weightAll ds) ∧ ds.length ≤ PyData.weightAll ds := by
  induction ds with
  | nil => exact ⟨fun d hd => (by cases hd), (by simp)⟩
  | cons e ds ih =>
    refine ⟨fun d hd => ?_, ?_⟩
    · simp only [PyData.weightAll]
      rcases List.mem_cons.mp hd with z | z
      · subst z; omega
      · have := ih.1 d z; omega
    · simp only [PyData.weightAll, List.length_cons]
      have := ih.2; omega
theorem sh_parts {d : D} (h : SeqAt.shaped d = true) : PyData.canLay0 d = true ∧ PyData.depth d ≤ 64 := by
  unfold SeqAt.shaped at h
  rw [Bool.and_eq_true] at h
  exact ⟨h.1, of_decide_eq_true h.2⟩
theorem sh_of {d : D} (h1 : PyData.canLay0 d = true) (h2 : PyData.depth d ≤ 64) : SeqAt.shaped d = true := by
  unfold SeqAt.shaped
  rw [h1, decide_eq_true h2]; rfl
theorem Th.tup {ds : List D} (h : Th (.tuple ds)) : (∀ d ∈ ds, Th d) ∧ ds.length ≤ 3000 := by
  obtain ⟨h1, h2⟩ := sh_parts h.sh
  have h3 := h.wt
  simp only [PyData.canLay0] at h1
  simp only [PyData.depth] at h2
  simp only [PyData.weight] at h3
  refine ⟨fun d hd => ⟨sh_of (can_all h1 d hd) ?_, ?_, fun n z => h.num n (.tup hd z)⟩, h.num _ .tupN⟩
  · have := dep_all d hd; omega
  · have := wt_all.1 d hd; omega
def LB (m : Nat) : Nat := 60 * 4 ^ (m - 10 ^ 199)
theorem LB_mono {m m' : Nat} (h : m ≤ m') : LB m ≤ LB m' := Nat.mul_le_mul_left _ (Nat.pow_le_pow_right (by decide) (by omega))
theorem LB_pos (m : Nat) : 60 ≤ LB m := Nat.le_mul_of_pos_right _ (Nat.pow_pos (by decide))
def okO (m : Nat) : Int ⊕ Nat → Prop
  | .inl i => i.natAbs ≤ m
  | .inr n => n ≤ LB m
theorem okO.mono {m m' : Nat} {o : Int ⊕ Nat} (h : okO m o) (hm : m ≤ m') : okO m' o := by
  cases o with
  | inl i => exact Nat.le_trans h hm
  | inr n => exact Nat.le_trans h (LB_mono hm)
structure Bd (m k w : Nat) (d : D) : Prop where
  can : PyData.canLay0 d = true
  dep : PyData.depth d ≤ k
  wt : PyData.weight d ≤ w
  ins : ∀ i, Occ i d → okO m i
structure BdA (m k w : Nat) (ds : List D) : Prop where
  can : PyData.canLayAll0 ds = true
  dep : PyData.depthAll ds ≤ k
  wt : PyData.weightAll ds ≤ w
  ins : ∀ i, ∀ d ∈ ds, Occ i d → okO m i
theorem Bd.mono {m k w m' k' w' : Nat} {d : D} (h : Bd m k w d) (h1 : m ≤ m') (h2 : k ≤ k') (h3 : w ≤ w') : Bd m' k' w' d :=
  ⟨h.can, Nat.le_trans h.dep h2, Nat.le_trans h.wt h3, fun i z => (h.ins i z).mono h1⟩
theorem BdA.mono {m k w m' k' w' : Nat} {ds : List D} (h : BdA m k w ds) (h1 : m ≤ m') (h2 : k ≤ k') (h3 : w ≤ w') : BdA m' k' w' ds :=
  ⟨h.can, Nat.le_trans h.dep h2, Nat.le_trans h.wt h3, fun i d hd z => (h.ins i d hd z).mono h1⟩
theorem BdA.nil {m k w : Nat} : BdA m k w [] := ⟨by simp [PyData.canLayAll0], by simp [PyData.depthAll], by simp [PyData.weightAll], fun _ _ h => nomatch h⟩
theorem BdA.cons {m k w w' : Nat} {d : D} {ds : List D} (h : Bd m k w d) (t : BdA m k w' ds) : BdA m k (w + 1 + w') (d :: ds) := by
  refine ⟨by simp [PyData.canLayAll0, h.can, t.can], ?_, ?_, fun i e he z => ?_⟩
  · have := h.dep; have := t.dep
    simp only [PyData.depthAll]; omega
  · have := h.wt; have := t.wt
    simp only [PyData.weightAll]; omega
  · rcases List.mem_cons.mp he with q | q
    · subst q; exact h.ins i z
    · exact t.ins i e q z
theorem can_app : ∀ {xs ys : List D}, PyData.canLayAll0 (xs ++ ys) = (PyData.canLayAll0 xs && PyData.canLayAll0 ys)
  | [], ys => by simp [PyData.canLayAll0]
  | x :: xs, ys => by simp [PyData.canLayAll0, can_app (xs := xs), Bool.and_assoc]
theorem dep_app : ∀ {xs ys : List D}, PyData.depthAll (xs ++ ys) = max (PyData.depthAll xs) (PyData.depthAll ys)
  | [], ys => by simp [PyData.depthAll]
  | x :: xs, ys => by
    simp only [List.cons_append, PyData.depthAll, dep_app (xs := xs)]
    omega
theorem wt_app : ∀ {xs ys : List D}, PyData.weightAll (xs ++ ys) = PyData.weightAll xs + PyData.weightAll ys
  | [], ys => by simp [PyData.weightAll]
  | x :: xs, ys => by
    simp only [List.cons_append, PyData.weightAll, wt_app (xs := xs)]
    omega
theorem BdA.app {m k w w' : Nat} {xs ys : List D} (h : BdA m k w xs) (t : BdA m k w' ys) : BdA m k (w + w') (xs ++ ys) := by
  refine ⟨by rw [can_app, h.can, t.can]; rfl, ?_, ?_, fun i e he z => ?_⟩
  · have := h.dep; have := t.dep
    rw [dep_app]; omega
  · have := h.wt; have := t.wt
    rw [wt_app]; omega
  · rcases List.mem_append.mp he with q | q
    · exact h.ins i e q z
    · exact t.ins i e q z
theorem BdA.split {m k w : Nat} {xs ys : List D} (h : BdA m k w (xs ++ ys)) : ∃ w1 w2, w1 + w2 = w ∧ BdA m k w1 xs ∧ BdA m k w2 ys := by
  have h1 := h.can
  have h2 := h.dep
  have h3 := h.wt
  rw [can_app, Bool.and_eq_true] at h1
  rw [dep_app] at h2
  rw [wt_app] at h3
  exact ⟨PyData.weightAll xs, w - PyData.weightAll xs, by omega, ⟨h1.1, by omega, Nat.le_refl _, fun i e he z => h.ins i e (List.mem_append_left _ he) z⟩,
    ⟨h1.2, by omega, by omega, fun i e he z => h.ins i e (List.mem_append_right _ he) z⟩⟩
theorem BdA.tup {m k w : Nat} {ds : List D} (h : BdA m k w ds) (hn : ds.length ≤ LB m) : Bd m (k + 1) w (.tuple ds) := by
  refine ⟨by simp only [PyData.canLay0]; exact h.can, ?_, ?_, fun i z => ?_⟩
  · have := h.dep; simp only [PyData.depth]; omega
  · have := h.wt; simp only [PyData.weight]; exact this
  · cases z with
    | tup he z => exact h.ins i _ he z
    | tupN => exact hn
theorem BdA.lst {m k w : Nat} {ds : List D} (h : BdA m k w ds) (hn : ds.length ≤ LB m) : Bd m (k + 1) w (.list ds) := by
  refine ⟨by simp only [PyData.canLay0]; exact h.can, ?_, ?_, fun i z => ?_⟩
  · have := h.dep; simp only [PyData.depth]; omega
  · have := h.wt; simp only [PyData.weight]; exact this
  · cases z with
    | lst he z => exact h.ins i _ he z
    | lstN => exact hn
theorem BdA.len {m k w : Nat} {ds : List D} (h : BdA m k w ds) : ds.length ≤ w := Nat.le_trans (wt_all (ds := ds)).2 h.wt
theorem Bd.sh {m k w : Nat} {d : D} (h : Bd m k w d) (hk : k ≤ 64) : SeqAt.shaped d = true := sh_of h.can (Nat.le_trans h.dep hk)
theorem Bd.th {m k w : Nat} {d : D} (h : Bd m k w d) (hk : k ≤ 64) (hw : w ≤ 300000) (hl : LB m ≤ 3000) : Th d := ⟨h.sh hk, Nat.le_trans h.wt hw, fun n z => Nat.le_trans (h.ins _ z) hl⟩
/-! ### one step -/
def wtI (n : Nat) : Nat := if n = 0 then 0 else n.log2 + 1
theorem wt_int (i : Int) : PyData.weight (.int i) = wtI i.natAbs := by
  simp only [PyData.weight, wtI]
  by_cases h : i = 0
  · subst h; rfl
  · have h2 : i.natAbs ≠ 0 := by omega
    have h3 : (i == 0) = false := by simpa using h
    rw [h3, if_neg h2]; rfl
theorem wtI_le {n k : Nat} : wtI n ≤ k ↔ n < 2 ^ k := by
  unfold wtI
  by_cases h : n = 0
  · subst h
    have := Nat.two_pow_pos k
    simp; exact this
  · rw [if_neg h]
    have := @Nat.log2_lt n k h
    omega
theorem bd_num {m k w : Nat} {i : Int} (h : i.natAbs < 2 ^ w) (hm : i.natAbs ≤ m) : Bd m k w (.int i) := by
  refine ⟨by simp [PyData.canLay0], by simp [PyData.depth], ?_, fun n z => ?_⟩
  · rw [wt_int, wtI_le]; exact h
  · cases z; exact hm
theorem bd_none {m k w : Nat} : Bd m k w .none := ⟨by simp [PyData.canLay0], by simp [PyData.depth], by simp [PyData.weight], fun _ z => nomatch z⟩
theorem strOk_tx {l : List Nat} : PyData.strOk (tx l) = true ↔ ∀ c ∈ l, c < 0x110000 := by
  unfold PyData.strOk tx
  rw [Array.all_eq_true']
  simp
theorem bd_str {m k w : Nat} {l : List Nat} (h : ∀ c ∈ l, c < 0x110000) (hl : l.length ≤ w) : Bd m k w (.str (tx l)) := by
  refine ⟨by simp only [PyData.canLay0]; exact strOk_tx.mpr h, by simp [PyData.depth], ?_, fun _ z => nomatch z⟩
  simp only [PyData.weight]
  have : (tx l).cps.size = l.length := by simp [tx]
  omega
theorem bd_word {m k w : Nat} {l : List Nat} (h : Wd l) (hw : 8 ≤ w) : Bd m k w (wS l) :=
  bd_str (fun c hc => by have := h.2.2 c hc; omega) (by have := h.2.1; omega)
/-! ### what may be shown -/
theorem shown_big {i : Int} (h : i.natAbs < 10 ^ 298) : (PyData.shown (.int i)).length ≤ 300 := by
  have e := int_text_length_le10 (k := 298) (by decide) h
  show (Str.ofString (toString i)).length ≤ 300
  rw [PySem.ofString_length]; omega
theorem big_log {n : Nat} (h : n < 10 ^ 298) : n.log2 < 1920 :=
  log2_lt (Nat.lt_of_lt_of_le h (by decide +kernel)) (by decide)
mutual
theorem ins_ok : ∀ d : D, PyData.canLay0 d = true → (∀ i : Int, Occ (.inl i) d → i.natAbs < 10 ^ 298) → PyData.intsShort 300 d = true ∧ PyData.showable d = true
  | .none, _, _ => ⟨by simp only [PyData.intsShort], by simp only [PyData.showable]⟩
  | .bool _, _, _ => ⟨by simp only [PyData.intsShort], by simp only [PyData.showable]⟩
  | .str _, _, _ => ⟨by simp only [PyData.intsShort], by simp only [PyData.showable]⟩
  | .int i, _, h => by
    have h1 := h i .int
    refine ⟨?_, ?_⟩
    · simp only [PyData.intsShort]; exact decide_eq_true (shown_big h1)
    · simp only [PyData.showable]; exact decide_eq_true (big_log h1)
  | .list ds, c, h => by
    simp only [PyData.canLay0] at c
    simp only [PyData.intsShort, PyData.showable]
    exact insAll_ok ds c fun i d hd z => h i (.lst hd z)
  | .tuple ds, c, h => by
    simp only [PyData.canLay0] at c
    simp only [PyData.intsShort, PyData.showable]
    exact insAll_ok ds c fun i d hd z => h i (.tup hd z)
  | .dict _, c, _ => by simp [PyData.canLay0] at c
theorem insAll_ok : ∀ ds : List D, PyData.canLayAll0 ds = true → (∀ i : Int, ∀ d ∈ ds, Occ (.inl i) d → i.natAbs < 10 ^ 298) → PyData.intsShortAll 300 ds = true ∧ PyData.showableAll ds = true
  | [], _, _ => ⟨by simp only [PyData.intsShortAll], by simp only [PyData.showableAll]⟩
  | d :: ds, c, h => by
    simp only [PyData.canLayAll0, Bool.and_eq_true] at c
    obtain ⟨a1, a2⟩ := ins_ok d c.1 fun i z => h i d (List.mem_cons_self ..) z
    obtain ⟨b1, b2⟩ := insAll_ok ds c.2 fun i e he z => h i e (List.mem_cons_of_mem _ he) z
    exact ⟨by simp only [PyData.intsShortAll, a1, b1, Bool.and_self], by simp only [PyData.showableAll, a2, b2, Bool.and_self]⟩
end
theorem Bd.ok {m k w : Nat} {d : D} (h : Bd m k w d) (hm : m < 10 ^ 298) (hk : k ≤ 64) (hw : w ≤ 50000) : reprOkB d = true := by
  obtain ⟨h1, h2⟩ := ins_ok d h.can fun i z => Nat.lt_of_le_of_lt (show i.natAbs ≤ m from h.ins (.inl i) z) hm
  have e1 : decide (PyData.depth d ≤ 64) = true := decide_eq_true (Nat.le_trans h.dep hk)
  have e2 : decide (PyData.weight d ≤ 2 ^ 20) = true := decide_eq_true (Nat.le_trans h.wt (Nat.le_trans hw (by decide)))
  have e3 : decide (PyData.weight d ≤ 50000) = true := decide_eq_true (Nat.le_trans h.wt hw)
  unfold reprOkB PyData.layable0
  rw [h.can, h1, h2, e1, e2, e3]
  rfl
/-! ### the odd things -/
theorem bd_lit {m k w : Nat} {x : Str} (h : PyData.strOk x = true ∧ x.cps.size ≤ w) : Bd m k w (.str x) :=
  ⟨by simp only [PyData.canLay0]; exact h.1, by simp [PyData.depth], by simp only [PyData.weight]; exact h.2, fun _ z => nomatch z⟩
theorem bda1 {m k w : Nat} {a : D} (h : Bd m k w a) : BdA m k (w + 1) [a] := BdA.cons h (BdA.nil (w := 0))
end Ck

/-! CkC: K04C.lean again. -/
namespace Ck
open PySem PySem.Spec PyProof.Rows L2 ML Dm Cg
def Rd (r : R) (e : D) : Prop := r = .val e ∨ ∃ ds, e = .list ds ∧ r = .new (.lst ds)
theorem cut_from {xs : List D} (n : Nat) : ML.cutD xs (some (n : Int)) none = xs.drop n := by
  unfold ML.cutD
  rw [HT.sIx_none, HT.sIx_nat]
  rw [List.take_of_length_le (by rw [List.length_drop]; omega)]
  by_cases h : n ≤ xs.length
  · rw [Nat.min_eq_left h]
  · rw [Nat.min_eq_right (by omega), List.drop_length, List.drop_of_length_le (by omega)]
theorem parts {ds : List D} {r : Int} (h0 : 0 ≤ r) (h1 : r ≤ ds.length) : ∃ pre post, ds = pre ++ post ∧ r = (pre.length : Int) := by
  obtain ⟨j, rfl⟩ := Int.eq_ofNat_of_zero_le h0
  refine ⟨ds.take j, ds.drop j, (List.take_append_drop j ds).symm, ?_⟩
  rw [List.length_take, Nat.min_eq_left (by omega)]
section
variable {n : Int} {s : Tp} {m k w : Nat}
end
section
variable {n : Int} {s : Tp} {m k w : Nat}
end
section
variable {m k w w1 w2 w3 : Nat}
theorem bda_all {ds : List D} (h : ∀ d ∈ ds, Bd m k w d) : BdA m k ((w + 1) * ds.length) ds := by
  induction ds with
  | nil => exact BdA.nil
  | cons d ds ih =>
    have q := BdA.cons (h d (List.mem_cons_self ..)) (ih fun e he => h e (List.mem_cons_of_mem _ he))
    refine q.mono (Nat.le_refl _) (Nat.le_refl _) ?_
    rw [List.length_cons, Nat.mul_succ]; omega
theorem bd_tri {a b c : D} (h1 : Bd m k w1 a) (h2 : Bd m k w2 b) (h3 : Bd m k w3 c) : Bd m (k + 1) (w1 + w2 + w3 + 3) (.tuple [a, b, c]) :=
  ((BdA.cons h1 (BdA.cons h2 (bda1 h3))).tup (Nat.le_trans (show 3 ≤ 60 by decide) (LB_pos _))).mono (Nat.le_refl _) (Nat.le_refl _) (by omega)
theorem bda_words {ws : List (List Nat)} (h : ∀ v ∈ ws, Wd v) (j : Nat) (hj : ws.length ≤ j) : BdA m 0 (9 * j) (ws.map wS) := by
  have := bda_all (m := m) (k := 0) (w := 8) (ds := ws.map wS) fun d hd => by
    obtain ⟨v, hv, rfl⟩ := List.mem_map.mp hd
    exact bd_word (h v hv) (Nat.le_refl _)
  refine this.mono (Nat.le_refl _) (Nat.le_refl _) ?_
  rw [List.length_map]
  exact Nat.mul_le_mul_left _ hj
end
theorem thousand {m : Nat} (hm : 10 ^ 199 ≤ m) : 1000 ≤ m := Nat.le_trans (by decide +kernel) hm
theorem bd_few {m k : Nat} {i : Int} (hm : 10 ^ 199 ≤ m) (h : i.natAbs ≤ 1000) : Bd m k 10 (.int i) :=
  bd_num (by have : (2 : Nat) ^ 10 = 1024 := rfl; omega) (Nat.le_trans h (thousand hm))

end Ck

/-! CkD: K04D.lean again. -/
namespace Ck
open PySem PySem.Spec PyProof.Rows L2 ML Dm Cg
def pairB : D → Bool
  | .tuple [w, _] => isW w
  | _ => false
def wdL : D → List Nat
  | .tuple (.str x :: _) => x.cps.toList
  | _ => []
def chainB (l : List (List Nat)) : Bool := (l.zip l.tail).all fun p => decide (p.1 < p.2)
def pairsB : D → Bool
  | .tuple ds => !ds.isEmpty && (ds.all pairB && chainB (ds.map wdL))
  | _ => false
theorem pairB_of {d : D} (h : pairB d = true) : ∃ x a, d = .tuple [.str x, a] := by
  unfold pairB at h
  split at h
  · rename_i w a
    cases w with
    | str x => exact ⟨x, a, rfl⟩
    | _ => simp [isW] at h
  · cases h
theorem usort_mem {xs : List Str} {y : Str} : y ∈ HT.usortT xs ↔ y ∈ xs := by
  unfold HT.usortT
  rw [(List.mergeSort_perm (HT.uniqT xs) HT.leT).mem_iff, HT.uniqT_mem]
end Ck

/-! CkE: K04E.lean again. -/
namespace Ck
open PySem PySem.Spec PyProof.Rows L2 ML Dm Cg
/-! ### names -/
abbrev Os := List (List Nat × Int)
def inNm (os : Os) : D → Bool
  | .str x => decide (x ∈ os.map fun o => tx o.1)
  | _ => false
def txsOf (ds : List D) : List Str := ds.filterMap fun d => match d with
  | .str x => some x
  | _ => none
def nd (ds : List D) : Bool := decide (HT.dcount (txsOf ds) (txsOf ds).length = ds.length)
def awB (os : Os) : D → Bool
  | .tuple ds => !ds.isEmpty && (ds.all fun e => isW e && inNm os e) && nd ds
  | _ => false
def kB (os : Os) : B := .mu (.dK (kvO os))
def szD (os : Os) : D → Int
  | .str x => szOf os x.cps.toList
  | _ => 0
theorem lk_sz {os : Os} {e : D} (h1 : isW e = true) (h2 : inNm os e = true) : ∃ x, e = .str x ∧ lkD (kvO os) (.inr x) = some (.int (szD os e)) := by
  cases e with
  | str x =>
    refine ⟨x, rfl, ?_⟩
    have h2 : decide (x ∈ os.map fun o => tx o.1) = true := h2
    obtain ⟨o, ho, e⟩ := List.mem_map.mp (of_decide_eq_true h2)
    have hm : x.cps.toList ∈ os.map (·.1) := by
      rw [← e, tx_list]
      exact List.mem_map_of_mem ho
    have := (lk_objs hm).1
    rw [← tx_of x] at this
    exact this
  | _ => simp [isW] at h1
def pickB (n : Nat) : D → Bool
  | .int i => decide (0 ≤ i) && decide (i < (n : Int))
  | _ => true
def ixB (os : Os) (ds : List D) : D → Bool
  | .int i => ds.all fun e => decide (0 ≤ i) && decide (i < szD os e)
  | _ => true
def items : D → List D
  | .tuple ds => ds
  | _ => []
def withB (os : Os) (ds : List D) (p x : D) : Bool := pickB ds.length p && ixB os ds x
def iaB (os : Os) : D → Bool
  | .tuple [w, p, x] => awB os w && ((isN p || isW p) && ((isN x || isW x) && withB os (items w) p x))
  | _ => false
theorem at3_0 (w p x : D) : atI [w, p, x] 0 = some w := rfl
theorem at3_1 (w p x : D) : atI [w, p, x] 1 = some p := rfl
theorem at3_2 (w p x : D) : atI [w, p, x] 2 = some x := rfl
theorem szOf_mem : ∀ {os : Os}, (os.map (·.1)).Nodup → ∀ o ∈ os, szOf os o.1 = o.2
  | [], _, o, ho => by cases ho
  | p :: os, nd, o, ho => by
    rw [List.map_cons, List.nodup_cons] at nd
    rcases List.mem_cons.mp ho with z | z
    · subst z; simp [szOf]
    · have hne : p.1 ≠ o.1 := fun e => nd.1 (e ▸ List.mem_map_of_mem z)
      have := szOf_mem nd.2 o z
      simp [szOf, hne] at this ⊢
      exact this
end Ck

/-! CkF: K04F.lean again. -/
namespace Ck
open PySem PySem.Spec PyProof.Rows L2 ML Dm Cg
def opB : D → Bool
  | .str x => ([.str "+", .str "-", .str "*", .str "<"] : List D).any fun z => PyData.eqv z (.str x)
  | _ => false
def calB (nm : List D) : D → Bool
  | .str x => (nm.any fun z => PyData.eqv z (.str x)) && !(x == "main")
  | _ => false
/-- what a sort asks of a part -/
inductive Srt where
  | n | o | a | w | r
def chk (os : Os) (nm : List D) : Srt → D → Bool
  | .n, p => isW p
  | .o, p => isN p || isW p
  | .a, p => iaB os p
  | .w, p => opB p
  | .r, p => calB nm p
section
variable {os : Os} {nm : List D} {ps : List D}
end
section
variable {os : Os} {nm : List D} {ps : List D}
/-! ### the law's own -/
def rwE (os : Os) (nm : List D) (d tb : D) (j4 j5 j6 j7 : Option D) (b3 : Option B) : En := [some (.val (objsD os)), some (.mu (.lst nm)), some (.val d), b3, jk j4, jk j5, jk j6, jk j7]
end
section
variable {os : Os} {nm : List D} {ps : List D}
theorem loopL_step {np : Nat} {tg : Tg} {body : FS} {d : D} {ds : List D} {env e1 e2 : En} (h1 : setT np tg d env = some e1) (h2 : body e1 = some (.nx, e2)) : loopL (fun d e => (setT np tg d e).bind body) (d :: ds) env = loopL (fun d e => (setT np tg d e).bind body) ds e2 := by
  rw [v_loopL_cons, h1, Option.bind_some, h2]
  rfl
end

end Ck

/-! CkG: K04G.lean again. -/
namespace Ck
open PySem PySem.Spec PyProof.Rows L2 ML Dm Cg
theorem flt_tt {α : Type} (l : List α) : l.filter (fun _ => true) = l := by simp
theorem cut2 {x y : D} {xs : List D} : ML.cutD (x :: y :: xs) (some 2) none = xs := by
  have := cut_from (xs := x :: y :: xs) 2
  simpa using this
theorem at1 (x y : D) (xs : List D) : atI (x :: y :: xs) 1 = some y := atI_get (by omega) rfl
end Ck

/-! CkH: K04H.lean again. -/
namespace Ck
open PySem PySem.Spec PyProof.Rows L2 ML Dm Cg
def fstD : D → D
  | .tuple (x :: _) => x
  | _ => .none
section
variable {os : Os} {nm : List D}
theorem nd01 : ([0, 1] : List Nat).Nodup := by decide
/-! ### is_code -/
def iE (os : Os) (nm : List D) (d : D) (j3 j4 : Option D) : En := [some (.val d), some (kB os), some (.mu (.lst nm)), jk j3, jk j4, none]
end

end Ck

/-! CkI: K04I.lean again. -/
namespace Ck
open PySem PySem.Spec PyProof.Rows L2 ML Dm Cg
theorem names_of (o : D) (ds : List D) (hp : ∀ p ∈ ds, pairB p = true) (hl : ds.length ≤ 3000) :
    LC_is_code_1 [some (.val (.tuple [o, .tuple ds])), none, none, none, none, none] = some (.new (.lst (ds.map fstD)), [some (.val (.tuple [o, .tuple ds])), none, none, none, none, none]) := by
  unfold LC_is_code_1
  refine (eLc_of (env1 := [some (.val (.tuple [o, .tuple ds])), none, none, none, none, none]) (src := none) ds id (fun _ => true) fstD ?_ rfl (fun x hx => ?_) (by omega)).trans ?_
  · have a1 : atI [o, PyData.tuple ds] 1 = some (.tuple ds) := rfl
    simp_all_arith! [List.map_id, a1]
  · obtain ⟨w, a, rfl⟩ := pairB_of (hp x hx)
    have e : fstD (.tuple [.str w, a]) = .str w := rfl
    simp_all_arith! [v_lcS, tTrue, id, e]
  · rw [flt_tt]; rfl
theorem pairs_of {ds : List D} (h : pairsB (.tuple ds) = true) : ∀ p ∈ ds, pairB p = true := by
  have h2 : (!ds.isEmpty && (ds.all pairB && chainB (ds.map wdL))) = true := h
  rw [Bool.and_eq_true, Bool.and_eq_true] at h2
  exact List.all_eq_true.mp h2.2.1
end Ck

/-! CkJ: F02D.lean again. -/
namespace Ck
open PySem PySem.Spec PyProof.Rows L2 ML Dm Cg
section
variable {R : D}
def cA (os : Os) (R : D) : D := .tuple [objsD os, R]
end

end Ck

/-! CkK: F02F.lean again. -/
namespace Ck
open PySem PySem.Spec PyProof.Rows L2 ML Dm Cg
section
variable {R : D}
theorem rg_len (n : Int) : (rangeD 0 n).length = n.toNat := by simp [rangeD]
end

end Ck

/-! CkL: F02G.lean again. -/
namespace Ck
open PySem PySem.Spec PyProof.Rows L2 ML Dm Cg
section
variable {R : D}
theorem w_wS (w : List Nat) : PyData.weight (wS w) = w.length := by
  unfold wS
  simp only [PyData.weight]
  exact tx_len w
theorem th_w {w : List Nat} (h : Wd w) : Th (wS w) := by
  refine ⟨sh_word h.2.2, ?_, fun n z => nomatch z⟩
  have := h.2.1
  have := w_wS w
  omega
theorem isW_of {w : List Nat} (h : Wd w) : isW (wS w) = true := by
  obtain ⟨h1, h2, h3⟩ := h
  show (decide (1 ≤ (tx w).length ∧ (tx w).length ≤ 8) && lwB (tx w).cps.toList) = true
  rw [tx_len, tx_list, decide_eq_true ⟨h1, h2⟩, Bool.true_and]
  unfold lwB
  exact List.all_eq_true.mpr fun c hc => decide_eq_true (h3 c hc)
/-- a place of an address, as it is drawn -/
inductive Plc : D → Bool → Prop where
  | num (i : Int) : 0 ≤ i → i < 5 → Plc (.int i) false
  | word (w : List Nat) : Wd w → Plc (wS w) true
theorem szOf_le {os : Os} (ok : ∀ o ∈ os, o.2 ≤ 4) : ∀ {w}, w ∈ os.map (·.1) → szOf os w ≤ 4 := by
  intro w hw
  induction os with
  | nil => cases hw
  | cons o os ih =>
    unfold szOf
    by_cases e : o.1 = w
    · simp [e]; exact ok o (List.mem_cons_self ..)
    · have hw' : w ∈ os.map (·.1) := by
        rw [List.map_cons] at hw
        rcases List.mem_cons.mp hw with z | z
        · exact absurd z.symm e
        · exact z
      have := ih (fun p hp => ok p (List.mem_cons_of_mem _ hp)) hw'
      unfold szOf at this
      simp [e] at this ⊢
      exact this
theorem plc_pick {os : Os} {som : List (List Nat)} {p x : D} (h : AdrOk os som p x) : ∃ b, Plc p b := by
  have h4 := h.len
  rcases h.pick with ⟨i, rfl, h0, h1⟩ | ⟨w, hw, rfl⟩
  · exact ⟨_, .num i h0 (by omega)⟩
  · exact ⟨_, .word _ hw⟩
theorem plc_index {os : Os} (ok : ObjsOk os) {som : List (List Nat)} {p x : D} (h : AdrOk os som p x) : ∃ b, Plc x b := by
  rcases h.index with ⟨i, rfl, h0, h1⟩ | ⟨w, hw, rfl⟩
  · obtain ⟨w, hw⟩ := List.exists_mem_of_length_pos h.pos
    have a := h1 w hw
    have b := szOf_le (fun o ho => (ok.size o ho).2) (h.sub w hw)
    exact ⟨_, .num i h0 (by omega)⟩
  · exact ⟨_, .word _ hw⟩
theorem Plc.w {d : D} {b : Bool} (h : Plc d b) : isW d = b := by
  cases h with
  | num i _ _ => rfl
  | word w h => exact isW_of h
theorem Plc.n {d : D} {b : Bool} (h : Plc d b) : isN d = !b := by
  cases h with
  | num i _ _ => rfl
  | word w h => rfl
theorem Plc.th {d : D} {b : Bool} (h : Plc d b) : Th d := by
  cases h with
  | num i h0 h1 =>
    refine ⟨sh_int i, ?_, fun n z => nomatch z⟩
    obtain ⟨n, rfl⟩ := Int.eq_ofNat_of_zero_le h0
    have hn : n < 5 := by omega
    match n, hn with
    | 0, _ => decide +kernel
    | 1, _ => decide +kernel
    | 2, _ => decide +kernel
    | 3, _ => decide +kernel
    | 4, _ => decide +kernel
  | word w h => exact th_w h
end

end Ck

/-! CkM: F02H.lean again. -/
namespace Ck
open PySem PySem.Spec PyProof.Rows L2 ML Dm Cg
section
variable {R : D}
def kpB (x d : D) : Bool := PyData.eqv d x || isW x
def celW (os : Os) (x : D) (w : List Nat) : List D := ((rangeD 0 (szOf os w)).filter (kpB x)).map fun d => .tuple [wS w, d]
theorem rg_int {n : Int} {d : D} (h : d ∈ rangeD 0 n) : ∃ i : Int, d = .int i ∧ 0 ≤ i ∧ i < n := by
  unfold rangeD at h
  obtain ⟨k, hk, rfl⟩ := List.mem_map.mp h
  have := List.mem_range.mp hk
  exact ⟨_, rfl, by omega, by omega⟩
theorem lk_w {os : Os} {w : List Nat} (hw : w ∈ os.map (·.1)) (h : Wd w) : lkD (kvO os) (.inr (tx w)) = some (.int (szOf os w)) := by
  have hi : inNm os (wS w) = true := by
    show decide (tx w ∈ os.map fun o => tx o.1) = true
    obtain ⟨o, ho, rfl⟩ := List.mem_map.mp hw
    exact decide_eq_true (List.mem_map.mpr ⟨o, ho, rfl⟩)
  obtain ⟨x, e, q⟩ := lk_sz (isW_of h) hi
  cases e
  have : szD os (wS w) = szOf os w := by
    show szOf os (tx w).cps.toList = _
    rw [tx_list]
  rw [this] at q
  exact q
theorem sz_pos {os : Os} (ok : ObjsOk os) {w : List Nat} (hw : w ∈ os.map (·.1)) : 1 ≤ szOf os w ∧ szOf os w ≤ 4 := by
  obtain ⟨o, ho, rfl⟩ := List.mem_map.mp hw
  rw [szOf_mem ok.nodup o ho]
  exact ok.size o ho
theorem face_lc (os : Os) (ok : ObjsOk os) (c0 a1 t3 p4 : B) (acc : List D) {x : D} {c : Bool} (hx : Plc x c) {w : List Nat} (hw : w ∈ os.map (·.1)) (hd : Wd w) :
    LC_face_1 [some c0, some a1, some (kB os), some t3, some p4, some (.val x), some (.mu (.lst acc)), some (.val (wS w)), none] = some (.new (.lst (celW os x w)), [some c0, some a1, some (kB os), some t3, some p4, some (.val x), some (.mu (.lst acc)), some (.val (wS w)), none]) := by
  obtain ⟨z1, z2⟩ := sz_pos ok hw
  have hr : rgI (szOf os w) = true := by simp [rgI]; omega
  have hl : (rangeD 0 (szOf os w)).length ≤ 1000000 := by rw [rg_len]; omega
  have lk := lk_w hw hd
  have q := word_spec x hx.th
  rw [hx.w] at q
  unfold LC_face_1
  have := eLc_of (np := 2) (own := [8]) (fi := iRng1 (e2 gIx (eV 2) (eV 7))) (t := .nm 8) (tst := fOr (rB (e2 (gEqA false) (eC 8) (eV 5))) (rB (eCall 1 F_is_word [] (aCons (eV 5) aNil)))) (elt := eTup (aCons (eV 7) (aCons (eC 8) aNil)))
    (env := [some c0, some a1, some (kB os), some t3, some p4, some (.val x), some (.mu (.lst acc)), some (.val (wS w)), none]) (env1 := [some c0, some a1, some (kB os), some t3, some p4, some (.val x), some (.mu (.lst acc)), some (.val (wS w)), none]) (src := none)
    (rangeD 0 (szOf os w)) id (kpB x) (fun d => .tuple [wS w, d]) (by unfold kB wS; simp_all_arith! [List.map_id, lk, hr]) rfl (fun d hd => by
      obtain ⟨i, rfl, i0, i1⟩ := rg_int hd
      unfold kB
      cases hx with
      | num j j0 j1 =>
        have ek : kpB (.int j) (.int i) = decide (i = j) := by unfold kpB; rw [eqv_int]; simp [isW]
        rw [ek]
        by_cases e : i = j
        · simp_all_arith! [id, v_lcS, sh_int, eqv_int, e, decide_eq_true (rfl : j = j)]
        · simp_all_arith! [id, v_lcS, sh_int, eqv_int, decide_eq_false e, q]
      | word v hv =>
        have ek : kpB (wS v) (.int i) = true := by unfold kpB; rw [isW_of hv, Bool.or_true]
        have e0 : PyData.eqv (.int i) (wS v) = false := by unfold wS; simp [PyData.eqv]
        have e1 := (th_w hv).sh
        rw [ek]
        simp_all_arith! [id, v_lcS, sh_int, e0, e1, q]) hl
  rw [this]
  rfl
end

end Ck

/-! CkN: F02I.lean again. -/
namespace Ck
open PySem PySem.Spec PyProof.Rows L2 ML Dm Cg
section
variable {R : D}
/-- the words whose cells are looked at -/
def fcW (som : List (List Nat)) : D → List (List Nat)
  | .int i => (som[i.toNat]?).toList
  | _ => som
def fE (R : D) (os : Os) (som : List (List Nat)) (p x : D) (acc : List D) (j7 : Option D) : En :=
  [some (.val (cA os R)), some (.val (aD som p x)), some (kB os), some (.val (.tuple (som.map wS))), some (.val p), some (.val x), some (.mu (.lst acc)), jk j7, none]
def celF (os : Os) (x : D) (ws : List (List Nat)) : List D := ws.flatMap (celW os x)
theorem celW_len {os : Os} (ok : ObjsOk os) {x : D} {w : List Nat} (hw : w ∈ os.map (·.1)) : (celW os x w).length ≤ 4 := by
  have := (sz_pos ok hw).2
  unfold celW
  rw [List.length_map]
  refine Nat.le_trans (List.length_filter_le ..) ?_
  rw [rg_len]
  omega
theorem celF_len {os : Os} (ok : ObjsOk os) {x : D} : ∀ {ws : List (List Nat)}, (∀ w ∈ ws, w ∈ os.map (·.1)) → (celF os x ws).length ≤ 4 * ws.length
  | [], _ => Nat.le_refl _
  | w :: ws, h => by
    have h1 := celW_len ok (x := x) (h w (List.mem_cons_self ..))
    have h2 := celF_len ok (x := x) (ws := ws) fun p hp => h p (List.mem_cons_of_mem _ hp)
    unfold celF at h2 ⊢
    rw [List.flatMap_cons, List.length_append, List.length_cons]
    omega
theorem wd_of {os : Os} (ok : ObjsOk os) {w : List Nat} (hw : w ∈ os.map (·.1)) : Wd w := by
  obtain ⟨o, ho, rfl⟩ := List.mem_map.mp hw
  exact ok.wd o ho
theorem fcW_sub {som : List (List Nat)} {p : D} : ∀ w ∈ fcW som p, w ∈ som := by
  intro w hw
  unfold fcW at hw
  split at hw
  · rename_i i
    exact List.mem_of_getElem? (by simpa using hw)
  · exact hw
theorem face_loop (os : Os) (ok : ObjsOk os) {som : List (List Nat)} {p x : D} (A : AdrOk os som p x) :
    ∃ j7, LF_face_3 (fE R os som p x [] none) = some (.nx, fE R os som p x (celF os x (fcW som p)) j7) := by
  obtain ⟨b, hp⟩ := plc_pick A
  obtain ⟨c, hx⟩ := plc_index ok A
  have h4 := A.len
  have hsub : ∀ w ∈ fcW som p, w ∈ os.map (·.1) := fun w hw => A.sub w (fcW_sub w hw)
  have hfl : (fcW som p).length ≤ 4 := by
    unfold fcW
    split
    · rename_i i
      cases som[i.toNat]? <;> simp
    · exact h4
  have qn := number_spec p
  rw [hp.n] at qn
  refine Exists.elim (sFor_list (np := 2) (fi := iSeq (eIf (rB (eCall 1 F_is_number [] (aCons (eV 4) aNil))) (eTup (aCons (e2 gIx (eV 3) (eV 4)) aNil)) (eV 3))) (t := .nm 7) (body := BF_face_2) (env := fE R os som p x [] none) (env1 := fE R os som p x [] none) (src := none)
    (fcW som p) wS (fun left env => ∃ (done : List (List Nat)) (j7 : Option D), env = fE R os som p x (celF os x done) j7 ∧ done ++ left = fcW som p) ?fhi ?fp ?fh) ?ffin
  case fhi =>
    rcases A.pick with ⟨i, rfl, h0, h1⟩ | hw
    · have hb : b = false := by cases hp; rfl
      subst hb
      have hi : i.toNat < som.length := by omega
      have e : som[i.toNat]? = some som[i.toNat] := List.getElem?_eq_getElem hi
      have ea : atI (som.map wS) i = some (wS som[i.toNat]) := atI_get h0 (by rw [List.getElem?_map, e]; rfl)
      have ef : fcW som (.int i) = [som[i.toNat]] := by simp [fcW, e]
      rw [ef]
      unfold fE kB
      simp_all_arith! [jk_none, qn, Bool.not_false, ea, List.map_cons, List.map_nil]
    · have hb : b = true := by
        obtain ⟨w, hw, rfl⟩ := hw
        cases hp; rfl
      subst hb
      have ef : fcW som p = som := by obtain ⟨w, hw, rfl⟩ := hw; rfl
      rw [ef]
      unfold fE kB
      simp_all_arith! [jk_none, qn, Bool.not_true]
  case fp => exact ⟨[], none, rfl, rfl⟩
  case fh =>
    rintro w left env ⟨done, j7, rfl, e⟩
    have hw : w ∈ fcW som p := by rw [← e]; simp
    have hd : ∀ v ∈ done, v ∈ os.map (·.1) := fun v hv => hsub v (by rw [← e]; simp [hv])
    have hle := congrArg List.length e
    simp at hle
    have hl1 := celF_len ok (x := x) hd
    have hl2 := celW_len ok (x := x) (hsub w hw)
    have q := face_lc os ok (.val (cA os R)) (.val (aD som p x)) (.val (.tuple (som.map wS))) (.val p) (celF os x done) hx (hsub w hw) (wd_of ok (hsub w hw))
    have hl : (celF os x done).length + (celW os x w).length ≤ 1000000 := by omega
    have ea : celF os x (done ++ [w]) = celF os x done ++ celW os x w := by unfold celF; simp
    refine ⟨fE R os som p x (celF os x done) (some (wS w)), fE R os som p x (celF os x done ++ celW os x w) (some (wS w)), ?_, ?_, done ++ [w], some (wS w), by rw [ea], by simpa using e⟩
    · unfold fE
      simp_all_arith! [jk_some, isLk_jk]
    · unfold fE
      simp only [jk_some]
      simp_all_arith! [BF_face_2, q, hl]
  case ffin =>
    rintro env' ⟨q1, done, j7, rfl, e⟩
    simp at e
    subst e
    exact ⟨j7, q1⟩
end

end Ck

/-! CkO: F02J.lean again. -/
namespace Ck
open PySem PySem.Spec PyProof.Rows L2 ML Dm Cg
section
variable {R : D}
def isCl (d : D) : Prop := ∃ (w : List Nat) (i : Int), d = .tuple [wS w, .int i]
theorem celW_c {os : Os} {x : D} {w : List Nat} : ∀ d ∈ celW os x w, isCl d := by
  intro d hd
  unfold celW at hd
  obtain ⟨e, he, rfl⟩ := List.mem_map.mp hd
  obtain ⟨i, rfl, _⟩ := rg_int ((List.mem_filter.mp he).1)
  exact ⟨w, i, rfl⟩
theorem celF_c {os : Os} {x : D} {ws : List (List Nat)} : ∀ d ∈ celF os x ws, isCl d := by
  intro d hd
  obtain ⟨w, _, h⟩ := List.mem_flatMap.mp hd
  exact celW_c d h
theorem sortOk_c {ds : List D} (h : ∀ d ∈ ds, isCl d) (hl : ds.length ≤ 1000) : sortOk ds = true := by
  unfold sortOk
  rw [Bool.and_eq_true, Bool.and_eq_true, Bool.and_eq_true, Bool.or_eq_true, List.all_eq_true, List.all_eq_true, List.all_eq_true, List.all_eq_true]
  refine ⟨⟨⟨fun d hd => List.all_eq_true.mpr fun e he => ?_, .inl fun d hd => ?_⟩, fun d hd => ?_⟩, decide_eq_true (sl_le (by omega))⟩
  · obtain ⟨a, i, rfl⟩ := h d hd
    obtain ⟨b, j, rfl⟩ := h e he
    rfl
  · obtain ⟨a, i, rfl⟩ := h d hd
    rfl
  · obtain ⟨a, i, rfl⟩ := h d hd
    exact decide_eq_true (by simp [wS, PyData.depth, PyData.depthAll])
theorem sortL_c {env : En} {ds : List D} (h : ∀ d ∈ ds, isCl d) (hl : ds.length ≤ 1000) : sortL env ds = some (.new (.lst (sortD ds)), env) := by
  have ho := sortOk_c h hl
  cases ds with
  | nil => simp [sortL, sortD, intsOf, isort]
  | cons d ds =>
    obtain ⟨a, i, rfl⟩ := h d (List.mem_cons_self ..)
    have e : intsOf ((.tuple [wS a, .int i] : D) :: ds) = none := rfl
    unfold sortL
    rw [e]
    simp only [ho, ↓reduceIte]
def faD (os : Os) (som : List (List Nat)) (p x : D) : List D := sortD (celF os x (fcW som p))
theorem face_spec (os : Os) (ok : ObjsOk os) {som : List (List Nat)} {p x : D} (A : AdrOk os som p x) :
    F_face [.val (cA os R), .val (aD som p x)] = some (.val (.tuple (faD os som p x)), [.val (cA os R), .val (aD som p x)]) := by
  obtain ⟨j7, lf⟩ := face_loop (R := R) os ok A
  have h4 := A.len
  have hsub : ∀ w ∈ fcW som p, w ∈ os.map (·.1) := fun w hw => A.sub w (fcW_sub w hw)
  have hfl : (fcW som p).length ≤ 4 := by
    unfold fcW
    split
    · rename_i i
      cases som[i.toNat]? <;> simp
    · exact h4
  have hl := celF_len ok (x := x) hsub
  have hs : ∀ env, sortL env (celF os x (fcW som p)) = some (.new (.lst (faD os som p x)), env) := fun env => sortL_c celF_c (by omega)
  have hl2 : (faD os som p x).length ≤ 1000000 := by
    unfold faD sortD
    rw [List.length_mergeSort]
    omega
  have hp := pairsOf_objs os
  have hd := dict_objs ok.nodup
  unfold fE kB at lf
  simp only [jk_none] at lf
  unfold cA objsD aD at lf ⊢
  simp_all_arith! [F_face, hp, hd, lf, hs, hl2]
end
end Ck

/-! CkP: F04N.lean again. -/
namespace Ck
open PySem PySem.Spec PyProof.Rows L2 ML Dm Cg
theorem l60 {n m : Nat} (h : n ≤ 60) : n ≤ LB m := Nat.le_trans h (LB_pos m)
section
variable {os : Os} {som : List (List Nat)} {p x : D} {m : Nat}
theorem pick_bd (A : AdrOk os som p x) (hm : 10 ^ 199 ≤ m) : Bd m 0 10 p := by
  have := A.len
  rcases A.pick with ⟨i, rfl, h0, h1⟩ | ⟨w, hw, rfl⟩
  · exact bd_few hm (by omega)
  · exact bd_word hw (by omega)
theorem index_bd (ok : ObjsOk os) (A : AdrOk os som p x) (hm : 10 ^ 199 ≤ m) : Bd m 0 10 x := by
  rcases A.index with ⟨i, rfl, h0, h1⟩ | ⟨w, hw, rfl⟩
  · refine bd_few hm ?_
    obtain ⟨v, hv⟩ := List.exists_mem_of_length_pos A.pos
    have h2 := h1 v hv
    obtain ⟨o, ho, e⟩ := List.mem_map.mp (A.sub v hv)
    have h3 := szOf_mem ok.nodup o ho
    rw [e] at h3
    have := (ok.size o ho).2
    omega
  · exact bd_word hw (by omega)
theorem som_wd (ok : ObjsOk os) (A : AdrOk os som p x) : ∀ v ∈ som, Wd v := fun v hv => wd_of ok (A.sub v hv)
theorem adr_bd (ok : ObjsOk os) (A : AdrOk os som p x) (hm : 10 ^ 199 ≤ m) : Bd m 2 80 (aD som p x) :=
  (bd_tri ((bda_words (som_wd ok A) 4 A.len).tup (l60 (by rw [List.length_map]; have := A.len; omega))) ((pick_bd A hm).mono (k' := 1) (Nat.le_refl _) (by omega) (Nat.le_refl _)) ((index_bd ok A hm).mono (k' := 1) (Nat.le_refl _) (by omega) (Nat.le_refl _))).mono (Nat.le_refl _) (Nat.le_refl _) (by omega)
end
section
variable {m k : Nat}
theorem opd_bd (hm : 10 ^ 199 ≤ m) {d : D} (h : Opd d) : Bd m k 21 d := by
  cases h with
  | num i h0 h1 =>
    have : (2 : Nat) ^ 21 = 2097152 := rfl
    have t : (1000000 : Nat) ≤ 10 ^ 199 := by decide +kernel
    exact bd_num (by omega) (by omega)
  | word v hv => exact bd_word hv (by omega)
theorem nm_bd {w : List Nat} (h : Wd w) : Bd m k 8 (wS w) := bd_word h (Nat.le_refl _)
theorem row_bd {os : Os} (ok : ObjsOk os) {called : List (List Nat)} (hc : ∀ w ∈ called, Wd w) (hm : 10 ^ 199 ≤ m) {d : D} (h : RowOk os called d) : Bd m 3 120 d := by
  have t : ∀ {x : Str}, PyData.strOk x = true ∧ x.cps.size ≤ 8 → Bd m 2 8 (.str x) := fun h => bd_lit h
  have f : ∀ {ds : List D} {w : Nat}, BdA m 2 w ds → w ≤ 120 → ds.length ≤ 60 → Bd m 3 120 (.tuple ds) := fun h hw hl => (h.tup (l60 hl)).mono (Nat.le_refl _) (Nat.le_refl _) hw
  cases h with
  | load nm som p x h1 A => exact f (BdA.cons (t (by decide +kernel)) (BdA.cons (nm_bd h1) (bda1 (adr_bd ok A hm)))) (by omega) (by simp)
  | store som p x o A ho => exact f (BdA.cons (t (by decide +kernel)) (BdA.cons (adr_bd ok A hm) (bda1 (opd_bd hm ho)))) (by omega) (by simp)
  | touch som p x A => exact f (BdA.cons (t (by decide +kernel)) (bda1 (adr_bd ok A hm))) (by omega) (by simp)
  | set nm sg a b h1 h2 ha hb =>
    have hs : Bd m 2 8 (.str sg) := by rcases h2 with rfl | rfl | rfl | rfl <;> exact bd_lit (by decide +kernel)
    exact f (BdA.cons (t (by decide +kernel)) (BdA.cons (nm_bd h1) (BdA.cons hs (BdA.cons (opd_bd hm ha) (bda1 (opd_bd hm hb)))))) (by omega) (by simp)
  | tell o ho => exact f (BdA.cons (t (by decide +kernel)) (bda1 (opd_bd hm ho))) (by omega) (by simp)
  | need o ho => exact f (BdA.cons (t (by decide +kernel)) (bda1 (opd_bd hm ho))) (by omega) (by simp)
  | call w hw => exact f (BdA.cons (t (by decide +kernel)) (bda1 (bd_word (hc w hw) (Nat.le_refl _)))) (by omega) (by simp)
theorem end_bd (hm : 10 ^ 199 ≤ m) {g : Gd} (h1 : ∀ c ∈ g.outs, 0 ≤ c ∧ c < 7) (h2 : ∀ op a b, g = .iff op a b → Opd op) : Bd m 3 120 (Gd.d g) := by
  have t : ∀ {x : Str}, PyData.strOk x = true ∧ x.cps.size ≤ 8 → Bd m 2 8 (.str x) := fun h => bd_lit h
  have f : ∀ {ds : List D} {w : Nat}, BdA m 2 w ds → w ≤ 120 → ds.length ≤ 60 → Bd m 3 120 (.tuple ds) := fun h hw hl => (h.tup (l60 hl)).mono (Nat.le_refl _) (Nat.le_refl _) hw
  cases g with
  | go a =>
    have ha := h1 a (by simp [Gd.outs])
    exact f (BdA.cons (t (by decide +kernel)) (bda1 (bd_few hm (by omega)))) (by omega) (by simp)
  | iff op a b =>
    have ha := h1 a (by simp [Gd.outs])
    have hb := h1 b (by simp [Gd.outs])
    exact f (BdA.cons (t (by decide +kernel)) (BdA.cons (opd_bd hm (h2 _ _ _ rfl)) (BdA.cons (bd_few hm (by omega)) (bda1 (bd_few hm (by omega)))))) (by omega) (by simp)
  | back => exact f (bda1 (t (by decide +kernel))) (by omega) (by simp)
theorem all_le {ds : List D} {w j k : Nat} (h : ∀ d ∈ ds, Bd m k w d) (hl : ds.length ≤ j) : BdA m k ((w + 1) * j) ds :=
  (bda_all h).mono (Nat.le_refl _) (Nat.le_refl _) (Nat.mul_le_mul_left _ hl)
variable {os : Os} {called : List (List Nat)} {rts : List (List Nat × Gr)}
theorem rows_bd (ok : ObjsOk os) (hc : ∀ w ∈ called, Wd w) (hm : 10 ^ 199 ≤ m) {rs : List D} (h : ∀ r ∈ rs, RowOk os called r) (hl : rs.length ≤ 6) : BdA m 3 726 rs := all_le (fun d hd => row_bd ok hc hm (h d hd)) hl
theorem blk_bd (ok : ObjsOk os) (hc : ∀ w ∈ called, Wd w) (hm : 10 ^ 199 ≤ m) {mm : Int} (hmm : mm ≤ 7) {g : D × Gd} (h : BlkOk os called mm g) : Bd m 5 848 (blkD g) := by
  obtain ⟨rs, e, hl, hr⟩ := h.rows
  have h1 := (rows_bd ok hc hm hr hl).tup (l60 (by omega))
  have h2 := end_bd hm (fun c hc => by have := h.outs c hc; omega) h.opd
  unfold blkD
  rw [e]
  exact ((BdA.cons h1 (bda1 (h2.mono (k' := 4) (Nat.le_refl _) (by omega) (Nat.le_refl _)))).tup (l60 (by simp))).mono (Nat.le_refl _) (Nat.le_refl _) (by omega)
theorem blks_bd (ok : ObjsOk os) (hc : ∀ w ∈ called, Wd w) (hm : 10 ^ 199 ≤ m) {r : List Nat × Gr} (h : RtOk os called r) : BdA m 5 5094 (r.2.map blkD) :=
  all_le (fun d hd => by
    obtain ⟨g, hg, rfl⟩ := List.mem_map.mp hd
    exact blk_bd ok hc hm (by have := h.six; omega) (h.blk g hg)) (by rw [List.length_map]; exact h.six)
theorem rt_bd (ok : ObjsOk os) (hc : ∀ w ∈ called, Wd w) (hm : 10 ^ 199 ≤ m) {r : List Nat × Gr} (hw : Wd r.1) (h : RtOk os called r) : Bd m 7 5104 (rtD r) := by
  have h1 := (blks_bd ok hc hm h).tup (l60 (by rw [List.length_map]; have := h.six; omega))
  exact ((BdA.cons (bd_word hw (Nat.le_refl _)) (bda1 h1)).tup (l60 (by simp))).mono (Nat.le_refl _) (Nat.le_refl _) (by omega)
structure Cd (os : Os) (called : List (List Nat)) (rts : List (List Nat × Gr)) : Prop where
  ok : ObjsOk os
  wc : ∀ w ∈ called, Wd w
  pos : 0 < rts.length
  len : rts.length ≤ 6
  wd : ∀ r ∈ rts, Wd r.1
  nd : (rts.map (·.1)).Nodup
  rt : ∀ r ∈ rts, RtOk os called r
theorem cd_of (C : CodeOk os called rts) : Cd os called rts := by
  have hp := sortW_perm (called ++ [wmain])
  have hl := congrArg List.length C.names
  rw [List.length_map, hp.length_eq, List.length_append, List.length_singleton] at hl
  have := C.len
  refine ⟨C.objs, C.wd, by omega, by omega, fun r hr => ?_, ?_, C.rt⟩
  · have h1 : r.1 ∈ rts.map (·.1) := List.mem_map_of_mem hr
    rw [C.names] at h1
    have h2 := hp.mem_iff.mp h1
    rcases List.mem_append.mp h2 with z | z
    · exact C.wd _ z
    · simp at z; rw [z]; exact wd_main
  · rw [C.names]
    exact hp.nodup_iff.mpr C.nd
theorem objs_bd (ok : ObjsOk os) (hm : 10 ^ 199 ≤ m) : Bd m 2 84 (objsD os) := by
  have h : ∀ d ∈ os.map obD, Bd m 1 20 d := fun d hd => by
    obtain ⟨o, ho, rfl⟩ := List.mem_map.mp hd
    have := (ok.size o ho)
    exact ((BdA.cons (bd_word (ok.wd o ho) (Nat.le_refl _)) (bda1 (bd_few (k := 0) hm (by omega)))).tup (l60 (by simp))).mono (Nat.le_refl _) (Nat.le_refl _) (by omega)
  exact (all_le (j := 4) h (by rw [List.length_map]; exact ok.four)).tup (l60 (by rw [List.length_map]; have := ok.four; omega))
theorem rts_bd (C : Cd os called rts) (hm : 10 ^ 199 ≤ m) : BdA m 7 30630 (rts.map rtD) :=
  all_le (fun d hd => by
    obtain ⟨r, hr, rfl⟩ := List.mem_map.mp hd
    exact rt_bd C.ok C.wc hm (C.wd r hr) (C.rt r hr)) (by rw [List.length_map]; exact C.len)
theorem code_bd (C : Cd os called rts) (hm : 10 ^ 199 ≤ m) : Bd m 9 30716 (cdD os rts) := by
  have h1 := (rts_bd C hm).tup (l60 (by rw [List.length_map]; have := C.len; omega))
  exact ((BdA.cons ((objs_bd C.ok hm).mono (k' := 8) (Nat.le_refl _) (by omega) (Nat.le_refl _)) (bda1 h1)).tup (l60 (by simp))).mono (Nat.le_refl _) (Nat.le_refl _) (by omega)
end

end Ck

/-! CkQ: K04Q.lean again. -/
namespace Ck
open PySem PySem.Spec PyProof.Rows L2 ML Dm Cg
theorem leW_eq (a b : List Nat) : leW a b = decide (a ≤ b) := by
  have := congrFun (congrFun (PySem.W.dataLe_str tx) a) b
  simp only [tx_list] at this
  exact this
end Ck

/-! CkR: F05.lean again. -/
namespace Ck
open PySem PySem.Spec PyProof.Rows L2 ML Dm Cg
section
variable {os : Os} {nm : List D} {ps : List D}
end
section
variable {os : Os} {nm : List D} {ps : List D}
/-! ### the law's own -/
end

end Ck

/-! CkS: routines_of, is_row, is_end, places_in, is_place, row_at of a drawn code. -/
namespace Ck
open PySem PySem.Spec PyProof.Rows L2 ML Dm Cg
abbrev Rts := List (List Nat × Gr)
/-! ### places -/
def rowsD : D → List D
  | .tuple rs => rs
  | _ => []
def plD (w : List Nat) (i j : Int) : D := .tuple [wS w, .int i, .int j]
end Ck

/-! CkT: is_place, row_at at a place of a drawn code. -/
namespace Ck
open PySem PySem.Spec PyProof.Rows L2 ML Dm Cg
/-- a row or an end, as they are drawn -/
inductive Ln (os : Os) (called : List (List Nat)) : D → Prop where
  | row (d : D) : RowOk os called d → Ln os called d
  | fin (g : Gd) : (∀ c ∈ g.outs, 0 ≤ c ∧ c < 7) → (∀ op a b, g = .iff op a b → Opd op) → Ln os called g.d
section
variable {os : Os} {called : List (List Nat)} {rts : Rts}
/-- what a place is -/
structure Pl (os : Os) (called : List (List Nat)) (rts : Rts) (p : D) : Prop where
  is : ∃ (w : List Nat) (gs : Gr) (i : Nat) (g : D × Gd) (rs : List D) (j : Int), p = plD w i j ∧ (w, gs) ∈ rts ∧ gs[i]? = some g ∧ g.1 = .tuple rs ∧ rs.length ≤ 6 ∧ (∀ r ∈ rs, RowOk os called r) ∧ 0 ≤ j ∧ j ≤ rs.length
theorem pl_bd {m : Nat} (C : Cd os called rts) (hm : 10 ^ 199 ≤ m) {p : D} (h : Pl os called rts p) : Bd m 1 40 p := by
  obtain ⟨w, gs, i, g, rs, j, rfl, hr, hgi, e, hl, _, j0, j1⟩ := h.is
  have h6 := (C.rt _ hr).six
  obtain ⟨hi, _⟩ := List.getElem?_eq_some_iff.mp hgi
  have b1 : Bd m 0 8 (wS w) := bd_word (C.wd _ hr) (Nat.le_refl _)
  have h6 : gs.length ≤ 6 := h6
  have b2 : Bd m 0 10 (.int (i : Int)) := bd_few hm (by omega)
  have b3 : Bd m 0 10 (.int j) := bd_few hm (by omega)
  exact (bd_tri b1 b2 b3).mono (Nat.le_refl _) (Nat.le_refl _) (by omega)
theorem eqv_pl (w : List Nat) (i j : Int) : PyData.eqv (plD w i j) (plD w i j) = true := by
  unfold plD wS
  simp [PyData.eqv, PyData.eqvAll]
theorem ln_bd {m : Nat} (C : Cd os called rts) (hm : 10 ^ 199 ≤ m) {d : D} (h : Ln os called d) : Bd m 3 120 d := by
  cases h with
  | row d h => exact row_bd C.ok C.wc hm h
  | fin g h1 h2 => exact end_bd hm h1 h2
end
end Ck

/-! CkU: operands_in, names_in of a drawn code. -/
namespace Ck
open PySem PySem.Spec PyProof.Rows L2 ML Dm Cg
/-- what stands in a row: no word, or one of no great length -/
structure Opr (d : D) : Prop where
  th : Th d
  w : isW d = false ∨ ∃ w, Wd w ∧ d = wS w
section
variable {os : Os} {called : List (List Nat)} {rts : Rts}
/-- what stands in a row or an end -/
def Ops (d : D) (ops : List D) : Prop := F_operands_in [.val d] = some (.new (.lst ops), [.val d]) ∧ ops.length ≤ 3 ∧ ∀ o ∈ ops, Opr o
theorem two {P : D → Prop} {a b : D} (h1 : P a) (h2 : P b) : ∀ o ∈ [a, b], P o := fun o ho => by
  simp only [List.mem_cons, List.not_mem_nil, or_false] at ho
  rcases ho with rfl | rfl <;> assumption
theorem one {P : D → Prop} {a : D} (h1 : P a) : ∀ o ∈ [a], P o := fun o ho => by
  simp only [List.mem_cons, List.not_mem_nil, or_false] at ho
  subst ho
  exact h1
end
end Ck

/-! CkV: names_in of a drawn code. -/
namespace Ck
open PySem PySem.Spec PyProof.Rows L2 ML Dm Cg
section
variable {os : Os} {called : List (List Nat)} {rts : Rts}
end
end Ck

/-! PlX: the second family's tape, its objects. -/
namespace Pl
open PySem PySem.Spec PyProof.Rows L2 ML Dm Cg Ck
def fc (s : Tp) : B := .mu (.dK [(.inr "cells", .list (s.cells.map PyData.int)), (.inr "at", .int s.p), (.inr "left", .int s.l), (.inr "turn", .int s.t)])
structure DrOk (dr : Fn) : Prop where
  draw : ∀ (n : Int) (s : Tp), Tok n s → ∀ m : Int, n < 900000 → 0 < m → m < 1000 → ∃ r s', dr [fc s, .val (.int m)] = some (.val (.int r), [fc s', .val (.int m)]) ∧ 0 ≤ r ∧ r < m ∧ Tok (n + 1) s'
theorem drw {dr : Fn} (DR : DrOk dr) {n : Int} {s : Tp} (h : Tok n s) (m : Int) (hn : n < 900000 := by omega) (hm : 0 < m := by omega) (hm2 : m < 1000 := by omega) :
    ∃ r s', dr [fc s, .val (.int m)] = some (.val (.int r), [fc s', .val (.int m)]) ∧ 0 ≤ r ∧ r < m ∧ Tok (n + 1) s' := DR.draw n s h m hn hm hm2
theorem evO_fc {i : Nat} {env : En} {s : Tp} : evO i env (some (fc s)) = some (.bor i, env) := rfl
theorem argO_fc {s : Tp} : argO (some (fc s)) = some (fc s) := rfl
theorem isMu_fc {s : Tp} : isMu (some (fc s)) = true := rfl
theorem isLk_fc {s : Tp} : isLk (some (fc s)) = false := rfl
section
variable {c p l t d : D}
theorem lk_cells : lkD [(.inr (Str.ofString "cells"), c), (.inr (Str.ofString "at"), p), (.inr (Str.ofString "left"), l), (.inr (Str.ofString "turn"), t)] (.inr (Str.ofString "cells")) = some c := rfl
theorem lk_at : lkD [(.inr (Str.ofString "cells"), c), (.inr (Str.ofString "at"), p), (.inr (Str.ofString "left"), l), (.inr (Str.ofString "turn"), t)] (.inr (Str.ofString "at")) = some p := rfl
theorem lk_left : lkD [(.inr (Str.ofString "cells"), c), (.inr (Str.ofString "at"), p), (.inr (Str.ofString "left"), l), (.inr (Str.ofString "turn"), t)] (.inr (Str.ofString "left")) = some l := rfl
theorem lk_turn : lkD [(.inr (Str.ofString "cells"), c), (.inr (Str.ofString "at"), p), (.inr (Str.ofString "left"), l), (.inr (Str.ofString "turn"), t)] (.inr (Str.ofString "turn")) = some t := rfl
theorem pt_at : putD [(.inr (Str.ofString "cells"), c), (.inr (Str.ofString "at"), p), (.inr (Str.ofString "left"), l), (.inr (Str.ofString "turn"), t)] (.inr (Str.ofString "at")) d = [(.inr (Str.ofString "cells"), c), (.inr (Str.ofString "at"), d), (.inr (Str.ofString "left"), l), (.inr (Str.ofString "turn"), t)] := rfl
theorem pt_left : putD [(.inr (Str.ofString "cells"), c), (.inr (Str.ofString "at"), p), (.inr (Str.ofString "left"), l), (.inr (Str.ofString "turn"), t)] (.inr (Str.ofString "left")) d = [(.inr (Str.ofString "cells"), c), (.inr (Str.ofString "at"), p), (.inr (Str.ofString "left"), d), (.inr (Str.ofString "turn"), t)] := rfl
theorem pt_turn : putD [(.inr (Str.ofString "cells"), c), (.inr (Str.ofString "at"), p), (.inr (Str.ofString "left"), l), (.inr (Str.ofString "turn"), t)] (.inr (Str.ofString "turn")) d = [(.inr (Str.ofString "cells"), c), (.inr (Str.ofString "at"), p), (.inr (Str.ofString "left"), l), (.inr (Str.ofString "turn"), d)] := rfl
theorem mg_feed : mergeD [] [(.inr (Str.ofString "cells"), c), (.inr (Str.ofString "at"), p), (.inr (Str.ofString "left"), l), (.inr (Str.ofString "turn"), t)] = [(.inr (Str.ofString "cells"), c), (.inr (Str.ofString "at"), p), (.inr (Str.ofString "left"), l), (.inr (Str.ofString "turn"), t)] := rfl
end
theorem feed_spec (ns : List Int) (hl : ns.length ≤ 63) : ∃ s, F__law_feed [.val (.list (ns.map PyData.int))] = some (.new (.dK [(.inr "cells", .list (s.cells.map PyData.int)), (.inr "at", .int s.p), (.inr "left", .int s.l), (.inr "turn", .int s.t)]), [.val (.list (ns.map PyData.int))]) ∧ Tok 0 s := by
  have hc : ML.cutD (ns.map PyData.int) none (some 63) = ns.map PyData.int := by
    unfold ML.cutD
    have : HT.sIx (ns.map PyData.int).length (ns.map PyData.int).length (some 63) = (ns.map PyData.int).length := by
      unfold HT.sIx
      simp
      omega
    rw [this]
    simp [HT.sIx]
    rw [← List.map_take, List.take_length]
  refine ⟨⟨ns, 0, 0, 0⟩, ?_, Int.le_refl 0, Int.le_refl 0, Int.le_refl 0⟩
  simp_all_arith [F__law_feed, hc, mg_feed]
/-! ### pairs of a word and a number, in order -/
def ltO (a b : List Nat × Int) : Bool := decide (a.1 < b.1 ∨ (a.1 = b.1 ∧ a.2 < b.2))
theorem ltO_eq (a b : List Nat × Int) : PySem.W.dataLt (obD a) (obD b) = ltO a b := by
  unfold obD ltO wS
  rw [PySem.W.dataLt_pair (by simp only [PySem.W.alike]) (by simp only [PySem.W.alike]), eqv_str, PySem.W.dataLt_str, PySem.W.dataLt_int, eqv_int, tx_list, tx_list]
  by_cases h : a.1 = b.1
  · have h2 : tx a.1 = tx b.1 := by rw [h]
    rw [if_pos (decide_eq_true h2)]
    by_cases h3 : a.2 = b.2
    · rw [if_pos (decide_eq_true h3), h, h3]
      simp [List.lt_irrefl]
    · rw [if_neg (by simpa using h3), h]
      simp [List.lt_irrefl]
  · have h2 : tx a.1 ≠ tx b.1 := fun z => h (tx_inj z)
    rw [if_neg (by simpa using h2)]
    simp [h]
def leO (a b : List Nat × Int) : Bool := !ltO b a
theorem leO_iff (a b : List Nat × Int) : leO a b = true ↔ (a.1 < b.1 ∨ (a.1 = b.1 ∧ a.2 ≤ b.2)) := by
  unfold leO ltO
  rw [Bool.not_eq_true', decide_eq_false_iff_not]
  constructor
  · intro h
    rcases List.le_iff_lt_or_eq.mp (List.not_lt.mp fun z => h (.inl z) : a.1 ≤ b.1) with z | z
    · exact .inl z
    · exact .inr ⟨z, Int.not_lt.mp fun y => h (.inr ⟨z.symm, y⟩)⟩
  · rintro (h | ⟨h1, h2⟩) (z | ⟨z1, z2⟩)
    · exact List.lt_asymm h z
    · rw [z1] at h; exact List.lt_irrefl _ h
    · rw [h1] at z; exact List.lt_irrefl _ z
    · omega
theorem leO_trans (a b c : List Nat × Int) (h1 : leO a b = true) (h2 : leO b c = true) : leO a c = true := by
  rw [leO_iff] at *
  rcases h1 with h1 | ⟨h1, h3⟩ <;> rcases h2 with h2 | ⟨h2, h4⟩
  · exact .inl (List.lt_trans h1 h2)
  · exact .inl (h2 ▸ h1)
  · exact .inl (h1 ▸ h2)
  · exact .inr ⟨h1.trans h2, by omega⟩
theorem leO_total (a b : List Nat × Int) : (leO a b || leO b a) = true := by
  rw [Bool.or_eq_true, leO_iff, leO_iff]
  by_cases h : a.1 = b.1
  · rcases Int.le_total a.2 b.2 with y | y
    · exact .inl (.inr ⟨h, y⟩)
    · exact .inr (.inr ⟨h.symm, y⟩)
  · rcases List.le_total a.1 b.1 with y | y
    · exact .inl (.inl ((List.le_iff_lt_or_eq.mp y).resolve_right h))
    · exact .inr (.inl ((List.le_iff_lt_or_eq.mp y).resolve_right (Ne.symm h)))
def sortO (os : List (List Nat × Int)) : List (List Nat × Int) := os.mergeSort leO
theorem sortO_perm (os : List (List Nat × Int)) : (sortO os).Perm os := List.mergeSort_perm ..
theorem leO_eq (a b : List Nat × Int) : PySem.W.dataLe false id (obD a) (obD b) = leO a b := by
  rw [PySem.W.dataLe_eq]
  show (!PySem.W.dataLt (obD b) (obD a)) = _
  rw [ltO_eq]; rfl
theorem sortD_objs (os : List (List Nat × Int)) : sortD (os.map obD) = (sortO os).map obD := by
  unfold sortD sortO
  exact (PySem.W.sort_maps (r := leO) (s := PySem.W.dataLe false id) obD (fun _ _ _ _ => (leO_eq _ _).symm)).symm
theorem sortO_pw (os : List (List Nat × Int)) : (sortO os).Pairwise fun a b => leO a b = true := List.pairwise_mergeSort leO_trans leO_total os
theorem leW_anti {a b : List Nat} (h1 : leW a b = true) (h2 : leW b a = true) : a = b := by
  rw [leW_eq, decide_eq_true_eq] at *
  exact List.le_antisymm h1 h2
theorem sortW_pw (ws : List (List Nat)) : (sortW ws).Pairwise fun a b => leW a b = true := List.pairwise_mergeSort (fun a b c h1 h2 => by
      rw [leW_eq, decide_eq_true_eq] at *
      exact List.le_trans h1 h2) (fun a b => by
      rw [leW_eq, leW_eq, Bool.or_eq_true, decide_eq_true_eq, decide_eq_true_eq]
      exact List.le_total ..) ws
theorem sortW_uniq {xs ys : List (List Nat)} (hp : xs.Perm ys) (hs : xs.Pairwise fun a b => leW a b = true) : xs = sortW ys :=
  (hp.trans (sortW_perm ys).symm).eq_of_pairwise (fun x y _ _ h1 h2 => leW_anti h1 h2) hs (sortW_pw ys)
theorem sortO_names (os : List (List Nat × Int)) : (sortO os).map (·.1) = sortW (os.map (·.1)) := by
  refine sortW_uniq ((sortO_perm os).map _) ?_
  rw [List.pairwise_map]
  refine (sortO_pw os).imp fun {a b} h => ?_
  rw [leW_eq, decide_eq_true_eq]
  rw [leO_iff] at h
  rcases h with z | ⟨z, _⟩
  · exact List.le_of_lt z
  · rw [z]; exact List.le_refl _
/-! ### objects -/
def W5 : List (List Nat) := [[97], [97, 98], [98], [122, 122], [97, 98, 99, 100, 101, 102, 103, 104]]
theorem str_a : PyData.str (Str.ofString "a") = wS [97] := congrArg PyData.str (by decide +kernel)
theorem str_ab : PyData.str (Str.ofString "ab") = wS [97, 98] := congrArg PyData.str (by decide +kernel)
theorem str_b : PyData.str (Str.ofString "b") = wS [98] := congrArg PyData.str (by decide +kernel)
theorem str_zz : PyData.str (Str.ofString "zz") = wS [122, 122] := congrArg PyData.str (by decide +kernel)
theorem str_ah : PyData.str (Str.ofString "abcdefgh") = wS [97, 98, 99, 100, 101, 102, 103, 104] := congrArg PyData.str (by decide +kernel)
theorem wd5 : ∀ w ∈ W5, Wd w := by
  have h : ∀ w ∈ W5, (1 ≤ w.length ∧ w.length ≤ 8) ∧ ∀ c ∈ w, 97 ≤ c ∧ c ≤ 122 := by decide
  exact fun w hw => ⟨(h w hw).1.1, (h w hw).1.2, (h w hw).2⟩
def oE (s : Tp) (rest : List (List Nat)) (found : List (List Nat × Int)) (k : Option D) : En := [some (fc s), some (.mu (.lst (rest.map wS))), some (.mu (.lst (found.map obD))), jk k]
theorem objects_spec {dr : Fn} (DR : DrOk dr) {n : Int} {s : Tp} (h : Tok n s) (hn : n < 600000) : ∃ os s', F__law_objects dr [fc s] = some (.val (objsD os), [fc s']) ∧ ObjsOk os ∧ os.length ≤ 3 ∧ (∀ o ∈ os, o.2 ≤ 3) ∧ Tok (n + 20) s' := by
  obtain ⟨m, s1, d1, m0, m1, h1⟩ := drw DR h 3
  have hi := rgI_of (n := 1 + m) (by omega) (by omega)
  have lf : ∃ s2 rest found k, LF__law_objects_2 dr (oE s W5 [] none) = some (.nx, oE s2 rest found k) ∧ (found.length : Int) = 1 + m ∧ (rest ++ found.map (·.1)).Perm W5 ∧ (∀ o ∈ found, 1 ≤ o.2 ∧ o.2 ≤ 3) ∧ Tok (n + 10) s2 := by
    refine Exists.elim (sFor_list (np := 1) (fi := iRng1 (e2 gAdd (eK (.int 1)) (eCall 2 dr [] (aCons (eV 0) (aCons (eK (.int 3)) aNil))))) (t := .nm 3) (body := BF__law_objects_1 dr) (env := oE s W5 [] none) (env1 := oE s1 W5 [] none) (src := none)
      (upto (1 + m)) PyData.int (fun left env => ∃ (s2 : Tp) (rest : List (List Nat)) (found : List (List Nat × Int)) (k : Option D), env = oE s2 rest found k ∧ (found.length : Int) + left.length = 1 + m ∧ (rest ++ found.map (·.1)).Perm W5 ∧ (∀ o ∈ found, 1 ≤ o.2 ∧ o.2 ≤ 3) ∧ Tok (n + 1 + 2 * found.length) s2) ?fhi ?fp ?fh) ?ffin
    case fhi =>
      unfold oE
      simp_arith [evO_fc, argO_fc, isMu_fc, isLk_fc, d1, hi, rangeD_upto]
    case fp => exact ⟨s1, W5, [], none, rfl, by simp [upto_len (show 0 ≤ 1 + m by omega)], by simp, fun o ho => (by simp at ho), h1.up (by simp)⟩
    case fh =>
      rintro x left env ⟨s2, rest, found, k, rfl, e1, pm, sz, h2⟩
      simp only [List.length_cons] at e1
      have hpl := pm.length_eq
      rw [List.length_append, List.length_map, show W5.length = 5 from rfl] at hpl
      obtain ⟨r, s3, d3, r0, r1, h3⟩ := drw DR h2 (rest.length : Nat)
      obtain ⟨z, s4, d4, z0, z1, h4⟩ := drw DR h3 3
      have hr : r.toNat < rest.length := by omega
      have hix : seqIndex? r ((rest.map wS).length) = some r.toNat := by rw [List.length_map]; exact Cg.seqIndex_of r0 r1
      have hget : (rest.map wS)[r.toNat]? = some (wS rest[r.toNat]) := by simp [hr]
      have hpop := @v_popA [some (fc s3), some (.mu (.lst (rest.map wS))), some (.mu (.lst (found.map obD))), some (.val (.int x))] 1 (wS rest[r.toNat]) (rest.map wS) r r.toNat ⟨by omega, by omega⟩ hix hget
      have hsl : found.length < sizeLine := sl_lt (by omega)
      refine ⟨oE s2 rest found (some (.int x)), oE s4 (rest.eraseIdx r.toNat) (found ++ [(rest[r.toNat], 1 + z)]) (some (.int x)), ?_, ?_, s4, _, _, _, rfl, by simp; omega, ?_, ?_, h4.up (by simp; omega)⟩
      · unfold oE
        simp_arith [jk_some, jk_none]
      · rw [erase_map] at hpop
        unfold oE
        simp_all_arith [BF__law_objects_1, evO_fc, argO_fc, isMu_fc, isLk_fc, d3, d4, jk_some, jk_none, List.length_map, hpop, hsl, List.map_append, List.map_cons, List.map_nil, obD]
      · refine List.Perm.trans ?_ pm
        have e := erase_perm hr
        rw [List.map_append, List.map_cons, List.map_nil, ← List.append_assoc]
        refine List.Perm.trans List.perm_append_comm ?_
        exact e.append_right _
      · intro o ho
        rcases List.mem_append.mp ho with y | y
        · exact sz o y
        · simp at y; subst y; exact ⟨by show 1 ≤ 1 + z; omega, by show 1 + z ≤ 3; omega⟩
    case ffin =>
      rintro env' ⟨q1, s', rest, found, k, rfl, e1, pm, sz, h2⟩
      simp at e1
      exact ⟨s', rest, found, k, q1, e1, pm, sz, h2.up (by omega)⟩
  obtain ⟨s2, rest, found, k, q1, e1, pm, sz, h2⟩ := lf
  have hc : ∀ d ∈ found.map obD, isCl d := fun d hd => by
    obtain ⟨o, _, rfl⟩ := List.mem_map.mp hd
    exact ⟨o.1, o.2, rfl⟩
  have hs := fun env : En => sortL_c (env := env) hc (by rw [List.length_map]; omega)
  have hmem : ∀ o ∈ sortO found, o ∈ found := fun o ho => (sortO_perm found).mem_iff.mp ho
  have hlen := (sortO_perm found).length_eq
  have nd0 : W5.Nodup := by decide
  have nd : (rest ++ found.map (·.1)).Nodup := pm.nodup_iff.mpr nd0
  refine ⟨sortO found, s2, ?_, ⟨by omega, by omega, fun o ho => ?_, fun o ho => ?_, found.map (·.1), (List.nodup_append.mp nd).2.1, sortO_names found⟩, by omega, fun o ho => (sz o (hmem o ho)).2, h2.up (by omega)⟩
  · unfold oE at q1
    simp only [jk_none, List.map_nil, W5, List.map_cons] at q1
    simp_all_arith [F__law_objects, str_a, str_ab, str_b, str_zz, str_ah, q1, hs, sortD_objs, objsD]
  · exact wd5 _ (pm.mem_iff.mp (List.mem_append_right _ (List.mem_map_of_mem (hmem o ho))))
  · have := sz o (hmem o ho)
    exact ⟨this.1, by omega⟩
end Pl

/-! PlA: the second family's addresses, operands, rows. -/
namespace Pl
open PySem PySem.Spec PyProof.Rows L2 ML Dm Cg Ck
def wx : List Nat := [120]
def wxx : List Nat := [120, 120]
theorem str_x : PyData.str (Str.ofString "x") = wS wx := congrArg PyData.str (by decide +kernel)
theorem str_xx : PyData.str (Str.ofString "xx") = wS wxx := congrArg PyData.str (by decide +kernel)
theorem wd_x : Wd wx := ⟨by decide, by decide, fun c hc => by simp [wx] at hc; omega⟩
theorem wd_xx : Wd wxx := ⟨by decide, by decide, fun c hc => by simp [wxx] at hc; omega⟩
section
variable {dr : Fn} (DR : DrOk dr)
def aE (s : Tp) (os : List (List Nat × Int)) (rest som : Option (List (List Nat))) (k least pick index called way : Option D) : En :=
  [some (fc s), some (.val (objsD os)), rest.map fun l => .mu (.lst (l.map wS)), som.map fun l => .mu (.lst (l.map wS)), jk k, jk least, jk pick, jk index, jk called, jk way, none, none]
include DR
theorem where_spec {n : Int} {s : Tp} (h : Tok n s) (hn : n < 800000) {os : List (List Nat × Int)} (ok : ObjsOk os) :
    ∃ som pick index s', F__law_where dr [fc s, .val (objsD os)] = some (.val (aD som pick index), [fc s', .val (objsD os)]) ∧ AdrOk os som pick index ∧ Tok (n + 10) s' := by
  have h4 := ok.four
  have hp := ok.pos
  have lc1 : LC__law_where_1 dr (aE s os none none none none none none none none) = some (.new (.lst ((os.map (·.1)).map wS)), aE s os none none none none none none none none) := by
    unfold LC__law_where_1
    have := eLc_of (np := 2) (own := [10, 11]) (fi := iSeq (eV 1)) (t := .tp [(.nm 10), (.nm 11)]) (tst := tTrue) (elt := eC 10) (env := aE s os none none none none none none none none) (env1 := aE s os none none none none none none none none) (src := none)
      os obD (fun _ => true) (fun o => wS o.1) (by unfold aE objsD; simp_all_arith [jk_none]) rfl (fun o ho => by unfold aE; simp_all_arith [v_lcS, tTrue, obD, isLk_fc, isLk_none, jk_none]) (by omega)
    rw [this, List.filter_eq_self.mpr (by simp)]
    simp [unlock]
  have hmin2 : ∃ q : Int, (if (os.length : Int) < 2 then (os.length : Int) else 2) = q ∧ 1 ≤ q ∧ q ≤ 2 ∧ q ≤ (os.length : Nat) := by
    by_cases hq : (os.length : Int) < 2
    · exact ⟨_, if_pos hq, by omega, by omega, by omega⟩
    · exact ⟨_, if_neg hq, by omega, by omega, by omega⟩
  obtain ⟨q, eq', q1', q2', q3'⟩ := hmin2
  obtain ⟨m, s1, d1, m0, m1, h1⟩ := drw DR h q
  have hi := rgI_of (n := 1 + m) (by omega) (by omega)
  have lf : ∃ s2 rest som k, LF__law_where_3 dr (aE s os (some (os.map (·.1))) (some []) none none none none none none) = some (.nx, aE s2 os (some rest) (some som) k none none none none none) ∧ (som.length : Int) = 1 + m ∧ (rest ++ som).Perm (os.map (·.1)) ∧ Tok (n + 3) s2 := by
    refine Exists.elim (sFor_list (np := 2) (fi := iRng1 (e2 gAdd (eK (.int 1)) (eCall 2 dr [] (aCons (eV 0) (aCons (eN gMin2 (aCons (eK (.int 2)) (aCons (eN gLen (aCons (eV 2) aNil)) aNil))) aNil))))) (t := .nm 4) (body := BF__law_where_2 dr) (env := aE s os (some (os.map (·.1))) (some []) none none none none none none) (env1 := aE s1 os (some (os.map (·.1))) (some []) none none none none none none) (src := none)
      (upto (1 + m)) PyData.int (fun left env => ∃ (s2 : Tp) (rest som : List (List Nat)) (k : Option D), env = aE s2 os (some rest) (some som) k none none none none none ∧ (som.length : Int) + left.length = 1 + m ∧ (rest ++ som).Perm (os.map (·.1)) ∧ Tok (n + 1 + som.length) s2) ?fhi ?fp ?fh) ?ffin
    case fhi =>
      unfold aE objsD
      simp_all_arith [evO_fc, argO_fc, isMu_fc, isLk_fc, eq', d1, hi, rangeD_upto, Option.map_some, jk_none, List.length_map]
    case fp => exact ⟨s1, os.map (·.1), [], none, rfl, by simp [upto_len (show 0 ≤ 1 + m by omega)], by simp, h1.up (by simp)⟩
    case fh =>
      rintro x left env ⟨s2, rest, som, k, rfl, e1, pm, h2⟩
      simp only [List.length_cons] at e1
      have hpl := pm.length_eq
      rw [List.length_append, List.length_map] at hpl
      obtain ⟨r, s3, d3, r0, r1, h3⟩ := drw DR h2 (rest.length : Nat)
      have hr : r.toNat < rest.length := by omega
      have hix : seqIndex? r ((rest.map wS).length) = some r.toNat := by rw [List.length_map]; exact Cg.seqIndex_of r0 r1
      have hget : (rest.map wS)[r.toNat]? = some (wS rest[r.toNat]) := by simp [hr]
      have hpop := @v_popA [some (fc s3), some (.val (objsD os)), some (.mu (.lst (rest.map wS))), some (.mu (.lst (som.map wS))), some (.val (.int x)), none, none, none, none, none, none, none] 2 (wS rest[r.toNat]) (rest.map wS) r r.toNat ⟨by omega, by omega⟩ hix hget
      have hsl : som.length < sizeLine := sl_lt (by omega)
      refine ⟨aE s2 os (some rest) (some som) (some (.int x)) none none none none none, aE s3 os (some (rest.eraseIdx r.toNat)) (some (som ++ [rest[r.toNat]])) (some (.int x)) none none none none none, ?_, ?_, s3, _, _, _, rfl, by simp; omega, ?_, h3.up (by simp; omega)⟩
      · unfold aE
        simp_arith [jk_some, jk_none, Option.map_some]
      · rw [erase_map] at hpop
        unfold aE
        simp_all_arith [BF__law_where_2, evO_fc, argO_fc, isMu_fc, isLk_fc, d3, jk_some, jk_none, Option.map_some, List.length_map, hpop, hsl, List.map_append, List.map_cons, List.map_nil]
      · refine List.Perm.trans ?_ pm
        have e := erase_perm hr
        rw [← List.append_assoc]
        refine List.Perm.trans List.perm_append_comm ?_
        exact e.append_right som
    case ffin =>
      rintro env' ⟨q1, s', rest, som, k, rfl, e1, pm, h2⟩
      simp at e1
      exact ⟨s', rest, som, k, q1, e1, pm, h2.up (by omega)⟩
  obtain ⟨s2, rest, som, k, q1, e1, pm, h2⟩ := lf
  have hsl : som.length ≤ 4 := by omega
  have hnd : (rest ++ som).Nodup := pm.nodup_iff.mpr ok.nodup
  have hsub : ∀ w ∈ som, w ∈ os.map (·.1) := fun w hw => pm.mem_iff.mp (List.mem_append_right _ hw)
  have hsz : ∀ w ∈ som, 1 ≤ szOf os w ∧ szOf os w ≤ 4 := fun w hw => by
    obtain ⟨_, o, ho, e, _⟩ := lk_objs (hsub w hw)
    rw [e]; exact ok.size o ho
  have lc2 : LC__law_where_4 dr (aE s2 os (some rest) (some som) k none none none none none) = some (.new (.lst ((som.map (szOf os)).map PyData.int)), aE s2 os (some rest) (some som) k none none none none none) := by
    unfold LC__law_where_4
    have hd := dict_objs ok.nodup
    have hp2 := pairsOf_objs os
    have := eLc_of (np := 2) (own := [10]) (fi := iSeq (eV 3)) (t := .nm 10) (tst := tTrue) (elt := e2 gIx (eN gDictA (aCons (eV 1) aNil)) (eC 10)) (env := aE s2 os (some rest) (some som) k none none none none none) (env1 := [some (fc s2), some (.val (objsD os)), some (.mu (.lst (rest.map wS))), some (.lk (.lst (som.map wS))), jk k, none, none, none, none, none, none, none]) (src := some 3)
      som wS (fun _ => true) (fun w => .int (szOf os w)) (by unfold aE; simp_all_arith [jk_none, Option.map_some]) rfl (fun w hw => by
        have hlk := (lk_objs (hsub w hw)).1
        unfold objsD wS
        simp_all_arith [v_lcS, tTrue, hp2, hd, hlk, isLk_fc, isLk_none, isLk_jk, jk_none]) (by omega)
    rw [this, List.filter_eq_self.mpr (by simp)]
    simp [unlock, aE]
    rfl
  have hmin : ∃ least, minI (som.map (szOf os)) = some least ∧ 1 ≤ least ∧ least ≤ 4 ∧ ∀ w ∈ som, least ≤ szOf os w := by
    obtain ⟨x, hx⟩ := minI_some (ns := som.map (szOf os)) (fun z => by rw [List.map_eq_nil_iff] at z; rw [z] at e1; simp at e1; omega)
    obtain ⟨x1, x2⟩ := minI_spec hx
    obtain ⟨w, hw, rfl⟩ := List.mem_map.mp x1
    exact ⟨_, hx, (hsz w hw).1, (hsz w hw).2, fun v hv => x2 _ (List.mem_map_of_mem hv)⟩
  obtain ⟨least, hmin, l0, l1, l2⟩ := hmin
  obtain ⟨a, s3, d3, a0, a1, h3⟩ := drw DR h2 (som.length : Nat)
  obtain ⟨b, s4, d4, b0, b1, h4'⟩ := drw DR h3 least
  obtain ⟨c, s5, d5, c0, c1, h5⟩ := drw DR h4' 3
  obtain ⟨w, s6, d6, w0, w1, h6⟩ := drw DR h5 6
  have hcw : ∃ u, atI [wS wi, wS wj, wS wx] c = some (wS u) ∧ Wd u := by
    obtain ⟨d, x1, x2⟩ := at3 (wS wi) (wS wj) (wS wx) c0 c1
    rcases x2 with z | z | z
    · exact ⟨wi, z ▸ x1, wd_i⟩
    · exact ⟨wj, z ▸ x1, wd_j⟩
    · exact ⟨wx, z ▸ x1, wd_x⟩
  obtain ⟨u, x1, wu⟩ := hcw
  have hxw : ∃ v, atI [wS wi, wS wx] (w % 2) = some (wS v) ∧ Wd v := by
    obtain ⟨d, x1, x2⟩ := at2 (wS wi) (wS wx) (r := w % 2) (by omega) (by omega)
    rcases x2 with z | z
    · exact ⟨wi, z ▸ x1, wd_i⟩
    · exact ⟨wx, z ▸ x1, wd_x⟩
  obtain ⟨v, x2, wv⟩ := hxw
  have hP : ∃ P : D, (if w = 0 ∧ 1 < (som.length : Int) then wS u else .int a) = P := ⟨_, rfl⟩
  obtain ⟨P, eP⟩ := hP
  have hX : ∃ P : D, (if w < 3 then wS v else .int b) = P := ⟨_, rfl⟩
  obtain ⟨X, eX⟩ := hX
  refine ⟨som, P, X, s6, ?_, ⟨by omega, hsl, (List.nodup_append.mp hnd).2.1, hsub, ?_, ?_⟩, h6.up (by omega)⟩
  · unfold aE at lc1 q1 lc2
    simp only [jk_none, Option.map_some, Option.map_none, List.map_nil] at lc1 q1 lc2
    subst eP
    subst eX
    by_cases hw : w = 0
    · subst hw
      by_cases hs : 1 < (som.length : Int)
      · simp_all_arith [F__law_where, lc1, q1, lc2, intsOf_map, hmin, evO_fc, argO_fc, isMu_fc, isLk_fc, List.length_map, d3, d4, d5, d6, str_i, str_j, str_x, x1, x2, isLk_jk, aD, eqv_int, sh_int, hs]
      · simp_all_arith [F__law_where, lc1, q1, lc2, intsOf_map, hmin, evO_fc, argO_fc, isMu_fc, isLk_fc, List.length_map, d3, d4, d5, d6, str_i, str_j, str_x, x1, x2, isLk_jk, aD, eqv_int, sh_int, hs]
    · by_cases hw3 : w < 3
      · simp_all_arith [F__law_where, lc1, q1, lc2, intsOf_map, hmin, evO_fc, argO_fc, isMu_fc, isLk_fc, List.length_map, d3, d4, d5, d6, str_i, str_j, str_x, x1, x2, isLk_jk, aD, eqv_int, sh_int, hw, hw3, false_and, ↓reduceIte]
      · simp_all_arith [F__law_where, lc1, q1, lc2, intsOf_map, hmin, evO_fc, argO_fc, isMu_fc, isLk_fc, List.length_map, d3, d4, d5, d6, str_i, str_j, str_x, x1, x2, isLk_jk, aD, eqv_int, sh_int, hw, hw3, false_and, ↓reduceIte]
  · subst eP
    by_cases hc : w = 0 ∧ 1 < (som.length : Int)
    · rw [if_pos hc]; exact .inr ⟨u, wu, rfl⟩
    · rw [if_neg hc]; exact .inl ⟨a, rfl, a0, a1⟩
  · subst eX
    by_cases hc : w < 3
    · rw [if_pos hc]; exact .inr ⟨v, wv, rfl⟩
    · rw [if_neg hc]; exact .inl ⟨b, rfl, b0, fun y hy => by have := l2 y hy; omega⟩
end
end Pl

/-! PlB: the second family's operands, rows. -/
namespace Pl
open PySem PySem.Spec PyProof.Rows L2 ML Dm Cg Ck
section
variable {dr : Fn} (DR : DrOk dr)
include DR
theorem operand_spec {n : Int} {s : Tp} (h : Tok n s) (hn : n < 850000) : ∃ d s', F__law_operand dr [fc s] = some (.val d, [fc s']) ∧ Opd d ∧ Tok (n + 2) s' := by
  obtain ⟨a, s1, d1, a0, a1, h1⟩ := drw DR h 5
  obtain ⟨b, s2, d2, b0, b1, h2⟩ := drw DR h1 5
  have w5 : ∀ x1 x2 x3 x4 x5 : List Nat, Wd x1 → Wd x2 → Wd x3 → Wd x4 → Wd x5 → ∃ u, atI [wS x1, wS x2, wS x3, wS x4, wS x5] b = some (wS u) ∧ Wd u := fun x1 x2 x3 x4 x5 p1 p2 p3 p4 p5 => by
    have : b = 0 ∨ b = 1 ∨ b = 2 ∨ b = 3 ∨ b = 4 := by omega
    rcases this with rfl | rfl | rfl | rfl | rfl
    · exact ⟨_, rfl, p1⟩
    · exact ⟨_, rfl, p2⟩
    · exact ⟨_, rfl, p3⟩
    · exact ⟨_, rfl, p4⟩
    · exact ⟨_, rfl, p5⟩
  obtain ⟨u, q1, wu⟩ := w5 wi wj wx wi wxx wd_i wd_j wd_x wd_i wd_xx
  obtain ⟨v, q2, wv⟩ := w5 wi wj wx wx wj wd_i wd_j wd_x wd_x wd_j
  have key : ∃ d, atI [wS u, wS v, .int (b - 1), .int b, .int (-3)] a = some d ∧ Opd d := by
    have : a = 0 ∨ a = 1 ∨ a = 2 ∨ a = 3 ∨ a = 4 := by omega
    rcases this with rfl | rfl | rfl | rfl | rfl
    · exact ⟨_, rfl, .word _ wu⟩
    · exact ⟨_, rfl, .word _ wv⟩
    · exact ⟨_, rfl, .num _ (by omega) (by omega)⟩
    · exact ⟨_, rfl, .num _ (by omega) (by omega)⟩
    · exact ⟨_, rfl, .num _ (by omega) (by omega)⟩
  obtain ⟨d, q3, hd⟩ := key
  refine ⟨d, s2, ?_, hd, h2.up (by omega)⟩
  simp_all_arith [F__law_operand, evO_fc, argO_fc, isMu_fc, isLk_fc, d1, d2, str_i, str_j, str_x, str_xx, q1, q2, q3, isLk_jk]
theorem row_spec {n : Int} {s : Tp} (h : Tok n s) (hn : n < 700000) {os : List (List Nat × Int)} (ok : ObjsOk os) (called : List (List Nat)) (hc : ∀ w ∈ called, Wd w) (hcl : called.length ≤ 10) :
    ∃ d s', F__law_row dr [fc s, .val (objsD os), .mu (.lst (called.map wS))] = some (.val d, [fc s', .val (objsD os), .mu (.lst (called.map wS))]) ∧ RowOk os called d ∧ Tok (n + 30) s' := by
  have hlw : ∀ w ∈ called, Lw w := fun w hw => (hc w hw).2.2
  have shs := sh_words hlw
  have sh0 : SeqAt.shaped (.list []) = true := by decide +kernel
  obtain ⟨r, s1, d1, r0, r1, h1⟩ := drw DR h 14
  obtain ⟨b, s2, d2, b0, b1, h2⟩ := drw DR h1 3
  have hcw : ∃ u, atI [wS wi, wS wj, wS wx] b = some (wS u) ∧ Wd u := by
    obtain ⟨d, x1, x2⟩ := at3 (wS wi) (wS wj) (wS wx) b0 b1
    rcases x2 with z | z | z
    · exact ⟨wi, z ▸ x1, wd_i⟩
    · exact ⟨wj, z ▸ x1, wd_j⟩
    · exact ⟨wx, z ▸ x1, wd_x⟩
  obtain ⟨u, q2, wu⟩ := hcw
  obtain ⟨som, p, x, s3, d3, adr, h3⟩ := where_spec DR h2 (by omega) ok
  obtain ⟨o, s4, d4, ho, h4⟩ := operand_spec DR h3 (by omega)
  obtain ⟨o2, s5, d5, ho2, h5⟩ := operand_spec DR h4 (by omega)
  by_cases w4 : r < 4
  · refine ⟨_, s5, ?_, .store som p x o adr ho, h5.up (by omega)⟩
    simp_all_arith [F__law_row, evO_fc, argO_fc, isMu_fc, isLk_fc, d1, d2, d3, d4, d5, str_i, str_j, str_x, q2, isLk_jk, w4]
  by_cases w7 : r < 7
  · refine ⟨_, s5, ?_, .load u som p x wu adr, h5.up (by omega)⟩
    simp_all_arith [F__law_row, evO_fc, argO_fc, isMu_fc, isLk_fc, d1, d2, d3, d4, d5, str_i, str_j, str_x, q2, isLk_jk, w4, w7]
  by_cases w10 : r < 10
  · obtain ⟨c, s6, d6, c0, c1, h6⟩ := drw DR h5 4
    have e : ∀ y : Str, SeqAt.shaped (.str y) = true ↔ PyData.strOk y = true := fun y => by simp [SeqAt.shaped, PyData.canLay0, PyData.depth]
    have s1' : SeqAt.shaped (.str (Str.ofString "+")) = true := by decide +kernel
    have s2' : SeqAt.shaped (.str (Str.ofString "-")) = true := by decide +kernel
    have s3' : SeqAt.shaped (.str (Str.ofString "<")) = true := by decide +kernel
    have s4' : SeqAt.shaped (.str (Str.ofString "*")) = true := by decide +kernel
    have : c = 0 ∨ c = 1 ∨ c = 2 ∨ c = 3 := by omega
    have a0 : atI [PyData.str (Str.ofString "+"), .str (Str.ofString "-"), .str (Str.ofString "<"), .str (Str.ofString "*")] 0 = some (.str (Str.ofString "+")) := rfl
    have a1 : atI [PyData.str (Str.ofString "+"), .str (Str.ofString "-"), .str (Str.ofString "<"), .str (Str.ofString "*")] 1 = some (.str (Str.ofString "-")) := rfl
    have a2 : atI [PyData.str (Str.ofString "+"), .str (Str.ofString "-"), .str (Str.ofString "<"), .str (Str.ofString "*")] 2 = some (.str (Str.ofString "<")) := rfl
    have a3 : atI [PyData.str (Str.ofString "+"), .str (Str.ofString "-"), .str (Str.ofString "<"), .str (Str.ofString "*")] 3 = some (.str (Str.ofString "*")) := rfl
    have t1 : (Str.ofString "+" == Str.ofString "*") = false := by decide +kernel
    have t2 : (Str.ofString "-" == Str.ofString "*") = false := by decide +kernel
    have t3 : (Str.ofString "<" == Str.ofString "*") = false := by decide +kernel
    have t4 : (Str.ofString "*" == Str.ofString "*") = true := by decide +kernel
    rcases this with rfl | rfl | rfl | rfl
    · refine ⟨_, s6, ?_, .set u "+" o o2 wu (.inl rfl) ho ho2, h6.up (by omega)⟩
      simp_all_arith [F__law_row, evO_fc, argO_fc, isMu_fc, isLk_fc, d1, d2, d3, d4, d5, d6, str_i, str_j, str_x, q2, isLk_jk, w4, w7, w10, s1', s4', a0, t1]
    · refine ⟨_, s6, ?_, .set u "-" o o2 wu (.inr (.inl rfl)) ho ho2, h6.up (by omega)⟩
      simp_all_arith [F__law_row, evO_fc, argO_fc, isMu_fc, isLk_fc, d1, d2, d3, d4, d5, d6, str_i, str_j, str_x, q2, isLk_jk, w4, w7, w10, s2', s4', a1, t2]
    · refine ⟨_, s6, ?_, .set u "<" o o2 wu (.inr (.inr (.inr rfl))) ho ho2, h6.up (by omega)⟩
      simp_all_arith [F__law_row, evO_fc, argO_fc, isMu_fc, isLk_fc, d1, d2, d3, d4, d5, d6, str_i, str_j, str_x, q2, isLk_jk, w4, w7, w10, s3', s4', a2, t3]
    · obtain ⟨e, s7, d7, e0, e1, h7⟩ := drw DR h6 4
      have key : ∃ i : Int, atI [PyData.int (-1), .int 2, .int 3, .int 0] e = some (.int i) ∧ -1000000 ≤ i ∧ i ≤ 1000000 := by
        have : e = 0 ∨ e = 1 ∨ e = 2 ∨ e = 3 := by omega
        rcases this with rfl | rfl | rfl | rfl <;> exact ⟨_, rfl, by omega, by omega⟩
      obtain ⟨i, q7, i0, i1⟩ := key
      refine ⟨_, s7, ?_, .set u "*" o (.int i) wu (.inr (.inr (.inl rfl))) ho (.num i i0 i1), h7.up (by omega)⟩
      simp_all_arith [F__law_row, evO_fc, argO_fc, isMu_fc, isLk_fc, d1, d2, d3, d4, d5, d6, d7, str_i, str_j, str_x, q2, q7, isLk_jk, w4, w7, w10, s4', a3, t4]
  have n1 : decide ((10 : Int) = 11) = false := by decide
  have n2 : decide ((11 : Int) = 10) = false := by decide
  by_cases w11 : r = 10
  · subst w11
    by_cases hne : called = []
    · subst hne
      refine ⟨_, s5, ?_, .tell o ho, h5.up (by omega)⟩
      simp_all_arith [F__law_row, evO_fc, argO_fc, isMu_fc, isLk_fc, d1, d2, d3, d4, d5, str_i, str_j, str_x, q2, isLk_jk, w4, w7, w10, sh0, sh_int, eqv_int, eqv_nil_nil, List.map_nil, n1]
    · have hpos := List.length_pos_iff.mpr hne
      obtain ⟨e, s7, d7, e0, e1, h7⟩ := drw DR h5 (called.length : Nat)
      obtain ⟨v, hv, hat⟩ := atI_map e0 e1
      have hat : atI (called.map wS) e = some (wS v) := hat
      have hem : called.isEmpty = false := by cases called with | nil => exact absurd rfl hne | cons _ _ => rfl
      refine ⟨_, s7, ?_, .call v hv, h7.up (by omega)⟩
      simp_all_arith [F__law_row, evO_fc, argO_fc, isMu_fc, isLk_fc, d1, d2, d3, d4, d5, d7, str_i, str_j, str_x, q2, isLk_jk, w4, w7, w10, sh0, shs, sh_int, eqv_int, eqv_words_nil, hem, List.length_map, hat]
  by_cases w12 : r = 11
  · subst w12
    obtain ⟨e, s7, d7, e0, e1, h7⟩ := drw DR h5 3
    have key : ∃ d, atI [PyData.tuple [.str (Str.ofString "need"), o], .tuple [.str (Str.ofString "need"), .int 1], .tuple [.str (Str.ofString "touch"), aD som p x]] e = some d ∧ RowOk os called d := by
      have : e = 0 ∨ e = 1 ∨ e = 2 := by omega
      rcases this with rfl | rfl | rfl
      · exact ⟨_, rfl, .need o ho⟩
      · exact ⟨_, rfl, .need (.int 1) (.num 1 (by omega) (by omega))⟩
      · exact ⟨_, rfl, .touch som p x adr⟩
    obtain ⟨d, q7, hd⟩ := key
    refine ⟨d, s7, ?_, hd, h7.up (by omega)⟩
    simp_all_arith [F__law_row, evO_fc, argO_fc, isMu_fc, isLk_fc, d1, d2, d3, d4, d5, d7, str_i, str_j, str_x, q2, q7, isLk_jk, w4, w7, w10, sh_int, eqv_int, n2]
  by_cases w13 : r < 13
  · refine ⟨_, s5, ?_, .tell o ho, h5.up (by omega)⟩
    simp_all_arith [F__law_row, evO_fc, argO_fc, isMu_fc, isLk_fc, d1, d2, d3, d4, d5, str_i, str_j, str_x, q2, isLk_jk, w4, w7, w10, w11, w12, w13, sh_int, eqv_int]
  · refine ⟨_, s5, ?_, .touch som p x adr, h5.up (by omega)⟩
    simp_all_arith [F__law_row, evO_fc, argO_fc, isMu_fc, isLk_fc, d1, d2, d3, d4, d5, str_i, str_j, str_x, q2, isLk_jk, w4, w7, w10, w11, w12, w13, sh_int, eqv_int]
end
end Pl

/-! PlC: the second family's code. -/
namespace Pl
open PySem PySem.Spec PyProof.Rows L2 ML Dm Cg Ck
section
variable {dr : Fn} (DR : DrOk dr)
def pE (s : Tp) (os : List (List Nat × Int)) (called : List (List Nat)) (found : List (List Nat × Gr)) (rt bl many : Option D) (blocks : Option Gr) (rows : Option (List D)) (ed way one oth : Option D) : En :=
  [some (fc s), some (.val (objsD os)), some (.mu (.lst (called.map wS))), some (.mu (.lst (found.map rtD))), jk rt, jk bl, jk many, blocks.map fun g => .mu (.lst (g.map blkD)), jk (rows.map PyData.tuple), jk ed, jk way, jk one, jk oth, none]
theorem nd02 : ([0, 2] : List Nat).Nodup := by decide
theorem isLk_om {α : Type} {o : Option α} {f : α → List D} : isLk (o.map fun l => B.mu (.lst (f l))) = false := by cases o <;> rfl
def wf : List Nat := [102]
def wff : List Nat := [102, 102]
theorem str_f : PyData.str (Str.ofString "f") = wS wf := congrArg PyData.str (by decide +kernel)
theorem str_ff : PyData.str (Str.ofString "ff") = wS wff := congrArg PyData.str (by decide +kernel)
theorem wd_f : Wd wf := ⟨by decide, by decide, fun c hc => by simp [wf] at hc; omega⟩
theorem wd_ff : Wd wff := ⟨by decide, by decide, fun c hc => by simp [wff] at hc; omega⟩
include DR
theorem rows_spec {n : Int} {s : Tp} (h : Tok n s) (hn : n < 600000) {os : List (List Nat × Int)} (ok : ObjsOk os) {called : List (List Nat)} (hc : ∀ w ∈ called, Wd w) (hcl : called.length ≤ 10) (found : List (List Nat × Gr)) (rt bl many : Option D) (blocks : Option Gr) (rows : Option (List D)) (ed way one oth : Option D) :
    ∃ rs s', LC__law_plan_1 dr (pE s os called found rt bl many blocks rows ed way one oth) = some (.new (.lst rs), pE s' os called found rt bl many blocks rows ed way one oth) ∧ rs.length ≤ 3 ∧ (∀ r ∈ rs, RowOk os called r) ∧ Tok (n + 100) s' := by
  obtain ⟨m, s1, d1, m0, m1, h1⟩ := drw DR h 4
  have hi := rgI_of (n := m) (by omega) (by omega)
  unfold LC__law_plan_1
  obtain ⟨out, env', q1, s2, rfl, e1, e2, h2⟩ := eLc_list (np := 1) (own := [13]) (fi := iRng1 (eCall 2 dr [] (aCons (eV 0) (aCons (eK (.int 4)) aNil)))) (t := .nm 13) (tst := tTrue) (elt := eCall 3 (F__law_row dr) [] (aCons (eV 0) (aCons (eV 1) (aCons (eV 2) aNil))))
    (env := pE s os called found rt bl many blocks rows ed way one oth) (env1 := pE s1 os called found rt bl many blocks rows ed way one oth) (src := none) (upto m) PyData.int
    (fun l acc env => ∃ s2, env = pE s2 os called found rt bl many blocks rows ed way one oth ∧ (acc.length : Int) + l.length = m ∧ (∀ r ∈ acc, RowOk os called r) ∧ Tok (n + 1 + 30 * acc.length) s2)
    (by
      unfold pE
      simp_all_arith [evO_fc, argO_fc, isMu_fc, isLk_fc, d1, hi, rangeD_upto])
    (by cases rt <;> cases bl <;> cases many <;> cases blocks <;> cases rows <;> cases ed <;> cases way <;> cases one <;> cases oth <;> rfl) ⟨s1, rfl, by simp [upto_len m0], fun r hr => by simp at hr, h1.up (by simp)⟩ (by
      rintro x l acc env ⟨s2, rfl, e1, e2, h2⟩
      simp only [List.length_cons] at e1
      obtain ⟨d, s3, d3, rk, h3⟩ := row_spec DR h2 (by omega) ok called hc hcl
      refine ⟨some d, pE s3 os called found rt bl many blocks rows ed way one oth, ?_, s3, rfl, by simp; omega, fun r hr => ?_, h3.up (by simp; omega)⟩
      · unfold pE
        simp_all_arith [v_lcS, tTrue, evO_fc, argO_fc, isMu_fc, isLk_fc, isLk_none, isLk_jk, isLk_om, jk_none, d3, nd02]
      · rcases List.mem_append.mp hr with z | z
        · exact e2 r z
        · simp at z; subst z; exact rk) (by have := upto_len m0; omega)
  simp at e1
  refine ⟨out, s2, ?_, by omega, e2, h2.up (by omega)⟩
  rw [q1]
  rfl
theorem block_turn {n : Int} {s : Tp} (h : Tok n s) (hn : n < 500000) {os : List (List Nat × Int)} (ok : ObjsOk os) {called : List (List Nat)} (hc : ∀ w ∈ called, Wd w) (hcl : called.length ≤ 10) (found : List (List Nat × Gr)) (rt : Option D) (b m : Int) (hm0 : 0 < m) (hm : m ≤ 3) (own : Gr) (ho : own.length ≤ 6) (rows : Option (List D)) (ed way one oth : Option D) :
    ∃ g s' rows' ed' way' one' oth', BF__law_plan_2 dr (pE s os called found rt (some (.int b)) (some (.int m)) (some own) rows ed way one oth) = some (.nx, pE s' os called found rt (some (.int b)) (some (.int m)) (some (own ++ [g])) rows' ed' way' one' oth') ∧ BlkOk os called m g ∧ (∀ rs, g.1 = .tuple rs → rs.length ≤ 3) ∧ Tok (n + 110) s' := by
  obtain ⟨rs, s1, q1, rl, rk, h1⟩ := rows_spec DR h (by omega) ok hc hcl found rt (some (.int b)) (some (.int m)) (some own) rows ed way one oth
  obtain ⟨w, s2, d2, w0, w1, h2⟩ := drw DR h1 4
  obtain ⟨x, s3, d3, x0, x1, h3⟩ := drw DR h2 m
  obtain ⟨y, s4, d4, y0, y1, h4⟩ := drw DR h3 m
  obtain ⟨o, s5, d5, ho5, h5⟩ := operand_spec DR h4 (by omega)
  have hl : own.length < sizeLine := sl_lt (by omega)
  have key : ∃ g : Gd, atI [Gd.d (.go x), Gd.d (.iff o x y), Gd.d .back, Gd.d .back] w = some g.d ∧ (∀ c ∈ g.outs, 0 ≤ c ∧ c < m) ∧ (∀ op a b, g = .iff op a b → Opd op) := by
    have : w = 0 ∨ w = 1 ∨ w = 2 ∨ w = 3 := by omega
    rcases this with rfl | rfl | rfl | rfl
    · exact ⟨.go x, rfl, fun c hc => by simp [Gd.outs] at hc; omega, fun _ _ _ z => by cases z⟩
    · exact ⟨.iff o x y, rfl, fun c hc => by simp [Gd.outs] at hc; omega, fun _ _ _ z => by cases z; exact ho5⟩
    · exact ⟨.back, rfl, fun c hc => by simp [Gd.outs] at hc, fun _ _ _ z => by cases z⟩
    · exact ⟨.back, rfl, fun c hc => by simp [Gd.outs] at hc, fun _ _ _ z => by cases z⟩
  obtain ⟨g, q, g1, g2⟩ := key
  have q : atI [PyData.tuple [.str "go", .int x], .tuple [.str "if", o, .int x, .int y], .tuple [.str "back"], .tuple [.str "back"]] w = some g.d := q
  have hg : (g.d : D) = g.d := rfl
  have go1 : ∀ c : Bool, ∃ g' : Gd, (if c = true then g else .back) = g' ∧ (∀ c ∈ g'.outs, 0 ≤ c ∧ c < m) ∧ (∀ op a b, g' = .iff op a b → Opd op) := fun c => by
    cases c with
    | true => exact ⟨g, rfl, g1, g2⟩
    | false => exact ⟨.back, rfl, fun c hc => by simp [Gd.outs] at hc, fun _ _ _ z => by cases z⟩
  have hb : Gd.d .back = (.tuple [.str "back"] : D) := rfl
  unfold pE at q1 ⊢
  simp only [Option.map_some, jk_some] at q1 ⊢
  by_cases hb1 : b + 1 < m
  · refine ⟨(.tuple rs, g), s5, some rs, some g.d, some (.int w), some (.int x), some (.int y), ?_, ⟨⟨rs, rfl, by omega, rk⟩, g1, g2⟩, fun rs' e => by cases e; omega, h5.up (by omega)⟩
    simp_all_arith [BF__law_plan_2, q1, evO_fc, argO_fc, isMu_fc, isLk_fc, isLk_om, isLk_jk, d2, d3, d4, d5, q, hl, hb1, List.length_map, List.map_append, List.map_cons, List.map_nil, Option.map_some, jk_some, blkD]
  · by_cases hw : w = 1
    · subst hw
      refine ⟨(.tuple rs, g), s5, some rs, some g.d, some (.int 1), some (.int x), some (.int y), ?_, ⟨⟨rs, rfl, by omega, rk⟩, g1, g2⟩, fun rs' e => by cases e; omega, h5.up (by omega)⟩
      simp_all_arith [BF__law_plan_2, q1, evO_fc, argO_fc, isMu_fc, isLk_fc, isLk_om, isLk_jk, d2, d3, d4, d5, q, hl, hb1, sh_int, eqv_int, List.length_map, List.map_append, List.map_cons, List.map_nil, Option.map_some, jk_some, blkD]
    · refine ⟨(.tuple rs, .back), s5, some rs, some g.d, some (.int w), some (.int x), some (.int y), ?_, ⟨⟨rs, rfl, by omega, rk⟩, fun c hc => by simp [Gd.outs] at hc, fun _ _ _ z => by cases z⟩, fun rs' e => by cases e; omega, h5.up (by omega)⟩
      simp_all_arith [BF__law_plan_2, q1, evO_fc, argO_fc, isMu_fc, isLk_fc, isLk_om, isLk_jk, d2, d3, d4, d5, q, hl, hb1, hw, sh_int, eqv_int, List.length_map, List.map_append, List.map_cons, List.map_nil, Option.map_some, jk_some, blkD, hb]
theorem blocks_loop {n : Int} {s : Tp} (h : Tok n s) (hn : n < 400000) {os : List (List Nat × Int)} (ok : ObjsOk os) {called : List (List Nat)} (hc : ∀ w ∈ called, Wd w) (hcl : called.length ≤ 10) (found : List (List Nat × Gr)) (rt bl : Option D) (m : Int) (hm0 : 0 < m) (hm : m ≤ 3) (rows : Option (List D)) (ed way one oth : Option D) :
    ∃ gs s' bl' rows' ed' way' one' oth', LF__law_plan_3 dr (pE s os called found rt bl (some (.int m)) (some []) rows ed way one oth) = some (.nx, pE s' os called found rt bl' (some (.int m)) (some gs) rows' ed' way' one' oth') ∧ (gs.length : Int) = m ∧ (∀ g ∈ gs, BlkOk os called m g ∧ (∀ rs, g.1 = .tuple rs → rs.length ≤ 3)) ∧ Tok (n + 400) s' := by
  have hi := rgI_of (n := m) (by omega) (by omega)
  refine Exists.elim (sFor_list (np := 1) (fi := iRng1 (eV 6)) (t := .nm 5) (body := BF__law_plan_2 dr) (env := pE s os called found rt bl (some (.int m)) (some []) rows ed way one oth) (env1 := pE s os called found rt bl (some (.int m)) (some []) rows ed way one oth) (src := none)
    (upto m) PyData.int (fun left env => ∃ (s2 : Tp) (gs : Gr) (bl' : Option D) (rows' : Option (List D)) (ed' way' one' oth' : Option D), env = pE s2 os called found rt bl' (some (.int m)) (some gs) rows' ed' way' one' oth' ∧ (gs.length : Int) + left.length = m ∧ (∀ g ∈ gs, BlkOk os called m g ∧ (∀ rs, g.1 = .tuple rs → rs.length ≤ 3)) ∧ Tok (n + 110 * gs.length) s2) ?fhi ?fp ?fh) ?ffin
  case fhi =>
    unfold pE
    simp_all_arith [hi, rangeD_upto, Option.map_some, jk_some]
  case fp => exact ⟨s, [], bl, rows, ed, way, one, oth, rfl, by simp [upto_len (show 0 ≤ m by omega)], fun g hg => (by simp at hg), h.up (by simp)⟩
  case fh =>
    rintro x left env ⟨s2, gs, b2, r2, e2', w2, o2, t2, rfl, e1, e2, h2⟩
    simp only [List.length_cons] at e1
    obtain ⟨g, s3, r3, e3, w3, o3, t3, q, bk, bk2, h3⟩ := block_turn DR h2 (by omega) ok hc hcl found rt x m hm0 hm gs (by omega) r2 e2' w2 o2 t2
    refine ⟨pE s2 os called found rt (some (.int x)) (some (.int m)) (some gs) r2 e2' w2 o2 t2, _, ?_, q, s3, gs ++ [g], _, r3, e3, w3, o3, t3, rfl, by simp; omega, fun y hy => ?_, h3.up (by simp; omega)⟩
    · unfold pE
      simp_all_arith [Option.map_some, jk_some, isLk_jk]
    · rcases List.mem_append.mp hy with z | z
      · exact e2 y z
      · simp at z; subst z; exact ⟨bk, bk2⟩
  case ffin =>
    rintro env' ⟨q1, s', gs, b', r3, e3, w3, o3, t3, rfl, e1, e2, h2⟩
    simp at e1
    exact ⟨gs, s', b', r3, e3, w3, o3, t3, q1, e1, e2, h2.up (by omega)⟩
theorem routine_turn {n : Int} {s : Tp} (h : Tok n s) (hn : n < 300000) {os : List (List Nat × Int)} (ok : ObjsOk os) {called : List (List Nat)} (hc : ∀ w ∈ called, Wd w) (hcl : called.length ≤ 10) (found : List (List Nat × Gr)) (hf : found.length ≤ 100) (w : List Nat) (bl many : Option D) (own : Option Gr) (rows : Option (List D)) (ed way one oth : Option D) :
    ∃ g s' bl' many' own' rows' ed' way' one' oth', BF__law_plan_4 dr (pE s os called found (some (wS w)) bl many own rows ed way one oth) = some (.nx, pE s' os called (found ++ [(w, g)]) (some (wS w)) bl' many' own' rows' ed' way' one' oth') ∧ RtOk os called (w, g) ∧ g.length ≤ 3 ∧ (∀ b ∈ g, ∀ rs, b.1 = .tuple rs → rs.length ≤ 3) ∧ Tok (n + 410) s' := by
  obtain ⟨m, s1, d1, m0, m1, h1⟩ := drw DR h 3
  obtain ⟨gs, s2, bl2, r2, e2', w2, o2, t2, q1, e1, e2, h2⟩ := blocks_loop DR h1 (by omega) ok hc hcl found (some (wS w)) bl (1 + m) (by omega) (by omega) rows ed way one oth
  have hl : found.length < sizeLine := sl_lt (by omega)
  refine ⟨gs, s2, bl2, some (.int (1 + m)), some gs, r2, e2', w2, o2, t2, ?_, ⟨by show 0 < gs.length; omega, by show gs.length ≤ 6; omega, fun g hg => by show BlkOk os called (gs.length : Nat) g; rw [e1]; exact (e2 g hg).1⟩, by omega, fun b hb => (e2 b hb).2, h2.up (by omega)⟩
  unfold pE at q1 ⊢
  simp only [Option.map_some, jk_some, List.map_nil] at q1 ⊢
  simp_all_arith [BF__law_plan_4, q1, evO_fc, argO_fc, isMu_fc, isLk_fc, isLk_om, isLk_jk, d1, hl, List.length_map, List.map_append, List.map_cons, List.map_nil, Option.map_some, jk_some, rtD]
/-- what is drawn is small -/
structure Few (os : List (List Nat × Int)) (rts : List (List Nat × Gr)) : Prop where
  objs : os.length ≤ 3
  size : ∀ o ∈ os, o.2 ≤ 3
  len : rts.length ≤ 3
  blk : ∀ r ∈ rts, r.2.length ≤ 3
  row : ∀ r ∈ rts, ∀ b ∈ r.2, ∀ rs, b.1 = .tuple rs → rs.length ≤ 3
omit DR in
theorem called_spec (k : Int) (h0 : 0 ≤ k) (h1 : k < 3) : ∃ called : List (List Nat), ML.cutD [wS wf, wS wff] none (some k) = called.map wS ∧ called.length ≤ 2 ∧ (∀ w ∈ called, Wd w) ∧ (called ++ [wmain]).Nodup ∧ (called ++ [wmain]).Pairwise (fun a b => leW a b = true) := by
  have : k = 0 ∨ k = 1 ∨ k = 2 := by omega
  have l1 : leW wf wmain = true := by rw [leW_eq]; decide
  have l2 : leW wf wff = true := by rw [leW_eq]; decide
  have l3 : leW wff wmain = true := by rw [leW_eq]; decide
  rcases this with rfl | rfl | rfl
  · exact ⟨[], rfl, by simp, fun w hw => by simp at hw, by decide, by simp⟩
  · refine ⟨[wf], rfl, by simp, fun w hw => ?_, by decide, by simp [l1]⟩
    simp at hw; subst hw; exact wd_f
  · refine ⟨[wf, wff], rfl, by simp, fun w hw => ?_, by decide, by simp [l1, l2, l3]⟩
    simp at hw
    rcases hw with rfl | rfl
    · exact wd_f
    · exact wd_ff
theorem plan_spec {n : Int} {s : Tp} (h : Tok n s) (hn : n < 200000) :
    ∃ os called rts s', F__law_plan dr [fc s] = some (.val (cdD os rts), [fc s']) ∧ CodeOk os called rts ∧ Few os rts ∧ Tok (n + 1300) s' := by
  obtain ⟨os, s1, d1, ok, hos, hsz, h1⟩ := objects_spec DR h (by omega)
  obtain ⟨k, s2, d2, k0, k1, h2⟩ := drw DR h1 3
  obtain ⟨called, ec, hcl, wd, nd, pw⟩ := called_spec k k0 k1
  have hsw : called ++ [wmain] = sortW (called ++ [wmain]) := sortW_uniq (List.Perm.refl _) pw
  have lf2 : ∃ s4 rts rt bl many own rows ed way one oth, LF__law_plan_5 dr (pE s2 os called [] none none none none none none none none none) = some (.nx, pE s4 os called rts rt bl many own rows ed way one oth) ∧ rts.map (·.1) = called ++ [wmain] ∧ (∀ r ∈ rts, RtOk os called r ∧ r.2.length ≤ 3 ∧ (∀ b ∈ r.2, ∀ rs, b.1 = .tuple rs → rs.length ≤ 3)) ∧ Tok (n + 1300) s4 := by
    refine Exists.elim (sFor_list (np := 1) (fi := iSeq (e2 gAdd (eV 2) (eLst (aCons (eK (.str "main")) aNil)))) (t := .nm 4) (body := BF__law_plan_4 dr) (env := pE s2 os called [] none none none none none none none none none) (env1 := pE s2 os called [] none none none none none none none none none) (src := none)
      (called ++ [wmain]) wS (fun left env => ∃ (s4 : Tp) (rts : List (List Nat × Gr)) (rt bl many : Option D) (own : Option Gr) (rows : Option (List D)) (ed way one oth : Option D), env = pE s4 os called rts rt bl many own rows ed way one oth ∧ rts.map (·.1) ++ left = called ++ [wmain] ∧ (∀ r ∈ rts, RtOk os called r ∧ r.2.length ≤ 3 ∧ (∀ b ∈ r.2, ∀ rs, b.1 = .tuple rs → rs.length ≤ 3)) ∧ Tok (n + 21 + 410 * rts.length) s4) ?fhi ?fp ?fh) ?ffin
    case fhi =>
      have hl2 : called.length + 1 ≤ sizeLine := sl_le (by omega)
      unfold pE
      simp_all_arith [str_main, jk_none, Option.map_some, Option.map_none, List.map_nil, hl2, List.length_map, List.length_singleton, List.map_append, List.map_cons]
    case fp => exact ⟨s2, [], none, none, none, none, none, none, none, none, none, rfl, by simp, fun r hr => (by simp at hr), h2.up (by simp; omega)⟩
    case fh =>
      rintro w left env ⟨s4, rts, rt, bl, many, own, rows, ed, way, one, oth, rfl, e2, e3, h4⟩
      have := congrArg List.length e2
      simp at this
      obtain ⟨g, s5, bl', many', own', rows', ed', way', one', oth', q, rk, g3, g4, h5⟩ := routine_turn DR h4 (by omega) ok wd (by omega) rts (by omega) w bl many own rows ed way one oth
      refine ⟨pE s4 os called rts (some (wS w)) bl many own rows ed way one oth, _, ?_, q, s5, rts ++ [(w, g)], _, bl', many', own', rows', ed', way', one', oth', rfl, by simpa using e2, fun r hr => ?_, h5.up (by simp; omega)⟩
      · unfold pE
        simp_all_arith [Option.map_some, jk_some, isLk_jk]
      · rcases List.mem_append.mp hr with z | z
        · exact e3 r z
        · simp at z; subst z; exact ⟨rk, g3, g4⟩
    case ffin =>
      rintro env' ⟨q1, s', rts, rt, bl, many, own, rows, ed, way, one, oth, rfl, e2, e3, h4⟩
      have := congrArg List.length e2
      simp at this
      exact ⟨s', rts, rt, bl, many, own, rows, ed, way, one, oth, q1, by simpa using e2, e3, h4.up (by omega)⟩
  obtain ⟨s4, rts, rt, bl, many, own, rows, ed, way, one, oth, q2, e2, e3, h4⟩ := lf2
  have hl := congrArg List.length e2
  simp at hl
  refine ⟨os, called, rts, s4, ?_, ⟨ok, by omega, wd, nd, by rw [e2]; exact hsw, fun r hr => (e3 r hr).1⟩, ⟨hos, hsz, by omega, fun r hr => (e3 r hr).2.1, fun r hr => (e3 r hr).2.2⟩, h4⟩
  unfold pE at q2
  simp only [jk_none, Option.map_some, Option.map_none, List.map_nil] at q2
  simp_all_arith [F__law_plan, evO_fc, argO_fc, isMu_fc, isLk_fc, d1, d2, str_f, str_ff, ec, q2, isLk_jk, cdD]
end
end Pl

/-! K28D: the law's draw, its feed (printed by mkdr2.py). -/
namespace K28
open PySem PySem.Spec PyProof.Rows L2 ML Dm Cg Ck Pl
theorem p5 {x : Int} (h0 : 0 ≤ x) (h1 : x < 18446744073709551616) : x.natAbs < 18446744073709551616 := by omega
theorem sq_le {t : Int} (h0 : 0 ≤ t) (h1 : t ≤ 1000000) : 0 ≤ 7 * t * t ∧ 7 * t * t ≤ 7 * 1000000 * 1000000 := by
  have a : 0 ≤ t * t := Int.mul_nonneg h0 h0
  have b : t * t ≤ 1000000 * 1000000 := Int.mul_le_mul h1 h1 h0 (by omega)
  rw [Int.mul_assoc]
  omega
def mixK (c t : Int) : Int :=
  ((((c % 2147482711 + 7 * t * t + 223) ^ 5 % 2147482693) + 56003 * t) ^ 5 % 2147482687) / 32
theorem draw_at (cells : List Int) (p l t m : Int) (hp : 0 ≤ p) (hm : 0 < m) (hm2 : m < 1000) (ht : 0 ≤ t) (ht2 : t < 950000) :
    ∃ r p' l', F__law_draw [fc ⟨cells, p, l, t⟩, .val (.int m)] = some (.val (.int r), [fc ⟨cells, p', l', t + 1⟩, .val (.int m)]) ∧ 0 ≤ r ∧ r < m ∧ 0 ≤ p' := by
  have hm3 : m < 1073741824 := by omega
  have hmne : m ≠ 0 := by omega
  have rm : ∀ x : Int, 0 ≤ x % m ∧ x % m < m := fun x => ⟨Int.emod_nonneg x hmne, Int.emod_lt_of_pos x hm⟩
  unfold fc
  by_cases hl : 0 < l
  · refine ⟨l % m, p, l / m, ?_, (rm _).1, (rm _).2, hp⟩
    simp_all_arith [F__law_draw, hl, hm, hm3, lk_cells, lk_at, lk_left, lk_turn, pt_at, pt_left, pt_turn]
  · have hc1 : 0 ≤ 7 * (t + 1) * (t + 1) ∧ 7 * (t + 1) * (t + 1) ≤ 7 * 1000000 * 1000000 := sq_le (by omega) (by omega)
    have M1 : mulOk 7 (t + 1) = true := mulOk_of (by decide) (by omega)
    have M2 : mulOk (7 * (t + 1)) (t + 1) = true := mulOk_of (by omega) (by omega)
    have M3 : mulOk 56003 (t + 1) = true := mulOk_of (by decide) (by omega)
    have B1 : ∀ x : Int, (x % 2147482711 + 7 * (t + 1) * (t + 1) + 223).natAbs < 18446744073709551616 := fun x => by
      have h1 := Int.emod_nonneg x (show (2147482711 : Int) ≠ 0 by decide)
      have h2 := Int.emod_lt_of_pos x (show (0 : Int) < 2147482711 by decide)
      exact p5 (by omega) (by omega)
    have B2 : ∀ x : Int, (x % 2147482693 + 56003 * (t + 1)).natAbs < 18446744073709551616 := fun x => by
      have h1 := Int.emod_nonneg x (show (2147482693 : Int) ≠ 0 by decide)
      have h2 := Int.emod_lt_of_pos x (show (0 : Int) < 2147482693 by decide)
      exact p5 (by omega) (by omega)
    have s0 : SeqAt.shaped (.list []) = true := by decide +kernel
    cases cells with
    | nil =>
      refine ⟨mixK 719 (t + 1) % m, p + 1, l, ?_, (rm _).1, (rm _).2, by omega⟩
      simp_all_arith [F__law_draw, hl, hm, hm3, M1, M2, M3, B1, B2, s0, eqv_nil_nil, lk_cells, lk_at, lk_left, lk_turn, pt_at, pt_left, pt_turn, isLk_jk, isLk_none]
      rfl
    | cons z zs =>
      have hlen : (0 : Int) < ((z :: zs).length : Int) := by simp
      obtain ⟨c, hc⟩ := atI_ints (ns := z :: zs) (i := p % ((z :: zs).length : Int)) (Int.emod_nonneg _ (by omega)) (Int.emod_lt_of_pos _ hlen)
      have hs := shaped_ints (z :: zs)
      simp only [List.map_cons, List.length_cons] at hc hs hlen
      by_cases hg : (1000000000000000000 : Int) ≤ c
      · by_cases hq : p < ((zs.length + 1 : Nat) : Int)
        · refine ⟨c % m, p + 1, c / m, ?_, (rm _).1, (rm _).2, by omega⟩
          simp_all_arith [F__law_draw, hl, hm, hm3, hc, hs, hlen, s0, eqv_nil_cons, hg, hq, lk_cells, lk_at, lk_left, lk_turn, pt_at, pt_left, pt_turn, isLk_jk, isLk_none]
        · refine ⟨mixK c (t + 1) % m, p + 1, l, ?_, (rm _).1, (rm _).2, by omega⟩
          simp_all_arith [F__law_draw, hl, hm, hm3, hc, hs, hlen, s0, eqv_nil_cons, hg, hq, M1, M2, M3, B1, B2, lk_cells, lk_at, lk_left, lk_turn, pt_at, pt_left, pt_turn, isLk_jk, isLk_none]
          rfl
      · refine ⟨mixK c (t + 1) % m, p + 1, l, ?_, (rm _).1, (rm _).2, by omega⟩
        simp_all_arith [F__law_draw, hl, hm, hm3, hc, hs, hlen, s0, eqv_nil_cons, hg, M1, M2, M3, B1, B2, lk_cells, lk_at, lk_left, lk_turn, pt_at, pt_left, pt_turn, isLk_jk, isLk_none]
        rfl
theorem drok : DrOk F__law_draw := ⟨fun n s h m hn h0 h1 => by
  obtain ⟨h1', h2', h3'⟩ := h
  obtain ⟨r, p', l', e, r0, r1, hp⟩ := draw_at s.cells s.p s.l s.t m h1' h0 h1 h2' (by omega)
  exact ⟨r, ⟨s.cells, p', l', s.t + 1⟩, e, r0, r1, hp, by show (0 : Int) ≤ s.t + 1; omega, by show s.t + 1 ≤ n + 1; omega⟩⟩
end K28

/-! ShT: what repr shows is a text. -/
namespace ML
open PySem PySem.Spec PyProof.Rows L2 PySem.Builtin PySem.Builtin.Str
abbrev U (x : Str) : Prop := ∀ c ∈ x.cps.toList, c < 0x110000
theorem u_iff {x : Str} : PyData.strOk x = true ↔ U x := by
  unfold PyData.strOk U
  rw [Array.all_eq_true_iff_forall_mem]
  constructor
  · intro h c hc
    simpa using h c (Array.mem_toList_iff.mp hc)
  · intro h c hc
    simpa using h c (Array.mem_toList_iff.mpr hc)
theorem u_app {x y : Str} (hx : U x) (hy : U y) : U (x ++ y) := by
  intro c hc
  have hc : c ∈ (x.cps ++ y.cps).toList := hc
  rw [Array.toList_append] at hc
  rcases List.mem_append.mp hc with h | h
  · exact hx c h
  · exact hy c h
theorem chr_lt (c : Char) : c.toNat < 0x110000 := by
  rcases c.valid with h | ⟨_, h⟩
  · exact Nat.lt_of_lt_of_le h (by decide)
  · exact h
theorem u_lit (s : String) : U (Str.ofString s) := by
  intro c hc
  rw [Str.ofString_eq_toList] at hc
  obtain ⟨d, _, rfl⟩ := List.mem_map.mp (by simpa using hc)
  exact chr_lt d
theorem u_dig {n c : Nat} (h : c ∈ (Nat.toDigits 16 n).map Char.toNat) : c < 0x110000 := by
  obtain ⟨d, _, rfl⟩ := List.mem_map.mp h
  exact chr_lt d
theorem u_char {q c : Nat} (hq : q < 0x110000) (hc : c < 0x110000) : ∀ e ∈ reprChar q c, e < 0x110000 := by
  intro e he
  unfold reprChar at he
  dsimp only at he
  repeat' split at he
  all_goals
    simp only [List.mem_append, List.mem_cons, List.not_mem_nil, or_false, List.mem_replicate] at he
    first
      | omega
      | (rcases he with he | he
         all_goals first | omega | (rcases he with he | he <;> first | omega | exact u_dig he))
theorem u_quote (x : Str) : reprQuote x < 0x110000 := by
  unfold reprQuote
  split <;> omega
theorem u_fold {q : Nat} (hq : q < 0x110000) : ∀ (l : List Nat) (acc : Array Nat), (∀ c ∈ l, c < 0x110000) → (∀ c ∈ acc.toList, c < 0x110000) → ∀ c ∈ (l.foldl (fun out c => out ++ (reprChar q c).toArray) acc).toList, c < 0x110000
  | [], acc, _, h => h
  | d :: l, acc, hl, h => by
    refine u_fold hq l _ (fun c hc => hl c (List.mem_cons_of_mem _ hc)) fun c hc => ?_
    rw [Array.toList_append] at hc
    rcases List.mem_append.mp hc with z | z
    · exact h c z
    · exact u_char hq (hl d (List.mem_cons_self ..)) c (by simpa using z)
theorem u_repr {x : Str} (h : U x) : U (reprText x) := by
  intro c hc
  have hc : c ∈ ((x.cps.foldl (fun out c => out ++ (reprChar (reprQuote x) c).toArray) #[reprQuote x]).push (reprQuote x)).toList := hc
  rw [Array.toList_push, ← Array.foldl_toList] at hc
  rcases List.mem_append.mp hc with z | z
  · exact u_fold (u_quote x) x.cps.toList #[reprQuote x] h (fun c hc => by simp at hc; subst hc; exact u_quote x) c z
  · simp at z; subst z; exact u_quote x
theorem u_join {sep : Str} (hs : U sep) : ∀ {ts : List Str}, (∀ t ∈ ts, U t) → U (Str.join sep ts)
  | [], _ => fun c hc => by cases hc
  | [x], h => h x (List.mem_cons_self ..)
  | x :: y :: r, h => u_app (u_app (h x (List.mem_cons_self ..)) hs) (u_join hs fun t ht => h t (List.mem_cons_of_mem _ ht))
theorem u_from : ∀ (ts : List Str) (k : Nat) (acc : Str), U acc → (∀ t ∈ ts, U t) → U (textFrom k acc ts)
  | [], _, _, h, _ => h
  | t :: ts, k, acc, h, ht => u_from ts (k + 1) _ (u_app (u_app h (u_lit _)) (ht t (List.mem_cons_self ..))) fun x hx => ht x (List.mem_cons_of_mem _ hx)
mutual
theorem u_shown : ∀ d : PyData, d.canLay0 = true → U d.shown
  | .none, _ => u_lit _
  | .bool b, _ => by cases b <;> exact u_lit _
  | .int i, _ => u_lit _
  | .str x, h => u_repr (u_iff.mp (by simpa only [PyData.canLay0] using h))
  | .list xs, h => by
    have h1 := u_all xs (by simpa only [PyData.canLay0] using h)
    exact u_app (u_from _ _ _ (u_lit _) h1) (u_lit _)
  | .tuple xs, h => by
    have h1 := u_all xs (by simpa only [PyData.canLay0] using h)
    exact u_app (u_app (u_lit _) (u_join (u_lit _) h1)) (u_lit _)
  | .dict _, h => by simp only [PyData.canLay0] at h; exact nomatch h
theorem u_all : ∀ xs : List PyData, PyData.canLayAll0 xs = true → ∀ t ∈ PyData.shownAll xs, U t
  | [], _ => fun t ht => by simp only [PyData.shownAll] at ht; cases ht
  | x :: xs, h => fun t ht => by
    have h' : x.canLay0 = true ∧ PyData.canLayAll0 xs = true := by simpa only [PyData.canLayAll0, Bool.and_eq_true] using h
    simp only [PyData.shownAll] at ht
    rcases List.mem_cons.mp ht with rfl | z
    · exact u_shown x h'.1
    · exact u_all xs h'.2 t z
end
theorem strOk_shown {d : D} (h : PyData.canLay0 d = true) : PyData.strOk d.shown = true := u_iff.mpr (u_shown d h)
end ML

/-! WyA: the row at a place by way of dict(code[1]); a block's rows and end, turned about. -/
namespace Wy
open PySem PySem.Spec PyProof.Rows L2 ML Dm Cg Ck
def kvR (rts : Rts) : List (Key × D) := rts.map fun r => (.inr (tx r.1), .tuple (r.2.map blkD))
theorem pairsOf_rts : ∀ rts : Rts, ML.pairsOf (rts.map rtD) = some (kvR rts)
  | [] => rfl
  | r :: rts => by
    have ih := pairsOf_rts rts
    simp only [List.map_cons, rtD, wS, ML.pairsOf, keyD, Option.bind_some, kvR] at ih ⊢
    rw [ih]; rfl
theorem kvR_nodup {rts : Rts} (h : (rts.map (·.1)).Nodup) : ((kvR rts).map (·.1)).Nodup := by
  have e : (kvR rts).map (·.1) = (rts.map (·.1)).map fun w => (Sum.inr (tx w) : Key) := by simp [kvR]
  rw [e]
  exact List.pairwise_map.mpr (h.imp fun hne z => hne (tx_inj (Sum.inr.inj z)))
theorem dict_rts {rts : Rts} (h : (rts.map (·.1)).Nodup) : mergeD [] (kvR rts) = kvR rts := mergeD_new (by simpa using kvR_nodup h)
theorem lk_rts {w : List Nat} {gs : Gr} : ∀ {rts : Rts}, (rts.map (·.1)).Nodup → (w, gs) ∈ rts → lkD (kvR rts) (.inr (tx w)) = some (.tuple (gs.map blkD))
  | [], _, h => by cases h
  | r :: rts, nd, h => by
    rw [List.map_cons, List.nodup_cons] at nd
    show lkD ((.inr (tx r.1), .tuple (r.2.map blkD)) :: kvR rts) _ = _
    rcases List.mem_cons.mp h with e | h
    · subst e
      exact lkD_pos rfl
    · have : r.1 ≠ w := fun z => nd.1 (z ▸ List.mem_map_of_mem (f := (·.1)) h)
      rw [lkD_neg (fun z => this (tx_inj (Sum.inr.inj z)))]
      exact lk_rts nd.2 h
theorem key_wS {w : List Nat} : keyD (wS w) = some (.inr (tx w)) := rfl
/-- a place, what stands there -/
structure At (os : Os) (called : List (List Nat)) (rts : Rts) (w : List Nat) (i k : Nat) (d : D) : Prop where
  is : ∃ (gs : Gr) (g : D × Gd) (rs : List D), (w, gs) ∈ rts ∧ gs[i]? = some g ∧ g.1 = .tuple rs ∧ rs.length ≤ 6 ∧ k ≤ rs.length ∧ d = (rs ++ [g.2.d]).getD k .none
  ln : Ln os called d
section
variable {os : Os} {called : List (List Nat)} {rts : Rts}
theorem at_blk (C : Cd os called rts) {w : List Nat} {gs : Gr} (hr : (w, gs) ∈ rts) {i : Nat} {g : D × Gd} (hg : gs[i]? = some g) : ∃ rs, g.1 = .tuple rs ∧ rs.length ≤ 6 ∧ ∀ k, k ≤ rs.length → At os called rts w i k ((rs ++ [g.2.d]).getD k .none) := by
  have bk := (C.rt _ hr).blk g (List.mem_of_getElem? hg)
  have six : gs.length ≤ 6 := (C.rt _ hr).six
  obtain ⟨rs, e, hl, hro⟩ := bk.rows
  refine ⟨rs, e, hl, fun k hk => ⟨⟨gs, g, rs, hr, hg, e, hl, hk, rfl⟩, ?_⟩⟩
  by_cases h : k < rs.length
  · have : (rs ++ [g.2.d]).getD k .none = rs[k] := by
      rw [List.getD_eq_getElem?_getD, List.getElem?_append_left h, List.getElem?_eq_getElem h]; rfl
    rw [this]
    exact .row _ (hro _ (List.getElem_mem h))
  · have hk2 : k = rs.length := by omega
    have : (rs ++ [g.2.d]).getD k .none = g.2.d := by
      subst hk2
      rw [List.getD_eq_getElem?_getD, List.getElem?_append_right (Nat.le_refl _)]
      simp
    rw [this]
    exact .fin g.2 (fun c hc => ⟨(bk.outs c hc).1, by have h2 := (bk.outs c hc).2; have h2 : c < (gs.length : Int) := h2; omega⟩) bk.opd
theorem row_there_spec (C : Cd os called rts) {w : List Nat} {i k : Nat} {d : D} (A : At os called rts w i k d) : F_row_there [.val (cdD os rts), .val (plD w i k)] = some (.val d, [.val (cdD os rts), .val (plD w i k)]) := by
  obtain ⟨gs, g, rs, hr, hg, e, hl, hk, ed⟩ := A.is
  have p1 := pairsOf_rts rts
  have p2 := dict_rts C.nd
  have p3 := lk_rts C.nd hr
  have a1 : atI (gs.map blkD) (i : Int) = some (blkD g) := atI_get (by omega) (by rw [List.getElem?_map, show ((i : Int)).toNat = i from rfl, hg]; rfl)
  have hr2 := C.len
  have hl2 : (kvR rts).length ≤ 1000 := by rw [show (kvR rts).length = rts.length from List.length_map ..]; omega
  have eb : blkD g = .tuple [.tuple rs, g.2.d] := by unfold blkD; rw [e]
  rw [eb] at a1
  by_cases h : k < rs.length
  · have hd : d = rs[k] := by
      rw [ed, List.getD_eq_getElem?_getD, List.getElem?_append_left h, List.getElem?_eq_getElem h]; rfl
    have a2 : atI rs (k : Int) = some d := atI_get (by omega) (by rw [hd]; simp [h])
    have hlt : (k : Int) < (rs.length : Nat) := by omega
    unfold cdD plD
    simp_all_arith! [F_row_there, p1, p2, p3, a1, a2, key_wS, hlt, isLk_jk, List.length_map, at3_0, at3_1, at3_2]
  · have hk2 : k = rs.length := by omega
    have hd : d = g.2.d := by
      rw [ed, hk2, List.getD_eq_getElem?_getD, List.getElem?_append_right (Nat.le_refl _)]
      simp
    have hlt : ¬ (k : Int) < (rs.length : Nat) := by omega
    unfold cdD plD
    simp_all_arith! [F_row_there, p1, p2, p3, a1, key_wS, hlt, isLk_jk, List.length_map, at3_0, at3_1, at3_2, hd]
/-- the rows of a block and its end, each with its place -/
def itA (w : List Nat) (i : Nat) (l : List D) (k : Nat) : List D := (l.zipIdx k).map fun p => .tuple [plD w i p.2, p.1]
theorem at_itA {l : List D} {k : Nat} {w : List Nat} {i : Nat} : (itA w i l k).length = l.length := by simp [itA]
def iE (C : D) (w : List Nat) (i : Nat) (rs : List D) (e : D) : En := [some (.val C), some (.val (wS w)), some (.val (.int (i : Nat))), some (.val (.tuple rs)), some (.val e), some (.mu (.lst (rs ++ [e]))), none]
theorem rng_zip {α : Type} (l : List α) : rangeD 0 ((l.length : Nat) : Int) = l.zipIdx.map fun p => PyData.int (p.2 : Nat) := by
  have h : l.zipIdx.map (fun p => PyData.int (p.2 : Nat)) = (l.zipIdx.map (·.2)).map fun i => PyData.int (i : Nat) := by rw [List.map_map]; rfl
  rw [h, List.zipIdx_map_snd, ← List.range_eq_range']
  unfold rangeD
  simp
theorem items_spec (C : Cd os called rts) {w : List Nat} {gs : Gr} (hr : (w, gs) ∈ rts) {i : Nat} {g : D × Gd} (hg : gs[i]? = some g) {rs : List D} (e : g.1 = .tuple rs) (hl : rs.length ≤ 6) :
    F__law_items [.val (cdD os rts), .val (wS w), .val (.int (i : Nat))] = some (.new (.lst (itA w i (rs ++ [g.2.d]) 0).reverse), [.val (cdD os rts), .val (wS w), .val (.int (i : Nat))]) := by
  have p1 := pairsOf_rts rts
  have p2 := dict_rts C.nd
  have p3 := lk_rts C.nd hr
  have a1 : atI (gs.map blkD) (i : Int) = some (blkD g) := atI_get (by omega) (by rw [List.getElem?_map, show ((i : Int)).toNat = i from rfl, hg]; rfl)
  have eb : blkD g = .tuple [.tuple rs, g.2.d] := by unfold blkD; rw [e]
  rw [eb] at a1
  have hr2 := C.len
  have hl2 : (kvR rts).length ≤ 1000 := by rw [show (kvR rts).length = rts.length from List.length_map ..]; omega
  have hi := rgI_of (n := ((rs ++ [g.2.d]).length : Nat)) (by omega) (by rw [List.length_append, List.length_singleton]; omega)
  have lc : LC__law_items_1 (iE (cdD os rts) w i rs g.2.d) = some (.new (.lst (itA w i (rs ++ [g.2.d]) 0)), iE (cdD os rts) w i rs g.2.d) := by
    unfold LC__law_items_1
    have := eLc_of (np := 3) (own := [6]) (fi := iRng1 (eN gLen (aCons (eV 5) aNil))) (t := .nm 6) (tst := tTrue) (elt := eTup (aCons (eTup (aCons (eV 1) (aCons (eV 2) (aCons (eC 6) aNil)))) (aCons (e2 gIx (eV 5) (eC 6)) aNil)))
      (env := iE (cdD os rts) w i rs g.2.d) (env1 := iE (cdD os rts) w i rs g.2.d) (src := none)
      (rs ++ [g.2.d]).zipIdx (fun p => .int (p.2 : Nat)) (fun _ => true) (fun p => .tuple [plD w i p.2, p.1]) (by unfold iE; simp_all_arith! [hi, rng_zip]) rfl (fun p hp => by
        obtain ⟨x, j⟩ := p
        have hj : (rs ++ [g.2.d])[j]? = some x := by simpa using List.mem_zipIdx_iff_getElem?.mp hp
        have a2 : atI (rs ++ [g.2.d]) (j : Int) = some x := atI_get (by omega) hj
        unfold iE
        simp_all_arith! [v_lcS, tTrue, a2, isLk_none, plD]) (by rw [List.length_zipIdx, List.length_append, List.length_singleton]; omega)
    rw [this, List.filter_eq_self.mpr (by simp)]
    rfl
  have hl3 : rs.length + 1 ≤ sizeLine := sl_le (by omega)
  unfold iE at lc
  unfold cdD at lc ⊢
  simp_all_arith! [F__law_items, p1, p2, p3, a1, key_wS, isLk_jk, List.length_map, hl3, List.length_singleton, lc]
end
end Wy

/-! WyB: the law's own face; what may be chosen at a row. -/
namespace Wy
open PySem PySem.Spec PyProof.Rows L2 ML Dm Cg Ck
section
variable {os : Os} {called : List (List Nat)} {rts : Rts}
def fE (C A : D) (som : List (List Nat)) (p x : D) (acc : List D) (j6 : Option D) : En :=
  [some (.val C), some (.val A), some (.val (.tuple (som.map wS))), some (.val p), some (.val x), some (.mu (.lst acc)), jk j6, none]
theorem face_lc2 (ok : ObjsOk os) (R A : D) (som : List (List Nat)) (p : D) (acc : List D) {x : D} {c : Bool} (hx : Plc x c) {w : List Nat} (hw : w ∈ os.map (·.1)) (hd : Wd w) :
    LC__law_face_1 (fE (cA os R) A som p x acc (some (wS w))) = some (.new (.lst (celW os x w)), fE (cA os R) A som p x acc (some (wS w))) := by
  obtain ⟨z1, z2⟩ := sz_pos ok hw
  have hr : rgI (szOf os w) = true := by simp [rgI]; omega
  have hl : (rangeD 0 (szOf os w)).length ≤ 1000000 := by rw [rg_len]; omega
  have lk := lk_w hw hd
  have hp := pairsOf_objs os
  have hdd := dict_objs ok.nodup
  unfold LC__law_face_1
  have := eLc_of (np := 2) (own := [7]) (fi := iRng1 (e2 gIx (eN gDictA (aCons (e2 gIx (eV 0) (eK (.int 0))) aNil)) (eV 6))) (t := .nm 7) (tst := fOr (rB (eIsi "str" (eV 4))) (rB (e2 (gEqA false) (eC 7) (eV 4)))) (elt := eTup (aCons (eV 6) (aCons (eC 7) aNil)))
    (env := fE (cA os R) A som p x acc (some (wS w))) (env1 := fE (cA os R) A som p x acc (some (wS w))) (src := none)
    (rangeD 0 (szOf os w)) id (kpB x) (fun d => .tuple [wS w, d]) (by unfold fE cA objsD; simp_all_arith! [jk_some, List.map_id, hp, hdd, key_wS, lk, hr]) rfl (fun d hd => by
      obtain ⟨i, rfl, i0, i1⟩ := rg_int hd
      cases hx with
      | num j j0 j1 =>
        have ek : kpB (.int j) (.int i) = decide (i = j) := by unfold kpB; rw [eqv_int]; simp [isW]
        rw [ek]
        unfold fE
        by_cases e : i = j
        · subst e
          simp_all_arith! [id, v_lcS, jk_some, sh_int, eqv_int, kit_str, isS, decide_eq_true (rfl : i = i), isLk_jk, isLk_none]
        · simp_all_arith! [id, v_lcS, jk_some, sh_int, eqv_int, kit_str, isS, decide_eq_false e, isLk_jk, isLk_none]
      | word v hv =>
        have ek : kpB (wS v) (.int i) = true := by unfold kpB; rw [isW_of hv, Bool.or_true]
        have es : isS (wS v) = true := rfl
        rw [ek]
        unfold fE
        simp_all_arith! [id, v_lcS, jk_some, sh_int, kit_str, es, isLk_jk, isLk_none]) hl
  rw [this]
  rfl
theorem face_loop2 (ok : ObjsOk os) (R A : D) {som : List (List Nat)} {p x : D} (Ad : AdrOk os som p x) :
    ∃ j6, LF__law_face_3 (fE (cA os R) A som p x [] none) = some (.nx, fE (cA os R) A som p x (celF os x (fcW som p)) j6) := by
  obtain ⟨b, hp⟩ := plc_pick Ad
  obtain ⟨c, hx⟩ := plc_index ok Ad
  have h4 := Ad.len
  have hsub : ∀ w ∈ fcW som p, w ∈ os.map (·.1) := fun w hw => Ad.sub w (fcW_sub w hw)
  have hfl : (fcW som p).length ≤ 4 := by
    unfold fcW
    split
    · rename_i i
      cases som[i.toNat]? <;> simp
    · exact h4
  refine Exists.elim (sFor_list (np := 2) (fi := iSeq (eIf (rB (eIsi "str" (eV 3))) (eV 2) (eSl (eV 2) (oSome (eV 3)) (oSome (e2 gAdd (eV 3) (eK (.int 1))))))) (t := .nm 6) (body := BF__law_face_2) (env := fE (cA os R) A som p x [] none) (env1 := fE (cA os R) A som p x [] none) (src := none)
    (fcW som p) wS (fun left env => ∃ (done : List (List Nat)) (j6 : Option D), env = fE (cA os R) A som p x (celF os x done) j6 ∧ done ++ left = fcW som p) ?fhi ?fp ?fh) ?ffin
  case fhi =>
    rcases Ad.pick with ⟨i, rfl, h0, h1⟩ | hw
    · have hi : i.toNat < som.length := by omega
      have e : som[i.toNat]? = some som[i.toNat] := List.getElem?_eq_getElem hi
      have ef : fcW som (.int i) = [som[i.toNat]] := by simp [fcW, e]
      have cut : ML.cutD (som.map wS) (some i) (some (i + 1)) = [wS som[i.toNat]] := by
        have s1 : HT.sIx (som.map wS).length 0 (some i) = i.toNat := by
          have h2 : ¬ i < 0 := by omega
          unfold HT.sIx
          simp only [List.length_map, h2, if_false]
          omega
        have s2 : HT.sIx (som.map wS).length (som.map wS).length (some (i + 1)) = i.toNat + 1 := by
          have h2 : ¬ i + 1 < 0 := by omega
          unfold HT.sIx
          simp only [List.length_map, h2, if_false]
          omega
        unfold ML.cutD
        rw [s1, s2, ← List.map_drop, ← List.map_take]
        have : (som.drop i.toNat).take (i.toNat + 1 - i.toNat) = [som[i.toNat]] := by
          rw [show i.toNat + 1 - i.toNat = 1 by omega, List.drop_eq_getElem_cons hi]
          rfl
        rw [this]; rfl
      rw [ef]
      unfold fE
      simp_all_arith! [jk_none, kit_str, isS, cut, List.map_cons, List.map_nil]
    · have ef : fcW som p = som := by obtain ⟨w, hw, rfl⟩ := hw; rfl
      have es : isS p = true := by obtain ⟨w, hw, rfl⟩ := hw; rfl
      rw [ef]
      unfold fE
      simp_all_arith! [jk_none, kit_str, es]
  case fp => exact ⟨[], none, rfl, rfl⟩
  case fh =>
    rintro w left env ⟨done, j7, rfl, e⟩
    have hw : w ∈ fcW som p := by rw [← e]; simp
    have hd : ∀ v ∈ done, v ∈ os.map (·.1) := fun v hv => hsub v (by rw [← e]; simp [hv])
    have hle := congrArg List.length e
    simp at hle
    have hl1 := celF_len ok (x := x) hd
    have hl2 := celW_len ok (x := x) (hsub w hw)
    have q := face_lc2 ok R A som p (celF os x done) hx (hsub w hw) (wd_of ok (hsub w hw))
    have hl : (celF os x done).length + (celW os x w).length ≤ 1000000 := by omega
    have ea : celF os x (done ++ [w]) = celF os x done ++ celW os x w := by unfold celF; simp
    refine ⟨fE (cA os R) A som p x (celF os x done) (some (wS w)), fE (cA os R) A som p x (celF os x done ++ celW os x w) (some (wS w)), ?_, ?_, done ++ [w], some (wS w), by rw [ea], by simpa using e⟩
    · unfold fE
      simp_all_arith! [jk_some, isLk_jk]
    · unfold fE at *
      simp only [jk_some] at *
      simp_all_arith! [BF__law_face_2, q, sl_le hl]
  case ffin =>
    rintro env' ⟨q1, done, j6, rfl, e⟩
    simp at e
    subst e
    exact ⟨j6, q1⟩
theorem law_face_spec (ok : ObjsOk os) (R : D) {som : List (List Nat)} {p x : D} (Ad : AdrOk os som p x) :
    F__law_face [.val (cA os R), .val (aD som p x)] = some (.new (.lst (faD os som p x)), [.val (cA os R), .val (aD som p x)]) := by
  obtain ⟨j6, lf⟩ := face_loop2 ok R (aD som p x) Ad
  have h4 := Ad.len
  have hsub : ∀ w ∈ fcW som p, w ∈ os.map (·.1) := fun w hw => Ad.sub w (fcW_sub w hw)
  have hfl : (fcW som p).length ≤ 4 := by
    unfold fcW
    split
    · rename_i i
      cases som[i.toNat]? <;> simp
    · exact h4
  have hl := celF_len ok (x := x) hsub
  have hs : ∀ env, sortL env (celF os x (fcW som p)) = some (.new (.lst (faD os som p x)), env) := fun env => sortL_c celF_c (by omega)
  unfold fE at lf
  simp only [jk_none] at lf
  unfold aD at lf ⊢
  simp_all_arith! [F__law_face, lf, hs, isLk_jk]
end
end Wy

/-! WyC: what may be chosen at a row, by the program and by the law. -/
namespace Wy
open PySem PySem.Spec PyProof.Rows L2 ML Dm Cg Ck
section
variable {os : Os} {called : List (List Nat)} {rts : Rts}
/-- what may be chosen -/
inductive Ch (os : Os) : D → List D → Prop where
  | load (nm som : List _) (p x : D) : AdrOk os som p x → Ch os (.tuple [.str (Str.ofString "load"), wS nm, aD som p x]) (faD os som p x)
  | store (som : List _) (p x o : D) : AdrOk os som p x → Ch os (.tuple [.str (Str.ofString "store"), aD som p x, o]) (faD os som p x)
  | touch (som : List _) (p x : D) : AdrOk os som p x → Ch os (.tuple [.str (Str.ofString "touch"), aD som p x]) (faD os som p x)
  | iff (o : D) (a b : Int) : Ch os (.tuple [.str (Str.ofString "if"), o, .int a, .int b]) ((usort [a, b]).map PyData.int)
  | other (k : Str) (ds : List D) : (k == Str.ofString "load") = false → (k == Str.ofString "store") = false → (k == Str.ofString "touch") = false → (k == Str.ofString "if") = false → Ch os (.tuple (.str k :: ds)) [.none]
theorem ch_of {d : D} (h : Ln os called d) : ∃ ds, Ch os d ds := by
  have f : ∀ k : String, k = "set" ∨ k = "tell" ∨ k = "need" ∨ k = "call" ∨ k = "go" ∨ k = "back" → (Str.ofString k == Str.ofString "load") = false ∧ (Str.ofString k == Str.ofString "store") = false ∧ (Str.ofString k == Str.ofString "touch") = false ∧ (Str.ofString k == Str.ofString "if") = false := fun k h => by
    rcases h with rfl | rfl | rfl | rfl | rfl | rfl <;> decide +kernel
  have g : ∀ (k : String) (ds : List D), k = "set" ∨ k = "tell" ∨ k = "need" ∨ k = "call" ∨ k = "go" ∨ k = "back" → ∃ es, Ch os (.tuple (.str (Str.ofString k) :: ds)) es := fun k ds h => by
    obtain ⟨a, b, c, e⟩ := f k h
    exact ⟨_, .other _ ds a b c e⟩
  cases h with
  | row d h =>
    cases h with
    | load nm som p x w a => exact ⟨_, .load nm som p x a⟩
    | store som p x o a w => exact ⟨_, .store som p x o a⟩
    | touch som p x a => exact ⟨_, .touch som p x a⟩
    | set nm sg a b _ _ _ _ => exact g "set" _ (by simp)
    | tell o _ => exact g "tell" _ (by simp)
    | need o _ => exact g "need" _ (by simp)
    | call w _ => exact g "call" _ (by simp)
  | fin g' h1 h2 =>
    cases g' with
    | go a => exact g "go" _ (by simp)
    | iff op a b => exact ⟨_, .iff op a b⟩
    | back => exact g "back" _ (by simp)
theorem kstr (x y : Str) : PyData.eqv (.str x) (.str y) = (x == y) := by
  rw [eqv_str]
  by_cases h : x = y <;> simp [h]
theorem fls (x : Str) : flatD (.str x) = true := rfl
theorem k_ll : (Str.ofString "load" == Str.ofString "load") = true := by decide +kernel
theorem k_ss : (Str.ofString "store" == Str.ofString "store") = true := by decide +kernel
theorem k_tt : (Str.ofString "touch" == Str.ofString "touch") = true := by decide +kernel
theorem k_ii : (Str.ofString "if" == Str.ofString "if") = true := by decide +kernel
theorem k_sl : (Str.ofString "store" == Str.ofString "load") = false := by decide +kernel
theorem k_tl : (Str.ofString "touch" == Str.ofString "load") = false := by decide +kernel
theorem k_ls : (Str.ofString "load" == Str.ofString "store") = false := by decide +kernel
theorem k_ts : (Str.ofString "touch" == Str.ofString "store") = false := by decide +kernel
theorem k_st : (Str.ofString "store" == Str.ofString "touch") = false := by decide +kernel
theorem k_lt : (Str.ofString "load" == Str.ofString "touch") = false := by decide +kernel
theorem k_si : (Str.ofString "store" == Str.ofString "if") = false := by decide +kernel
theorem k_ti : (Str.ofString "touch" == Str.ofString "if") = false := by decide +kernel
theorem k_li : (Str.ofString "load" == Str.ofString "if") = false := by decide +kernel
theorem k_is : (Str.ofString "if" == Str.ofString "store") = false := by decide +kernel
theorem k_il : (Str.ofString "if" == Str.ofString "load") = false := by decide +kernel
theorem at_0 (x : D) (l : List D) : atI (x :: l) 0 = some x := atI_get (Int.le_refl 0) rfl
theorem at_1 (x y : D) (l : List D) : atI (x :: y :: l) 1 = some y := atI_get (by omega) rfl
theorem at_2 (x y z : D) (l : List D) : atI (x :: y :: z :: l) 2 = some z := atI_get (by omega) rfl
theorem cut2 (x y a b : D) : ML.cutD [x, y, a, b] (some 2) none = [a, b] := rfl
theorem ints2 (a b : Int) : intsOf [PyData.int a, .int b] = some [a, b] := rfl
theorem us_len (a b : Int) : (usort [a, b]).length ≤ 2 := usort_len [a, b]
theorem beqc (x y : Str) (h : (x == y) = false) : (y == x) = false := by
  have : x ≠ y := by simpa using h
  simpa using fun z : y = x => this z.symm
theorem choices_spec (C : Cd os called rts) {w : List Nat} {i k : Nat} {d : D} (A : At os called rts w i k d) {ds : List D} (h : Ch os d ds) :
    F_choices_at [.val (cdD os rts), .val (plD w i k)] = some (.val (.tuple ds), [.val (cdD os rts), .val (plD w i k)]) := by
  have q := row_there_spec C A
  have ec : cA os (.tuple (rts.map rtD)) = cdD os rts := rfl
  cases h with
  | load nm som p x Ad =>
    have qf := face_spec (R := .tuple (rts.map rtD)) os C.ok Ad
    rw [ec] at qf
    generalize aD som p x = ad at *
    simp_all_arith! [F_choices_at, q, at_0, at_1, at_2, qf, fls, kstr, k_sl, k_tl, k_ll, List.all_cons, List.all_nil, List.any_cons, List.any_nil, Bool.and_true, Bool.or_false]
  | store som p x o Ad =>
    have qf := face_spec (R := .tuple (rts.map rtD)) os C.ok Ad
    rw [ec] at qf
    generalize aD som p x = ad at *
    simp_all_arith! [F_choices_at, q, at_0, at_1, at_2, qf, fls, kstr, k_ss, k_ts, List.all_cons, List.all_nil, List.any_cons, List.any_nil, Bool.and_true, Bool.or_false]
  | touch som p x Ad =>
    have qf := face_spec (R := .tuple (rts.map rtD)) os C.ok Ad
    rw [ec] at qf
    generalize aD som p x = ad at *
    simp_all_arith! [F_choices_at, q, at_0, at_1, at_2, qf, fls, kstr, k_st, k_tt, List.all_cons, List.all_nil, List.any_cons, List.any_nil, Bool.and_true, Bool.or_false, Bool.false_or]
  | iff o a b =>
    have h2 := us_len a b
    have h3 : (usort [a, b]).length < 64 := by omega
    have hu : usort (usort [a, b]) = usort [a, b] := us2 _
    simp_all_arith! [F_choices_at, q, at_0, at_1, at_2, fls, kstr, k_si, k_ti, k_il, k_ii, cut2, ints2, h3, hu, List.all_cons, List.all_nil, List.any_cons, List.any_nil, Bool.and_true, Bool.or_false]
  | other kk ds n1 n2 n3 n4 =>
    have m2 := beqc _ _ n2
    have m3 := beqc _ _ n3
    simp_all_arith! [F_choices_at, q, at_0, fls, kstr, n1, n2, n3, n4, m2, m3, List.all_cons, List.all_nil, List.any_cons, List.any_nil, Bool.and_true, Bool.or_false]
theorem law_choices_spec (C : Cd os called rts) {d : D} {ds : List D} (h : Ch os d ds) :
    F__law_choices [.val (cdD os rts), .val d] = some (.new (.lst ds), [.val (cdD os rts), .val d]) := by
  have ec : cA os (.tuple (rts.map rtD)) = cdD os rts := rfl
  cases h with
  | load nm som p x Ad =>
    have qf := law_face_spec C.ok (.tuple (rts.map rtD)) Ad
    rw [ec] at qf
    generalize aD som p x = ad at *
    simp_all_arith! [F__law_choices, at_0, at_1, at_2, qf, fls, kstr, k_ll, k_sl, k_tl, List.all_cons, List.all_nil, List.any_cons, List.any_nil, Bool.and_true, Bool.or_false, Bool.true_or]
  | store som p x o Ad =>
    have qf := law_face_spec C.ok (.tuple (rts.map rtD)) Ad
    rw [ec] at qf
    generalize aD som p x = ad at *
    simp_all_arith! [F__law_choices, at_0, at_1, at_2, qf, fls, kstr, k_ls, k_ss, k_ts, k_sl, List.all_cons, List.all_nil, List.any_cons, List.any_nil, Bool.and_true, Bool.or_false, Bool.true_or, Bool.or_true]
  | touch som p x Ad =>
    have qf := law_face_spec C.ok (.tuple (rts.map rtD)) Ad
    rw [ec] at qf
    generalize aD som p x = ad at *
    simp_all_arith! [F__law_choices, at_0, at_1, at_2, qf, fls, kstr, k_lt, k_st, k_tt, k_tl, List.all_cons, List.all_nil, List.any_cons, List.any_nil, Bool.and_true, Bool.or_false, Bool.or_true]
  | iff o a b =>
    have h2 := us_len a b
    have h3 : (usort [a, b]).length < 64 := by omega
    have hu : usort (usort [a, b]) = usort [a, b] := us2 _
    simp_all_arith! [F__law_choices, at_0, at_1, at_2, fls, kstr, k_li, k_si, k_ti, k_ii, cut2, ints2, h3, hu, List.all_cons, List.all_nil, List.any_cons, List.any_nil, Bool.and_true, Bool.or_false]
  | other kk ds n1 n2 n3 n4 =>
    have m1 := beqc _ _ n1
    have m2 := beqc _ _ n2
    have m3 := beqc _ _ n3
    simp_all_arith! [F__law_choices, at_0, fls, kstr, n1, n2, n3, n4, m1, m2, m3, List.all_cons, List.all_nil, List.any_cons, List.any_nil, Bool.and_true, Bool.or_false]
end
end Wy

/-! WyD: where one goes, by the program and by the law. -/
namespace Wy
open PySem PySem.Spec PyProof.Rows L2 ML Dm Cg Ck
abbrev Pos := List Nat × Nat × Nat
def plp (p : Pos) : D := plD p.1 p.2.1 p.2.2
def nxt (p : Pos) : Pos := (p.1, p.2.1, p.2.2 + 1)
section
variable {os : Os} {called : List (List Nat)} {rts : Rts}
def AtP (os : Os) (called : List (List Nat)) (rts : Rts) (p : Pos) (d : D) : Prop := At os called rts p.1 p.2.1 p.2.2 d
def PosOk (os : Os) (called : List (List Nat)) (rts : Rts) (p : Pos) : Prop := ∃ d, AtP os called rts p d
/-- where a choice leads -/
inductive Mv (p : Pos) (calls : List Pos) : D → D → Option Pos → List Pos → Prop where
  | call (w : List Nat) (c : D) : Mv p calls (.tuple [.str (Str.ofString "call"), wS w]) c (some (w, 0, 0)) (calls ++ [nxt p])
  | back0 (c : D) : calls = [] → Mv p calls (.tuple [.str (Str.ofString "back")]) c none []
  | back (cs : List Pos) (q : Pos) (c : D) : calls = cs ++ [q] → Mv p calls (.tuple [.str (Str.ofString "back")]) c (some q) cs
  | go (a : Nat) (c : D) : Mv p calls (.tuple [.str (Str.ofString "go"), .int (a : Nat)]) c (some (p.1, a, 0)) calls
  | iff (o : D) (a b : Int) (x : Nat) : Mv p calls (.tuple [.str (Str.ofString "if"), o, .int a, .int b]) (.int (x : Nat)) (some (p.1, x, 0)) calls
  | other (k : Str) (ds : List D) (c : D) : (k == Str.ofString "call") = false → (k == Str.ofString "back") = false → (k == Str.ofString "go") = false → (k == Str.ofString "if") = false → Mv p calls (.tuple (.str k :: ds)) c (some (nxt p)) calls
def posD : Option Pos → D
  | some p => plp p
  | none => .none
theorem at_last {l : List D} {x : D} : atI (l ++ [x]) (-1) = some x := by
  have : ixN (l ++ [x]).length (-1) = some l.length := by
    unfold ixN
    simp
    exact ⟨by omega, by omega⟩
  unfold atI
  rw [this]
  simp
theorem cut_last {l : List D} {x : D} : ML.cutD (l ++ [x]) none (some (-1)) = l := by
  have s1 : HT.sIx (l ++ [x]).length 0 none = 0 := rfl
  have s2 : HT.sIx (l ++ [x]).length (l ++ [x]).length (some (-1)) = l.length := by
    unfold HT.sIx
    simp only [List.length_append, List.length_singleton]
    rw [if_pos (by omega)]
    omega
  unfold ML.cutD
  rw [s1, s2]
  simp
theorem at_one {x : D} : atI [x] (-1) = some x := at_last (l := [])
theorem cut_one {x : D} : ML.cutD [x] none (some (-1)) = [] := cut_last (l := [])
theorem m_cc : (Str.ofString "call" == Str.ofString "call") = true := by decide +kernel
theorem m_bc : (Str.ofString "back" == Str.ofString "call") = false := by decide +kernel
theorem m_bb : (Str.ofString "back" == Str.ofString "back") = true := by decide +kernel
theorem m_gc : (Str.ofString "go" == Str.ofString "call") = false := by decide +kernel
theorem m_gb : (Str.ofString "go" == Str.ofString "back") = false := by decide +kernel
theorem m_gg : (Str.ofString "go" == Str.ofString "go") = true := by decide +kernel
theorem m_ic : (Str.ofString "if" == Str.ofString "call") = false := by decide +kernel
theorem m_ib : (Str.ofString "if" == Str.ofString "back") = false := by decide +kernel
theorem m_ig : (Str.ofString "if" == Str.ofString "go") = false := by decide +kernel
theorem m_gi : (Str.ofString "go" == Str.ofString "if") = false := by decide +kernel
theorem sh_tn : SeqAt.shaped (.tuple []) = true := by decide +kernel
theorem eqt_cons (x : D) (l : List D) : PyData.eqv (.tuple (x :: l)) (.tuple []) = false := by simp [PyData.eqv, PyData.eqvAll]
theorem eqt_nil : PyData.eqv (.tuple []) (.tuple []) = true := by simp [PyData.eqv, PyData.eqvAll]
theorem led_spec (C : Cd os called rts) {p : Pos} {d : D} (A : AtP os called rts p d) {c : D} {calls : List Pos} {here' : Option Pos} {calls' : List Pos} (hl : calls.length ≤ 1000) (hs : SeqAt.shaped (.tuple (calls.map plp)) = true) (h : Mv p calls d c here' calls') :
    F_led [.val (cdD os rts), .val (plp p), .val c, .val (.tuple (calls.map plp))] = some (.val (.tuple [posD here', .tuple (calls'.map plp)]), [.val (cdD os rts), .val (plp p), .val c, .val (.tuple (calls.map plp))]) := by
  have q := row_there_spec C A
  have q : F_row_there [.val (cdD os rts), .val (plp p)] = some (.val d, [.val (cdD os rts), .val (plp p)]) := q
  have hl1 : calls.length + 1 ≤ sizeLine := sl_le (by omega)
  obtain ⟨w, i, k⟩ := p
  have en : plp (nxt (w, i, k)) = .tuple [wS w, .int (i : Nat), .int ((k : Int) + 1)] := by
    show plD w i ((k + 1 : Nat) : Int) = _
    rw [Int.natCast_add]; rfl
  have e0 : plp (w, i, k) = .tuple [wS w, .int (i : Nat), .int (k : Nat)] := rfl
  cases h with
  | call w2 c =>
    simp only [List.map_append, List.map_cons, List.map_nil, posD]
    rw [en]
    rw [e0] at q ⊢
    simp_all_arith! [F_led, q, at_0, at_1, at_2, m_cc, hl1, List.length_map, List.length_singleton, plp, plD]
  | back0 c hc =>
    subst hc
    rw [e0] at q ⊢
    simp_all_arith! [F_led, q, at_0, m_bc, m_bb, sh_tn, eqt_nil, List.map_nil, posD]
  | back _ r c hc =>
    subst hc
    have hne : PyData.eqv (.tuple ((calls' ++ [r]).map plp)) (.tuple []) = false := by
      cases calls' with
      | nil => exact eqt_cons _ _
      | cons x l => exact eqt_cons _ _
    simp only [List.map_append, List.map_cons, List.map_nil, posD] at hne hs ⊢
    rw [e0] at q ⊢
    simp_all_arith! [F_led, q, at_0, m_bc, m_bb, sh_tn, hs, hne, at_last, cut_last]
  | go a c =>
    rw [e0] at q ⊢
    simp_all_arith! [F_led, q, at_0, at_1, m_gc, m_gb, m_gg, posD, plp, plD]
  | iff o a b x =>
    rw [e0] at q ⊢
    simp_all_arith! [F_led, q, at_0, m_ic, m_ib, m_ig, k_ii, posD, plp, plD]
  | other kk ds c n1 n2 n3 n4 =>
    simp only [posD]
    rw [en]
    rw [e0] at q ⊢
    simp_all_arith! [F_led, q, at_0, at_1, at_2, n1, n2, n3, n4]
/-- the rows of a block, its end behind them -/
def rwE (rts : Rts) (w : List Nat) (i : Nat) : List D := match rts.find? (fun r => decide (r.1 = w)) with
  | some r => match r.2[i]? with
    | some g => rowsD g.1 ++ [g.2.d]
    | none => []
  | none => []
theorem rwE_of {rts : Rts} (nd : (rts.map (·.1)).Nodup) {w : List Nat} {gs : Gr} (h : (w, gs) ∈ rts) {i : Nat} {g : D × Gd} (hg : gs[i]? = some g) {rs : List D} (e : g.1 = .tuple rs) : rwE rts w i = rs ++ [g.2.d] := by
  have hf : rts.find? (fun r => decide (r.1 = w)) = some (w, gs) := by
    induction rts with
    | nil => cases h
    | cons r l ih =>
      rw [List.map_cons, List.nodup_cons] at nd
      rcases List.mem_cons.mp h with rfl | h
      · simp
      · have : r.1 ≠ w := fun z => nd.1 (z ▸ List.mem_map_of_mem (f := (·.1)) h)
        rw [List.find?_cons]
        simp only [this, decide_false]
        exact ih nd.2 h
  unfold rwE
  rw [hf]
  simp only [hg, e, rowsD]
/-- a frame: what is left of a block, the next row last -/
def frL (rts : Rts) (p : Pos) : List D := (itA p.1 p.2.1 ((rwE rts p.1 p.2.1).drop p.2.2) p.2.2).reverse
def frD (rts : Rts) (p : Pos) : D := .list (frL rts p)
theorem frL_at (C : Cd os called rts) {p : Pos} {d : D} (A : AtP os called rts p d) : frL rts p = frL rts (nxt p) ++ [.tuple [plp p, d]] := by
  obtain ⟨gs, g, rs, hr, hg, e, hl, hk, ed⟩ := A.is
  have er := rwE_of C.nd hr hg e
  obtain ⟨w, i, k⟩ := p
  have hk : k ≤ rs.length := hk
  have hlt : k < (rs ++ [g.2.d]).length := by rw [List.length_append, List.length_singleton]; omega
  have er : rwE rts w i = rs ++ [g.2.d] := er
  show (itA w i ((rwE rts w i).drop k) k).reverse = (itA w i ((rwE rts w i).drop (k + 1)) (k + 1)).reverse ++ _
  have hd : (rs ++ [g.2.d])[k] = d := by
    rw [ed]
    show _ = (rs ++ [g.2.d]).getD k .none
    rw [List.getD_eq_getElem?_getD, List.getElem?_eq_getElem hlt]; rfl
  rw [er, List.drop_eq_getElem_cons hlt, hd]
  unfold itA
  rw [List.zipIdx_cons, List.map_cons, List.reverse_cons]
  rfl
theorem items_fr (C : Cd os called rts) {w : List Nat} {i : Nat} (P : PosOk os called rts (w, i, 0)) : F__law_items [.val (cdD os rts), .val (wS w), .val (.int (i : Nat))] = some (.new (.lst (frL rts (w, i, 0))), [.val (cdD os rts), .val (wS w), .val (.int (i : Nat))]) := by
  obtain ⟨d, A⟩ := P
  obtain ⟨gs, g, rs, hr, hg, e, hl, hk, ed⟩ := A.is
  have er := rwE_of C.nd hr hg e
  have q := items_spec C hr hg e hl
  have er : rwE rts w i = rs ++ [g.2.d] := er
  have : frL rts (w, i, 0) = (itA w i (rs ++ [g.2.d]) 0).reverse := by
    show (itA w i ((rwE rts w i).drop 0) 0).reverse = _
    rw [er]; rfl
  rw [this]
  exact q
theorem moved_spec (C : Cd os called rts) {p : Pos} {d : D} (A : AtP os called rts p d) {c : D} {calls : List Pos} {here' : Option Pos} {calls' : List Pos} (hl : calls.length ≤ 1000) (h : Mv p calls d c here' calls') (ok : ∀ q, here' = some q → PosOk os called rts q) :
    F__law_moved [.val (cdD os rts), .mu (.lst ((calls ++ [p]).map (frD rts))), .val c] = some (.new (.lst ((calls' ++ here'.toList).map (frD rts))), [.val (cdD os rts), .mu (.lst ((calls ++ [p]).map (frD rts))), .val c]) := by
  have hf := frL_at C A
  have ef : (calls ++ [p]).map (frD rts) = calls.map (frD rts) ++ [.list (frL rts (nxt p) ++ [.tuple [plp p, d]])] := by
    rw [List.map_append, ← hf]; rfl
  rw [ef]
  have hl1 : calls.length + 1 ≤ sizeLine := sl_le (by omega)
  have hl2 : calls.length + 1 + 1 ≤ sizeLine := sl_le (by omega)
  have e0 : plp p = .tuple [wS p.1, .int (p.2.1 : Nat), .int (p.2.2 : Nat)] := rfl
  have en : frD rts (nxt p) = .list (frL rts (nxt p)) := rfl
  cases h with
  | call w2 c =>
    have q := items_fr C (ok _ rfl)
    have q : F__law_items [.val (cdD os rts), .val (wS w2), .val (.int 0)] = some (.new (.lst (frL rts (w2, 0, 0))), [.val (cdD os rts), .val (wS w2), .val (.int 0)]) := q
    simp only [Option.toList_some, List.map_append, List.map_cons, List.map_nil, List.append_assoc, List.cons_append, List.nil_append]
    rw [en, show frD rts (w2, 0, 0) = .list (frL rts (w2, 0, 0)) from rfl]
    generalize frL rts (nxt p) = F1 at *
    generalize frL rts (w2, 0, 0) = F2 at *
    simp_all_arith! [F__law_moved, at_last, cut_last, at_0, at_1, m_cc, q, hl1, hl2, List.length_map, List.length_append, List.length_singleton, isLk_jk, List.append_assoc, List.cons_append, List.nil_append]
  | back0 c hc =>
    subst hc
    generalize frL rts (nxt p) = F1 at *
    simp_all_arith! [F__law_moved, at_last, cut_last, at_one, cut_one, at_0, m_bc, m_bb, hl1, List.length_map, List.length_singleton, List.length_nil, isLk_jk, Option.toList_none, List.map_nil, List.append_nil]
  | back _ r c hc =>
    subst hc
    generalize frL rts (nxt p) = F1 at *
    simp_all_arith! [F__law_moved, at_last, cut_last, at_0, m_bc, m_bb, hl1, List.length_map, List.length_singleton, isLk_jk, Option.toList_some]
  | go a c =>
    have q := items_fr C (ok _ rfl)
    simp only [Option.toList_some, List.map_append, List.map_cons, List.map_nil]
    rw [show frD rts (p.1, a, 0) = .list (frL rts (p.1, a, 0)) from rfl]
    generalize frL rts (nxt p) = F1 at *
    generalize frL rts (p.1, a, 0) = F2 at *
    rw [e0]
    simp_all_arith! [F__law_moved, at_last, cut_last, at_0, at_1, m_gc, m_gb, m_gg, m_ig, kstr, fls, q, hl1, List.length_map, List.length_append, List.length_singleton, isLk_jk, List.all_cons, List.all_nil, List.any_cons, List.any_nil, Bool.and_true, Bool.or_false, Bool.true_or]
  | iff o a b x =>
    have q := items_fr C (ok _ rfl)
    simp only [Option.toList_some, List.map_append, List.map_cons, List.map_nil]
    rw [show frD rts (p.1, x, 0) = .list (frL rts (p.1, x, 0)) from rfl]
    generalize frL rts (nxt p) = F1 at *
    generalize frL rts (p.1, x, 0) = F2 at *
    rw [e0]
    simp_all_arith! [F__law_moved, at_last, cut_last, at_0, at_1, m_ic, m_ib, m_ig, m_gi, k_ii, kstr, fls, q, hl1, List.length_map, List.length_append, List.length_singleton, isLk_jk, List.all_cons, List.all_nil, List.any_cons, List.any_nil, Bool.and_true, Bool.or_false, Bool.or_true]
  | other kk ds c n1 n2 n3 n4 =>
    have m3 := beqc _ _ n3
    have m4 := beqc _ _ n4
    simp only [Option.toList_some, List.map_append, List.map_cons, List.map_nil]
    rw [en]
    generalize frL rts (nxt p) = F1 at *
    simp_all_arith! [F__law_moved, at_last, cut_last, at_0, n1, n2, m3, m4, kstr, fls, hl1, List.length_map, List.length_singleton, isLk_jk, List.all_cons, List.all_nil, List.any_cons, List.any_nil, Bool.and_true, Bool.or_false]
end
end Wy

/-! WyE: what is chosen is small; ways. -/
namespace Wy
open PySem PySem.Spec PyProof.Rows L2 ML Dm Cg Ck
section
variable {os : Os} {called : List (List Nat)} {rts : Rts}
/-- a cell, a block, nothing -/
inductive ChD : D → Prop where
  | cell (w : List Nat) (i : Int) : Wd w → 0 ≤ i → i < 5 → ChD (.tuple [wS w, .int i])
  | int (i : Int) : 0 ≤ i → i < 7 → ChD (.int i)
  | none : ChD .none
theorem fa_cell (ok : ObjsOk os) {som : List (List Nat)} {p x : D} (A : AdrOk os som p x) : ∀ d ∈ faD os som p x, ∃ w i, d = .tuple [wS w, .int i] ∧ Wd w ∧ 0 ≤ i ∧ i < 5 := by
  intro d hd
  unfold faD sortD at hd
  have hd : d ∈ celF os x (fcW som p) := (List.mergeSort_perm _ _).mem_iff.mp hd
  obtain ⟨w, hw, h⟩ := List.mem_flatMap.mp hd
  have hn := A.sub w (fcW_sub w hw)
  unfold celW at h
  obtain ⟨e, he, rfl⟩ := List.mem_map.mp h
  obtain ⟨i, rfl, i0, i1⟩ := rg_int ((List.mem_filter.mp he).1)
  have := (sz_pos ok hn).2
  exact ⟨w, i, rfl, wd_of ok hn, i0, by omega⟩
theorem fa_ne (ok : ObjsOk os) {som : List (List Nat)} {p x : D} (A : AdrOk os som p x) : faD os som p x ≠ [] := by
  have h1 : ∃ w, w ∈ fcW som p := by
    rcases A.pick with ⟨i, rfl, i0, i1⟩ | ⟨w, hw, rfl⟩
    · have hi : i.toNat < som.length := by omega
      exact ⟨som[i.toNat], by simp [fcW, List.getElem?_eq_getElem hi]⟩
    · obtain ⟨w, hw⟩ := List.exists_mem_of_length_pos A.pos
      exact ⟨w, hw⟩
  obtain ⟨w, hw⟩ := h1
  have hs := fcW_sub w hw
  have hn := A.sub w hs
  obtain ⟨z1, z2⟩ := sz_pos ok hn
  have h2 : ∃ d, d ∈ celW os x w := by
    unfold celW
    rcases A.index with ⟨i, rfl, i0, i1⟩ | ⟨v, hv, rfl⟩
    · have := i1 w hs
      refine ⟨_, List.mem_map_of_mem (List.mem_filter.mpr ⟨(List.mem_map.mpr ⟨i.toNat, List.mem_range.mpr (by omega), rfl⟩ : PyData.int (0 + (i.toNat : Int)) ∈ rangeD 0 (szOf os w)), ?_⟩)⟩
      unfold kpB
      rw [eqv_int]
      have h0 : decide ((0 + (i.toNat : Int)) = i) = true := decide_eq_true (by omega)
      rw [h0, Bool.true_or]
    · refine ⟨_, List.mem_map_of_mem (List.mem_filter.mpr ⟨(List.mem_map.mpr ⟨0, List.mem_range.mpr (by omega), rfl⟩ : PyData.int (0 + ((0 : Nat) : Int)) ∈ rangeD 0 (szOf os w)), ?_⟩)⟩
      unfold kpB
      rw [isW_of hv, Bool.or_true]
  obtain ⟨d, hd⟩ := h2
  intro z
  have : d ∈ faD os som p x := by
    unfold faD sortD
    exact (List.mergeSort_perm _ _).mem_iff.mpr (List.mem_flatMap.mpr ⟨w, hw, hd⟩)
  rw [z] at this
  cases this
theorem fa_len (ok : ObjsOk os) {som : List (List Nat)} {p x : D} (A : AdrOk os som p x) : (faD os som p x).length ≤ 16 := by
  have h4 := A.len
  have hsub : ∀ w ∈ fcW som p, w ∈ os.map (·.1) := fun w hw => A.sub w (fcW_sub w hw)
  have hfl : (fcW som p).length ≤ 4 := by
    unfold fcW
    split
    · rename_i i
      cases som[i.toNat]? <;> simp
    · exact h4
  have hl := celF_len ok (x := x) hsub
  unfold faD sortD
  rw [List.length_mergeSort]
  omega
theorem ch_ok (ok : ObjsOk os) {d : D} (ln : Ln os called d) {ds : List D} (h : Ch os d ds) : (∀ c ∈ ds, ChD c) ∧ ds ≠ [] ∧ ds.length ≤ 16 := by
  have cell : ∀ {som p x}, AdrOk os som p x → (∀ c ∈ faD os som p x, ChD c) ∧ faD os som p x ≠ [] ∧ (faD os som p x).length ≤ 16 := fun A => ⟨fun c hc => by
    obtain ⟨w, i, rfl, h1, h2, h3⟩ := fa_cell ok A c hc
    exact .cell w i h1 h2 h3, fa_ne ok A, fa_len ok A⟩
  cases h with
  | load nm som p x A => exact cell A
  | store som p x o A => exact cell A
  | touch som p x A => exact cell A
  | iff o a b =>
    have hb : (0 ≤ a ∧ a < 7) ∧ 0 ≤ b ∧ b < 7 := by
      generalize hd : (PyData.tuple [.str (Str.ofString "if"), o, .int a, .int b] : D) = dd at ln
      cases ln with
      | row d h => cases h <;> exact absurd (by injection hd with hd; injection hd with h1 h2; injection h1 : Str.ofString "if" = _) (by decide +kernel)
      | fin g h1 h2 =>
        cases g with
        | go x => exact absurd (by injection hd with hd; injection hd with h1 h2; injection h1 : Str.ofString "if" = Str.ofString "go") (by decide +kernel)
        | back => exact absurd (by injection hd with hd; injection hd with h1 h2; injection h1 : Str.ofString "if" = Str.ofString "back") (by decide +kernel)
        | iff o2 a2 b2 =>
          injection hd with hd
          injection hd with _ hd
          injection hd with _ hd
          injection hd with q1 hd
          injection hd with q2 _
          injection q1 with q1
          injection q2 with q2
          subst q1; subst q2
          exact ⟨h1 a (by simp [Gd.outs]), h1 b (by simp [Gd.outs])⟩
    refine ⟨fun c hc => ?_, ?_, ?_⟩
    · obtain ⟨i, hi, rfl⟩ := List.mem_map.mp hc
      rw [ML.usort_mem] at hi
      simp at hi
      rcases hi with rfl | rfl
      · exact .int _ hb.1.1 hb.1.2
      · exact .int _ hb.2.1 hb.2.2
    · intro z
      have : (PyData.int a) ∈ (usort [a, b]).map PyData.int := List.mem_map_of_mem (by rw [ML.usort_mem]; simp)
      rw [z] at this
      cases this
    · have := us_len a b
      rw [List.length_map]
      omega
  | other k ds _ _ _ _ => exact ⟨fun c hc => by simp at hc; subst hc; exact .none, by simp, by simp⟩
/-- one step of a way -/
structure Stp (os : Os) (called : List (List Nat)) (rts : Rts) (p : Pos) (c : D) (calls : List Pos) (h1 : Option Pos) (c1 : List Pos) : Prop where
  is : ∃ d ds, AtP os called rts p d ∧ Ch os d ds ∧ c ∈ ds ∧ Mv p calls d c h1 c1
inductive Go (os : Os) (called : List (List Nat)) (rts : Rts) : Option Pos → List Pos → List (Pos × D) → Option Pos → List Pos → Prop where
  | nil (h : Option Pos) (c : List Pos) : Go os called rts h c [] h c
  | cons (p : Pos) (x : D) (c : List Pos) (l : List (Pos × D)) (h1 : Option Pos) (c1 : List Pos) (h2 : Option Pos) (c2 : List Pos) : Stp os called rts p x c h1 c1 → Go os called rts h1 c1 l h2 c2 → Go os called rts (some p) c ((p, x) :: l) h2 c2
theorem Go.snoc {h : Option Pos} {c : List Pos} {l : List (Pos × D)} {p : Pos} {c1 : List Pos} (g : Go os called rts h c l (some p) c1) {x : D} {h2 : Option Pos} {c2 : List Pos} (s : Stp os called rts p x c1 h2 c2) : Go os called rts h c (l ++ [(p, x)]) h2 c2 := by
  generalize he : some p = e at g
  induction g with
  | nil h c => subst he; exact .cons p x c [] h2 c2 h2 c2 s (.nil _ _)
  | cons p' x' c' l' h1 c1' h2' c2' st g ih =>
    exact .cons p' x' c' _ h1 c1' h2 c2 st (ih s he)
theorem mv_len {p : Pos} {calls : List Pos} {d c : D} {h : Option Pos} {c1 : List Pos} (m : Mv p calls d c h c1) : c1.length ≤ calls.length + 1 := by
  cases m with
  | call => simp
  | back0 => simp
  | back _ q _ e => subst e; simp; omega
  | _ => simp
end
end Wy

/-! WyF: is_step, is_choice of what is right. -/
namespace Wy
open PySem PySem.Spec PyProof.Rows L2 ML Dm Cg Ck
abbrev M0 : Nat := 10 ^ 199
theorem rC_of {k w : Nat} {d : D} (h : Bd M0 k w d) (hk : k ≤ 64) (hw : w ≤ 50000) : (reprOk d || reprOkC d) = true := by
  have h2 := h.ok (by decide +kernel) hk hw
  unfold reprOkB at h2
  rw [Bool.and_eq_true, Bool.and_eq_true, Bool.and_eq_true] at h2
  have : reprOkC d = true := by
    unfold reprOkC
    rw [h2.1.1.1, h2.1.2]; rfl
  rw [this, Bool.or_true]
theorem bd_none {m k w : Nat} : Bd m k w .none := ⟨by simp [PyData.canLay0], by simp [PyData.depth], by simp [PyData.weight], fun i z => nomatch z⟩
theorem chd_bd {c : D} (h : ChD c) : Bd M0 1 30 c := by
  cases h with
  | cell w i hw h0 h1 => exact ((BdA.cons (bd_word hw (Nat.le_refl _)) (bda1 (bd_few (k := 0) (Nat.le_refl M0) (by omega)))).tup (l60 (by simp))).mono (Nat.le_refl _) (by omega) (by omega)
  | int i h0 h1 => exact (bd_few (k := 0) (Nat.le_refl M0) (by omega)).mono (Nat.le_refl _) (by omega) (by omega)
  | none => exact bd_none
section
variable {os : Os} {called : List (List Nat)} {rts : Rts}
theorem at_pl (C : Cd os called rts) {p : Pos} {d : D} (A : AtP os called rts p d) : Pl os called rts (plp p) := by
  obtain ⟨gs, g, rs, hr, hg, e, hl, hk, ed⟩ := A.is
  have bk := (C.rt _ hr).blk g (List.mem_of_getElem? hg)
  obtain ⟨rs', e', _, hro⟩ := bk.rows
  have : rs' = rs := by rw [e] at e'; cases e'; rfl
  subst this
  exact ⟨p.1, gs, p.2.1, g, rs', p.2.2, rfl, hr, hg, e, hl, hro, by omega, by omega⟩
theorem pos_wd (C : Cd os called rts) {p : Pos} {d : D} (A : AtP os called rts p d) : Wd p.1 := by
  obtain ⟨gs, g, rs, hr, _⟩ := A.is
  exact C.wd _ hr
theorem is_spot_spec (C : Cd os called rts) {p : Pos} {d : D} (A : AtP os called rts p d) : F_is_spot [.val (plp p)] = some (.val (.bool true), [.val (plp p)]) := by
  have hw := pos_wd C A
  have q2 := word_spec (wS p.1) (th_w hw)
  rw [isW_of hw] at q2
  have q3 := number_spec (.int (p.2.1 : Nat))
  have q4 := number_spec (.int (p.2.2 : Nat))
  have n3 : isN (.int ((p.2.1 : Nat) : Int)) = true := rfl
  have n4 : isN (.int ((p.2.2 : Nat) : Int)) = true := rfl
  have e3 : PyData.eqv (.int 3) (.int 3) = true := by rw [eqv_int]; rfl
  rw [n3] at q3
  rw [n4] at q4
  unfold plp plD
  simp_all_arith! [F_is_spot, kit_tup, isTp, at_0, at_1, at_2, e3, sh_int, q2, q3, q4, Bool.not_true, Bool.not_false]
def stD (s : Pos × D) : D := .tuple [plp s.1, s.2]
theorem is_step_spec (C : Cd os called rts) {s : Pos × D} {d : D} (A : AtP os called rts s.1 d) : F_is_step [.val (stD s)] = some (.val (.bool true), [.val (stD s)]) := by
  have q := is_spot_spec C A
  have e2 : PyData.eqv (.int 2) (.int 2) = true := by rw [eqv_int]; rfl
  unfold stD
  simp_all_arith! [F_is_step, kit_tup, isTp, at_0, e2, sh_int, q]
theorem is_choice_spec {ds : List D} {c : D} (h : ∀ x ∈ ds, ChD x) (hl : ds.length ≤ 16) (hc : c ∈ ds) : F_is_choice [.val (.tuple ds), .val c] = some (.val (.bool true), [.val (.tuple ds), .val c]) := by
  have ok : ∀ x ∈ ds, (reprOk x || reprOkC x) = true := fun x hx => rC_of (chd_bd (h x hx)) (by omega) (by omega)
  have sok : ∀ x ∈ ds, PyData.strOk x.shown = true := fun x hx => strOk_shown (chd_bd (h x hx)).can
  have lc : LC_is_choice_1 [some (.val (.tuple ds)), some (.val c), none] = some (.new (.lst (ds.map fun x => .str x.shown)), [some (.val (.tuple ds)), some (.val c), none]) := by
    unfold LC_is_choice_1
    have := eLc_of (np := 2) (own := [2]) (fi := iSeq (eV 0)) (t := .nm 2) (tst := tTrue) (elt := eN gReprC (aCons (eC 2) aNil)) (env := [some (.val (.tuple ds)), some (.val c), none]) (env1 := [some (.val (.tuple ds)), some (.val c), none]) (src := none)
      ds id (fun _ => true) (fun x => .str x.shown) (by simp_all_arith! [List.map_id]) rfl (fun x hx => by
        have := ok x hx
        simp_all_arith! [v_lcS, tTrue, id, v_gReprC, this, isLk_none]) (by omega)
    rw [this, List.filter_eq_self.mpr (by simp)]
    rfl
  have s1 : SeqAt.shaped (.str c.shown) = true := by
    have := sok c hc
    simp [SeqAt.shaped, PyData.canLay0, PyData.depth, this]
  have s2 : SeqAt.shaped (.list (ds.map fun x => .str x.shown)) = true := by
    have c1 : PyData.canLayAll0 (ds.map fun x => PyData.str x.shown) = true := by
      clear lc hc hl
      induction ds with
      | nil => simp [PyData.canLayAll0]
      | cons x l ih =>
        have h1 := sok x (List.mem_cons_self ..)
        have h2 := ih (fun y hy => h y (List.mem_cons_of_mem _ hy)) (fun y hy => ok y (List.mem_cons_of_mem _ hy)) (fun y hy => sok y (List.mem_cons_of_mem _ hy))
        simp only [List.map_cons, PyData.canLayAll0, PyData.canLay0, h1, h2, Bool.and_self]
    have c2 : PyData.depthAll (ds.map fun x => PyData.str x.shown) = 0 := by
      clear lc hc hl c1 h ok sok s1
      induction ds with
      | nil => simp [PyData.depthAll]
      | cons x l ih => simp [PyData.depthAll, PyData.depth, ih]
    exact sh_of (by simp only [PyData.canLay0]; exact c1) (by simp only [PyData.depth]; omega)
  have an : ((ds.map fun x => PyData.str x.shown).any fun z => PyData.eqv z (.str c.shown)) = true := List.any_eq_true.mpr ⟨.str c.shown, List.mem_map_of_mem (f := fun x => PyData.str x.shown) hc, by rw [eqv_str]; simp⟩
  have ok1 := ok c hc
  simp_all_arith! [F_is_choice, v_gReprC, ok1, lc, s1, s2, an]
end
end Wy

/-! K28E: gone_way at a way that may be gone. -/
namespace K28
open PySem PySem.Spec PyProof.Rows L2 ML Dm Cg Ck Wy
section
variable {os : Os} {called : List (List Nat)} {rts : Rts}
def gE (C : D) (l : List (Wy.Pos × D)) (here calls : D) (kvs : List (D × D)) (sh k wd pl ch : Option D) : En :=
  [some (.val C), some (.val (.tuple (l.map stD))), some (.val here), some (.val calls), some (.mu (.dA kvs)), jk sh, jk k, jk wd, jk pl, jk ch, none]
theorem need_true (w : D) (k : D) : F_need_way [.val (.bool true), .val w, .val k] = some (.val .none, [.val (.bool true), .val w, .val k]) := by
  simp_all_arith! [F_need_way, Bool.not_true]
theorem putA_len (kvs : List (D × D)) (a b : D) : (putA kvs a b).length ≤ kvs.length + 1 := by
  unfold putA
  split
  · simp
  · simp
theorem key_cell (w : List Nat) (i : Int) : keyOkA (.tuple [wS w, .int i]) = true := by
  unfold keyOkA wS
  simp [nkey, nkeyAll, NestedKey.depth, NestedKey.depthAll]
theorem ch_key (ok : ObjsOk os) {d : D} {ds : List D} (h : Ch os d ds) {c : D} (hc : c ∈ ds) : ∃ kk rest, d = .tuple (.str kk :: rest) ∧ ((kk == Str.ofString "load") = true → (kk == Str.ofString "store") = false ∧ keyOkA c = true) ∧ ((kk == Str.ofString "store") = true → (kk == Str.ofString "load") = false ∧ keyOkA c = true) := by
  have cell : ∀ {som p x}, AdrOk os som p x → c ∈ faD os som p x → keyOkA c = true := fun A hc => by
    obtain ⟨w, i, rfl, _⟩ := fa_cell ok A c hc
    exact key_cell w i
  cases h with
  | load nm som p x A => exact ⟨_, _, rfl, fun _ => ⟨k_ls, cell A hc⟩, fun z => (by rw [k_ls] at z; cases z)⟩
  | store som p x o A => exact ⟨_, _, rfl, fun z => (by rw [k_sl] at z; cases z), fun _ => ⟨k_sl, cell A hc⟩⟩
  | touch som p x A => exact ⟨_, _, rfl, fun z => (by rw [k_tl] at z; cases z), fun z => (by rw [k_ts] at z; cases z)⟩
  | iff o a b => exact ⟨_, _, rfl, fun z => (by rw [k_il] at z; cases z), fun z => (by rw [k_is] at z; cases z)⟩
  | other k ds n1 n2 n3 n4 => exact ⟨_, _, rfl, fun z => (by rw [n1] at z; cases z), fun z => (by rw [n2] at z; cases z)⟩
theorem calls_sh (C : Cd os called rts) {calls : List Wy.Pos} (h : ∀ q ∈ calls, PosOk os called rts q) : SeqAt.shaped (.tuple (calls.map plp)) = true := by
  have b := bda_all (m := M0) (k := 1) (w := 40) (ds := calls.map plp) fun d hd => by
    obtain ⟨q, hq, rfl⟩ := List.mem_map.mp hd
    obtain ⟨e, A⟩ := h q hq
    exact pl_bd C (Nat.le_refl _) (at_pl C A)
  exact sh_of (by simp only [PyData.canLay0]; exact b.can) (by have := b.dep; simp only [PyData.depth]; omega)
theorem way_turn (C : Cd os called rts) (l : List (Wy.Pos × D)) {p : Wy.Pos} {c : D} {calls : List Wy.Pos} {h1 : Option Wy.Pos} {c1 : List Wy.Pos} (S : Stp os called rts p c calls h1 c1) (hl : calls.length ≤ 500) (hp : ∀ q ∈ calls, PosOk os called rts q) (kvs : List (D × D)) (hk : kvs.length ≤ 1000) (sh : Option D) (k : D) (wd : Option D) :
    ∃ kvs' sh' wd', BF_gone_way_2 (gE (cdD os rts) l (plp p) (.tuple (calls.map plp)) kvs sh (some k) wd (some (plp p)) (some c)) = some (.nx, gE (cdD os rts) l (posD h1) (.tuple (c1.map plp)) kvs' (some sh') (some k) (some wd') (some (plp p)) (some c)) ∧ kvs'.length ≤ kvs.length + 1 := by
  obtain ⟨d, ds, A, ch, hc, mv⟩ := S.is
  obtain ⟨k1, k2, k3⟩ := ch_ok C.ok A.ln ch
  have q1 := choices_spec C A ch
  have q1 : F_choices_at [.val (cdD os rts), .val (plp p)] = some (.val (.tuple ds), [.val (cdD os rts), .val (plp p)]) := q1
  have q2 := is_choice_spec k1 k3 hc
  have q3 := row_there_spec C A
  have q3 : F_row_there [.val (cdD os rts), .val (plp p)] = some (.val d, [.val (cdD os rts), .val (plp p)]) := q3
  have q4 := led_spec C A (by omega) (calls_sh C hp) mv
  obtain ⟨kk, rest, ed, kl, ks⟩ := ch_key C.ok ch hc
  subst ed
  have hsp := (pl_bd (m := M0) C (Nat.le_refl _) (at_pl C A)).sh (by omega)
  have hep : PyData.eqv (plp p) (plp p) = true := eqv_pl ..
  have hkl : kvs.length < sizeLine := sl_lt (by omega)
  obtain ⟨T, hP⟩ : ∃ T, plp p = .tuple T := ⟨_, rfl⟩
  by_cases hload : (kk == Str.ofString "load") = true
  · obtain ⟨n1, n2⟩ := kl hload
    refine ⟨kvs, .tuple [plp p, (lkA kvs c).getD .none], .str kk, ?_, by omega⟩
    unfold gE
    rw [hP] at hsp hep q1 q3 q4 ⊢
    simp_all_arith! [v_xSeq, v_xSeqK_nx, v_xSeqK_rt, v_xSeqK_ex, v_xIf, v_up, v_upE, v_xExpr, v_xExK_ok, v_xExK_ex, v_xRet, v_xRetK_v, v_xRetK_n, v_xRetK_x, v_xCall, v_xRaise, v_aLastX, v_aLastK_ok, v_aLastK_ex, v_aConsX, v_aConsK_ok, v_aConsK_ex, v_eTupX, v_eTupK_ok, v_eTupK_ex, v_fnBodyX, v_finX_nx, v_finX_val, v_finX_new, v_finX_ex, v_xTry, v_tryK_ok, v_tryK_ex, v_fIsX, v_lkHit, v_loopX_nil, v_loopX_cons, v_loopK_nx, v_loopK_ex, v_loopK_rt, v_sPar4, v_par4K, v_dA_bor, v_dA_new, v_dAO_mu, v_dAO_lk, v_gIxA, v_ixAD, v_gInA, v_inAD, v_sSetIxA, v_sixAK, v_setAtA, v_eGet1A, v_get1AK, v_eGet2A, v_get2AK, v_get2AO_s, v_get2AO_n, eNewA, v_eDispA, v_pairsAE_nil, v_pairsAE_cons, v_pairAK, v_gUpper, v_eOrD, v_orK, v_fIfT, Option.getD_some, Option.getD_none, BF_gone_way_2, need_true, hsp, hep, q1, q2, q3, q4, at_0, hload, n1, n2, jk_some, isLk_jk]
  · have hload : (kk == Str.ofString "load") = false := by simpa using hload
    by_cases hst : (kk == Str.ofString "store") = true
    · obtain ⟨_, n2⟩ := ks hst
      refine ⟨putA kvs c (plp p), .none, .str kk, ?_, putA_len ..⟩
      unfold gE
      rw [hP] at hsp hep q1 q3 q4 ⊢
      simp_all_arith! [v_xSeq, v_xSeqK_nx, v_xSeqK_rt, v_xSeqK_ex, v_xIf, v_up, v_upE, v_xExpr, v_xExK_ok, v_xExK_ex, v_xRet, v_xRetK_v, v_xRetK_n, v_xRetK_x, v_xCall, v_xRaise, v_aLastX, v_aLastK_ok, v_aLastK_ex, v_aConsX, v_aConsK_ok, v_aConsK_ex, v_eTupX, v_eTupK_ok, v_eTupK_ex, v_fnBodyX, v_finX_nx, v_finX_val, v_finX_new, v_finX_ex, v_xTry, v_tryK_ok, v_tryK_ex, v_fIsX, v_lkHit, v_loopX_nil, v_loopX_cons, v_loopK_nx, v_loopK_ex, v_loopK_rt, v_sPar4, v_par4K, v_dA_bor, v_dA_new, v_dAO_mu, v_dAO_lk, v_gIxA, v_ixAD, v_gInA, v_inAD, v_sSetIxA, v_sixAK, v_setAtA, v_eGet1A, v_get1AK, v_eGet2A, v_get2AK, v_get2AO_s, v_get2AO_n, eNewA, v_eDispA, v_pairsAE_nil, v_pairsAE_cons, v_pairAK, v_gUpper, v_eOrD, v_orK, v_fIfT, Option.getD_some, Option.getD_none, BF_gone_way_2, need_true, hsp, hep, q1, q2, q3, q4, at_0, hload, hst, n2, hkl, jk_some, isLk_jk]
    · have hst : (kk == Str.ofString "store") = false := by simpa using hst
      refine ⟨kvs, .none, .str kk, ?_, by omega⟩
      unfold gE
      rw [hP] at hsp hep q1 q3 q4 ⊢
      simp_all_arith! [v_xSeq, v_xSeqK_nx, v_xSeqK_rt, v_xSeqK_ex, v_xIf, v_up, v_upE, v_xExpr, v_xExK_ok, v_xExK_ex, v_xRet, v_xRetK_v, v_xRetK_n, v_xRetK_x, v_xCall, v_xRaise, v_aLastX, v_aLastK_ok, v_aLastK_ex, v_aConsX, v_aConsK_ok, v_aConsK_ex, v_eTupX, v_eTupK_ok, v_eTupK_ex, v_fnBodyX, v_finX_nx, v_finX_val, v_finX_new, v_finX_ex, v_xTry, v_tryK_ok, v_tryK_ex, v_fIsX, v_lkHit, v_loopX_nil, v_loopX_cons, v_loopK_nx, v_loopK_ex, v_loopK_rt, v_sPar4, v_par4K, v_dA_bor, v_dA_new, v_dAO_mu, v_dAO_lk, v_gIxA, v_ixAD, v_gInA, v_inAD, v_sSetIxA, v_sixAK, v_setAtA, v_eGet1A, v_get1AK, v_eGet2A, v_get2AK, v_get2AO_s, v_get2AO_n, eNewA, v_eDispA, v_pairsAE_nil, v_pairsAE_cons, v_pairAK, v_gUpper, v_eOrD, v_orK, v_fIfT, Option.getD_some, Option.getD_none, BF_gone_way_2, need_true, hsp, hep, q1, q2, q3, q4, at_0, hload, hst, jk_some, isLk_jk]
end
end K28

/-! WyG: where one comes to is a place. -/
namespace Wy
open PySem PySem.Spec PyProof.Rows L2 ML Dm Cg Ck
section
variable {os : Os} {called : List (List Nat)} {rts : Rts}
theorem blk_pos (C : Cd os called rts) {w : List Nat} {gs : Gr} (hr : (w, gs) ∈ rts) {i : Nat} (hi : i < gs.length) : PosOk os called rts (w, i, 0) := by
  obtain ⟨rs, e, hl, h⟩ := at_blk C hr (List.getElem?_eq_getElem hi)
  exact ⟨_, h 0 (by omega)⟩
theorem name_pos (C : Cd os called rts) {w : List Nat} (h : w ∈ rts.map (·.1)) : PosOk os called rts (w, 0, 0) := by
  obtain ⟨⟨v, gs⟩, hr, rfl⟩ := List.mem_map.mp h
  exact blk_pos C hr (C.rt _ hr).pos
theorem end_kind {g : Gd} {k : Str} {ds : List D} (h : (g.d : D) = .tuple (.str k :: ds)) : (k == Str.ofString "go") = true ∨ (k == Str.ofString "if") = true ∨ (k == Str.ofString "back") = true := by
  cases g with
  | go a => injection h with h; injection h with h _; injection h with h; subst h; exact .inl (by decide +kernel)
  | iff o a b => injection h with h; injection h with h _; injection h with h; subst h; exact .inr (.inl (by decide +kernel))
  | back => injection h with h; injection h with h _; injection h with h; subst h; exact .inr (.inr (by decide +kernel))
theorem nxt_ok (C : Cd os called rts) {p : Pos} {k : Str} {ds : List D} (A : AtP os called rts p (.tuple (.str k :: ds))) (n1 : (k == Str.ofString "go") = false) (n2 : (k == Str.ofString "if") = false) (n3 : (k == Str.ofString "back") = false) : PosOk os called rts (nxt p) := by
  obtain ⟨gs, g, rs, hr, hg, e, hl, hk, ed⟩ := A.is
  obtain ⟨rs', e', hl', h⟩ := at_blk C hr hg
  have : rs' = rs := by rw [e] at e'; cases e'; rfl
  subst this
  by_cases hlt : p.2.2 < rs'.length
  · exact ⟨_, h (p.2.2 + 1) (by omega)⟩
  · have hk2 : p.2.2 = rs'.length := by omega
    have hd : (g.2.d : D) = .tuple (.str k :: ds) := by
      rw [ed, hk2, List.getD_eq_getElem?_getD, List.getElem?_append_right (Nat.le_refl _)]
      simp
    rcases end_kind hd with z | z | z
    · rw [n1] at z; cases z
    · rw [n2] at z; cases z
    · rw [n3] at z; cases z
/-- an end's blocks -/
theorem end_pos (C : Cd os called rts) {p : Pos} {d : D} (A : AtP os called rts p d) {a : Nat} (h : (∃ b : Int, b = a ∧ d = .tuple [.str (Str.ofString "go"), .int b]) ∨ ∃ (o : D) (x y : Int), d = .tuple [.str (Str.ofString "if"), o, .int x, .int y] ∧ ((a : Int) = x ∨ (a : Int) = y)) : PosOk os called rts (p.1, a, 0) := by
  obtain ⟨gs, g, rs, hr, hg, e, hl, hk, ed⟩ := A.is
  have bk := (C.rt _ hr).blk g (List.mem_of_getElem? hg)
  obtain ⟨rs', e', hl', hro⟩ := bk.rows
  have : rs' = rs := by rw [e] at e'; cases e'; rfl
  subst this
  have hend : (g.2.d : D) = d := by
    by_cases hlt : p.2.2 < rs'.length
    · exfalso
      have hd : d = rs'[p.2.2] := by
        rw [ed, List.getD_eq_getElem?_getD, List.getElem?_append_left hlt, List.getElem?_eq_getElem hlt]; rfl
      have hrow := hro _ (List.getElem_mem hlt)
      rw [← hd] at hrow
      have kd : ∀ (k : String) (ds : List D), d = .tuple (.str (Str.ofString k) :: ds) → k = "go" ∨ k = "if" → False := fun k ds hk hh => by
        rw [hk] at hrow
        generalize hz : (PyData.tuple (.str (Str.ofString k) :: ds) : D) = z at hrow
        cases hrow <;> (injection hz with hz; injection hz with hz _; injection hz with hz; rcases hh with rfl | rfl <;> exact absurd hz (by decide +kernel))
      rcases h with ⟨b, _, hb⟩ | ⟨o, x, y, hb, _⟩
      · exact kd "go" _ hb (.inl rfl)
      · exact kd "if" _ hb (.inr rfl)
    · have hk2 : p.2.2 = rs'.length := by omega
      rw [ed, hk2, List.getD_eq_getElem?_getD, List.getElem?_append_right (Nat.le_refl _)]
      simp
  have hout : (a : Int) ∈ g.2.outs := by
    rw [← hend] at h
    cases hgd : g.2 with
    | go b =>
      rw [hgd] at h
      rcases h with ⟨c, rfl, hb⟩ | ⟨o, x, y, hb, _⟩
      · injection hb with hb; injection hb with _ hb; injection hb with hb _; injection hb with hb
        simp [Gd.outs, hb]
      · injection hb with hb; injection hb with hb _; injection hb with hb
        exact absurd hb (by decide +kernel)
    | iff o2 x2 y2 =>
      rw [hgd] at h
      rcases h with ⟨c, _, hb⟩ | ⟨o, x, y, hb, hxy⟩
      · injection hb with hb; injection hb with hb _; injection hb with hb
        exact absurd hb (by decide +kernel)
      · injection hb with hb; injection hb with _ hb; injection hb with _ hb; injection hb with h1 hb; injection hb with h2 _
        injection h1 with h1; injection h2 with h2
        subst h1; subst h2
        simp [Gd.outs]
        exact hxy
    | back =>
      rw [hgd] at h
      rcases h with ⟨c, _, hb⟩ | ⟨o, x, y, hb, _⟩
      · injection hb with hb; injection hb with hb _; injection hb with hb
        exact absurd hb (by decide +kernel)
      · injection hb with hb; injection hb with hb _; injection hb with hb
        exact absurd hb (by decide +kernel)
  have hlt := (bk.outs _ hout).2
  have hlt : (a : Int) < (gs.length : Int) := hlt
  exact blk_pos C hr (by omega)
theorem mv_pos (C : Cd os called rts) (hn : ∀ w ∈ called, w ∈ rts.map (·.1)) {p : Pos} {d : D} (A : AtP os called rts p d) {ds : List D} (ch : Ch os d ds) {c : D} (hc : c ∈ ds) {calls : List Pos} {h1 : Option Pos} {c1 : List Pos} (m : Mv p calls d c h1 c1) (hp : ∀ q ∈ calls, PosOk os called rts q) : (∀ q ∈ c1, PosOk os called rts q) ∧ ∀ q, h1 = some q → PosOk os called rts q := by
  have ln := A.ln
  cases m with
  | call w c =>
    refine ⟨fun q hq => ?_, fun q hq => ?_⟩
    · rcases List.mem_append.mp hq with z | z
      · exact hp q z
      · simp at z; subst z
        exact nxt_ok C A (by decide +kernel) (by decide +kernel) (by decide +kernel)
    · cases hq
      generalize hd : (PyData.tuple [.str (Str.ofString "call"), wS w] : D) = dd at ln
      cases ln with
      | row d h =>
        cases h with
        | call v hv =>
          injection hd with hd; injection hd with _ hd; injection hd with hd _
          have : w = v := tx_inj (by injection hd)
          subst this
          exact name_pos C (hn _ hv)
        | _ => injection hd with hd; injection hd with hd _; injection hd with hd; exact absurd hd (by decide +kernel)
      | fin g _ _ => cases g <;> (injection hd with hd; injection hd with hd _; injection hd with hd; exact absurd hd (by decide +kernel))
  | back0 c hc => exact ⟨fun q hq => (by cases hq), fun q hq => (by cases hq)⟩
  | back _ r c he =>
    subst he
    exact ⟨fun q hq => hp q (List.mem_append_left _ hq), fun q hq => by cases hq; exact hp _ (by simp)⟩
  | go a c => exact ⟨hp, fun q hq => by cases hq; exact end_pos C A (.inl ⟨a, rfl, rfl⟩)⟩
  | iff o a b x =>
    refine ⟨hp, fun q hq => ?_⟩
    cases hq
    refine end_pos C A (.inr ⟨o, a, b, rfl, ?_⟩)
    cases ch with
    | iff =>
      obtain ⟨i, hi, he⟩ := List.mem_map.mp hc
      injection he with he
      rw [ML.usort_mem] at hi
      simp at hi
      rw [← he]
      exact hi
    | other _ _ _ _ _ n4 => exact absurd n4 (by decide +kernel)
  | other k ds c n1 n2 n3 n4 => exact ⟨hp, fun q hq => by cases hq; exact nxt_ok C A n3 n4 n2⟩
/-- each choice leads somewhere -/
theorem mv_ex (C : Cd os called rts) {p : Pos} {d : D} (A : AtP os called rts p d) {ds : List D} (ch : Ch os d ds) {c : D} (hc : c ∈ ds) (calls : List Pos) : ∃ h1 c1, Mv p calls d c h1 c1 := by
  have ln := A.ln
  have oth : ∀ (k : String) (es : List D), d = .tuple (.str (Str.ofString k) :: es) → (Str.ofString k == Str.ofString "call") = false → (Str.ofString k == Str.ofString "back") = false → (Str.ofString k == Str.ofString "go") = false → (Str.ofString k == Str.ofString "if") = false → ∃ h1 c1, Mv p calls d c h1 c1 := fun k es e a1 a2 a3 a4 => by
    subst e; exact ⟨_, _, .other _ es c a1 a2 a3 a4⟩
  cases ln with
  | row d h =>
    cases h with
    | load nm som q x w a => exact oth "load" _ rfl (by decide +kernel) (by decide +kernel) (by decide +kernel) (by decide +kernel)
    | store som q x o a w => exact oth "store" _ rfl (by decide +kernel) (by decide +kernel) (by decide +kernel) (by decide +kernel)
    | touch som q x a => exact oth "touch" _ rfl (by decide +kernel) (by decide +kernel) (by decide +kernel) (by decide +kernel)
    | set nm sg a b _ _ _ _ => exact oth "set" _ rfl (by decide +kernel) (by decide +kernel) (by decide +kernel) (by decide +kernel)
    | tell o _ => exact oth "tell" _ rfl (by decide +kernel) (by decide +kernel) (by decide +kernel) (by decide +kernel)
    | need o _ => exact oth "need" _ rfl (by decide +kernel) (by decide +kernel) (by decide +kernel) (by decide +kernel)
    | call w _ => exact ⟨_, _, .call w c⟩
  | fin g h1 h2 =>
    cases g with
    | go a =>
      have ha := h1 a (by simp [Gd.outs])
      obtain ⟨n, rfl⟩ := Int.eq_ofNat_of_zero_le ha.1
      exact ⟨_, _, .go n c⟩
    | iff o a b =>
      have ha := h1 a (by simp [Gd.outs])
      have hb := h1 b (by simp [Gd.outs])
      generalize hd : (Gd.d (.iff o a b) : D) = dd at ch
      cases ch with
      | iff o2 a2 b2 =>
        injection hd with hd; injection hd with _ hd; injection hd with _ hd; injection hd with q1 hd; injection hd with q2 _
        injection q1 with q1; injection q2 with q2
        subst q1; subst q2
        obtain ⟨i, hi, rfl⟩ := List.mem_map.mp hc
        rw [ML.usort_mem] at hi
        have h0 : 0 ≤ i := by simp at hi; rcases hi with rfl | rfl <;> omega
        obtain ⟨n, rfl⟩ := Int.eq_ofNat_of_zero_le h0
        exact ⟨_, _, .iff _ a b n⟩
      | other k ds _ _ _ n4 =>
        injection hd with hd; injection hd with hd _; injection hd with hd; subst hd
        exact absurd n4 (by decide +kernel)
      | _ => injection hd with hd; injection hd with hd _; injection hd with hd; exact absurd hd (by decide +kernel)
    | back =>
      rcases List.eq_nil_or_concat calls with rfl | ⟨cs, q, rfl⟩
      · exact ⟨_, _, .back0 c rfl⟩
      · exact ⟨_, _, .back cs q c (by simp)⟩
end
end Wy

/-! K28F: gone_way, state_of, goes_on at a way that may be gone. -/
namespace K28
open PySem PySem.Spec PyProof.Rows L2 ML Dm Cg Ck Wy
section
variable {os : Os} {called : List (List Nat)} {rts : Rts}
theorem enu_way (l : List (Wy.Pos × D)) : enumD (l.map stD) = l.zipIdx.map fun p => PyData.tuple [.int (p.2 : Nat), stD p.1] := by
  unfold enumD
  rw [List.zipIdx_map, List.map_map]
  rfl
theorem way_loop (C : Cd os called rts) (hn : ∀ w ∈ called, w ∈ rts.map (·.1)) {l : List (Wy.Pos × D)} (hl : l.length ≤ 200) {H : Option Wy.Pos} {CC : List Wy.Pos} (g : Go os called rts (some (wmain, 0, 0)) [] l H CC) :
    ∃ kvs sh k wd pl ch, LF_gone_way_3 (gE (cdD os rts) l (plp (wmain, 0, 0)) (.tuple []) [] (some .none) none none none none) = some (.nx, gE (cdD os rts) l (posD H) (.tuple (CC.map plp)) kvs (some sh) k wd pl ch) := by
  refine Exists.elim (sFor_list (np := 2) (fi := iEnu (eV 1)) (t := .tp [(.nm 6), (.tp [(.nm 8), (.nm 9)])]) (body := BF_gone_way_2) (env := gE (cdD os rts) l (plp (wmain, 0, 0)) (.tuple []) [] (some .none) none none none none)
    (env1 := gE (cdD os rts) l (plp (wmain, 0, 0)) (.tuple []) [] (some .none) none none none none) (src := none) l.zipIdx (fun p => PyData.tuple [.int (p.2 : Nat), stD p.1])
    (fun left env => ∃ (done : List ((Wy.Pos × D) × Nat)) (here : Option Wy.Pos) (calls : List Wy.Pos) (kvs : List (D × D)) (sh : D) (k wd pl ch : Option D), env = gE (cdD os rts) l (posD here) (.tuple (calls.map plp)) kvs (some sh) k wd pl ch ∧ done ++ left = l.zipIdx ∧ Go os called rts here calls (left.map (·.1)) H CC ∧ kvs.length ≤ done.length ∧ calls.length ≤ done.length ∧ ∀ q ∈ calls, PosOk os called rts q) ?fhi ?fp ?fh) ?ffin
  case fhi =>
    unfold gE
    simp_all_arith! [jk_some, jk_none, enu_way]
  case fp =>
    refine ⟨[], some (wmain, 0, 0), [], [], .none, none, none, none, none, rfl, rfl, ?_, by simp, by simp, fun q hq => (by cases hq)⟩
    have : l.zipIdx.map (·.1) = l := List.zipIdx_map_fst 0 l
    rw [this]; exact g
  case fh =>
    rintro ⟨s, j⟩ left env ⟨done, here, calls, kvs, sh, k, wd, pl, ch, rfl, e1, g, hk, hc, hp⟩
    have hle := congrArg List.length e1
    rw [List.length_append, List.length_zipIdx, List.length_cons] at hle
    rw [List.map_cons] at g
    cases g with
    | cons p x c l' h1 c1 h2 c2 st g' =>
      have mvx := st
      obtain ⟨d, ds, A, chh, hcc, mv⟩ := st.is
      obtain ⟨kvs', sh', wd', q, hk'⟩ := way_turn C l mvx (by omega) hp kvs (by omega) (some sh) (.int (j : Nat)) wd
      have m1 := mv_len mv
      obtain ⟨m2, m3⟩ := mv_pos C hn A chh hcc mv hp
      refine ⟨gE (cdD os rts) l (plp p) (.tuple (calls.map plp)) kvs (some sh) (some (.int (j : Nat))) wd (some (plp p)) (some x), _, ?_, q, done ++ [((p, x), j)], h1, c1, kvs', sh', _, _, _, _, rfl, by simpa using e1, g', by simp; omega, by simp; omega, m2⟩
      unfold gE
      simp only [posD]
      simp_all_arith! [jk_some, isLk_jk, stD]
  case ffin =>
    rintro env' ⟨q1, done, here, calls, kvs, sh, k, wd, pl, ch, rfl, e1, g, hk, hc, hp⟩
    cases g with
    | nil => exact ⟨kvs, sh, k, wd, pl, ch, q1⟩
theorem go_at {h : Option Wy.Pos} {c : List Wy.Pos} {l : List (Wy.Pos × D)} {H : Option Wy.Pos} {CC : List Wy.Pos} (g : Go os called rts h c l H CC) : ∀ s ∈ l, ∃ d, AtP os called rts s.1 d := by
  induction g with
  | nil h c => exact fun s hs => by cases hs
  | cons p x c l h1 c1 h2 c2 st g ih =>
    intro s hs
    rcases List.mem_cons.mp hs with rfl | hs
    · obtain ⟨d, ds, A, _⟩ := st.is
      exact ⟨d, A⟩
    · exact ih s hs
theorem gone_spec (C : Cd os called rts) (hn : ∀ w ∈ called, w ∈ rts.map (·.1)) {l : List (Wy.Pos × D)} (hl : l.length ≤ 200) {H : Option Wy.Pos} {CC : List Wy.Pos} (g : Go os called rts (some (wmain, 0, 0)) [] l H CC) :
    ∃ sh, F_gone_way [.val (cdD os rts), .val (.tuple (l.map stD))] = some (.new (.tq [some (posD H), some (.tuple (CC.map plp)), none, some sh]), [.val (cdD os rts), .val (.tuple (l.map stD))]) := by
  have lc : LC_gone_way_1 [some (.val (cdD os rts)), some (.val (.tuple (l.map stD))), none, none, none, none, none, none, none, none, none] = some (.new (.lst (l.map fun _ => .bool true)), [some (.val (cdD os rts)), some (.val (.tuple (l.map stD))), none, none, none, none, none, none, none, none, none]) := by
    unfold LC_gone_way_1
    have := eLc_of (np := 2) (own := [10]) (fi := iSeq (eV 1)) (t := .nm 10) (tst := tTrue) (elt := eCall 1 F_is_step [] (aCons (eC 10) aNil)) (env := [some (.val (cdD os rts)), some (.val (.tuple (l.map stD))), none, none, none, none, none, none, none, none, none]) (env1 := [some (.val (cdD os rts)), some (.val (.tuple (l.map stD))), none, none, none, none, none, none, none, none, none]) (src := none)
      l stD (fun _ => true) (fun _ => .bool true) (by simp_all_arith! [List.map_id]) rfl (fun s hs => by
        obtain ⟨d, A⟩ := go_at g s hs
        have q := is_step_spec C A
        simp_all_arith! [v_lcS, tTrue, q, isLk_none]) (by omega)
    rw [this, List.filter_eq_self.mpr (by simp)]
    rfl
  obtain ⟨kvs, sh, k, wd, pl, ch, lf⟩ := way_loop C hn hl g
  have e0 : plp (wmain, 0, 0) = .tuple [wS wmain, .int 0, .int 0] := rfl
  have al : (l.map fun _ => true).all id = true := by
    rw [List.all_map]
    exact List.all_eq_true.mpr fun _ _ => rfl
  have em : (l.map fun _ => PyData.bool true) = (l.map fun _ => true).map PyData.bool := by rw [List.map_map]; rfl
  rw [em] at lc
  refine ⟨sh, ?_⟩
  unfold gE at lf
  simp only [jk_some, jk_none] at lf
  rw [e0] at lf
  simp_all_arith! [v_xSeq, v_xSeqK_nx, v_xSeqK_rt, v_xSeqK_ex, v_xIf, v_up, v_upE, v_xExpr, v_xExK_ok, v_xExK_ex, v_xRet, v_xRetK_v, v_xRetK_n, v_xRetK_x, v_xCall, v_xRaise, v_aLastX, v_aLastK_ok, v_aLastK_ex, v_aConsX, v_aConsK_ok, v_aConsK_ex, v_eTupX, v_eTupK_ok, v_eTupK_ex, v_fnBodyX, v_finX_nx, v_finX_val, v_finX_new, v_finX_ex, v_xTry, v_tryK_ok, v_tryK_ex, v_fIsX, v_lkHit, v_loopX_nil, v_loopX_cons, v_loopK_nx, v_loopK_ex, v_loopK_rt, v_sPar4, v_par4K, v_dA_bor, v_dA_new, v_dAO_mu, v_dAO_lk, v_gIxA, v_ixAD, v_gInA, v_inAD, v_sSetIxA, v_sixAK, v_setAtA, v_eGet1A, v_get1AK, v_eGet2A, v_get2AK, v_get2AO_s, v_get2AO_n, eNewA, v_eDispA, v_pairsAE_nil, v_pairsAE_cons, v_pairAK, v_eTupQ, v_keepQ_nil, v_keepQ_val, v_keepQ_new, v_keepQ_bor, v_kqB_val, v_kqB_lst, v_kqB_dA, v_kqB_dK, v_tq_bor, v_tq_new, v_tq_val, v_tqB_mu, v_gIxQ, v_ixQK_s, v_ixQK_n, v_eSlQ, v_gSlQ, v_gUpper, v_eOrD, v_orK, v_fIfT, Option.getD_some, Option.getD_none, F_gone_way, kit_tup, isTp, lc, Ck.bools_map, al, str_main, lf, isLk_jk, need_true]
theorem state_spec (C : Cd os called rts) (hn : ∀ w ∈ called, w ∈ rts.map (·.1)) {l : List (Wy.Pos × D)} (hl : l.length ≤ 200) {H : Option Wy.Pos} {CC : List Wy.Pos} (g : Go os called rts (some (wmain, 0, 0)) [] l H CC) :
    F_state_of [.val (cdD os rts), .val (.tuple (l.map stD))] = some (.val (.tuple [posD H, .tuple (CC.map plp)]), [.val (cdD os rts), .val (.tuple (l.map stD))]) := by
  obtain ⟨sh, q⟩ := gone_spec C hn hl g
  have cut : ML.cutD [some (posD H), some (.tuple (CC.map plp)), none, some sh] none (some 2) = [some (posD H), some (.tuple (CC.map plp))] := rfl
  simp_all_arith! [v_xSeq, v_xSeqK_nx, v_xSeqK_rt, v_xSeqK_ex, v_xIf, v_up, v_upE, v_xExpr, v_xExK_ok, v_xExK_ex, v_xRet, v_xRetK_v, v_xRetK_n, v_xRetK_x, v_xCall, v_xRaise, v_aLastX, v_aLastK_ok, v_aLastK_ex, v_aConsX, v_aConsK_ok, v_aConsK_ex, v_eTupX, v_eTupK_ok, v_eTupK_ex, v_fnBodyX, v_finX_nx, v_finX_val, v_finX_new, v_finX_ex, v_xTry, v_tryK_ok, v_tryK_ex, v_fIsX, v_lkHit, v_loopX_nil, v_loopX_cons, v_loopK_nx, v_loopK_ex, v_loopK_rt, v_sPar4, v_par4K, v_dA_bor, v_dA_new, v_dAO_mu, v_dAO_lk, v_gIxA, v_ixAD, v_gInA, v_inAD, v_sSetIxA, v_sixAK, v_setAtA, v_eGet1A, v_get1AK, v_eGet2A, v_get2AK, v_get2AO_s, v_get2AO_n, eNewA, v_eDispA, v_pairsAE_nil, v_pairsAE_cons, v_pairAK, v_eTupQ, v_keepQ_nil, v_keepQ_val, v_keepQ_new, v_keepQ_bor, v_kqB_val, v_kqB_lst, v_kqB_dA, v_kqB_dK, v_tq_bor, v_tq_new, v_tq_val, v_tqB_mu, v_gIxQ, v_ixQK_s, v_ixQK_n, v_eSlQ, v_gSlQ, v_gUpper, v_eOrD, v_orK, v_fIfT, Option.getD_some, Option.getD_none, F_state_of, q, cut, allD, isLk_jk]
theorem goes_none (C : Cd os called rts) (hn : ∀ w ∈ called, w ∈ rts.map (·.1)) {l : List (Wy.Pos × D)} (hl : l.length ≤ 200) {CC : List Wy.Pos} (g : Go os called rts (some (wmain, 0, 0)) [] l none CC) :
    F_goes_on [.val (cdD os rts), .val (.tuple (l.map stD))] = some (.val (.tuple []), [.val (cdD os rts), .val (.tuple (l.map stD))]) := by
  have q := state_spec C hn hl g
  simp_all_arith! [v_xSeq, v_xSeqK_nx, v_xSeqK_rt, v_xSeqK_ex, v_xIf, v_up, v_upE, v_xExpr, v_xExK_ok, v_xExK_ex, v_xRet, v_xRetK_v, v_xRetK_n, v_xRetK_x, v_xCall, v_xRaise, v_aLastX, v_aLastK_ok, v_aLastK_ex, v_aConsX, v_aConsK_ok, v_aConsK_ex, v_eTupX, v_eTupK_ok, v_eTupK_ex, v_fnBodyX, v_finX_nx, v_finX_val, v_finX_new, v_finX_ex, v_xTry, v_tryK_ok, v_tryK_ex, v_fIsX, v_lkHit, v_loopX_nil, v_loopX_cons, v_loopK_nx, v_loopK_ex, v_loopK_rt, v_sPar4, v_par4K, v_dA_bor, v_dA_new, v_dAO_mu, v_dAO_lk, v_gIxA, v_ixAD, v_gInA, v_inAD, v_sSetIxA, v_sixAK, v_setAtA, v_eGet1A, v_get1AK, v_eGet2A, v_get2AK, v_get2AO_s, v_get2AO_n, eNewA, v_eDispA, v_pairsAE_nil, v_pairsAE_cons, v_pairAK, v_eTupQ, v_keepQ_nil, v_keepQ_val, v_keepQ_new, v_keepQ_bor, v_kqB_val, v_kqB_lst, v_kqB_dA, v_kqB_dK, v_tq_bor, v_tq_new, v_tq_val, v_tqB_mu, v_gIxQ, v_ixQK_s, v_ixQK_n, v_eSlQ, v_gSlQ, v_gUpper, v_eOrD, v_orK, v_fIfT, Option.getD_some, Option.getD_none, F_goes_on, q, posD, isLk_jk]
theorem goes_some (C : Cd os called rts) (hn : ∀ w ∈ called, w ∈ rts.map (·.1)) {l : List (Wy.Pos × D)} (hl : l.length ≤ 200) {p : Wy.Pos} {CC : List Wy.Pos} (g : Go os called rts (some (wmain, 0, 0)) [] l (some p) CC) {d : D} (A : AtP os called rts p d) {ds : List D} (ch : Ch os d ds) :
    F_goes_on [.val (cdD os rts), .val (.tuple (l.map stD))] = some (.val (.tuple (ds.map fun c => stD (p, c))), [.val (cdD os rts), .val (.tuple (l.map stD))]) := by
  have q := state_spec C hn hl g
  have q2 := choices_spec C A ch
  have q2 : F_choices_at [.val (cdD os rts), .val (plp p)] = some (.val (.tuple ds), [.val (cdD os rts), .val (plp p)]) := q2
  obtain ⟨_, _, k3⟩ := ch_ok C.ok A.ln ch
  have lc : LC_goes_on_1 [some (.val (cdD os rts)), some (.val (.tuple (l.map stD))), some (.val (plp p)), some (.val (.tuple (CC.map plp))), none] = some (.new (.lst (ds.map fun c => stD (p, c))), [some (.val (cdD os rts)), some (.val (.tuple (l.map stD))), some (.val (plp p)), some (.val (.tuple (CC.map plp))), none]) := by
    unfold LC_goes_on_1
    have := eLc_of (np := 2) (own := [4]) (fi := iSeq (eCall 2 F_choices_at [] (aCons (eV 0) (aCons (eV 2) aNil)))) (t := .nm 4) (tst := tTrue) (elt := eTup (aCons (eV 2) (aCons (eC 4) aNil))) (env := [some (.val (cdD os rts)), some (.val (.tuple (l.map stD))), some (.val (plp p)), some (.val (.tuple (CC.map plp))), none]) (env1 := [some (.val (cdD os rts)), some (.val (.tuple (l.map stD))), some (.val (plp p)), some (.val (.tuple (CC.map plp))), none]) (src := none)
      ds id (fun _ => true) (fun c => stD (p, c)) (by simp_all_arith! [List.map_id, q2]) rfl (fun c hc => by
        simp_all_arith! [v_lcS, tTrue, id, stD, isLk_none]) (by omega)
    rw [this, List.filter_eq_self.mpr (by simp)]
    rfl
  obtain ⟨T, hP⟩ : ∃ T, plp p = .tuple T := ⟨_, rfl⟩
  simp only [posD] at q
  rw [hP] at q lc
  simp_all_arith! [v_xSeq, v_xSeqK_nx, v_xSeqK_rt, v_xSeqK_ex, v_xIf, v_up, v_upE, v_xExpr, v_xExK_ok, v_xExK_ex, v_xRet, v_xRetK_v, v_xRetK_n, v_xRetK_x, v_xCall, v_xRaise, v_aLastX, v_aLastK_ok, v_aLastK_ex, v_aConsX, v_aConsK_ok, v_aConsK_ex, v_eTupX, v_eTupK_ok, v_eTupK_ex, v_fnBodyX, v_finX_nx, v_finX_val, v_finX_new, v_finX_ex, v_xTry, v_tryK_ok, v_tryK_ex, v_fIsX, v_lkHit, v_loopX_nil, v_loopX_cons, v_loopK_nx, v_loopK_ex, v_loopK_rt, v_sPar4, v_par4K, v_dA_bor, v_dA_new, v_dAO_mu, v_dAO_lk, v_gIxA, v_ixAD, v_gInA, v_inAD, v_sSetIxA, v_sixAK, v_setAtA, v_eGet1A, v_get1AK, v_eGet2A, v_get2AK, v_get2AO_s, v_get2AO_n, eNewA, v_eDispA, v_pairsAE_nil, v_pairsAE_cons, v_pairAK, v_eTupQ, v_keepQ_nil, v_keepQ_val, v_keepQ_new, v_keepQ_bor, v_kqB_val, v_kqB_lst, v_kqB_dA, v_kqB_dK, v_tq_bor, v_tq_new, v_tq_val, v_tqB_mu, v_gIxQ, v_ixQK_s, v_ixQK_n, v_eSlQ, v_gSlQ, v_gUpper, v_eOrD, v_orK, v_fIfT, Option.getD_some, Option.getD_none, F_goes_on, q, lc, isLk_jk]
end
end K28

/-! K28G: how much it is; one lap. -/
namespace K28
open PySem PySem.Spec PyProof.Rows L2 ML Dm Cg Ck Pl Wy
abbrev K1 : Nat := 10 ^ 199
section
variable {os : Os} {called : List (List Nat)} {rts : Rts}
theorem pos_bd (C : Cd os called rts) {q : Wy.Pos} (P : PosOk os called rts q) : Bd K1 1 40 (plp q) := by
  obtain ⟨d, A⟩ := P
  exact pl_bd C (Nat.le_refl _) (at_pl C A)
theorem fr_bd (C : Cd os called rts) {q : Wy.Pos} (P : PosOk os called rts q) : Bd K1 5 1300 (frD rts q) := by
  obtain ⟨d0, A⟩ := P
  obtain ⟨gs, g, rs, hr, hg, e, hl, hk, ed⟩ := A.is
  have er := rwE_of C.nd hr hg e
  obtain ⟨rs', e', hl', h⟩ := at_blk C hr hg
  have : rs' = rs := by rw [e] at e'; cases e'; rfl
  subst this
  have b : ∀ x ∈ frL rts q, Bd K1 4 170 x := fun x hx => by
    unfold frL itA at hx
    rw [List.mem_reverse] at hx
    obtain ⟨⟨y, j⟩, hy, rfl⟩ := List.mem_map.mp hx
    rw [er] at hy
    have hj := List.mem_zipIdx_iff_le_and_getElem?_sub.mp hy
    obtain ⟨h1, h2⟩ := hj
    rw [List.getElem?_drop] at h2
    have h2 : (rs' ++ [g.2.d])[j]? = some y := by
      have : q.2.2 + (j - q.2.2) = j := by omega
      rw [this] at h2; exact h2
    have hjl : j ≤ rs'.length := by
      have := (List.getElem?_eq_some_iff.mp h2).1
      rw [List.length_append, List.length_singleton] at this
      omega
    have A2 := h j hjl
    have hy2 : (rs' ++ [g.2.d]).getD j .none = y := by rw [List.getD_eq_getElem?_getD, h2]; rfl
    rw [hy2] at A2
    have b1 : Bd K1 1 40 (plD q.1 q.2.1 j) := pl_bd C (Nat.le_refl _) (at_pl C (p := (q.1, q.2.1, j)) A2)
    have b2 : Bd K1 3 120 y := ln_bd C (Nat.le_refl _) A2.ln
    exact ((BdA.cons (b1.mono (k' := 3) (Nat.le_refl _) (by omega) (Nat.le_refl _)) (bda1 b2)).tup (l60 (by simp))).mono (Nat.le_refl _) (Nat.le_refl _) (by omega)
  have hlen : (frL rts q).length ≤ 7 := by
    unfold frL
    rw [List.length_reverse, at_itA, List.length_drop, er, List.length_append, List.length_singleton]
    omega
  exact ((all_le (j := 7) b hlen).lst (l60 (by omega))).mono (Nat.le_refl _) (Nat.le_refl _) (by omega)
theorem frs_sh (C : Cd os called rts) {qs : List Wy.Pos} (h : ∀ q ∈ qs, PosOk os called rts q) : SeqAt.shaped (.list (qs.map (frD rts))) = true := by
  have b := bda_all (m := K1) (k := 5) (w := 1300) (ds := qs.map (frD rts)) fun d hd => by
    obtain ⟨q, hq, rfl⟩ := List.mem_map.mp hd
    exact fr_bd C (h q hq)
  exact sh_of (by simp only [PyData.canLay0]; exact b.can) (by have := b.dep; simp only [PyData.depth]; omega)
theorem st_bd (C : Cd os called rts) {s : Wy.Pos × D} (P : PosOk os called rts s.1) (hc : ChD s.2) : Bd K1 2 75 (stD s) :=
  ((BdA.cons (pos_bd C P) (bda1 (chd_bd hc))).tup (l60 (by simp))).mono (Nat.le_refl _) (Nat.le_refl _) (by omega)
theorem go_ok (C : Cd os called rts) {h : Option Wy.Pos} {c : List Wy.Pos} {l : List (Wy.Pos × D)} {H : Option Wy.Pos} {CC : List Wy.Pos} (g : Go os called rts h c l H CC) : ∀ s ∈ l, PosOk os called rts s.1 ∧ ChD s.2 := by
  induction g with
  | nil h c => exact fun s hs => by cases hs
  | cons p x c l h1 c1 h2 c2 st g ih =>
    intro s hs
    rcases List.mem_cons.mp hs with rfl | hs
    · obtain ⟨d, ds, A, ch, hc, _⟩ := st.is
      exact ⟨⟨d, A⟩, (ch_ok C.ok A.ln ch).1 _ hc⟩
    · exact ih s hs
theorem way_bd (C : Cd os called rts) {l : List (Wy.Pos × D)} (h : ∀ s ∈ l, PosOk os called rts s.1 ∧ ChD s.2) (hl : l.length ≤ 30) : Bd K1 3 2280 (.tuple (l.map stD)) :=
  ((all_le (j := 30) (fun d hd => by
    obtain ⟨s, hs, rfl⟩ := List.mem_map.mp hd
    exact st_bd C (h s hs).1 (h s hs).2) (by rw [List.length_map]; exact hl)).tup (l60 (by rw [List.length_map]; omega))).mono (Nat.le_refl _) (Nat.le_refl _) (by omega)
theorem state_bd (C : Cd os called rts) {H : Option Wy.Pos} {CC : List Wy.Pos} (h1 : ∀ q, H = some q → PosOk os called rts q) (h2 : ∀ q ∈ CC, PosOk os called rts q) (hl : CC.length ≤ 30) : Bd K1 3 1300 (.tuple [posD H, .tuple (CC.map plp)]) := by
  have b1 : Bd K1 2 40 (posD H) := by
    cases H with
    | none => exact Wy.bd_none
    | some p => exact (pos_bd C (h1 p rfl)).mono (Nat.le_refl _) (by omega) (Nat.le_refl _)
  have b2 : Bd K1 2 1230 (.tuple (CC.map plp)) := ((all_le (j := 30) (fun d hd => by
    obtain ⟨q, hq, rfl⟩ := List.mem_map.mp hd
    exact pos_bd C (h2 q hq)) (by rw [List.length_map]; exact hl)).tup (l60 (by rw [List.length_map]; omega))).mono (Nat.le_refl _) (Nat.le_refl _) (by omega)
  exact ((BdA.cons b1 (bda1 b2)).tup (l60 (by simp))).mono (Nat.le_refl _) (Nat.le_refl _) (by omega)
theorem two_bd {k1 k2 w1 w2 : Nat} {a b : D} (h1 : Bd K1 k1 w1 a) (h2 : Bd K1 k2 w2 b) (hk1 : k1 ≤ 9) (hk2 : k2 ≤ 9) : Bd K1 10 (w1 + w2 + 2) (.tuple [a, b]) :=
  ((BdA.cons (h1.mono (k' := 9) (Nat.le_refl _) hk1 (Nat.le_refl _)) (bda1 (h2.mono (k' := 9) (Nat.le_refl _) hk2 (Nat.le_refl _)))).tup (l60 (by simp))).mono (Nat.le_refl _) (Nat.le_refl _) (by omega)
def lE (ns : List Int) (s : Tp) (j2 C j4 : Option D) (fr : Option (List D)) (way j7 j8 j9 j10 j11 j12 : Option D) : En :=
  [some (.val (.list (ns.map PyData.int))), some (fc s), jk j2, jk C, jk j4, fr.map fun l => .mu (.lst l), jk way, jk j7, jk j8, jk j9, jk j10, jk j11, jk j12, none, none]
theorem isLk_ol {o : Option (List D)} : isLk (o.map fun l => B.mu (.lst l)) = false := by cases o <;> rfl
/-- where one stands -/
structure Sta (os : Os) (called : List (List Nat)) (rts : Rts) (l : List (Wy.Pos × D)) (H : Option Wy.Pos) (CC : List Wy.Pos) : Prop where
  go : Go os called rts (some (wmain, 0, 0)) [] l H CC
  here : ∀ q, H = some q → PosOk os called rts q
  calls : ∀ q ∈ CC, PosOk os called rts q
  none : H = none → CC = []
  len : CC.length ≤ l.length
theorem lap (C : Cd os called rts) (hn : ∀ w ∈ called, w ∈ rts.map (·.1)) (ns : List Int) {n : Int} {s : Tp} (h : Tok n s) (hn2 : n < 500000) {l : List (Wy.Pos × D)} {H : Option Wy.Pos} {CC : List Wy.Pos} (S : Sta os called rts l H CC) (hl : l.length ≤ 25) (j2 j4 j7 j8 j9 j10 j11 j12 : Option D) :
    ∃ s' l' H' CC' k7 k8 k9 k10 k11 k12, BF_law_3 (lE ns s j2 (some (cdD os rts)) j4 (some ((CC ++ H.toList).map (frD rts))) (some (.tuple (l.map stD))) j7 j8 j9 j10 j11 j12) = some (.nx, lE ns s' j2 (some (cdD os rts)) j4 (some ((CC' ++ H'.toList).map (frD rts))) (some (.tuple (l'.map stD))) k7 k8 k9 k10 k11 k12)
      ∧ Sta os called rts l' H' CC' ∧ l'.length ≤ l.length + 1 ∧ Tok (n + 1) s' := by
  have hlen := S.len
  have b0 := code_bd C (Nat.le_refl K1)
  have b1 := way_bd C (go_ok C S.go) (by omega)
  have b2 := state_bd C S.here S.calls (by omega)
  have r1 := Wy.rC_of (two_bd b0 b1 (by omega) (by omega)) (by omega) (by omega)
  have eqs : ∀ x : Str, (x == x) = true := fun x => beq_self_eq_true x
  have sh0 : SeqAt.shaped (.list []) = true := by decide +kernel
  have l2 : [cdD os rts, .tuple (l.map stD)].length ≤ sizeLine := sl_le (by simp)
  have qs := state_spec C hn (by omega) S.go
  cases H with
  | none =>
    have hC := S.none rfl
    subst hC
    have qg := goes_none C hn (by omega) S.go
    have b3 : Bd K1 1 0 (.tuple []) := (BdA.nil (m := K1) (k := 0) (w := 0)).tup (l60 (by simp))
    have r2 := Wy.rC_of (two_bd b3 b2 (by omega) (by omega)) (by omega) (by omega)
    refine ⟨s, l, none, [], some (.str (PyData.tuple [cdD os rts, .tuple (l.map stD)]).shown), some (.tuple []), some (.tuple [.none, .tuple []]), j10, j11, j12, ?_, S, by omega, h.up (by omega)⟩
    unfold lE
    simp only [posD, List.map_nil, Option.toList_none, List.append_nil] at r2 qs ⊢
    simp_all_arith! [v_xSeq, v_xSeqK_nx, v_xSeqK_rt, v_xSeqK_ex, v_xIf, v_up, v_upE, v_xExpr, v_xExK_ok, v_xExK_ex, v_xRet, v_xRetK_v, v_xRetK_n, v_xRetK_x, v_xCall, v_xRaise, v_aLastX, v_aLastK_ok, v_aLastK_ex, v_aConsX, v_aConsK_ok, v_aConsK_ex, v_eTupX, v_eTupK_ok, v_eTupK_ex, v_fnBodyX, v_finX_nx, v_finX_val, v_finX_new, v_finX_ex, v_xTry, v_tryK_ok, v_tryK_ex, v_fIsX, v_lkHit, v_loopX_nil, v_loopX_cons, v_loopK_nx, v_loopK_ex, v_loopK_rt, v_sPar4, v_par4K, v_dA_bor, v_dA_new, v_dAO_mu, v_dAO_lk, v_gIxA, v_ixAD, v_gInA, v_inAD, v_sSetIxA, v_sixAK, v_setAtA, v_eGet1A, v_get1AK, v_eGet2A, v_get2AK, v_get2AO_s, v_get2AO_n, eNewA, v_eDispA, v_pairsAE_nil, v_pairsAE_cons, v_pairAK, v_eTupQ, v_keepQ_nil, v_keepQ_val, v_keepQ_new, v_keepQ_bor, v_kqB_val, v_kqB_lst, v_kqB_dA, v_kqB_dK, v_tq_bor, v_tq_new, v_tq_val, v_tqB_mu, v_gIxQ, v_ixQK_s, v_ixQK_n, v_eSlQ, v_gSlQ, v_gUpper, v_eOrD, v_orK, v_fIfT, Option.getD_some, Option.getD_none, BF_law_3, jk_some, isLk_jk, isLk_ol, Option.map_some, v_gReprC, r1, r2, l2, qg, qs, sh0, eqv_nil_nil, evO_fc, argO_fc, isMu_fc, isLk_fc, isLk_none, v_bneg_t, Bool.not_true, Bool.not_false, eqs]
  | some p =>
    obtain ⟨d, A⟩ := S.here p rfl
    obtain ⟨ds, ch⟩ := ch_of A.ln
    obtain ⟨k1, k2, k3⟩ := ch_ok C.ok A.ln ch
    have qg := goes_some C hn (by omega) S.go A ch
    have b3 : Bd K1 3 1300 (.tuple (ds.map fun c => stD (p, c))) := ((all_le (j := 16) (fun x hx => by
      obtain ⟨c, hc, rfl⟩ := List.mem_map.mp hx
      exact st_bd C (s := (p, c)) ⟨d, A⟩ (k1 c hc)) (by rw [List.length_map]; exact k3)).tup (l60 (by rw [List.length_map]; omega))).mono (Nat.le_refl _) (Nat.le_refl _) (by omega)
    have r2 := Wy.rC_of (two_bd b3 b2 (by omega) (by omega)) (by omega) (by omega)
    have hpos := List.length_pos_iff.mpr k2
    obtain ⟨r, s1, d1, r0, r1', h1⟩ := drw drok h (ds.length : Nat)
    have hj : r.toNat < ds.length := by omega
    have hc : ds[r.toNat] ∈ ds := List.getElem_mem hj
    have hat : atI (ds.map fun c => stD (p, c)) r = some (stD (p, ds[r.toNat])) := atI_get r0 (by simp [hj])
    generalize hce : ds[r.toNat] = c at *
    obtain ⟨H', CC', mv⟩ := mv_ex C A ch hc CC
    obtain ⟨m2, m3⟩ := mv_pos C hn A ch hc mv S.calls
    have st : Stp os called rts p c CC H' CC' := ⟨d, ds, A, ch, hc, mv⟩
    have mlen := mv_len mv
    have qm := moved_spec C A (by omega) mv m3
    have qc := law_choices_spec C ch
    have shf := frs_sh C (qs := CC ++ [p]) fun q hq => by
      rcases List.mem_append.mp hq with z | z
      · exact S.calls q z
      · simp at z; subst z; exact ⟨d, A⟩
    have ef : (CC ++ [p]).map (frD rts) = CC.map (frD rts) ++ [frD rts p] := by rw [List.map_append]; rfl
    have efp : frD rts p = .list (frL rts (nxt p) ++ [.tuple [plp p, d]]) := by unfold frD; rw [frL_at C A]
    have eqn : PyData.eqv (.list ((CC ++ [p]).map (frD rts))) (.list []) = false := by
      rw [ef]
      cases CC.map (frD rts) with
      | nil => simp [PyData.eqv, PyData.eqvAll]
      | cons x y => simp [PyData.eqv, PyData.eqvAll]
    have lc1 : ∀ j7 j8 j9 j10, LC_law_1 (lE ns s j2 (some (cdD os rts)) j4 (some ((CC ++ [p]).map (frD rts))) (some (.tuple (l.map stD))) j7 j8 j9 j10 (some (plp p)) (some d)) = some (.new (.lst (ds.map fun c => stD (p, c))), lE ns s j2 (some (cdD os rts)) j4 (some ((CC ++ [p]).map (frD rts))) (some (.tuple (l.map stD))) j7 j8 j9 j10 (some (plp p)) (some d)) := fun j7 j8 j9 j10 => by
      unfold LC_law_1
      have := eLc_of (np := 1) (own := [13]) (fi := iSeq (eCall 2 F__law_choices [] (aCons (eV 3) (aCons (eV 12) aNil)))) (t := .nm 13) (tst := tTrue) (elt := eTup (aCons (eV 11) (aCons (eC 13) aNil)))
        (env := lE ns s j2 (some (cdD os rts)) j4 (some ((CC ++ [p]).map (frD rts))) (some (.tuple (l.map stD))) j7 j8 j9 j10 (some (plp p)) (some d)) (env1 := lE ns s j2 (some (cdD os rts)) j4 (some ((CC ++ [p]).map (frD rts))) (some (.tuple (l.map stD))) j7 j8 j9 j10 (some (plp p)) (some d)) (src := none)
        ds id (fun _ => true) (fun c => stD (p, c)) (by unfold lE; simp_all_arith! [jk_some, List.map_id, qc, isLk_fc, isLk_jk]) (by cases j2 <;> cases j4 <;> cases j7 <;> cases j8 <;> cases j9 <;> cases j10 <;> rfl) (fun c hc => by
          unfold lE
          simp_all_arith! [v_lcS, tTrue, id, jk_some, stD, isLk_none, isLk_jk, isLk_fc, isLk_ol]) (by omega)
      rw [this, List.filter_eq_self.mpr (by simp)]
      rfl
    have lc2 : ∀ j7 j8 j9 j10, LC_law_2 (lE ns s j2 (some (cdD os rts)) j4 (some ((CC ++ [p]).map (frD rts))) (some (.tuple (l.map stD))) j7 j8 j9 j10 (some (plp p)) (some d)) = some (.new (.lst (CC.map plp)), lE ns s j2 (some (cdD os rts)) j4 (some ((CC ++ [p]).map (frD rts))) (some (.tuple (l.map stD))) j7 j8 j9 j10 (some (plp p)) (some d)) := fun j7 j8 j9 j10 => by
      unfold LC_law_2
      have := eLc_of (np := 1) (own := [14]) (fi := iSeq (eSl (eV 5) oNone (oSome (e1 gNeg (eK (.int 1)))))) (t := .nm 14) (tst := tTrue) (elt := e2 gIx (e2 gIx (eC 14) (e1 gNeg (eK (.int 1)))) (eK (.int 0)))
        (env := lE ns s j2 (some (cdD os rts)) j4 (some ((CC ++ [p]).map (frD rts))) (some (.tuple (l.map stD))) j7 j8 j9 j10 (some (plp p)) (some d)) (env1 := lE ns s j2 (some (cdD os rts)) j4 (some ((CC ++ [p]).map (frD rts))) (some (.tuple (l.map stD))) j7 j8 j9 j10 (some (plp p)) (some d)) (src := none)
        CC (frD rts) (fun _ => true) plp (by rw [ef]; unfold lE; simp_all_arith! [jk_some, cut_last, isLk_fc, isLk_jk]) (by cases j2 <;> cases j4 <;> cases j7 <;> cases j8 <;> cases j9 <;> cases j10 <;> rfl) (fun q hq => by
          obtain ⟨e, A2⟩ := S.calls q hq
          have ef2 : frD rts q = .list (frL rts (nxt q) ++ [.tuple [plp q, e]]) := by unfold frD; rw [frL_at C A2]
          rw [ef2]
          unfold lE
          simp_all_arith! [v_lcS, tTrue, jk_some, at_last, at_0, isLk_none, isLk_jk, isLk_fc, isLk_ol]) (by omega)
      rw [this, List.filter_eq_self.mpr (by simp)]
      rfl
    have hl1 : l.length + 1 ≤ sizeLine := sl_le (by omega)
    refine ⟨s1, l ++ [(p, c)], H', CC', some (.str (PyData.tuple [cdD os rts, .tuple (l.map stD)]).shown), some (.tuple (ds.map fun c => stD (p, c))), some (.tuple [plp p, .tuple (CC.map plp)]), some (stD (p, c)), some (plp p), some d, ?_, ⟨S.go.snoc st, m3, m2, fun z => ?_, by simp; omega⟩, by simp, h1⟩
    · have e1 : stD (p, c) = .tuple [plp p, c] := rfl
      have q1 := lc1 (some (.str (PyData.tuple [cdD os rts, .tuple (l.map stD)]).shown)) (some (.tuple [])) (some (.tuple [.none, .tuple []])) j10
      have q2 := lc2 (some (.str (PyData.tuple [cdD os rts, .tuple (l.map stD)]).shown)) (some (.tuple (ds.map fun c => stD (p, c)))) (some (.tuple [.none, .tuple []])) j10
      clear lc1 lc2
      simp only [Option.toList_some, posD] at qs r2 ⊢
      unfold lE at *
      simp only [jk_some, Option.map_some] at *
      have eL : (l ++ [(p, c)]).map stD = l.map stD ++ [.tuple [plp p, c]] := by rw [List.map_append]; rfl
      rw [eL]
      rw [e1] at hat ⊢
      generalize hfr : (CC ++ [p]).map (frD rts) = FR at *
      have a1 : atI FR (-1) = some (.list (frL rts (nxt p) ++ [.tuple [plp p, d]])) := by rw [ef, efp]; exact at_last
      generalize hds : (ds.map fun c => stD (p, c)) = DS at *
      have hdl : DS.length = ds.length := by rw [← hds, List.length_map]
      simp_all_arith! [v_xSeq, v_xSeqK_nx, v_xSeqK_rt, v_xSeqK_ex, v_xIf, v_up, v_upE, v_xExpr, v_xExK_ok, v_xExK_ex, v_xRet, v_xRetK_v, v_xRetK_n, v_xRetK_x, v_xCall, v_xRaise, v_aLastX, v_aLastK_ok, v_aLastK_ex, v_aConsX, v_aConsK_ok, v_aConsK_ex, v_eTupX, v_eTupK_ok, v_eTupK_ex, v_fnBodyX, v_finX_nx, v_finX_val, v_finX_new, v_finX_ex, v_xTry, v_tryK_ok, v_tryK_ex, v_fIsX, v_lkHit, v_loopX_nil, v_loopX_cons, v_loopK_nx, v_loopK_ex, v_loopK_rt, v_sPar4, v_par4K, v_dA_bor, v_dA_new, v_dAO_mu, v_dAO_lk, v_gIxA, v_ixAD, v_gInA, v_inAD, v_sSetIxA, v_sixAK, v_setAtA, v_eGet1A, v_get1AK, v_eGet2A, v_get2AK, v_get2AO_s, v_get2AO_n, eNewA, v_eDispA, v_pairsAE_nil, v_pairsAE_cons, v_pairAK, v_eTupQ, v_keepQ_nil, v_keepQ_val, v_keepQ_new, v_keepQ_bor, v_kqB_val, v_kqB_lst, v_kqB_dA, v_kqB_dK, v_tq_bor, v_tq_new, v_tq_val, v_tqB_mu, v_gIxQ, v_ixQK_s, v_ixQK_n, v_eSlQ, v_gSlQ, v_gUpper, v_eOrD, v_orK, v_fIfT, Option.getD_some, Option.getD_none, BF_law_3, jk_some, isLk_jk, isLk_ol, Option.map_some, v_gReprC, r1, r2, l2, qg, qs, sh0, shf, eqn, a1, at_last, at_0, at_1, q1, q2, hdl, d1, hat, qm, hl1, List.length_map, List.length_singleton, evO_fc, argO_fc, isMu_fc, isLk_fc, isLk_none, v_bneg_t, Bool.not_true, Bool.not_false, eqs]
    · cases mv with
      | back0 => rfl
      | call => cases z
      | back => cases z
      | go => cases z
      | iff => cases z
      | other => cases z
end
end K28

/-! K28H: K_law. -/
namespace K28
open PySem PySem.Spec PyProof.Rows L2 ML Dm Cg Ck Pl Wy
theorem names_of {os : Os} {called : List (List Nat)} {rts : Rts} (K : CodeOk os called rts) : (∀ w ∈ called, w ∈ rts.map (·.1)) ∧ wmain ∈ rts.map (·.1) := by
  have hp := sortW_perm (called ++ [wmain])
  refine ⟨fun w hw => ?_, ?_⟩
  · rw [K.names]
    exact hp.mem_iff.mpr (List.mem_append_left _ hw)
  · rw [K.names]
    exact hp.mem_iff.mpr (by simp)
theorem laps {os : Os} {called : List (List Nat)} {rts : Rts} (C : Cd os called rts) (hn : ∀ w ∈ called, w ∈ rts.map (·.1)) (hm : wmain ∈ rts.map (·.1)) (ns : List Int) {n : Int} {s : Tp} (h : Tok n s) (hn2 : n < 400000) (j2 j4 j7 j8 j9 j10 j11 j12 : Option D) :
    ∃ s' k4 fr wy k7 k8 k9 k10 k11 k12, LF_law_4 (lE ns s j2 (some (cdD os rts)) j4 (some [frD rts (wmain, 0, 0)]) (some (.tuple [])) j7 j8 j9 j10 j11 j12) = some (.nx, lE ns s' j2 (some (cdD os rts)) k4 (some fr) (some wy) k7 k8 k9 k10 k11 k12) ∧ Tok (n + 100) s' := by
  obtain ⟨m, s1, d1, m0, m1, h1⟩ := drw drok h 20
  have hi := rgI_of (n := 1 + m) (by omega) (by omega)
  have P0 := name_pos C hm
  refine Exists.elim (sFor_list (np := 1) (fi := iRng1 (e2 gAdd (eK (.int 1)) (eCall 2 F__law_draw [] (aCons (eV 1) (aCons (eK (.int 20)) aNil))))) (t := .nm 4) (body := BF_law_3) (env := lE ns s j2 (some (cdD os rts)) j4 (some [frD rts (wmain, 0, 0)]) (some (.tuple [])) j7 j8 j9 j10 j11 j12)
    (env1 := lE ns s1 j2 (some (cdD os rts)) j4 (some [frD rts (wmain, 0, 0)]) (some (.tuple [])) j7 j8 j9 j10 j11 j12) (src := none) (upto (1 + m)) PyData.int
    (fun left env => ∃ (s2 : Tp) (l : List (Wy.Pos × D)) (H : Option Wy.Pos) (CC : List Wy.Pos) (k4 k7 k8 k9 k10 k11 k12 : Option D), env = lE ns s2 j2 (some (cdD os rts)) k4 (some ((CC ++ H.toList).map (frD rts))) (some (.tuple (l.map stD))) k7 k8 k9 k10 k11 k12 ∧ Sta os called rts l H CC ∧ (l.length : Int) + left.length ≤ 1 + m ∧ Tok (n + 1 + (1 + m - left.length)) s2 ∧ (left.length : Int) ≤ 1 + m) ?fhi ?fp ?fh) ?ffin
  case fhi =>
    unfold lE
    simp_all_arith! [jk_some, evO_fc, argO_fc, isMu_fc, isLk_fc, d1, hi, rangeD_upto]
  case fp =>
    have hu := upto_len (show 0 ≤ 1 + m by omega)
    refine ⟨s1, [], some (wmain, 0, 0), [], j4, j7, j8, j9, j10, j11, j12, rfl, ⟨.nil _ _, fun q hq => (by cases hq; exact P0), fun q hq => (by cases hq), fun z => (by cases z), by simp⟩, by simp; omega, h1.up (by omega), by omega⟩
  case fh =>
    rintro x left env ⟨s2, l, H, CC, k4, k7, k8, k9, k10, k11, k12, rfl, S, e1, h2, e2⟩
    simp only [List.length_cons] at e1 e2 h2
    obtain ⟨s3, l', H', CC', m7, m8, m9, m10, m11, m12, q, S', hl', h3⟩ := lap C hn ns h2 (by omega) S (by omega) j2 (some (.int x)) k7 k8 k9 k10 k11 k12
    refine ⟨lE ns s2 j2 (some (cdD os rts)) (some (.int x)) (some ((CC ++ H.toList).map (frD rts))) (some (.tuple (l.map stD))) k7 k8 k9 k10 k11 k12, _, ?_, q, s3, l', H', CC', _, m7, m8, m9, m10, m11, m12, rfl, S', by omega, h3.up (by omega), by omega⟩
    unfold lE
    simp_all_arith! [isLk_jk, jk_some]
  case ffin =>
    rintro env' ⟨q1, s2, l, H, CC, k4, k7, k8, k9, k10, k11, k12, rfl, S, e1, h2, e2⟩
    simp at h2
    exact ⟨s2, k4, _, _, k7, k8, k9, k10, k11, k12, q1, h2.up (by omega)⟩
theorem turn_law {n : Int} {s : Tp} (h : Tok n s) (hn : n < 100000) (ns : List Int) (j2 j3 j4 : Option D) (fr : Option (List D)) (wy j7 j8 j9 j10 j11 j12 : Option D) : ∃ s' k3 k4 fr' wy' k7 k8 k9 k10 k11 k12,
    BF_law_5 (lE ns s j2 j3 j4 fr wy j7 j8 j9 j10 j11 j12) = some (.nx, lE ns s' j2 k3 k4 fr' wy' k7 k8 k9 k10 k11 k12) ∧ Tok (n + 2000) s' := by
  obtain ⟨os, called, rts, s1, q1, K, Fw, h1⟩ := plan_spec drok h (by omega)
  have C := cd_of K
  obtain ⟨hnm, hm⟩ := names_of K
  have q1 : F__law_plan [fc s] = some (.val (cdD os rts), [fc s1]) := q1
  have q2 := items_fr C (name_pos C hm)
  have q2 : F__law_items [.val (cdD os rts), .val (wS wmain), .val (.int 0)] = some (.new (.lst (frL rts (wmain, 0, 0))), [.val (cdD os rts), .val (wS wmain), .val (.int 0)]) := q2
  obtain ⟨s2, k4, fr', wy', k7, k8, k9, k10, k11, k12, q3, h2⟩ := laps C hnm hm ns h1 (by omega) j2 j4 j7 j8 j9 j10 j11 j12
  refine ⟨s2, some (cdD os rts), k4, some fr', some wy', k7, k8, k9, k10, k11, k12, ?_, h2.up (by omega)⟩
  have ef : frD rts (wmain, 0, 0) = .list (frL rts (wmain, 0, 0)) := rfl
  rw [ef] at q3
  generalize frL rts (wmain, 0, 0) = F0 at *
  unfold lE at q3 ⊢
  simp only [jk_some, Option.map_some] at q3 ⊢
  simp_all_arith! [v_xSeq, v_xSeqK_nx, v_xSeqK_rt, v_xSeqK_ex, v_xIf, v_up, v_upE, v_xExpr, v_xExK_ok, v_xExK_ex, v_xRet, v_xRetK_v, v_xRetK_n, v_xRetK_x, v_xCall, v_xRaise, v_aLastX, v_aLastK_ok, v_aLastK_ex, v_aConsX, v_aConsK_ok, v_aConsK_ex, v_eTupX, v_eTupK_ok, v_eTupK_ex, v_fnBodyX, v_finX_nx, v_finX_val, v_finX_new, v_finX_ex, v_xTry, v_tryK_ok, v_tryK_ex, v_fIsX, v_lkHit, v_loopX_nil, v_loopX_cons, v_loopK_nx, v_loopK_ex, v_loopK_rt, v_sPar4, v_par4K, v_dA_bor, v_dA_new, v_dAO_mu, v_dAO_lk, v_gIxA, v_ixAD, v_gInA, v_inAD, v_sSetIxA, v_sixAK, v_setAtA, v_eGet1A, v_get1AK, v_eGet2A, v_get2AK, v_get2AO_s, v_get2AO_n, eNewA, v_eDispA, v_pairsAE_nil, v_pairsAE_cons, v_pairAK, v_eTupQ, v_keepQ_nil, v_keepQ_val, v_keepQ_new, v_keepQ_bor, v_kqB_val, v_kqB_lst, v_kqB_dA, v_kqB_dK, v_tq_bor, v_tq_new, v_tq_val, v_tqB_mu, v_gIxQ, v_ixQK_s, v_ixQK_n, v_eSlQ, v_gSlQ, v_gUpper, v_eOrD, v_orK, v_fIfT, Option.getD_some, Option.getD_none, BF_law_5, q1, q2, q3, str_main, jk_some, isLk_jk, isLk_ol, evO_fc, argO_fc, isMu_fc, isLk_fc, isLk_none]
theorem turns : ∀ (l : List Int) {n : Int} {s : Tp} (ns : List Int) (j2 j3 j4 : Option D) (fr : Option (List D)) (wy j7 j8 j9 j10 j11 j12 : Option D), Tok n s → n + 2000 * l.length < 50000 →
    ∃ s' k2 k3 k4 fr' wy' k7 k8 k9 k10 k11 k12, loopL (fun d e => (setT 1 (.nm 2) d e).bind BF_law_5) (l.map PyData.int) (lE ns s j2 j3 j4 fr wy j7 j8 j9 j10 j11 j12) = some (.nx, lE ns s' k2 k3 k4 fr' wy' k7 k8 k9 k10 k11 k12)
  | [], n, s, ns, j2, j3, j4, fr, wy, j7, j8, j9, j10, j11, j12, _, _ => ⟨s, j2, j3, j4, fr, wy, j7, j8, j9, j10, j11, j12, rfl⟩
  | x :: l, n, s, ns, j2, j3, j4, fr, wy, j7, j8, j9, j10, j11, j12, h, hn => by
    rw [List.length_cons] at hn
    obtain ⟨s1, k3, k4, fr', wy', k7, k8, k9, k10, k11, k12, q, h1⟩ := turn_law h (by omega) ns (some (.int x)) j3 j4 fr wy j7 j8 j9 j10 j11 j12
    obtain ⟨s2, m2, m3, m4, mf, mw, m7, m8, m9, m10, m11, m12, q2⟩ := turns l ns (some (.int x)) k3 k4 fr' wy' k7 k8 k9 k10 k11 k12 h1 (by omega)
    refine ⟨s2, m2, m3, m4, mf, mw, m7, m8, m9, m10, m11, m12, (loopL_step ?_ q).trans q2⟩
    unfold lE
    simp_all_arith! [isLk_jk, jk_some]
theorem K_law (ns : List Int) (h : ns.length ≤ 63) : ∃ bs, F_law [.val (.list (ns.map PyData.int))] = some (.val (.bool true), bs) := by
  obtain ⟨s, q0, h0⟩ := Pl.feed_spec ns h
  have q0 : F__law_feed [.val (.list (ns.map PyData.int))] = _ := q0
  obtain ⟨s', k2, k3, k4, fr, wy, k7, k8, k9, k10, k11, k12, q1⟩ := turns (upto 3) ns none none none none none none none none none none none h0 (by simp [upto])
  have hi := rgI_of (n := 3) (by omega) (by omega)
  have lf : LF_law_6 (lE ns s none none none none none none none none none none none) = _ := sFor_run (by
    unfold lE
    simp_all_arith! [hi, rangeD_upto]) q1
  unfold lE fc at lf
  simp only [jk_none, Option.map_none] at lf
  refine ⟨[.val (.list (ns.map PyData.int))], ?_⟩
  simp_all_arith! [F_law, q0, lf]
end K28

namespace K28
open PySem PySem.Spec PyProof.Rows L2 ML
set_option maxHeartbeats 0 in
theorem all_mk {l : PySem.W.OpenLaw} {w : World} {K : PySem.W.Frag} {h : Heap} {mg : Str → Option Value} {fa : Addr} (X : K.In h) (G : h.Ns mainGlobals mg) (hfa : mg "law" = some (.ref fa))
    {f0 : Addr} {od0 an0 : Option Addr} {sl0 : Array (Option Value)} {oc0 kV0 dc0 pm0 cd0 ct0 : Value} {f1 : Addr} {od1 an1 : Option Addr} {sl1 : Array (Option Value)} {oc1 kV1 dc1 pm1 cd1 ct1 : Value} {f2 : Addr} {od2 an2 : Option Addr} {sl2 : Array (Option Value)} {oc2 kV2 dc2 pm2 cd2 ct2 : Value} {f3 : Addr} {od3 an3 : Option Addr} {sl3 : Array (Option Value)} {oc3 kV3 dc3 pm3 cd3 ct3 : Value} {f4 : Addr} {od4 an4 : Option Addr} {sl4 : Array (Option Value)} {oc4 kV4 dc4 pm4 cd4 ct4 : Value} {f5 : Addr} {od5 an5 : Option Addr} {sl5 : Array (Option Value)} {oc5 kV5 dc5 pm5 cd5 ct5 : Value} {f6 : Addr} {od6 an6 : Option Addr} {sl6 : Array (Option Value)} {oc6 kV6 dc6 pm6 cd6 ct6 : Value} {f7 : Addr} {od7 an7 : Option Addr} {sl7 : Array (Option Value)} {oc7 kV7 dc7 pm7 cd7 ct7 : Value} {f8 : Addr} {od8 an8 : Option Addr} {sl8 : Array (Option Value)} {oc8 kV8 dc8 pm8 cd8 ct8 : Value} {f9 : Addr} {od9 an9 : Option Addr} {sl9 : Array (Option Value)} {oc9 kV9 dc9 pm9 cd9 ct9 : Value} {f10 : Addr} {od10 an10 : Option Addr} {sl10 : Array (Option Value)} {oc10 kV10 dc10 pm10 cd10 ct10 : Value} {f11 : Addr} {od11 an11 : Option Addr} {sl11 : Array (Option Value)} {oc11 kV11 dc11 pm11 cd11 ct11 : Value} {f12 : Addr} {od12 an12 : Option Addr} {sl12 : Array (Option Value)} {oc12 kV12 dc12 pm12 cd12 ct12 : Value} {f13 : Addr} {od13 an13 : Option Addr} {sl13 : Array (Option Value)} {oc13 kV13 dc13 pm13 cd13 ct13 : Value} {f14 : Addr} {od14 an14 : Option Addr} {sl14 : Array (Option Value)} {oc14 kV14 dc14 pm14 cd14 ct14 : Value} {f15 : Addr} {od15 an15 : Option Addr} {sl15 : Array (Option Value)} {oc15 kV15 dc15 pm15 cd15 ct15 : Value} {f16 : Addr} {od16 an16 : Option Addr} {sl16 : Array (Option Value)} {oc16 kV16 dc16 pm16 cd16 ct16 : Value} {f17 : Addr} {od17 an17 : Option Addr} {sl17 : Array (Option Value)} {oc17 kV17 dc17 pm17 cd17 ct17 : Value} {f18 : Addr} {od18 an18 : Option Addr} {sl18 : Array (Option Value)} {oc18 kV18 dc18 pm18 cd18 ct18 : Value} {f19 : Addr} {od19 an19 : Option Addr} {sl19 : Array (Option Value)} {oc19 kV19 dc19 pm19 cd19 ct19 : Value} {f20 : Addr} {od20 an20 : Option Addr} {sl20 : Array (Option Value)} {oc20 kV20 dc20 pm20 cd20 ct20 : Value} {f21 : Addr} {od21 an21 : Option Addr} {sl21 : Array (Option Value)} {oc21 kV21 dc21 pm21 cd21 ct21 : Value} {f22 : Addr} {od22 an22 : Option Addr} {sl22 : Array (Option Value)} {oc22 kV22 dc22 pm22 cd22 ct22 : Value} {f23 : Addr} {od23 an23 : Option Addr} {sl23 : Array (Option Value)} {oc23 kV23 dc23 pm23 cd23 ct23 : Value} {f24 : Addr} {od24 an24 : Option Addr} {sl24 : Array (Option Value)} {oc24 kV24 dc24 pm24 cd24 ct24 : Value} {t_MAIN : Addr} {o_MAIN : Obj} {t_LONGEST : Tok} {t_LETTERS : Tok} {C_NoPaper : Addr} {C_WayError : Addr} {I_NoPaper : Addr} {odI_NoPaper anI_NoPaper : Option Addr} {slI_NoPaper : Array (Option Value)} {ocI_NoPaper kVI_NoPaper dcI_NoPaper pmI_NoPaper cdI_NoPaper ctI_NoPaper : Value}
    (a0 : PySem.W.nsIn K mainGlobals "is_number" = some (some (.ref f0))) (l0 : K.lookup f0 = some ⟨oc0, od0, .func (PySem.W.fnOf "is_number" "is_number" (defArgs st_is_number) (defBody st_is_number) (defScope st_is_number) .none kV0 dc0 pm0 an0 cd0 ct0), sl0⟩) (c0 : PySem.W.codeIn K cd0 "is_number" = true) (k0 : PySem.W.keepIn K (.ref f0) = true)
    (a1 : PySem.W.nsIn K mainGlobals "is_word" = some (some (.ref f1))) (l1 : K.lookup f1 = some ⟨oc1, od1, .func (PySem.W.fnOf "is_word" "is_word" (defArgs st_is_word) (defBody st_is_word) (defScope st_is_word) .none kV1 dc1 pm1 an1 cd1 ct1), sl1⟩) (c1 : PySem.W.codeIn K cd1 "is_word" = true) (k1 : PySem.W.keepIn K (.ref f1) = true)
    (a2 : PySem.W.nsIn K mainGlobals "face" = some (some (.ref f2))) (l2 : K.lookup f2 = some ⟨oc2, od2, .func (PySem.W.fnOf "face" "face" (defArgs st_face) (defBody st_face) (defScope st_face) .none kV2 dc2 pm2 an2 cd2 ct2), sl2⟩) (c2 : PySem.W.codeIn K cd2 "face" = true) (k2 : PySem.W.keepIn K (.ref f2) = true)
    (a3 : PySem.W.nsIn K mainGlobals "need_way" = some (some (.ref f3))) (l3 : K.lookup f3 = some ⟨oc3, od3, .func (PySem.W.fnOf "need_way" "need_way" (defArgs st_need_way) (defBody st_need_way) (defScope st_need_way) .none kV3 dc3 pm3 an3 cd3 ct3), sl3⟩) (c3 : PySem.W.codeIn K cd3 "need_way" = true) (k3 : PySem.W.keepIn K (.ref f3) = true)
    (a4 : PySem.W.nsIn K mainGlobals "row_there" = some (some (.ref f4))) (l4 : K.lookup f4 = some ⟨oc4, od4, .func (PySem.W.fnOf "row_there" "row_there" (defArgs st_row_there) (defBody st_row_there) (defScope st_row_there) .none kV4 dc4 pm4 an4 cd4 ct4), sl4⟩) (c4 : PySem.W.codeIn K cd4 "row_there" = true) (k4 : PySem.W.keepIn K (.ref f4) = true)
    (a5 : PySem.W.nsIn K mainGlobals "choices_at" = some (some (.ref f5))) (l5 : K.lookup f5 = some ⟨oc5, od5, .func (PySem.W.fnOf "choices_at" "choices_at" (defArgs st_choices_at) (defBody st_choices_at) (defScope st_choices_at) .none kV5 dc5 pm5 an5 cd5 ct5), sl5⟩) (c5 : PySem.W.codeIn K cd5 "choices_at" = true) (k5 : PySem.W.keepIn K (.ref f5) = true)
    (a6 : PySem.W.nsIn K mainGlobals "led" = some (some (.ref f6))) (l6 : K.lookup f6 = some ⟨oc6, od6, .func (PySem.W.fnOf "led" "led" (defArgs st_led) (defBody st_led) (defScope st_led) .none kV6 dc6 pm6 an6 cd6 ct6), sl6⟩) (c6 : PySem.W.codeIn K cd6 "led" = true) (k6 : PySem.W.keepIn K (.ref f6) = true)
    (a7 : PySem.W.nsIn K mainGlobals "is_spot" = some (some (.ref f7))) (l7 : K.lookup f7 = some ⟨oc7, od7, .func (PySem.W.fnOf "is_spot" "is_spot" (defArgs st_is_spot) (defBody st_is_spot) (defScope st_is_spot) .none kV7 dc7 pm7 an7 cd7 ct7), sl7⟩) (c7 : PySem.W.codeIn K cd7 "is_spot" = true) (k7 : PySem.W.keepIn K (.ref f7) = true)
    (a8 : PySem.W.nsIn K mainGlobals "is_step" = some (some (.ref f8))) (l8 : K.lookup f8 = some ⟨oc8, od8, .func (PySem.W.fnOf "is_step" "is_step" (defArgs st_is_step) (defBody st_is_step) (defScope st_is_step) .none kV8 dc8 pm8 an8 cd8 ct8), sl8⟩) (c8 : PySem.W.codeIn K cd8 "is_step" = true) (k8 : PySem.W.keepIn K (.ref f8) = true)
    (a9 : PySem.W.nsIn K mainGlobals "is_choice" = some (some (.ref f9))) (l9 : K.lookup f9 = some ⟨oc9, od9, .func (PySem.W.fnOf "is_choice" "is_choice" (defArgs st_is_choice) (defBody st_is_choice) (defScope st_is_choice) .none kV9 dc9 pm9 an9 cd9 ct9), sl9⟩) (c9 : PySem.W.codeIn K cd9 "is_choice" = true) (k9 : PySem.W.keepIn K (.ref f9) = true)
    (a10 : PySem.W.nsIn K mainGlobals "gone_way" = some (some (.ref f10))) (l10 : K.lookup f10 = some ⟨oc10, od10, .func (PySem.W.fnOf "gone_way" "gone_way" (defArgs st_gone_way) (defBody st_gone_way) (defScope st_gone_way) .none kV10 dc10 pm10 an10 cd10 ct10), sl10⟩) (c10 : PySem.W.codeIn K cd10 "gone_way" = true) (k10 : PySem.W.keepIn K (.ref f10) = true)
    (a11 : PySem.W.nsIn K mainGlobals "state_of" = some (some (.ref f11))) (l11 : K.lookup f11 = some ⟨oc11, od11, .func (PySem.W.fnOf "state_of" "state_of" (defArgs st_state_of) (defBody st_state_of) (defScope st_state_of) .none kV11 dc11 pm11 an11 cd11 ct11), sl11⟩) (c11 : PySem.W.codeIn K cd11 "state_of" = true) (k11 : PySem.W.keepIn K (.ref f11) = true)
    (a12 : PySem.W.nsIn K mainGlobals "goes_on" = some (some (.ref f12))) (l12 : K.lookup f12 = some ⟨oc12, od12, .func (PySem.W.fnOf "goes_on" "goes_on" (defArgs st_goes_on) (defBody st_goes_on) (defScope st_goes_on) .none kV12 dc12 pm12 an12 cd12 ct12), sl12⟩) (c12 : PySem.W.codeIn K cd12 "goes_on" = true) (k12 : PySem.W.keepIn K (.ref f12) = true)
    (a13 : PySem.W.nsIn K mainGlobals "_law_feed" = some (some (.ref f13))) (l13 : K.lookup f13 = some ⟨oc13, od13, .func (PySem.W.fnOf "_law_feed" "_law_feed" (defArgs st__law_feed) (defBody st__law_feed) (defScope st__law_feed) .none kV13 dc13 pm13 an13 cd13 ct13), sl13⟩) (c13 : PySem.W.codeIn K cd13 "_law_feed" = true) (k13 : PySem.W.keepIn K (.ref f13) = true)
    (a14 : PySem.W.nsIn K mainGlobals "_law_draw" = some (some (.ref f14))) (l14 : K.lookup f14 = some ⟨oc14, od14, .func (PySem.W.fnOf "_law_draw" "_law_draw" (defArgs st__law_draw) (defBody st__law_draw) (defScope st__law_draw) .none kV14 dc14 pm14 an14 cd14 ct14), sl14⟩) (c14 : PySem.W.codeIn K cd14 "_law_draw" = true) (k14 : PySem.W.keepIn K (.ref f14) = true)
    (a15 : PySem.W.nsIn K mainGlobals "_law_objects" = some (some (.ref f15))) (l15 : K.lookup f15 = some ⟨oc15, od15, .func (PySem.W.fnOf "_law_objects" "_law_objects" (defArgs st__law_objects) (defBody st__law_objects) (defScope st__law_objects) .none kV15 dc15 pm15 an15 cd15 ct15), sl15⟩) (c15 : PySem.W.codeIn K cd15 "_law_objects" = true) (k15 : PySem.W.keepIn K (.ref f15) = true)
    (a16 : PySem.W.nsIn K mainGlobals "_law_where" = some (some (.ref f16))) (l16 : K.lookup f16 = some ⟨oc16, od16, .func (PySem.W.fnOf "_law_where" "_law_where" (defArgs st__law_where) (defBody st__law_where) (defScope st__law_where) .none kV16 dc16 pm16 an16 cd16 ct16), sl16⟩) (c16 : PySem.W.codeIn K cd16 "_law_where" = true) (k16 : PySem.W.keepIn K (.ref f16) = true)
    (a17 : PySem.W.nsIn K mainGlobals "_law_operand" = some (some (.ref f17))) (l17 : K.lookup f17 = some ⟨oc17, od17, .func (PySem.W.fnOf "_law_operand" "_law_operand" (defArgs st__law_operand) (defBody st__law_operand) (defScope st__law_operand) .none kV17 dc17 pm17 an17 cd17 ct17), sl17⟩) (c17 : PySem.W.codeIn K cd17 "_law_operand" = true) (k17 : PySem.W.keepIn K (.ref f17) = true)
    (a18 : PySem.W.nsIn K mainGlobals "_law_row" = some (some (.ref f18))) (l18 : K.lookup f18 = some ⟨oc18, od18, .func (PySem.W.fnOf "_law_row" "_law_row" (defArgs st__law_row) (defBody st__law_row) (defScope st__law_row) .none kV18 dc18 pm18 an18 cd18 ct18), sl18⟩) (c18 : PySem.W.codeIn K cd18 "_law_row" = true) (k18 : PySem.W.keepIn K (.ref f18) = true)
    (a19 : PySem.W.nsIn K mainGlobals "_law_plan" = some (some (.ref f19))) (l19 : K.lookup f19 = some ⟨oc19, od19, .func (PySem.W.fnOf "_law_plan" "_law_plan" (defArgs st__law_plan) (defBody st__law_plan) (defScope st__law_plan) .none kV19 dc19 pm19 an19 cd19 ct19), sl19⟩) (c19 : PySem.W.codeIn K cd19 "_law_plan" = true) (k19 : PySem.W.keepIn K (.ref f19) = true)
    (a20 : PySem.W.nsIn K mainGlobals "_law_items" = some (some (.ref f20))) (l20 : K.lookup f20 = some ⟨oc20, od20, .func (PySem.W.fnOf "_law_items" "_law_items" (defArgs st__law_items) (defBody st__law_items) (defScope st__law_items) .none kV20 dc20 pm20 an20 cd20 ct20), sl20⟩) (c20 : PySem.W.codeIn K cd20 "_law_items" = true) (k20 : PySem.W.keepIn K (.ref f20) = true)
    (a21 : PySem.W.nsIn K mainGlobals "_law_face" = some (some (.ref f21))) (l21 : K.lookup f21 = some ⟨oc21, od21, .func (PySem.W.fnOf "_law_face" "_law_face" (defArgs st__law_face) (defBody st__law_face) (defScope st__law_face) .none kV21 dc21 pm21 an21 cd21 ct21), sl21⟩) (c21 : PySem.W.codeIn K cd21 "_law_face" = true) (k21 : PySem.W.keepIn K (.ref f21) = true)
    (a22 : PySem.W.nsIn K mainGlobals "_law_choices" = some (some (.ref f22))) (l22 : K.lookup f22 = some ⟨oc22, od22, .func (PySem.W.fnOf "_law_choices" "_law_choices" (defArgs st__law_choices) (defBody st__law_choices) (defScope st__law_choices) .none kV22 dc22 pm22 an22 cd22 ct22), sl22⟩) (c22 : PySem.W.codeIn K cd22 "_law_choices" = true) (k22 : PySem.W.keepIn K (.ref f22) = true)
    (a23 : PySem.W.nsIn K mainGlobals "_law_moved" = some (some (.ref f23))) (l23 : K.lookup f23 = some ⟨oc23, od23, .func (PySem.W.fnOf "_law_moved" "_law_moved" (defArgs st__law_moved) (defBody st__law_moved) (defScope st__law_moved) .none kV23 dc23 pm23 an23 cd23 ct23), sl23⟩) (c23 : PySem.W.codeIn K cd23 "_law_moved" = true) (k23 : PySem.W.keepIn K (.ref f23) = true)
    (a24 : PySem.W.nsIn K mainGlobals "law" = some (some (.ref f24))) (l24 : K.lookup f24 = some ⟨oc24, od24, .func (PySem.W.fnOf "law" "law" (defArgs st_law) (defBody st_law) (defScope st_law) .none kV24 dc24 pm24 an24 cd24 ct24), sl24⟩) (c24 : PySem.W.codeIn K cd24 "law" = true) (k24 : PySem.W.keepIn K (.ref f24) = true)
    (z_isinstance : PySem.W.nsIn K mainGlobals "isinstance" = some none) (z_int : PySem.W.nsIn K mainGlobals "int" = some none) (z_bool : PySem.W.nsIn K mainGlobals "bool" = some none) (z_str : PySem.W.nsIn K mainGlobals "str" = some none) (z_len : PySem.W.nsIn K mainGlobals "len" = some none) (z_all : PySem.W.nsIn K mainGlobals "all" = some none) (z_dict : PySem.W.nsIn K mainGlobals "dict" = some none) (z_range : PySem.W.nsIn K mainGlobals "range" = some none) (z_tuple : PySem.W.nsIn K mainGlobals "tuple" = some none) (z_sorted : PySem.W.nsIn K mainGlobals "sorted" = some none) (z_set : PySem.W.nsIn K mainGlobals "set" = some none) (z_repr : PySem.W.nsIn K mainGlobals "repr" = some none) (z_enumerate : PySem.W.nsIn K mainGlobals "enumerate" = some none) (z_list : PySem.W.nsIn K mainGlobals "list" = some none) (z_min : PySem.W.nsIn K mainGlobals "min" = some none) (zc_MAIN : PySem.W.nsIn K mainGlobals "MAIN" = some (some (.ref t_MAIN))) (zl_MAIN : K.lookup t_MAIN = some o_MAIN) (zb_MAIN : tupB o_MAIN [.str "main", .int (0), .int (0)] = true) (zc_LONGEST : PySem.W.nsIn K mainGlobals "LONGEST" = some (some (.int 8 t_LONGEST))) (zc_LETTERS : PySem.W.nsIn K mainGlobals "LETTERS" = some (some (.str "abcdefghijklmnopqrstuvwxyz" t_LETTERS))) (kb0 : kBareB K = true) (n_NoPaper : PySem.W.nsIn K mainGlobals "NoPaper" = some (some (.ref C_NoPaper))) (n_WayError : PySem.W.nsIn K mainGlobals "WayError" = some (some (.ref C_WayError))) (iI_NoPaper : PySem.W.findIn K (.ref C_NoPaper) "__init__" = some (some (.ref I_NoPaper))) (tI_NoPaper : PySem.W.typeIn K (.ref I_NoPaper) = some (.type "function")) (lI_NoPaper : K.lookup I_NoPaper = some ⟨ocI_NoPaper, odI_NoPaper, .func (PySem.W.fnOf "__init__" "NoPaper.__init__" (defArgs st_NoPaper_init) (defBody st_NoPaper_init) (defScope st_NoPaper_init) .none kVI_NoPaper dcI_NoPaper pmI_NoPaper anI_NoPaper cdI_NoPaper ctI_NoPaper), slI_NoPaper⟩) (cI_NoPaper : PySem.W.codeIn K cdI_NoPaper "NoPaper.__init__" = true) (kI_NoPaper : PySem.W.keepIn K (.ref I_NoPaper) = true) (oe_NoPaper : OexG K "ValueError.__init__" C_NoPaper) (rd_NoPaper : ClX.CRead K C_WayError (.type "type")) (vV_NoPaper : PySem.W.findCls K (.ref C_WayError) (.type "type") "__init__" = some (.val (.builtin "ValueError.__init__"))) (fl_NoPaper : ∀ n ∈ (["word", "at"] : List Str), PySem.W.findIn K (.ref C_NoPaper) n = some none) :
    ∃ fd : FuncData, (∀ (s : Shared) (v : Value), BindsTo s fd ⟨[v], []⟩ [("_law_script", v)]) ∧ ∀ base : Heap, K.In base → base.Ns mainGlobals mg → FnG l.prog w K mg base 7 fa fd ["_law_script"] (spF K w 1 F_law) := by
  have e := hfa.symm.trans (PySem.W.mg_of X G a24)
  cases e
  have F0 := fun_mk (st := st_is_number) l0 c0 k0
  have g0 := PySem.W.mg_of X G a0
  have b0 := F0.binds (ps := ["thing"]) fun _ _ _ _ _ _ us hl => match us, hl with | [_], _ => rfl
  have F1 := fun_mk (st := st_is_word) l1 c1 k1
  have g1 := PySem.W.mg_of X G a1
  have b1 := F1.binds (ps := ["thing"]) fun _ _ _ _ _ _ us hl => match us, hl with | [_], _ => rfl
  have F2 := fun_mk (st := st_face) l2 c2 k2
  have g2 := PySem.W.mg_of X G a2
  have b2 := F2.binds (ps := ["code", "address"]) fun _ _ _ _ _ _ us hl => match us, hl with | [_, _], _ => rfl
  have F3 := fun_mk (st := st_need_way) l3 c3 k3
  have g3 := PySem.W.mg_of X G a3
  have b3 := F3.binds (ps := ["truth", "word", "at"]) fun _ _ _ _ _ _ us hl => match us, hl with | [_, _, _], _ => rfl
  have F4 := fun_mk (st := st_row_there) l4 c4 k4
  have g4 := PySem.W.mg_of X G a4
  have b4 := F4.binds (ps := ["code", "place"]) fun _ _ _ _ _ _ us hl => match us, hl with | [_, _], _ => rfl
  have F5 := fun_mk (st := st_choices_at) l5 c5 k5
  have g5 := PySem.W.mg_of X G a5
  have b5 := F5.binds (ps := ["code", "place"]) fun _ _ _ _ _ _ us hl => match us, hl with | [_, _], _ => rfl
  have F6 := fun_mk (st := st_led) l6 c6 k6
  have g6 := PySem.W.mg_of X G a6
  have b6 := F6.binds (ps := ["code", "place", "choice", "calls"]) fun _ _ _ _ _ _ us hl => match us, hl with | [_, _, _, _], _ => rfl
  have F7 := fun_mk (st := st_is_spot) l7 c7 k7
  have g7 := PySem.W.mg_of X G a7
  have b7 := F7.binds (ps := ["thing"]) fun _ _ _ _ _ _ us hl => match us, hl with | [_], _ => rfl
  have F8 := fun_mk (st := st_is_step) l8 c8 k8
  have g8 := PySem.W.mg_of X G a8
  have b8 := F8.binds (ps := ["thing"]) fun _ _ _ _ _ _ us hl => match us, hl with | [_], _ => rfl
  have F9 := fun_mk (st := st_is_choice) l9 c9 k9
  have g9 := PySem.W.mg_of X G a9
  have b9 := F9.binds (ps := ["choices", "thing"]) fun _ _ _ _ _ _ us hl => match us, hl with | [_, _], _ => rfl
  have F10 := fun_mk (st := st_gone_way) l10 c10 k10
  have g10 := PySem.W.mg_of X G a10
  have b10 := F10.binds (ps := ["code", "thing"]) fun _ _ _ _ _ _ us hl => match us, hl with | [_, _], _ => rfl
  have F11 := fun_mk (st := st_state_of) l11 c11 k11
  have g11 := PySem.W.mg_of X G a11
  have b11 := F11.binds (ps := ["code", "thing"]) fun _ _ _ _ _ _ us hl => match us, hl with | [_, _], _ => rfl
  have F12 := fun_mk (st := st_goes_on) l12 c12 k12
  have g12 := PySem.W.mg_of X G a12
  have b12 := F12.binds (ps := ["code", "thing"]) fun _ _ _ _ _ _ us hl => match us, hl with | [_, _], _ => rfl
  have F13 := fun_mk (st := st__law_feed) l13 c13 k13
  have g13 := PySem.W.mg_of X G a13
  have b13 := F13.binds (ps := ["_law_script"]) fun _ _ _ _ _ _ us hl => match us, hl with | [_], _ => rfl
  have F14 := fun_mk (st := st__law_draw) l14 c14 k14
  have g14 := PySem.W.mg_of X G a14
  have b14 := F14.binds (ps := ["_law_feed_here", "_law_many"]) fun _ _ _ _ _ _ us hl => match us, hl with | [_, _], _ => rfl
  have F15 := fun_mk (st := st__law_objects) l15 c15 k15
  have g15 := PySem.W.mg_of X G a15
  have b15 := F15.binds (ps := ["_law_feed_here"]) fun _ _ _ _ _ _ us hl => match us, hl with | [_], _ => rfl
  have F16 := fun_mk (st := st__law_where) l16 c16 k16
  have g16 := PySem.W.mg_of X G a16
  have b16 := F16.binds (ps := ["_law_feed_here", "_law_objects_here"]) fun _ _ _ _ _ _ us hl => match us, hl with | [_, _], _ => rfl
  have F17 := fun_mk (st := st__law_operand) l17 c17 k17
  have g17 := PySem.W.mg_of X G a17
  have b17 := F17.binds (ps := ["_law_feed_here"]) fun _ _ _ _ _ _ us hl => match us, hl with | [_], _ => rfl
  have F18 := fun_mk (st := st__law_row) l18 c18 k18
  have g18 := PySem.W.mg_of X G a18
  have b18 := F18.binds (ps := ["_law_feed_here", "_law_objects_here", "_law_called"]) fun _ _ _ _ _ _ us hl => match us, hl with | [_, _, _], _ => rfl
  have F19 := fun_mk (st := st__law_plan) l19 c19 k19
  have g19 := PySem.W.mg_of X G a19
  have b19 := F19.binds (ps := ["_law_feed_here"]) fun _ _ _ _ _ _ us hl => match us, hl with | [_], _ => rfl
  have F20 := fun_mk (st := st__law_items) l20 c20 k20
  have g20 := PySem.W.mg_of X G a20
  have b20 := F20.binds (ps := ["_law_plan_here", "_law_routine", "_law_block"]) fun _ _ _ _ _ _ us hl => match us, hl with | [_, _, _], _ => rfl
  have F21 := fun_mk (st := st__law_face) l21 c21 k21
  have g21 := PySem.W.mg_of X G a21
  have b21 := F21.binds (ps := ["_law_plan_here", "_law_where_here"]) fun _ _ _ _ _ _ us hl => match us, hl with | [_, _], _ => rfl
  have F22 := fun_mk (st := st__law_choices) l22 c22 k22
  have g22 := PySem.W.mg_of X G a22
  have b22 := F22.binds (ps := ["_law_plan_here", "_law_row_here"]) fun _ _ _ _ _ _ us hl => match us, hl with | [_, _], _ => rfl
  have F23 := fun_mk (st := st__law_moved) l23 c23 k23
  have g23 := PySem.W.mg_of X G a23
  have b23 := F23.binds (ps := ["_law_plan_here", "_law_frames", "_law_choice"]) fun _ _ _ _ _ _ us hl => match us, hl with | [_, _, _], _ => rfl
  have F24 := fun_mk (st := st_law) l24 c24 k24
  have g24 := PySem.W.mg_of X G a24
  have y_isinstance := PySem.W.mg_none_of X G z_isinstance
  have y_int := PySem.W.mg_none_of X G z_int
  have y_bool := PySem.W.mg_none_of X G z_bool
  have y_str := PySem.W.mg_none_of X G z_str
  have y_len := PySem.W.mg_none_of X G z_len
  have y_all := PySem.W.mg_none_of X G z_all
  have y_dict := PySem.W.mg_none_of X G z_dict
  have y_range := PySem.W.mg_none_of X G z_range
  have y_tuple := PySem.W.mg_none_of X G z_tuple
  have y_sorted := PySem.W.mg_none_of X G z_sorted
  have y_set := PySem.W.mg_none_of X G z_set
  have y_repr := PySem.W.mg_none_of X G z_repr
  have y_enumerate := PySem.W.mg_none_of X G z_enumerate
  have y_list := PySem.W.mg_none_of X G z_list
  have y_min := PySem.W.mg_none_of X G z_min
  have kb := kBare_of kb0
  have y_MAIN := gTup_of (PySem.W.mg_of X G zc_MAIN) zl_MAIN zb_MAIN
  have y_LONGEST : ∃ t, mg "LONGEST" = some (.int 8 t) := ⟨_, PySem.W.mg_of X G zc_LONGEST⟩
  have y_LETTERS : ∃ t, mg "LETTERS" = some (.str "abcdefghijklmnopqrstuvwxyz" t) := ⟨_, PySem.W.mg_of X G zc_LETTERS⟩
  have y_NoPaper := PySem.W.mg_of X G n_NoPaper
  have y_WayError := PySem.W.mg_of X G n_WayError
  have FI_NoPaper := fun_mk (st := st_NoPaper_init) lI_NoPaper cI_NoPaper kI_NoPaper
  have b_NoPaper_init := FI_NoPaper.binds (ps := ["self", "word", "at"]) fun _ _ _ _ _ _ us hl => match us, hl with | [_, _, _], _ => rfl
  have oI_NoPaper := fun base => ok_NoPaper_init (P := l.prog) (w := w) (mg := mg) (base := base) FI_NoPaper oe_NoPaper rd_NoPaper vV_NoPaper y_WayError fl_NoPaper
  refine ⟨PySem.W.fnOf "law" "law" (defArgs st_law) (defBody st_law) (defScope st_law) .none kV24 dc24 pm24 an24 cd24 ct24, fun s v => .of_eq rfl, fun base _ _ => ?_⟩
  have o0 := ok_is_number (P := l.prog) (w := w) (mg := mg) (base := base) F0 y_isinstance y_int y_bool
  have o1 := ok_is_word (P := l.prog) (w := w) (mg := mg) (base := base) F1 y_isinstance y_str y_len y_all y_LONGEST y_LETTERS
  have o2 := ok_face (P := l.prog) (w := w) (mg := mg) (base := base) F2 o0 k0 b0 g0 o1 k1 b1 g1 y_dict y_range y_tuple y_sorted kb
  have o3 := ok_need_way (P := l.prog) (w := w) (mg := mg) (base := base) F3
  have o4 := ok_row_there (P := l.prog) (w := w) (mg := mg) (base := base) F4 y_dict y_len kb
  have o5 := ok_choices_at (P := l.prog) (w := w) (mg := mg) (base := base) F5 o4 k4 b4 g4 o2 k2 b2 g2 y_tuple y_sorted y_set
  have o6 := ok_led (P := l.prog) (w := w) (mg := mg) (base := base) F6 o4 k4 b4 g4
  have o7 := ok_is_spot (P := l.prog) (w := w) (mg := mg) (base := base) F7 o1 k1 b1 g1 o0 k0 b0 g0 y_isinstance y_tuple y_len
  have o8 := ok_is_step (P := l.prog) (w := w) (mg := mg) (base := base) F8 o7 k7 b7 g7 y_isinstance y_tuple y_len
  have o9 := ok_is_choice (P := l.prog) (w := w) (mg := mg) (base := base) F9 y_repr
  have o10 := ok_gone_way (P := l.prog) (w := w) (mg := mg) (base := base) F10 o3 k3 b3 g3 o8 k8 b8 g8 o9 k9 b9 g9 o5 k5 b5 g5 o4 k4 b4 g4 o6 k6 b6 g6 y_isinstance y_tuple y_all y_enumerate y_MAIN
  have o11 := ok_state_of (P := l.prog) (w := w) (mg := mg) (base := base) F11 o10 k10 b10 g10
  have o12 := ok_goes_on (P := l.prog) (w := w) (mg := mg) (base := base) F12 o11 k11 b11 g11 o5 k5 b5 g5 y_tuple
  have o13 := ok__law_feed (P := l.prog) (w := w) (mg := mg) (base := base) F13 y_list
  have o14 := ok__law_draw (P := l.prog) (w := w) (mg := mg) (base := base) F14 y_len
  have o15 := ok__law_objects (P := l.prog) (w := w) (mg := mg) (base := base) F15 o14 k14 b14 g14 y_range y_len y_tuple y_sorted
  have o16 := ok__law_where (P := l.prog) (w := w) (mg := mg) (base := base) F16 o14 k14 b14 g14 y_range y_min y_len y_dict y_tuple kb
  have o17 := ok__law_operand (P := l.prog) (w := w) (mg := mg) (base := base) F17 o14 k14 b14 g14
  have o18 := ok__law_row (P := l.prog) (w := w) (mg := mg) (base := base) F18 o14 k14 b14 g14 o16 k16 b16 g16 o17 k17 b17 g17 y_len
  have o19 := ok__law_plan (P := l.prog) (w := w) (mg := mg) (base := base) F19 o15 k15 b15 g15 o14 k14 b14 g14 o18 k18 b18 g18 o17 k17 b17 g17 y_range y_tuple
  have o20 := ok__law_items (P := l.prog) (w := w) (mg := mg) (base := base) F20 y_dict y_list y_range y_len kb
  have o21 := ok__law_face (P := l.prog) (w := w) (mg := mg) (base := base) F21 y_isinstance y_str y_range y_dict y_sorted kb
  have o22 := ok__law_choices (P := l.prog) (w := w) (mg := mg) (base := base) F22 o21 k21 b21 g21 y_sorted y_set
  have o23 := ok__law_moved (P := l.prog) (w := w) (mg := mg) (base := base) F23 o20 k20 b20 g20
  exact ok_law F24 o13 k13 b13 g13 o19 k19 b19 g19 o20 k20 b20 g20 o14 k14 b14 g14 o22 k22 b22 g22 o12 k12 b12 g12 o11 k11 b11 g11 o23 k23 b23 g23 y_range y_repr y_tuple y_len
end K28
open PySem PySem.W PyProof.Rows
set_option maxHeartbeats 0 in
theorem PySem.Challenge.cw_storeways_k28_going_on_holds : PySem.Challenge.rw_storeways_k28_going_on.Holds := by
  w_on; o_law; k_head; (case hw => w_witness2)
  k_fill
  refine ML.walk_ofG (l := PySem.Challenge.rw_storeways_k28_going_on) (n := 63) (k := 7) (f := K28.F_law) (x := "_law_script") rfl (by decide) rfl ⟨⟨rfl, by decide, by decide⟩, rfl⟩ (fun w h Y => PySem.W.kIn_of Y) ?F K28.K_law
  case F =>
    intro w mg fa h KX G hmg
    refine' K28.all_mk KX G hmg ?a0 ?l0 ?c0 ?k0 ?a1 ?l1 ?c1 ?k1 ?a2 ?l2 ?c2 ?k2 ?a3 ?l3 ?c3 ?k3 ?a4 ?l4 ?c4 ?k4 ?a5 ?l5 ?c5 ?k5 ?a6 ?l6 ?c6 ?k6 ?a7 ?l7 ?c7 ?k7 ?a8 ?l8 ?c8 ?k8 ?a9 ?l9 ?c9 ?k9 ?a10 ?l10 ?c10 ?k10 ?a11 ?l11 ?c11 ?k11 ?a12 ?l12 ?c12 ?k12 ?a13 ?l13 ?c13 ?k13 ?a14 ?l14 ?c14 ?k14 ?a15 ?l15 ?c15 ?k15 ?a16 ?l16 ?c16 ?k16 ?a17 ?l17 ?c17 ?k17 ?a18 ?l18 ?c18 ?k18 ?a19 ?l19 ?c19 ?k19 ?a20 ?l20 ?c20 ?k20 ?a21 ?l21 ?c21 ?k21 ?a22 ?l22 ?c22 ?k22 ?a23 ?l23 ?c23 ?k23 ?a24 ?l24 ?c24 ?k24 ?z_isinstance ?z_int ?z_bool ?z_str ?z_len ?z_all ?z_dict ?z_range ?z_tuple ?z_sorted ?z_set ?z_repr ?z_enumerate ?z_list ?z_min ?zc_MAIN ?zl_MAIN ?zb_MAIN ?zc_LONGEST ?zc_LETTERS ?kb0 ?n_NoPaper ?n_WayError ?iI_NoPaper ?tI_NoPaper ?lI_NoPaper ?cI_NoPaper ?kI_NoPaper ?oe_NoPaper ?rd_NoPaper ?vV_NoPaper ?fl_NoPaper
    (case a0 => k_is); (case l0 => k_is); (case c0 => k_is); (case k0 => k_is); (case a1 => k_is); (case l1 => k_is); (case c1 => k_is); (case k1 => k_is); (case a2 => k_is); (case l2 => k_is); (case c2 => k_is); (case k2 => k_is); (case a3 => k_is); (case l3 => k_is); (case c3 => k_is); (case k3 => k_is); (case a4 => k_is); (case l4 => k_is); (case c4 => k_is); (case k4 => k_is); (case a5 => k_is); (case l5 => k_is); (case c5 => k_is); (case k5 => k_is); (case a6 => k_is); (case l6 => k_is); (case c6 => k_is); (case k6 => k_is); (case a7 => k_is); (case l7 => k_is); (case c7 => k_is); (case k7 => k_is); (case a8 => k_is); (case l8 => k_is); (case c8 => k_is); (case k8 => k_is); (case a9 => k_is); (case l9 => k_is); (case c9 => k_is); (case k9 => k_is); (case a10 => k_is); (case l10 => k_is); (case c10 => k_is); (case k10 => k_is); (case a11 => k_is); (case l11 => k_is); (case c11 => k_is); (case k11 => k_is); (case a12 => k_is); (case l12 => k_is); (case c12 => k_is); (case k12 => k_is); (case a13 => k_is); (case l13 => k_is); (case c13 => k_is); (case k13 => k_is); (case a14 => k_is); (case l14 => k_is); (case c14 => k_is); (case k14 => k_is); (case a15 => k_is); (case l15 => k_is); (case c15 => k_is); (case k15 => k_is); (case a16 => k_is); (case l16 => k_is); (case c16 => k_is); (case k16 => k_is); (case a17 => k_is); (case l17 => k_is); (case c17 => k_is); (case k17 => k_is); (case a18 => k_is); (case l18 => k_is); (case c18 => k_is); (case k18 => k_is); (case a19 => k_is); (case l19 => k_is); (case c19 => k_is); (case k19 => k_is); (case a20 => k_is); (case l20 => k_is); (case c20 => k_is); (case k20 => k_is); (case a21 => k_is); (case l21 => k_is); (case c21 => k_is); (case k21 => k_is); (case a22 => k_is); (case l22 => k_is); (case c22 => k_is); (case k22 => k_is); (case a23 => k_is); (case l23 => k_is); (case c23 => k_is); (case k23 => k_is); (case a24 => k_is); (case l24 => k_is); (case c24 => k_is); (case k24 => k_is); (case z_isinstance => k_is); (case z_int => k_is); (case z_bool => k_is); (case z_str => k_is); (case z_len => k_is); (case z_all => k_is); (case z_dict => k_is); (case z_range => k_is); (case z_tuple => k_is); (case z_sorted => k_is); (case z_set => k_is); (case z_repr => k_is); (case z_enumerate => k_is); (case z_list => k_is); (case z_min => k_is); (case zc_MAIN => k_is); (case zl_MAIN => k_is); (case zb_MAIN => decide +kernel); (case zc_LONGEST => k_is); (case zc_LETTERS => k_is); (case kb0 => kernel_rfl); (case n_NoPaper => k_is); (case n_WayError => k_is); (case iI_NoPaper => k_is); (case tI_NoPaper => k_is); (case lI_NoPaper => k_is); (case cI_NoPaper => k_is); (case kI_NoPaper => k_is); (case oe_NoPaper => (refine' ML.oexG_mk ML.base_VE ?xl ?xv ?xs ?xe ?xt ?xk; (case xl => k_is); (case xv => decide +kernel); (case xs => k_is); (case xe => k_is); (case xt => k_is); (case xk => k_is))); (case rd_NoPaper => (refine' ⟨?ra, ?rb⟩; (case ra => k_is); (case rb => k_is))); (case vV_NoPaper => k_is); (case fl_NoPaper => (refine' (ML.fields_cons ?fa0 (ML.fields_cons ?fa1 ML.fields_nil)); (case fa0 => k_is); (case fa1 => k_is)))
