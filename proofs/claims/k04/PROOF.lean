import PyProof.Rows.All
import HandS.ForMost
import HandS.Defaults
import HandS.IsInst
import HandS.Wide
import HandS.Flow
import HandS.Conv
import HandS.RaiseMore
import HandS.TupAny
import HandS.Style
import HandS.Zip
import HandS.Text
import HandS.Deep
import HandS.StrMore
import HandS.ListItems
import PyProof.ReprRoads
import PyProof.RowDictHeap
import HandS.Strs
import HandS.SetKeys
import KE.SortData
import KE.DataCmp
import HandS.HeadHook2
import HandS.Head2
import HandS.Iter
import HandS.More
import HandS.Small
import KE.KDictSum
import KE.KItemsList
import HandS.Star
import PyProof.EqKinds
import PyProof.Dict
import KE.KEqDict
import HandS.NoneIn
import HandS.Set
import HandS.TupSets
import HandS.TupLe
import KE.KDictPairs
import PySem.Challenge.RW_claimduel_k04_forms_made_and_judged
import PyProof.ReprBulk
set_option Elab.async false
set_option linter.all false
set_option maxRecDepth 100000
set_option maxHeartbeats 4000000
/-! G0: tuples of which it is known that their object has no dict of its own (those whose first item is no address need it not). -/
namespace G
open PySem PySem.Spec PyProof.Rows L2
def nrefV : V → Bool
  | .ref _ => false
  | _ => true
def plainT : List V → Bool
  | x :: _ => nrefV x
  | [] => false
def tupH (xs : List V) (o : Obj) : HO := if plainT xs = true then .tup xs else .frz o (.tup xs)
theorem tupH_rd {H : Hp} {a : Addr} {xs : List V} {o : Obj} (e : H a = some (tupH xs o)) : Rd H a (.tup xs) := by
  unfold tupH at e
  split at e
  · exact .inl e
  · exact .inr ⟨o, e⟩
section
variable {X : Cx} {pins : List (Addr × Obj)} {σ : L2.St} {H : Hp} {s : Shared}
theorem laidT {xs : List V} {us : List Value} {h' : Heap} {Q : VK} {n : Nat} (I : L2.Inv X pins σ H s) (r : Vals xs us) (z : xs.length ≤ sizeLine)
    (k : ∀ b u, s.heap.get? b = some u → h'.get? b = some u) (e : h'.get? s.heap.objs.size = some { cls := .type "tuple", data := .seq us.toArray n })
    (q : ∀ p o, H p = none → o.dict = none → Q (.ref p) (upd H p (tupH xs o))) : EP X pins σ Q (.ref s.heap.objs.size) { s with heap := h' } := by
  have ok : ∀ H', ObjOk X.prog X.w H' h' s.heap.objs.size (.tup xs) := fun _ => ⟨z, us, r, _, e, rfl, n, rfl⟩
  refine ⟨.ref s.heap.objs.size, upd H s.heap.objs.size (tupH xs { cls := .type "tuple", data := .seq us.toArray n }), ?_, rfl, q _ _ (I.hok.fresh (Nat.le_refl _)) rfl⟩
  refine I.laid (t' := s.toks) k (Nat.le_refl _) ?_
  generalize hb : upd H s.heap.objs.size _ = HH
  unfold tupH
  split
  · exact ok HH
  · exact ⟨e, ok HH⟩
/-- a display -/
def tTupN (t : TA) : TE := fun σ H Q => t σ H fun xs H1 => xs.length ≤ sizeLine ∧ ∀ p o, H1 p = none → o.dict = none → Q (.ref p) (upd H1 p (tupH xs o))
theorem pe_tupN {x1} {es : List Expr} {t : TA} {pos : Pos} (h : PA X es t) : PE X (.Tuple es x1 pos) (tTupN t) := by
  constructor
  intro pins s σ H Q I hq
  refine wpAny_Tuple_spliced (thn (h.run pos pins s σ H _ I hq) ?_)
  rintro us s1 ⟨xs, H1, I1, r, z, q⟩
  refine ⟨by rw [← r.length]; exact z, ?_⟩
  exact laidT I1 r z (fun _ _ w => Heap.get?_push_of_some _ w) (Heap.get?_push_size _ rfl) q
/-- t + u -/
def rCatN (K : PySem.W.Frag) : R2 := fun x y H Q => ∃ a b xs ys, x = .ref a ∧ y = .ref b ∧ SqT K H a xs ∧ SqT K H b ys ∧ xs.length + ys.length ≤ sizeLine ∧
  (xs = [] → Q (.ref b) H) ∧ (xs ≠ [] → ys = [] → Q (.ref a) H) ∧ (xs ≠ [] → ys ≠ [] → ∀ p o, H p = none → o.dict = none → Q (.ref p) (upd H p (tupH (xs ++ ys) o)))
theorem op_catN : OpR X (binaryOp .Add) (rCatN X.K) := by
  intro pins s σ H x y v u Q I rx ry h
  obtain ⟨a, b, xs, ys, rfl, rfl, ha, hb, hz, q0, q1, q2⟩ := h
  cases rx; cases ry
  obtain ⟨us, r1, p1, _⟩ := I.tuple ha
  obtain ⟨ws, r2, p2, _⟩ := I.tuple hb
  by_cases hx : us = []
  · subst hx
    cases r1
    exact cat_tup0 p1 p2 ⟨.ref b, H, I, rfl, q0 rfl⟩
  · have hx' : xs ≠ [] := fun e => hx (r1.nil_iff.mpr e)
    refine HT.cat_tup p1 p2 hx (fun e => ⟨.ref a, H, I, rfl, q1 hx' (r2.nil_iff.mp e)⟩) (fun e => ?_) (by rw [← r1.length, ← r2.length]; exact hz)
    exact laidT I (r1.append r2) (by rw [List.length_append]; exact hz) (fun _ _ w => Heap.get?_push_of_some _ w) (Heap.get?_push_size _ rfl) (q2 hx' fun z => e (r2.nil_iff.mpr z))
/-- t[lo:hi] -/
def rSlN (K : PySem.W.Frag) : V → Option Int → Option Int → Hp → VK → Prop := fun x lo hi H Q => ∃ a xs, x = .ref a ∧ SqT K H a xs ∧
  (HT.sIx xs.length 0 lo = 0 ∧ HT.sIx xs.length xs.length hi = xs.length → Q (.ref a) H) ∧
  (¬ (HT.sIx xs.length 0 lo = 0 ∧ HT.sIx xs.length xs.length hi = xs.length) → ∀ p o, H p = none → o.dict = none → Q (.ref p) (upd H p (tupH (cutV xs lo hi) o)))
theorem sl_tupN : SlR X (rSlN X.K) := by
  intro pins s σ H x v vl vu lo hi sl Q I rx hs pl pu h
  obtain ⟨a, xs, rfl, hx, q1, q2⟩ := h
  cases rx
  obtain ⟨us, r, ht, hz⟩ := I.tuple hx
  have ln : us.toArray.size = xs.length := (List.size_toArray ..).trans r.length.symm
  refine ⟨"tuple", _, PyProof.Rows.slot_tuple_getitem.lookup, ht.typeIs, ?_⟩
  by_cases hw : HT.sIx xs.length 0 lo = 0 ∧ HT.sIx xs.length xs.length hi = xs.length
  · exact getItem_tuple_whole ht hs pl pu (by rw [ln]; exact hw) ⟨.ref a, H, I, rfl, q1 hw⟩
  · refine HT.getItem_tuple_cut ht hs pl pu (by rw [ln]; exact hw) ?_ (by rw [ln]; exact hz)
    rw [ln]
    exact laidT (us := (us.drop (HT.sIx xs.length 0 lo)).take (HT.sIx xs.length xs.length hi - HT.sIx xs.length 0 lo)) I ((r.drop _).take _) (Nat.le_trans (cutV_length xs lo hi) hz) (fun _ _ w => Heap.get?_push_of_some _ w) (Heap.get?_push_size _ rfl) (q2 hw)
/-- tuple(xs) -/
def rTupN (K : PySem.W.Frag) : List V → Hp → VK → Prop := fun xs H Q => ∃ p ys, xs = [.ref p] ∧ ((SqL K H p ys ∧ ∀ l o, H l = none → o.dict = none → Q (.ref l) (upd H l (tupH ys o))) ∨ (SqT K H p ys ∧ Q (.ref p) H))
theorem call_tupN : CallR X (.type "tuple") (rTupN X.K) := by
  intro pins s σ H xs us Q I r h
  obtain ⟨p, ys, rfl, h⟩ := h
  obtain ⟨u, rfl, rx⟩ := vals1 r
  cases rx
  rcases h with ⟨hq, q⟩ | ⟨hq, q⟩
  · obtain ⟨ws, r', pl, hz⟩ := I.list hq
    have ln := r'.length
    refine call_tuple_list pl.isList (fun h' kp => ?_) (by simp only [List.size_toArray] <;> omega)
    have I1 : L2.Inv X pins σ H { s with heap := h' } := I.kept (t' := s.toks) kp
    exact laidT I1 r' hz (fun _ _ w => Heap.get?_push_of_some _ w) (Heap.get?_push_size _ rfl) q
  · obtain ⟨ws, r', pl, hz⟩ := I.tuple hq
    exact call_tuple_same pl ⟨.ref p, H, I, rfl, q⟩
end
/-! zip -/
def ItzN (K : PySem.W.Frag) (a b : Addr) : It :=
  ⟨(Itz K a b).go, fun i H v H' => ∃ T x y o, v = .ref T ∧ H T = none ∧ o.dict = none ∧ H' = upd H T (tupH [x, y] o) ∧ (∀ xs, SqL K H a xs → xs[i]? = some x) ∧ ∀ ys, SqL K H b ys → ys[i]? = some y, (Itz K a b).stop⟩
def ItzTN (K : PySem.W.Frag) (a b : Addr) : It :=
  ⟨(RZ.ItzT K a b).go, fun i H v H' => ∃ T x y o, v = .ref T ∧ H T = none ∧ o.dict = none ∧ H' = upd H T (tupH [x, y] o) ∧ (∀ xs, SqT K H a xs → xs[i]? = some x) ∧ ∀ ys, SqT K H b ys → ys[i]? = some y, (RZ.ItzT K a b).stop⟩
section
variable {P : Program} {w : World} {K : PySem.W.Frag} {elts : List Expr} {kk : Nat} {tpos : Pos} {a b z TI TO i1 i2 : Addr}
theorem five {Pr : Addr → Prop} (h1 : Pr z) (h2 : Pr TI) (h3 : Pr TO) (h4 : Pr i1) (h5 : Pr i2) : ∀ c ∈ [z, TI, TO, i1, i2], Pr c := by
  intro c hc
  simp only [List.mem_cons, List.not_mem_nil, or_false] at hc
  rcases hc with rfl | rfl | rfl | rfl | rfl <;> assumption
theorem pair_laid {X : Cx} {pins : List (Addr × Obj)} {σ : L2.St} {H : Hp} {s : Shared} {h2 : Heap} {x y : V} {u v : Value} (I : L2.Inv X pins σ H s) (ru : RelV x u) (rv : RelV y v) (hf : ∀ c ∈ [z, TI, TO, i1, i2], FpOk X pins H c)
    (k : ∀ c o, c ∉ [z, TI, TO, i1, i2] → s.heap.get? c = some o → h2.get? c = some o) (e : h2.get? s.heap.objs.size = some { cls := .type "tuple", data := .seq #[u, v] }) :
    L2.Inv X pins σ (upd H s.heap.objs.size (tupH [x, y] { cls := .type "tuple", data := .seq #[u, v] })) { s with heap := h2 } := by
  have ok : ∀ H', ObjOk X.prog X.w H' h2 s.heap.objs.size (.tup [x, y]) := fun _ => ⟨by show 2 ≤ sizeLine; decide, [u, v], .cons ru (.cons rv .nil), _, e, rfl, _, rfl⟩
  refine I.turnedNew (t' := s.toks) (ch := [z, TI, TO, i1, i2]) k hf (Nat.le_refl _) ?_
  generalize hb : upd H s.heap.objs.size _ = HH
  unfold tupH
  split
  · exact ok HH
  · exact ⟨e, ok HH⟩
theorem turn_zipN (D : ZipApart z TI TO i1 i2 a b) :
    Turn P w K (.Tuple elts kk tpos) (ItzN K a b) [z, TI, TO, i1, i2] z (fun i h => IsZip h z TI TO .none ∧ IsPair h TI (.ref i1) (.ref i2) ∧ (∃ x y, IsPair h TO x y) ∧ h.IsListIter i1 a i ∧ h.IsListIter i2 b i) where
  mem := (turn_zip (P := P) (w := w) (K := K) (elts := elts) (kk := kk) (tpos := tpos) D).mem
  obj := (turn_zip (P := P) (w := w) (K := K) (elts := elts) (kk := kk) (tpos := tpos) D).obj
  keep := (turn_zip (P := P) (w := w) (K := K) (elts := elts) (kk := kk) (tpos := tpos) D).keep
  done := (turn_zip (P := P) (w := w) (K := K) (elts := elts) (kk := kk) (tpos := tpos) D).done
  self := (turn_zip (P := P) (w := w) (K := K) (elts := elts) (kk := kk) (tpos := tpos) D).self
  item := by
    rintro X rfl rfl rfl hc i pins s σ H E I hf ⟨hz, hTI, ⟨x0, y0, hTO⟩, h1, h2⟩ ⟨xs, ys, x, y, hqx, hqy, hx, hy⟩
    obtain ⟨us, rv, p, _⟩ := I.list hqx
    obtain ⟨ws, rw, p2, _⟩ := I.list hqy
    obtain ⟨u, hu, ru⟩ := rv.get hx
    obtain ⟨t, ht, rt⟩ := rw.get hy
    have zl := Heap.lt_size hz
    refine wpAny_pyNext_zip_item D hz hTI hTO h1 h2 p.isList p2.isList (x := u) (y := t) (by simpa using hu) (by simpa using ht) ?_
    intro g z' TO' g1 g2 hT hsz hk
    refine ⟨_, rfl, wpAny_letOwnedTupleGo_zip (s := { s with heap := g }) z' fun g' z'' sb => ?_⟩
    have same : ∀ c o, c ≠ z → g.get? c = some o → g'.get? c = some o := fun c o n e => (sb.2 c n).trans e
    have e2 := same _ _ (Nat.ne_of_gt zl) hT
    have I1 := pair_laid (h2 := g') (z := z) (TI := TI) (TO := TO) (i1 := i1) (i2 := i2) I ru rt hf (fun c o hb q => by
      simp only [List.mem_cons, List.not_mem_nil, or_false, not_or] at hb
      exact same c o hb.1 (hk c o hb.1 (by first | exact hb.2.2.1 | exact hb.2.1) (by first | exact hb.2.2.2.1 | exact hb.2.2.1) (by first | exact hb.2.2.2.2 | exact hb.2.2.2.1) q)) e2
    refine ⟨.ref s.heap.objs.size, _, I1, rfl, ⟨_, x, y, _, rfl, I.hok.fresh (Nat.le_refl _), rfl, rfl, fun l hl => ?_, fun l hl => ?_⟩, ⟨z'', same _ _ D.TIz (hk _ _ D.TIz D.TITO D.TIi1 D.TIi2 hTI), ⟨u, t, same _ _ D.TOz TO'⟩, g1.at fun o q => same _ _ D.i1z q, g2.at fun o q => same _ _ D.i2z q⟩, fun c hcm => ?_⟩
    · rw [I.list_inj hl hqx]; exact hx
    · rw [I.list_inj hl hqy]; exact hy
    · have lt : c < s.heap.objs.size := five (Pr := fun c => c < s.heap.objs.size) zl (Heap.lt_size hTI) (Heap.lt_size hTO) (by obtain ⟨_, q, _⟩ := h1; exact Heap.lt_size q) (by obtain ⟨_, q, _⟩ := h2; exact Heap.lt_size q) c hcm
      rw [upd_ne (Nat.ne_of_lt lt)]
      exact (hf c hcm).1
theorem turn_zipTN (D : ZipApart z TI TO i1 i2 a b) :
    Turn P w K (.Tuple elts kk tpos) (ItzTN K a b) [z, TI, TO, i1, i2] z (fun i h => IsZip h z TI TO .none ∧ IsPair h TI (.ref i1) (.ref i2) ∧ (∃ x y, IsPair h TO x y) ∧ h.IsTupleIter i1 a i ∧ h.IsTupleIter i2 b i) where
  mem := (RZ.turn_zipT (P := P) (w := w) (K := K) (elts := elts) (kk := kk) (tpos := tpos) D).mem
  obj := (RZ.turn_zipT (P := P) (w := w) (K := K) (elts := elts) (kk := kk) (tpos := tpos) D).obj
  keep := (RZ.turn_zipT (P := P) (w := w) (K := K) (elts := elts) (kk := kk) (tpos := tpos) D).keep
  done := (RZ.turn_zipT (P := P) (w := w) (K := K) (elts := elts) (kk := kk) (tpos := tpos) D).done
  self := (RZ.turn_zipT (P := P) (w := w) (K := K) (elts := elts) (kk := kk) (tpos := tpos) D).self
  item := by
    rintro X rfl rfl rfl hc i pins s σ H E I hf ⟨hz, hTI, ⟨x0, y0, hTO⟩, h1, h2⟩ ⟨xs, ys, x, y, hqx, hqy, hx, hy⟩
    obtain ⟨us, rv, p, _⟩ := I.tuple hqx
    obtain ⟨ws, rw, p2, _⟩ := I.tuple hqy
    obtain ⟨u, hu, ru⟩ := rv.get hx
    obtain ⟨t, ht, rt⟩ := rw.get hy
    have zl := Heap.lt_size hz
    refine RZ.pyNext_zipT_item D hz hTI hTO h1 h2 p p2 (x := u) (y := t) (by simpa using hu) (by simpa using ht) ?_
    intro g z' TO' g1 g2 hT hsz hk
    refine ⟨_, rfl, wpAny_letOwnedTupleGo_zip (s := { s with heap := g }) z' fun g' z'' sb => ?_⟩
    have same : ∀ c o, c ≠ z → g.get? c = some o → g'.get? c = some o := fun c o n e => (sb.2 c n).trans e
    have e2 := same _ _ (Nat.ne_of_gt zl) hT
    have I1 := pair_laid (h2 := g') (z := z) (TI := TI) (TO := TO) (i1 := i1) (i2 := i2) I ru rt hf (fun c o hb q => by
      simp only [List.mem_cons, List.not_mem_nil, or_false, not_or] at hb
      exact same c o hb.1 (hk c o hb.1 (by first | exact hb.2.2.1 | exact hb.2.1) (by first | exact hb.2.2.2.1 | exact hb.2.2.1) (by first | exact hb.2.2.2.2 | exact hb.2.2.2.1) q)) e2
    refine ⟨.ref s.heap.objs.size, _, I1, rfl, ⟨_, x, y, _, rfl, I.hok.fresh (Nat.le_refl _), rfl, rfl, fun l hl => ?_, fun l hl => ?_⟩, ⟨z'', same _ _ D.TIz (hk _ _ D.TIz D.TITO D.TIi1 D.TIi2 hTI), ⟨u, t, same _ _ D.TOz TO'⟩, g1.at fun o q => same _ _ D.i1z q, g2.at fun o q => same _ _ D.i2z q⟩, fun c hcm => ?_⟩
    · rw [I.tuple_inj hl hqx]; exact hx
    · rw [I.tuple_inj hl hqy]; exact hy
    · have lt : c < s.heap.objs.size := five (Pr := fun c => c < s.heap.objs.size) zl (Heap.lt_size hTI) (Heap.lt_size hTO) (by obtain ⟨_, q, _⟩ := h1; exact Heap.lt_size q) (by obtain ⟨_, q, _⟩ := h2; exact Heap.lt_size q) c hcm
      rw [upd_ne (Nat.ne_of_lt lt)]
      exact (hf c hcm).1
end
def iZipN (K : PySem.W.Frag) (ta : TA) : TI := fun σ H R => ta σ H fun vs H1 => ∃ a b xs ys, vs = [.ref a, .ref b] ∧ ((SqL K H1 a xs ∧ SqL K H1 b ys ∧ R (ItzN K a b) H1) ∨ (SqT K H1 a xs ∧ SqT K H1 b ys ∧ R (ItzTN K a b) H1))
theorem pi_zipN {X : Cx} {e e2 : Expr} {ta : TA} {p pos tpos : Pos} {elts : List Expr} {kk : Nat} (hg : Gl X "zip") (hm : X.mg "zip" = none) (ha : PA X [e, e2] ta)
    (hs : starEach [e, e2] X.env = (false, eval e X.env) :: starEach [e2] X.env := by rfl) (hpl : (backTo pos (starEach [e2] X.env)).any (·.1) = false := by rfl) :
    PI X (.Tuple elts kk tpos) (.Call (.Name "zip" p) [e, e2] [] pos) (iZipN X.K ta) := by
  constructor
  intro pins s σ H R I h
  refine Call_ (ld_blt I hg hm PyProof.Rows.boot_zip (PyProof.Rows.callWith_type1 (thn (ha.run pos pins s σ H _ I h) ?_) hs hpl))
  rintro us s1 ⟨vs, H1, I1, r1, a, b, xs, ys, rfl, q1⟩
  cases r1 with | cons r rr =>
  cases rr with | cons r' rr =>
  cases rr; cases r; cases r'
  have new : ∀ c ∈ [s1.heap.objs.size + 4, s1.heap.objs.size + 2, s1.heap.objs.size + 3, s1.heap.objs.size, s1.heap.objs.size + 1], FpOk X pins H1 c := by
    have le : ∀ d, FpOk X pins H1 (s1.heap.objs.size + d) := fun d => I1.fpOk (Nat.le_add_right _ d) (I1.hok.fresh (Nat.le_add_right _ d))
    exact five (le 4) (le 2) (le 3) (le 0) (le 1)
  rcases q1 with ⟨hqx, hqy, q⟩ | ⟨hqx, hqy, q⟩
  · obtain ⟨_, _, p1, _⟩ := I1.list hqx
    obtain ⟨_, _, p2, _⟩ := I1.list hqy
    refine call_zip_2 p1.isList p2.isList fun g hz hTI hTO h1 h2 _ hk => wpAny_pyIter_zip hz ?_
    exact ⟨_, _, _, _, H1, rfl, I1.kept (t' := s1.toks) hk, turn_zipN (PySem.W.ktu_apart s1.heap.objs.size a b p1.lt p2.lt), ⟨hz, hTI, ⟨_, _, hTO⟩, h1, h2⟩, new, q⟩
  · obtain ⟨_, _, p1, _⟩ := I1.tuple hqx
    obtain ⟨_, _, p2, _⟩ := I1.tuple hqy
    refine RZ.call_zipT (show s1.heap.IsTuple a _ from p1) (show s1.heap.IsTuple b _ from p2) fun g hz hTI hTO h1 h2 _ hk => wpAny_pyIter_zip hz ?_
    exact ⟨_, _, _, _, H1, rfl, I1.kept (t' := s1.toks) hk, turn_zipTN (PySem.W.ktu_apart s1.heap.objs.size a b p1.lt p2.lt), ⟨hz, hTI, ⟨_, _, hTO⟩, h1, h2⟩, new, q⟩
end G

set_option Elab.async false
set_option linter.all false
set_option maxRecDepth 100000
set_option maxHeartbeats 4000000
/-! G1: values as trees (D), how they lie in the heap (Rl), the draws' state, the monad of what a def does (M), readings over it. -/
namespace G
open PySem PySem.Spec PyProof.Rows L2

/-- the draws' list, and the list of its cells -/
structure Dr where
  a : Addr
  cc : Addr
  ne : cc ≠ a
instance : Coe Dr Addr := ⟨Dr.a⟩
/-- a value as a tree -/
inductive D where
  | non | bl (b : Bool) | int (i : Int) | str (x : Str) | lst (xs : List D) | tup (xs : List D)
  | dic (ks : List Key) (vs : List D) | obj (a : Addr) | ty (n : String) | chn | scr (ns : List Int)
instance : Inhabited D := ⟨.non⟩

/-- a tuple that is tracked, or an object of the module -/
def TupAt (K : PySem.W.Frag) (H : Hp) (a : Addr) (xs : List V) : Prop :=
  (∃ o, o.dict = none ∧ H a = some (tupH xs o)) ∨ ∃ (us : List Value) (n : Nat) (sl : Array (Option Value)), K.lookup a = some ⟨.type "tuple", none, .seq us.toArray n, sl⟩ ∧ us.length ≤ sizeLine ∧ Vals xs us
theorem TupAt.of {K : PySem.W.Frag} {H : Hp} {a : Addr} {xs : List V} {o : Obj} (h : H a = some (tupH xs o)) (d : o.dict = none) : TupAt K H a xs := .inl ⟨o, d, h⟩
theorem TupAt.ofP {K : PySem.W.Frag} {H : Hp} {a : Addr} {xs : List V} (h : H a = some (.tup xs)) (p : plainT xs = true) : TupAt K H a xs := .inl ⟨{ cls := .type "tuple", data := .seq #[] }, rfl, by unfold tupH; rw [if_pos p]; exact h⟩
theorem TupAt.s {K : PySem.W.Frag} {H : Hp} {a : Addr} {xs : List V} (h : TupAt K H a xs) : SqT K H a xs := by
  rcases h with ⟨o, _, h⟩ | ⟨us, n, sl, e, l, r⟩
  · exact .inl (tupH_rd h)
  · exact .inr ⟨_, us.toArray, n, e, rfl, rfl, by simpa using l, by simpa using r⟩
/-- the script: a list that nobody changes -/
def ScrAt (K : PySem.W.Frag) (H : Hp) (a : Addr) (vs : List V) : Prop :=
  (∃ o, H a = some (.frz o (.lst vs))) ∨ ∃ (o : Obj) (its : Array Value) (n : Nat), K.lookup a = some o ∧ o.cls = .type "list" ∧ o.dict = none ∧ o.data = .seq its n ∧ its.size ≤ sizeLine ∧ Vals vs its.toList
theorem ScrAt.s {K : PySem.W.Frag} {H : Hp} {a : Addr} {vs : List V} (h : ScrAt K H a vs) : SqL K H a vs := h.elim (fun h => .inl (.inr h)) .inr
mutual
/-- v lies in H as the tree d; Z: the addresses that may still change -/
inductive Rl (K : PySem.W.Frag) (ca : Dr) (Z : Addr → Prop) (H : Hp) : V → D → Prop
  | non : Rl K ca Z H .non .non
  | bl (b : Bool) : Rl K ca Z H (.bl b) (.bl b)
  | int (i : Int) : Rl K ca Z H (.int i) (.int i)
  | str (x : Str) : Rl K ca Z H (.str x) (.str x)
  | ty (n : String) : Rl K ca Z H (.ty n) (.ty n)
  | obj (a : Addr) : Rl K ca Z H (.ref a) (.obj a)
  | chn : Rl K ca Z H (.ref ca) .chn
  | scr {a : Addr} {ns : List Int} : ScrAt K H a (ns.map V.int) → Rl K ca Z H (.ref a) (.scr ns)
  | lst {a : Addr} {vs : List V} {ds : List D} : ¬ Z a → H a = some (.lst vs) → RlA K ca Z H vs ds → Rl K ca Z H (.ref a) (.lst ds)
  | tup {a : Addr} {vs : List V} {ds : List D} : TupAt K H a vs → RlA K ca Z H vs ds → Rl K ca Z H (.ref a) (.tup ds)
  | dic {a : Addr} {kvs : List (Key × V)} {ds : List D} : ¬ Z a → H a = some (.dK kvs) → RlA K ca Z H (kvs.map (·.2)) ds → Rl K ca Z H (.ref a) (.dic (kvs.map (·.1)) ds)
inductive RlA (K : PySem.W.Frag) (ca : Dr) (Z : Addr → Prop) (H : Hp) : List V → List D → Prop
  | nil : RlA K ca Z H [] []
  | cons {v : V} {vs : List V} {d : D} {ds : List D} : Rl K ca Z H v d → RlA K ca Z H vs ds → RlA K ca Z H (v :: vs) (d :: ds)
end

def MuO : HO → Prop
  | .lst _ => True
  | .dK _ => True
  | _ => False
theorem tupH_mu (xs : List V) (o : Obj) : ¬ MuO (tupH xs o) := by
  unfold tupH
  split <;> exact id
/-- all stays, but what changes at P is a list or a dict and remains one -/
def ExtP (P : Addr → Prop) (H H' : Hp) : Prop := ∀ b o, H b = some o → H' b = some o ∨ (P b ∧ MuO o ∧ ∃ o', H' b = some o' ∧ MuO o')
section
variable {P P1 P2 : Addr → Prop} {H H1 H2 H' : Hp}
theorem ExtP.refl : ExtP P H H := fun _ _ h => .inl h
theorem ExtP.of (h : ∀ b o, H b = some o → H' b = some o) : ExtP P H H' := fun b o e => .inl (h b o e)
theorem ExtP.new {p : Addr} {o : HO} (h : H p = none) : ExtP P H (upd H p o) := .of fun b x e => by rw [upd_ne (ne_of_none e h)]; exact e
theorem ExtP.trans (a : ExtP P H H1) (b : ExtP P H1 H2) : ExtP P H H2 := fun c o h => by
  rcases a c o h with h1 | ⟨p, m, o', h1, m1⟩
  · exact b c o h1
  · rcases b c o' h1 with h2 | ⟨_, _, o2, h2, m2⟩
    · exact .inr ⟨p, m, o', h2, m1⟩
    · exact .inr ⟨p, m, o2, h2, m2⟩
theorem ExtP.mono (a : ExtP P H H1) (h : ∀ b, P b → P1 b) : ExtP P1 H H1 := fun c o e => (a c o e).imp id fun ⟨p, r⟩ => ⟨h c p, r⟩
theorem ExtP.there (a : ExtP P H H1) {b : Addr} (h : H1 b = none) : H b = none := by
  cases e : H b with
  | none => rfl
  | some o =>
    rcases a b o e with h1 | ⟨_, _, o', h1, _⟩
    · rw [h] at h1; cases h1
    · rw [h] at h1; cases h1
theorem ExtP.at_ (a : ExtP P H H1) {b : Addr} {o : HO} (e : H b = some o) (h : ¬ P b ∨ ¬ MuO o) : H1 b = some o := by
  rcases a b o e with h1 | ⟨p, m, _⟩
  · exact h1
  · rcases h with h | h
    · exact absurd p h
    · exact absurd m h
theorem ExtP.tup (a : ExtP P H H1) {K : PySem.W.Frag} {b : Addr} {xs : List V} (h : TupAt K H b xs) : TupAt K H1 b xs := h.imp (fun ⟨o, d, h⟩ => ⟨o, d, a.at_ h (.inr (tupH_mu _ _))⟩) id
theorem ExtP.scr (a : ExtP P H H1) {K : PySem.W.Frag} {b : Addr} {xs : List V} (h : ScrAt K H b xs) : ScrAt K H1 b xs := h.imp (fun ⟨o, h⟩ => ⟨o, a.at_ h (.inr id)⟩) id
theorem ExtP.lstz (a : ExtP P H H1) {K : PySem.W.Frag} {b : Addr} {xs : List V} (hb : ¬ P b) (h : SqL K H b xs) : SqL K H1 b xs := by
  rcases h with (h | ⟨o, h⟩) | h
  · exact .inl (.inl (a.at_ h (.inl hb)))
  · exact .inl (.inr ⟨o, a.at_ h (.inr id)⟩)
  · exact .inr h
end
section
variable {K : PySem.W.Frag} {ca : Dr} {P Z Z' : Addr → Prop} {H H' : Hp}
mutual
theorem Rl.ext (e : ExtP P H H') (hz : ∀ b, P b → Z b) : ∀ {v : V} {d : D}, Rl K ca Z H v d → Rl K ca Z H' v d
  | _, _, .non => .non
  | _, _, .bl b => .bl b
  | _, _, .int i => .int i
  | _, _, .str x => .str x
  | _, _, .ty n => .ty n
  | _, _, .obj a => .obj a
  | _, _, .chn => .chn
  | _, _, .scr h => .scr (e.scr h)
  | _, _, .lst n h r => .lst n (e.at_ h (.inl fun p => n (hz _ p))) (RlA.ext e hz r)
  | _, _, .tup h r => .tup (e.tup h) (RlA.ext e hz r)
  | _, _, .dic n h r => .dic n (e.at_ h (.inl fun p => n (hz _ p))) (RlA.ext e hz r)
theorem RlA.ext (e : ExtP P H H') (hz : ∀ b, P b → Z b) : ∀ {vs : List V} {ds : List D}, RlA K ca Z H vs ds → RlA K ca Z H' vs ds
  | _, _, .nil => .nil
  | _, _, .cons h r => .cons (Rl.ext e hz h) (RlA.ext e hz r)
end
mutual
theorem Rl.anti (hz : ∀ b, Z' b → Z b) : ∀ {v : V} {d : D}, Rl K ca Z H v d → Rl K ca Z' H v d
  | _, _, .non => .non
  | _, _, .bl b => .bl b
  | _, _, .int i => .int i
  | _, _, .str x => .str x
  | _, _, .ty n => .ty n
  | _, _, .obj a => .obj a
  | _, _, .chn => .chn
  | _, _, .scr h => .scr h
  | _, _, .lst n h r => .lst (fun z => n (hz _ z)) h (RlA.anti hz r)
  | _, _, .tup h r => .tup h (RlA.anti hz r)
  | _, _, .dic n h r => .dic (fun z => n (hz _ z)) h (RlA.anti hz r)
theorem RlA.anti (hz : ∀ b, Z' b → Z b) : ∀ {vs : List V} {ds : List D}, RlA K ca Z H vs ds → RlA K ca Z' H vs ds
  | _, _, .nil => .nil
  | _, _, .cons h r => .cons (Rl.anti hz h) (RlA.anti hz r)
end
theorem RlA.length : ∀ {vs : List V} {ds : List D}, RlA K ca Z H vs ds → vs.length = ds.length
  | _, _, .nil => rfl
  | _, _, .cons _ r => congrArg Nat.succ (RlA.length r)
theorem RlA.append : ∀ {vs : List V} {ds : List D} {ws : List V} {es : List D}, RlA K ca Z H vs ds → RlA K ca Z H ws es → RlA K ca Z H (vs ++ ws) (ds ++ es)
  | _, _, _, _, .nil, s => s
  | _, _, _, _, .cons h r, s => .cons h (RlA.append r s)
theorem RlA.get : ∀ {vs : List V} {ds : List D} {i : Nat} {d : D}, RlA K ca Z H vs ds → ds[i]? = some d → ∃ v, vs[i]? = some v ∧ Rl K ca Z H v d
  | _, _, _, _, .nil, e => by simp at e
  | _, _, 0, _, .cons h _, e => by simp at e; subst e; exact ⟨_, rfl, h⟩
  | _, _, i + 1, _, .cons _ r, e => by
    obtain ⟨v, h1, h2⟩ := RlA.get (i := i) r (by simpa using e)
    exact ⟨v, by simpa using h1, h2⟩
theorem RlA.getV : ∀ {vs : List V} {ds : List D} {i : Nat} {v : V}, RlA K ca Z H vs ds → vs[i]? = some v → ∃ d, ds[i]? = some d ∧ Rl K ca Z H v d
  | _, _, _, _, .nil, e => by simp at e
  | _, _, 0, _, .cons h _, e => by simp at e; subst e; exact ⟨_, rfl, h⟩
  | _, _, i + 1, _, .cons _ r, e => by
    obtain ⟨v, h1, h2⟩ := RlA.getV (i := i) r (by simpa using e)
    exact ⟨v, by simpa using h1, h2⟩
theorem RlA.take : ∀ (n : Nat) {vs : List V} {ds : List D}, RlA K ca Z H vs ds → RlA K ca Z H (vs.take n) (ds.take n)
  | 0, _, _, _ => .nil
  | _ + 1, _, _, .nil => .nil
  | n + 1, _, _, .cons h r => .cons h (RlA.take n r)
theorem RlA.drop : ∀ (n : Nat) {vs : List V} {ds : List D}, RlA K ca Z H vs ds → RlA K ca Z H (vs.drop n) (ds.drop n)
  | 0, _, _, r => r
  | _ + 1, _, _, .nil => .nil
  | n + 1, _, _, .cons _ r => RlA.drop n r
theorem RlA.reverse {vs : List V} {ds : List D} (r : RlA K ca Z H vs ds) : RlA K ca Z H vs.reverse ds.reverse := by
  induction ds generalizing vs with
  | nil => cases r; exact .nil
  | cons d ds ih =>
    cases r with
    | cons h r => rw [List.reverse_cons, List.reverse_cons]; exact (ih r).append (.cons h .nil)
theorem RlA.snoc {vs : List V} {ds : List D} {v : V} {d : D} (r : RlA K ca Z H vs ds) (h : Rl K ca Z H v d) : RlA K ca Z H (vs ++ [v]) (ds ++ [d]) := r.append (.cons h .nil)
end

/-! ### the draws' state -/
structure Churn where
  cells : List Int
  at_ : Int
  left : Int
def ChOk (K : PySem.W.Frag) (ca : Dr) (H : Hp) (c : Churn) : Prop :=
  H ca = some (.lst [.ref ca.cc, .int c.at_, .int c.left]) ∧ H ca.cc = some (.lst (c.cells.map V.int))

/-! ### what a def does: draws, a value, an error, or stuck -/
structure Exn where
  cls : Str
  fs : List (Str × D)
inductive R (α : Type) where
  | ok (a : α) (c : Churn)
  | exn (x : Exn) (c : Churn)
  | stuck
def M (α : Type) : Type := Churn → R α
def M.pure {α : Type} (a : α) : M α := fun c => .ok a c
def M.bind {α β : Type} (m : M α) (f : α → M β) : M β := fun c => match m c with
  | .ok a c' => f a c'
  | .exn x c' => .exn x c'
  | .stuck => .stuck
instance : Monad M where
  pure := M.pure
  bind := M.bind
def stuck {α : Type} : M α := fun _ => .stuck
def raiseM {α : Type} (x : Exn) : M α := fun c => .exn x c
def liftO {α : Type} : Option α → M α
  | some a => M.pure a
  | none => stuck
def At {α : Type} (r : R α) (k : α → Churn → Prop) (e : Exn → Churn → Prop) : Prop := match r with
  | .ok a c => k a c
  | .exn x c => e x c
  | .stuck => False
theorem At.mono {α : Type} {r : R α} {k k' : α → Churn → Prop} {e e' : Exn → Churn → Prop} (h : At r k e) (hk : ∀ a c, k a c → k' a c) (he : ∀ x c, e x c → e' x c) : At r k' e' := by
  cases r with
  | ok a c => exact hk a c h
  | exn x c => exact he x c h
  | stuck => exact h
theorem At.bind {α β : Type} {m : M α} {f : α → M β} {c : Churn} {k : β → Churn → Prop} {e : Exn → Churn → Prop} : At ((m >>= f) c) k e ↔ At (m c) (fun a c1 => At (f a c1) k e) e := by
  show At (M.bind m f c) k e ↔ _
  unfold M.bind
  cases h : m c with
  | ok a c' => exact Iff.rfl
  | exn x c' => exact Iff.rfl
  | stuck => exact Iff.rfl

def XRel (K : PySem.W.Frag) (ca : Dr) (Z : Addr → Prop) (H : Hp) (x : Exn) (cv : Value) (od : Option Addr) : Prop :=
  cv = .ref (match PySem.W.nsIn K mainGlobals x.cls with | some (some (.ref a)) => a | _ => 0) ∧
    ∃ d fs, od = some d ∧ H d = some (.xd fs) ∧ fs.map (·.1) = x.fs.map (·.1) ∧ RlA K ca Z H (fs.map (·.2)) (x.fs.map (·.2))
def U (Z Y : Addr → Prop) : Addr → Prop := fun a => Z a ∨ Y a
/-- the one address that a call may change: the draws' list -/
abbrev Ext (ca : Dr) : Hp → Hp → Prop := ExtP (· = ca)
section
variable (K : PySem.W.Frag) (ca : Dr) (E : XK) (Z : Addr → Prop) (H : Hp)
def EOk (x : Exn) (c : Churn) : Prop := ∀ cv od H', Ext ca H H' → XRel K ca Z H' x cv od → ChOk K ca H' c → E cv od H'
def Do {α : Type} (r : R α) (k : α → Churn → Prop) : Prop := At r k (EOk K ca E Z H)
end
section
variable {K : PySem.W.Frag} {ca : Dr} {E : XK} {Z : Addr → Prop} {H H1 : Hp}
theorem EOk.ext (e : Ext ca H H1) {x : Exn} {c : Churn} (h : EOk K ca E Z H x c) : EOk K ca E Z H1 x c := fun cv od H' e' r co => h cv od H' (e.trans e') r co
theorem Do.mono {α : Type} {r : R α} {k k' : α → Churn → Prop} (h : Do K ca E Z H r k) (hk : ∀ a c, k a c → k' a c) : Do K ca E Z H r k' := At.mono h hk fun _ _ z => z
theorem Do.ext {α : Type} {r : R α} {k : α → Churn → Prop} (e : Ext ca H H1) (h : Do K ca E Z H r k) : Do K ca E Z H1 r k := At.mono h (fun _ _ z => z) fun _ _ z => z.ext e
theorem Do.bind {α β : Type} {m : M α} {f : α → M β} {c : Churn} {k : β → Churn → Prop} (h : Do K ca E Z H ((m >>= f) c) k) : Do K ca E Z H (m c) fun a c1 => Do K ca E Z H (f a c1) k := At.bind.mp h
theorem Do.lift {α : Type} {o : Option α} {c : Churn} {k : α → Churn → Prop} (h : Do K ca E Z H (liftO o c) k) : ∃ a, o = some a ∧ k a c := by
  cases o with
  | none => exact h.elim
  | some a => exact ⟨a, rfl, h⟩
end

/-! ### a frame -/
inductive Sl where
  | no | val (d : D) | own (d : D)
abbrev Ev := List Sl
/-- a list or dict at a, that may still change -/
def Top (K : PySem.W.Frag) (ca : Dr) (W : Addr → Prop) (H : Hp) (a : Addr) : D → Prop
  | .lst ds => ∃ vs, H a = some (.lst vs) ∧ RlA K ca W H vs ds
  | .dic ks ds => ∃ kvs : List (Key × V), H a = some (.dK kvs) ∧ kvs.map (·.1) = ks ∧ ks.Nodup ∧ RlA K ca W H (kvs.map (·.2)) ds
  | _ => False
theorem Top.ext {K : PySem.W.Frag} {ca : Dr} {W P : Addr → Prop} {H H' : Hp} {a : Addr} {d : D} (h : Top K ca W H a d) (x : ExtP P H H') (hP : ∀ b, P b → W b) (n : ¬ P a) : Top K ca W H' a d := by
  unfold Top at h ⊢
  split at h
  · obtain ⟨vs, h1, h2⟩ := h
    exact ⟨vs, x.at_ h1 (.inl n), h2.ext x hP⟩
  · obtain ⟨vs, h1, e, nd, h2⟩ := h
    exact ⟨vs, x.at_ h1 (.inl n), e, nd, h2.ext x hP⟩
  · exact h.elim
theorem Top.some {K : PySem.W.Frag} {ca : Dr} {W : Addr → Prop} {H : Hp} {a : Addr} {d : D} (h : Top K ca W H a d) : ∃ o, H a = Option.some o ∧ MuO o := by
  unfold Top at h
  split at h
  · obtain ⟨vs, h1, h2⟩ := h
    exact ⟨_, h1, trivial⟩
  · obtain ⟨vs, h1, e, nd, h2⟩ := h
    exact ⟨_, h1, trivial⟩
  · exact h.elim
/-- what may still change is tracked, the draws' list is among it -/
structure ZOk (ca : Dr) (Z : Addr → Prop) (H : Hp) : Prop where
  zca : Z ca
  zcc : ¬ Z ca.cc
  zin : ∀ b, Z b → ∃ o, H b = some o
theorem ExtP.thereS {P : Addr → Prop} {H H' : Hp} (x : ExtP P H H') {b : Addr} (h : ∃ o, H b = some o) : ∃ o, H' b = some o := by
  obtain ⟨o, h⟩ := h
  rcases x b o h with h1 | ⟨_, _, o', h1, _⟩
  · exact ⟨o, h1⟩
  · exact ⟨o', h1⟩
theorem ZOk.ext {ca : Dr} {Z P : Addr → Prop} {H H' : Hp} (z : ZOk ca Z H) (x : ExtP P H H') : ZOk ca Z H' := ⟨z.zca, z.zcc, fun b h => x.thereS (z.zin b h)⟩
theorem ZOk.free {ca : Dr} {Z : Addr → Prop} {H : Hp} (z : ZOk ca Z H) {p : Addr} (n : H p = none) : ¬ Z p := fun h => by
  obtain ⟨o, e⟩ := z.zin p h
  rw [n] at e; cases e
structure EnvOk (K : PySem.W.Frag) (ca : Dr) (Z Y : Addr → Prop) (H : Hp) (σ : L2.St) (ρ : Ev) : Prop where
  zok : ZOk ca (U Z Y) H
  zca : Z ca
  yca : ¬ Y ca
  len : σ.length = ρ.length
  val : ∀ (i : Nat) (d : D), ρ[i]? = some (.val d) → ∃ v, σ[i]? = some (some v) ∧ Rl K ca (U Z Y) H v d
  own : ∀ (i : Nat) (d : D), ρ[i]? = some (.own d) → ∃ a, σ[i]? = some (some (.ref a)) ∧ Y a ∧ Top K ca (U Z Y) H a d
  dis : ∀ b, Y b → ¬ Z b
  inj : ∀ (i j : Nat) (a : Addr) (ds es : D), ρ[i]? = some (.own ds) → ρ[j]? = some (.own es) → σ[i]? = some (some (.ref a)) → σ[j]? = some (some (.ref a)) → i = j
section
variable {K : PySem.W.Frag} {ca : Dr} {Z Y : Addr → Prop} {H H' : Hp} {σ : L2.St} {ρ : Ev}
theorem EnvOk.zc (e : EnvOk K ca Z Y H σ ρ) : ∀ b : Addr, b = ca → U Z Y b := fun b h => h ▸ .inl e.zca
theorem EnvOk.ext (e : EnvOk K ca Z Y H σ ρ) (x : Ext ca H H') : EnvOk K ca Z Y H' σ ρ where
  zok := e.zok.ext x
  zca := e.zca
  yca := e.yca
  len := e.len
  val := fun i d h => let ⟨v, h1, h2⟩ := e.val i d h; ⟨v, h1, h2.ext x e.zc⟩
  own := fun i d h => let ⟨a, h1, h2, h3⟩ := e.own i d h; ⟨a, h1, h2, h3.ext x e.zc fun z => e.yca (z ▸ h2)⟩
  dis := e.dis
  inj := e.inj
end

/-! ### readings -/
section
variable (K : PySem.W.Frag) (ca : Dr) (E : XK)
/-- an expression does f -/
def tD (f : Ev → M D) : TE := fun σ H Q => ∃ Z Y ρ c, EnvOk K ca Z Y H σ ρ ∧ ChOk K ca H c ∧
  Do K ca E (U Z Y) H (f ρ c) fun d c' => ∀ v H', Ext ca H H' → Rl K ca (U Z Y) H' v d → ChOk K ca H' c' → Q v H'
def tT (f : Ev → M Bool) : TT := fun σ H Q => ∃ Z Y ρ c, EnvOk K ca Z Y H σ ρ ∧ ChOk K ca H c ∧
  Do K ca E (U Z Y) H (f ρ c) fun b c' => ∀ H', Ext ca H H' → ChOk K ca H' c' → Q b H'
def tAs (f : Ev → M (List D)) : TA := fun σ H Q => ∃ Z Y ρ c, EnvOk K ca Z Y H σ ρ ∧ ChOk K ca H c ∧
  Do K ca E (U Z Y) H (f ρ c) fun ds c' => ∀ vs H', Ext ca H H' → RlA K ca (U Z Y) H' vs ds → ChOk K ca H' c' → Q vs H'
end
/-- what a rule of values asks, for trees -/
def BinD (K : PySem.W.Frag) (ca : Dr) (r : R2) (g : D → D → Option D) : Prop := ∀ (Z : Addr → Prop) (H : Hp) (c : Churn) (x y : V) (d e d' : D) (Q : VK), ZOk ca Z H → ChOk K ca H c → Rl K ca Z H x d → Rl K ca Z H y e → g d e = some d' →
  (∀ v H', Ext ca H H' → Rl K ca Z H' v d' → ChOk K ca H' c → Q v H') → r x y H Q
def UnD (K : PySem.W.Frag) (ca : Dr) (r : V → Hp → VK → Prop) (g : D → Option D) : Prop := ∀ (Z : Addr → Prop) (H : Hp) (c : Churn) (x : V) (d d' : D) (Q : VK), ZOk ca Z H → ChOk K ca H c → Rl K ca Z H x d → g d = some d' →
  (∀ v H', Ext ca H H' → Rl K ca Z H' v d' → ChOk K ca H' c → Q v H') → r x H Q
def CalD (K : PySem.W.Frag) (ca : Dr) (r : List V → Hp → VK → Prop) (g : List D → Option D) : Prop := ∀ (Z : Addr → Prop) (H : Hp) (c : Churn) (xs : List V) (ds : List D) (d' : D) (Q : VK), ZOk ca Z H → ChOk K ca H c → RlA K ca Z H xs ds → g ds = some d' →
  (∀ v H', Ext ca H H' → Rl K ca Z H' v d' → ChOk K ca H' c → Q v H') → r xs H Q

/-! ### what expressions do -/
def eVar (i : Nat) : Ev → M D := fun ρ => match ρ[i]? with
  | some (.val d) => pure d
  | _ => stuck
def eC (d : D) : Ev → M D := fun _ => pure d
def eBin (g : D → D → Option D) (fa fb : Ev → M D) : Ev → M D := fun ρ => fa ρ >>= fun x => fb ρ >>= fun y => liftO (g x y)
def eUn (g : D → Option D) (fa : Ev → M D) : Ev → M D := fun ρ => fa ρ >>= fun x => liftO (g x)
def aNil : Ev → M (List D) := fun _ => pure []
def aCons (f : Ev → M D) (g : Ev → M (List D)) : Ev → M (List D) := fun ρ => f ρ >>= fun x => g ρ >>= fun xs => pure (x :: xs)
def eArgs (g : List D → Option D) (fs : Ev → M (List D)) : Ev → M D := fun ρ => fs ρ >>= fun xs => liftO (g xs)
def truD : D → Option Bool
  | .non => some false
  | .bl b => some b
  | .int i => some (i != 0)
  | .str y => if y.length ≤ sizeLine then some ((y.length : Int) != 0) else none
  | .lst xs => some !xs.isEmpty
  | .tup xs => some !xs.isEmpty
  | .dic ks _ => some !ks.isEmpty
  | _ => none
def cTru (f : Ev → M D) : Ev → M Bool := fun ρ => f ρ >>= fun x => liftO (truD x)
def cNot (f : Ev → M Bool) : Ev → M Bool := fun ρ => f ρ >>= fun b => pure !b
def cAnd (f g : Ev → M Bool) : Ev → M Bool := fun ρ => f ρ >>= fun b => if b = true then g ρ else pure false
def cOr (f g : Ev → M Bool) : Ev → M Bool := fun ρ => f ρ >>= fun b => if b = true then pure true else g ρ
def eNot (f : Ev → M D) : Ev → M D := fun ρ => f ρ >>= fun x => liftO (truD x) >>= fun b => pure (.bl !b)
def eAnd (f g : Ev → M D) : Ev → M D := fun ρ => f ρ >>= fun x => liftO (truD x) >>= fun b => if b = true then g ρ else pure x
def eOr (f g : Ev → M D) : Ev → M D := fun ρ => f ρ >>= fun x => liftO (truD x) >>= fun b => if b = true then pure x else g ρ
def eIf (c : Ev → M Bool) (f g : Ev → M D) : Ev → M D := fun ρ => c ρ >>= fun b => if b = true then f ρ else g ρ

section
variable {X : Cx} {ca : Dr} {E : XK} {a b : Expr} {pos : Pos} {fa fb : Ev → M D}
theorem d_var (i : Nat) {x : Str} (hN : X.N[i]? = some x := by rfl) (hv : Vis X.env.scope x := by first | exact Or.inl rfl | exact Or.inr (Or.inl rfl) | exact Or.inr (Or.inr rfl)) (hd : (x == ("__debug__" : Str)) = false := by decide)
    (hcd : (x == ("__classdict__" : Str)) = false := by decide) : PE X (.Name x pos) (tD X.K ca E (eVar i)) := by
  refine ⟨fun pins s σ H Q I h => (pe_var (i := i) hN hv hd hcd).run pins s σ H Q I ?_⟩
  obtain ⟨Z, Y, ρ, c, eo, co, h⟩ := h
  unfold eVar at h
  cases e : ρ[i]? with
  | none => rw [e] at h; exact h.elim
  | some s =>
    rw [e] at h
    cases s with
    | no => exact h.elim
    | own ds => exact h.elim
    | val d =>
      obtain ⟨v, h1, h2⟩ := eo.val i d e
      exact ⟨v, h1, h v H .refl h2 co⟩
theorem d_con {e : Expr} {v : V} {d : D} (hp : PE X e (tC v)) (hr : ∀ Z H, Rl X.K ca Z H v d) : PE X e (tD X.K ca E (eC d)) := by
  refine ⟨fun pins s σ H Q I h => hp.run pins s σ H Q I ?_⟩
  obtain ⟨Z, Y, ρ, c, eo, co, h⟩ := h
  exact h v H .refl (hr _ _) co
theorem d_int {i : Int} {j} : PE X (.Constant (.int i) j pos) (tD X.K ca E (eC (.int i))) := d_con pe_int fun _ _ => .int i
theorem d_bl {i : Bool} {j} : PE X (.Constant (.bool i) j pos) (tD X.K ca E (eC (.bl i))) := d_con pe_bl fun _ _ => .bl i
theorem d_non {j} : PE X (.Constant .none j pos) (tD X.K ca E (eC .non)) := d_con pe_non fun _ _ => .non
theorem d_str {i : Str} {j} : PE X (.Constant (.str i) j pos) (tD X.K ca E (eC (.str i))) := d_con pe_str fun _ _ => .str i

theorem bin_run {r : R2} {g : D → D → Option D} (hr : BinD X.K ca r g) {σ : L2.St} {H : Hp} {Q : VK} (h : tD X.K ca E (eBin g fa fb) σ H Q) : tOp r (tD X.K ca E fa) (tD X.K ca E fb) σ H Q := by
  obtain ⟨Z, Y, ρ, c, eo, co, h⟩ := h
  refine ⟨Z, Y, ρ, c, eo, co, (Do.bind h).mono fun d c1 h1 x H1 e1 r1 co1 => ?_⟩
  refine ⟨Z, Y, ρ, c1, eo.ext e1, co1, ((Do.bind h1).ext e1).mono fun d2 c2 h2 y H2 e2 r2 co2 => ?_⟩
  obtain ⟨d', hg, h3⟩ := Do.lift h2
  exact hr (U Z Y) H2 c2 x y d d2 d' Q (eo.zok.ext (e1.trans e2)) co2 (r1.ext e2 eo.zc) r2 hg fun v H' e' r' co' => h3 v H' ((e1.trans e2).trans e') r' co'
theorem d_bin {op : Operator} {r : R2} {g : D → D → Option D} (ho : OpR X (binaryOp op) r) (hr : BinD X.K ca r g) (ha : PE X a (tD X.K ca E fa)) (hb : PE X b (tD X.K ca E fb)) :
    PE X (.BinOp a op b pos) (tD X.K ca E (eBin g fa fb)) :=
  ⟨fun pins s σ H Q I h => (pe_op ho ha hb).run pins s σ H Q I (bin_run hr h)⟩
theorem d_cmp {op : CmpOp} {r : R2} {g : D → D → Option D} (ho : OpR X (compareOp op) r) (hr : BinD X.K ca r g) (ha : PE X a (tD X.K ca E fa)) (hb : PE X b (tD X.K ca E fb)) (hm : behindInMarks op b = false) :
    PE X (.Compare a [op] [b] pos) (tD X.K ca E (eBin g fa fb)) :=
  ⟨fun pins s σ H Q I h => (pe_cmpR ho ha hb hm).run pins s σ H Q I (bin_run hr h)⟩
theorem d_un {op : UnaryOp} {r : V → Hp → VK → Prop} {g : D → Option D} (ho : UnR X (unaryOp op) r) (hr : UnD X.K ca r g) (ha : PE X a (tD X.K ca E fa)) : PE X (.UnaryOp op a pos) (tD X.K ca E (eUn g fa)) := by
  refine ⟨fun pins s σ H Q I h => (pe_un ho ha).run pins s σ H Q I ?_⟩
  obtain ⟨Z, Y, ρ, c, eo, co, h⟩ := h
  refine ⟨Z, Y, ρ, c, eo, co, (Do.bind h).mono fun d c1 h1 x H1 e1 r1 co1 => ?_⟩
  obtain ⟨d', hg, h3⟩ := Do.lift h1
  exact hr (U Z Y) H1 c1 x d d' Q (eo.zok.ext e1) co1 r1 hg fun v H' e' r' co' => h3 v H' (e1.trans e') r' co'
/-! argument lists -/
theorem da_nil : PA X [] (tAs X.K ca E aNil) := by
  refine ⟨fun p pins s σ H Q I h => pa_nil.run p pins s σ H Q I ?_⟩
  obtain ⟨Z, Y, ρ, c, eo, co, h⟩ := h
  exact h [] H .refl .nil co
theorem da_cons {e : Expr} {es : List Expr} {f : Ev → M D} {g : Ev → M (List D)} (ha : PE X e (tD X.K ca E f)) (hr : PA X es (tAs X.K ca E g)) (hs : starEach (e :: es) X.env = (false, eval e X.env) :: starEach es X.env := by rfl) :
    PA X (e :: es) (tAs X.K ca E (aCons f g)) := by
  refine ⟨fun p pins s σ H Q I h => (pa_cons ha hr hs).run p pins s σ H Q I ?_⟩
  obtain ⟨Z, Y, ρ, c, eo, co, h⟩ := h
  refine ⟨Z, Y, ρ, c, eo, co, (Do.bind h).mono fun d c1 h1 x H1 e1 r1 co1 => ?_⟩
  refine ⟨Z, Y, ρ, c1, eo.ext e1, co1, ((Do.bind h1).ext e1).mono fun ds c2 h2 ys H2 e2 r2 co2 => ?_⟩
  exact h2 (x :: ys) H2 (e1.trans e2) (.cons (r1.ext e2 eo.zc) r2) co2
/-! displays -/
def gTup (xs : List D) : Option D := if xs.length ≤ sizeLine then some (.tup xs) else none
def gLst (xs : List D) : Option D := if xs.length ≤ sizeLine then some (.lst xs) else none
theorem ChOk.ne {K : PySem.W.Frag} {H : Hp} {c : Churn} (h : ChOk K ca H c) {p : Addr} (n : H p = none) : p ≠ ca := fun z => by
  obtain ⟨h1, _⟩ := h
  rw [← z, n] at h1; cases h1
theorem ChOk.ext {K : PySem.W.Frag} {H H' : Hp} {c : Churn} (h : ChOk K ca H c) (e : ∀ b o, H b = some o → H' b = some o) : ChOk K ca H' c := by
  obtain ⟨h1, h2⟩ := h
  exact ⟨e _ _ h1, e _ _ h2⟩
theorem upd_keeps {H : Hp} {p : Addr} {o : HO} (n : H p = none) : ∀ b x, H b = some x → upd H p o b = some x := fun b x e => by rw [upd_ne (ne_of_none e n)]; exact e
theorem ChOk.new {K : PySem.W.Frag} {H : Hp} {c : Churn} {p : Addr} {o : HO} (h : ChOk K ca H c) (n : H p = none) : ChOk K ca (upd H p o) c := h.ext (upd_keeps n)
end
end G

set_option Elab.async false
set_option linter.all false
set_option maxRecDepth 100000
set_option maxHeartbeats 4000000
/-! G2: tests, and | or | not | if, displays, calls of built-ins, subscripts, slices. -/
namespace G
open PySem PySem.Spec PyProof.Rows L2
section
variable {X : Cx} {ca : Dr} {E : XK} {a b e : Expr} {rest : List Expr} {es : List Expr} {pos : Pos} {fa fb f g : Ev → M D} {c1 c2 : Ev → M Bool} {fs : Ev → M (List D)}
theorem tru_of {K : PySem.W.Frag} {ca : Dr} {Z : Addr → Prop} {H : Hp} {v : V} {d : D} {k : Bool} (r : Rl K ca Z H v d) (h : truD d = some k) : TruV K v H k := by
  cases r with
  | non => exact (Option.some.inj h).symm
  | bl b => exact (Option.some.inj h).symm
  | int i => exact (Option.some.inj h).symm
  | str y =>
    have h : (if y.length ≤ sizeLine then some ((y.length : Int) != 0) else none) = some k := h
    by_cases hl : y.length ≤ sizeLine
    · rw [if_pos hl] at h
      exact ⟨hl, (Option.some.inj h).symm⟩
    · rw [if_neg hl] at h
      cases h
  | ty n => cases h
  | obj a => cases h
  | chn => cases h
  | scr _ => cases h
  | lst n hH ra =>
    refine .inl ⟨_, SqL.of hH, ?_⟩
    have := ra.length
    rw [← Option.some.inj h]
    cases ra <;> rfl
  | tup hH ra =>
    refine .inr (.inl ⟨_, hH.s, ?_⟩)
    rw [← Option.some.inj h]
    cases ra <;> rfl
  | dic n hH ra =>
    refine .inr (.inr ⟨_, hH, ?_⟩)
    rw [← Option.some.inj h]
    simp
theorem dt_tru (ha : PE X e (tD X.K ca E f)) (he : ∀ whole, isTrue e X.env whole = (do let v ← whole; standAt e.pos; holding [v] (truthy v)) := by intro _; rfl) : PT X e (tT X.K ca E (cTru f)) := by
  refine ⟨fun pins s σ H Q I h => (pt_truth ha he).run pins s σ H Q I ?_⟩
  obtain ⟨Z, Y, ρ, c, eo, co, h⟩ := h
  refine ⟨Z, Y, ρ, c, eo, co, (Do.bind h).mono fun d c1 h1 x H1 e1 r1 co1 => ?_⟩
  obtain ⟨k, hk, h2⟩ := Do.lift h1
  exact ⟨k, tru_of r1 hk, h2 H1 e1 co1⟩
theorem dt_not (ha : PT X a (tT X.K ca E c1)) : PT X (.UnaryOp .Not a pos) (tT X.K ca E (cNot c1)) := by
  refine ⟨fun pins s σ H Q I h => (pt_not ha).run pins s σ H Q I ?_⟩
  obtain ⟨Z, Y, ρ, c, eo, co, h⟩ := h
  exact ⟨Z, Y, ρ, c, eo, co, (Do.bind h).mono fun k c1 h1 H1 e1 co1 => h1 H1 e1 co1⟩
theorem dw_and1 (ha : PT X a (tT X.K ca E c1)) : PW X (.BoolOp .And [a] pos) (tT X.K ca E c1) := pw_and1 ha
theorem dw_or1 (ha : PT X a (tT X.K ca E c1)) : PW X (.BoolOp .Or [a] pos) (tT X.K ca E c1) := pw_or1 ha
theorem dw_and (ha : PT X a (tT X.K ca E c1)) (hb : PW X (.BoolOp .And (b :: rest) pos) (tT X.K ca E c2)) : PW X (.BoolOp .And (a :: b :: rest) pos) (tT X.K ca E (cAnd c1 c2)) := by
  refine ⟨fun wh pins s σ H Q I h => (pw_and ha hb).run wh pins s σ H Q I ?_⟩
  obtain ⟨Z, Y, ρ, c, eo, co, h⟩ := h
  refine ⟨Z, Y, ρ, c, eo, co, (Do.bind h).mono fun k c1 h1 H1 e1 co1 => ?_⟩
  cases k with
  | false => exact iteF (h1 H1 e1 co1)
  | true => exact iteT ⟨Z, Y, ρ, c1, eo.ext e1, co1, (Do.ext e1 h1).mono fun k2 c2 h2 H2 e2 co2 => h2 H2 (e1.trans e2) co2⟩
theorem dw_or (ha : PT X a (tT X.K ca E c1)) (hb : PW X (.BoolOp .Or (b :: rest) pos) (tT X.K ca E c2)) : PW X (.BoolOp .Or (a :: b :: rest) pos) (tT X.K ca E (cOr c1 c2)) := by
  refine ⟨fun wh pins s σ H Q I h => (pw_or ha hb).run wh pins s σ H Q I ?_⟩
  obtain ⟨Z, Y, ρ, c, eo, co, h⟩ := h
  refine ⟨Z, Y, ρ, c, eo, co, (Do.bind h).mono fun k c1 h1 H1 e1 co1 => ?_⟩
  cases k with
  | true => exact iteT (h1 H1 e1 co1)
  | false => exact iteF ⟨Z, Y, ρ, c1, eo.ext e1, co1, (Do.ext e1 h1).mono fun k2 c2 h2 H2 e2 co2 => h2 H2 (e1.trans e2) co2⟩
theorem d_not (ha : PE X a (tD X.K ca E f)) : PE X (.UnaryOp .Not a pos) (tD X.K ca E (eNot f)) := by
  refine ⟨fun pins s σ H Q I h => (pe_notT ha).run pins s σ H Q I ?_⟩
  obtain ⟨Z, Y, ρ, c, eo, co, h⟩ := h
  refine ⟨Z, Y, ρ, c, eo, co, (Do.bind h).mono fun d c1 h1 x H1 e1 r1 co1 => ?_⟩
  obtain ⟨k, hk, h2⟩ := Do.lift (Do.bind h1)
  exact ⟨k, tru_of r1 hk, h2 _ H1 e1 (.bl _) co1⟩
theorem d_one {op} (ha : PE X a (tD X.K ca E f)) : PE X (.BoolOp op [a] pos) (tD X.K ca E f) := pe_one ha
theorem d_and (ha : PE X a (tD X.K ca E f)) (hb : PE X (.BoolOp .And (b :: rest) pos) (tD X.K ca E g)) : PE X (.BoolOp .And (a :: b :: rest) pos) (tD X.K ca E (eAnd f g)) := by
  refine ⟨fun pins s σ H Q I h => (pe_andT ha hb).run pins s σ H Q I ?_⟩
  obtain ⟨Z, Y, ρ, c, eo, co, h⟩ := h
  refine ⟨Z, Y, ρ, c, eo, co, (Do.bind h).mono fun d c1 h1 x H1 e1 r1 co1 => ?_⟩
  obtain ⟨k, hk, h2⟩ := Do.lift (Do.bind h1)
  refine ⟨k, tru_of r1 hk, ?_⟩
  cases k with
  | false => exact iteF (h2 x H1 e1 r1 co1)
  | true => exact iteT ⟨Z, Y, ρ, c1, eo.ext e1, co1, (Do.ext e1 h2).mono fun d2 c2 h3 y H2 e2 r2 co2 => h3 y H2 (e1.trans e2) r2 co2⟩
theorem d_or (ha : PE X a (tD X.K ca E f)) (hb : PE X (.BoolOp .Or (b :: rest) pos) (tD X.K ca E g)) : PE X (.BoolOp .Or (a :: b :: rest) pos) (tD X.K ca E (eOr f g)) := by
  refine ⟨fun pins s σ H Q I h => (pe_orT ha hb).run pins s σ H Q I ?_⟩
  obtain ⟨Z, Y, ρ, c, eo, co, h⟩ := h
  refine ⟨Z, Y, ρ, c, eo, co, (Do.bind h).mono fun d c1 h1 x H1 e1 r1 co1 => ?_⟩
  obtain ⟨k, hk, h2⟩ := Do.lift (Do.bind h1)
  refine ⟨k, tru_of r1 hk, ?_⟩
  cases k with
  | true => exact iteT (h2 x H1 e1 r1 co1)
  | false => exact iteF ⟨Z, Y, ρ, c1, eo.ext e1, co1, (Do.ext e1 h2).mono fun d2 c2 h3 y H2 e2 r2 co2 => h3 y H2 (e1.trans e2) r2 co2⟩
theorem d_if {t : Expr} (ht : PT X t (tT X.K ca E c1)) (ha : PE X a (tD X.K ca E f)) (hb : PE X b (tD X.K ca E g)) : PE X (.IfExp t a b pos) (tD X.K ca E (eIf c1 f g)) := by
  refine ⟨fun pins s σ H Q I h => (pe_ifExp ht ha hb).run pins s σ H Q I ?_⟩
  obtain ⟨Z, Y, ρ, c, eo, co, h⟩ := h
  refine ⟨Z, Y, ρ, c, eo, co, (Do.bind h).mono fun k c1 h1 H1 e1 co1 => ?_⟩
  cases k with
  | true => exact iteT ⟨Z, Y, ρ, c1, eo.ext e1, co1, (Do.ext e1 h1).mono fun d2 c2 h3 y H2 e2 r2 co2 => h3 y H2 (e1.trans e2) r2 co2⟩
  | false => exact iteF ⟨Z, Y, ρ, c1, eo.ext e1, co1, (Do.ext e1 h1).mono fun d2 c2 h3 y H2 e2 r2 co2 => h3 y H2 (e1.trans e2) r2 co2⟩

/-! comparisons that tell a bool -/
def BinB (K : PySem.W.Frag) (ca : Dr) (r : R2) (g : D → D → Option Bool) : Prop := ∀ (Z : Addr → Prop) (H : Hp) (c : Churn) (x y : V) (d e : D) (k : Bool) (Q : VK), ZOk ca Z H → ChOk K ca H c → Rl K ca Z H x d → Rl K ca Z H y e → g d e = some k →
  (∀ H', Ext ca H H' → ChOk K ca H' c → Q (.bl k) H') → r x y H Q
def gBl (g : D → D → Option Bool) : D → D → Option D := fun x y => (g x y).map D.bl
theorem BinB.d {r : R2} {g : D → D → Option Bool} (h : BinB X.K ca r g) : BinD X.K ca r (gBl g) := fun Z H c x y d e d' Q z co r1 r2 hg q => by
  unfold gBl at hg
  cases hk : g d e with
  | none => rw [hk] at hg; cases hg
  | some k =>
    rw [hk] at hg
    have e1 : D.bl k = d' := Option.some.inj hg
    subst e1
    exact h Z H c x y d e k Q z co r1 r2 hk fun H' e' co' => q (.bl k) H' e' (.bl k) co'
def cCmp (g : D → D → Option Bool) (fa fb : Ev → M D) : Ev → M Bool := fun ρ => fa ρ >>= fun x => fb ρ >>= fun y => liftO (g x y)
theorem dt_cmp {op : CmpOp} {r : R2} {g : D → D → Option Bool} (ho : OpR X (compareOp op) r) (hr : BinB X.K ca r g) (ha : PE X a (tD X.K ca E fa)) (hb : PE X b (tD X.K ca E fb)) (hm : behindInMarks op b = false) :
    PT X (.Compare a [op] [b] pos) (tT X.K ca E (cCmp g fa fb)) := by
  refine ⟨fun pins s σ H Q I h => (pt_cmpR ho ha hb hm).run pins s σ H Q I ?_⟩
  obtain ⟨Z, Y, ρ, c, eo, co, h⟩ := h
  refine ⟨Z, Y, ρ, c, eo, co, (Do.bind h).mono fun d c1 h1 x H1 e1 r1 co1 => ?_⟩
  refine ⟨Z, Y, ρ, c1, eo.ext e1, co1, ((Do.bind h1).ext e1).mono fun d2 c2 h2 y H2 e2 r2 co2 => ?_⟩
  obtain ⟨k, hk, h3⟩ := Do.lift h2
  exact hr (U Z Y) H2 c2 x y d d2 k _ (eo.zok.ext (e1.trans e2)) co2 (r1.ext e2 eo.zc) r2 hk fun H' e' co' => ⟨k, rfl, h3 H' ((e1.trans e2).trans e') co'⟩
/-- a op b op' c -/
def cChain (g g' : D → D → Option Bool) (fa fb fc : Ev → M D) : Ev → M Bool := fun ρ => fa ρ >>= fun x => fb ρ >>= fun y => liftO (g x y) >>= fun k => if k = true then (fc ρ >>= fun z => liftO (g' y z)) else pure false
theorem chain_run {r r' : R2} {g g' : D → D → Option Bool} (hr : BinB X.K ca r g) (hr' : BinB X.K ca r' g') {fc : Ev → M D} {σ : L2.St} {H : Hp} {Q : VK} (h : tT X.K ca E (cChain g g' fa fb fc) σ H fun k H' => Q (.bl k) H') :
    tChain r r' (tD X.K ca E fa) (tD X.K ca E fb) (tD X.K ca E fc) σ H Q := by
  obtain ⟨Z, Y, ρ, c, eo, co, h⟩ := h
  refine ⟨Z, Y, ρ, c, eo, co, (Do.bind h).mono fun d c1 h1 x H1 e1 r1 co1 => ?_⟩
  refine ⟨Z, Y, ρ, c1, eo.ext e1, co1, ((Do.bind h1).ext e1).mono fun d2 c2 h2 y H2 e2 r2 co2 => ?_⟩
  obtain ⟨k, hk, h3⟩ := Do.lift (Do.bind h2)
  refine hr (U Z Y) H2 c2 x y d d2 k _ (eo.zok.ext (e1.trans e2)) co2 (r1.ext e2 eo.zc) r2 hk fun H3 e3 co3 => ⟨k, rfl, ?_⟩
  cases k with
  | false => exact iteF (h3 H3 ((e1.trans e2).trans e3) co3)
  | true =>
    refine iteT ⟨Z, Y, ρ, c2, eo.ext ((e1.trans e2).trans e3), co3, (Do.ext ((e1.trans e2).trans e3) (Do.bind h3)).mono fun d3 c3 h4 z H4 e4 r4 co4 => ?_⟩
    obtain ⟨k2, hk2, h5⟩ := Do.lift h4
    exact hr' (U Z Y) H4 c3 y z d2 d3 k2 _ (eo.zok.ext (((e1.trans e2).trans e3).trans e4)) co4 (r2.ext (e3.trans e4) eo.zc) r4 hk2 fun H' e' co' => h5 H' ((((e1.trans e2).trans e3).trans e4).trans e') co'
theorem dt_chain {op op' : CmpOp} {r r' : R2} {g g' : D → D → Option Bool} {c' : Expr} {fc : Ev → M D} (ho : OpR X (compareOp op) r) (ho' : OpR X (compareOp op') r') (hr : BinB X.K ca r g) (hr' : BinB X.K ca r' g')
    (ha : PE X a (tD X.K ca E fa)) (hb : PE X b (tD X.K ca E fb)) (hc : PE X c' (tD X.K ca E fc)) (hm : lastMarks [op, op'] [b, c'] = false := by with_unfolding_all rfl) : PT X (.Compare a [op, op'] [b, c'] pos) (tT X.K ca E (cChain g g' fa fb fc)) := by
  refine ⟨fun pins s σ H Q I h => (pt_chain ho ho' ha hb hc hm).run pins s σ H Q I ?_⟩
  refine chain_run (Q := fun x H' => ∃ k, x = .bl k ∧ Q k H') hr hr' ?_
  obtain ⟨Z, Y, ρ, c, eo, co, h⟩ := h
  exact ⟨Z, Y, ρ, c, eo, co, h.mono fun k c1 h1 H1 e1 co1 => ⟨k, rfl, h1 H1 e1 co1⟩⟩
def eOfC (c : Ev → M Bool) : Ev → M D := fun ρ => c ρ >>= fun b => pure (.bl b)
theorem d_chain {op op' : CmpOp} {r r' : R2} {g g' : D → D → Option Bool} {c' : Expr} {fc : Ev → M D} (ho : OpR X (compareOp op) r) (ho' : OpR X (compareOp op') r') (hr : BinB X.K ca r g) (hr' : BinB X.K ca r' g')
    (ha : PE X a (tD X.K ca E fa)) (hb : PE X b (tD X.K ca E fb)) (hc : PE X c' (tD X.K ca E fc)) (hm : lastMarks [op, op'] [b, c'] = false := by with_unfolding_all rfl) : PE X (.Compare a [op, op'] [b, c'] pos) (tD X.K ca E (eOfC (cChain g g' fa fb fc))) := by
  refine ⟨fun pins s σ H Q I h => (pe_chain ho ho' ha hb hc hm).run pins s σ H Q I (chain_run hr hr' ?_)⟩
  obtain ⟨Z, Y, ρ, c, eo, co, h⟩ := h
  exact ⟨Z, Y, ρ, c, eo, co, (Do.bind h).mono fun k c1 h1 H1 e1 co1 => h1 (.bl k) H1 e1 (.bl k) co1⟩
/-! displays -/
theorem d_tup {x1} (ha : PA X es (tAs X.K ca E fs)) : PE X (.Tuple es x1 pos) (tD X.K ca E (eArgs gTup fs)) := by
  refine ⟨fun pins s σ H Q I h => (pe_tupN ha).run pins s σ H Q I ?_⟩
  obtain ⟨Z, Y, ρ, c, eo, co, h⟩ := h
  refine ⟨Z, Y, ρ, c, eo, co, (Do.bind h).mono fun ds c1 h1 xs H1 e1 r1 co1 => ?_⟩
  obtain ⟨d', hg, h2⟩ := Do.lift h1
  unfold gTup at hg
  by_cases hl : ds.length ≤ sizeLine
  · rw [if_pos hl] at hg
    have e2 : D.tup ds = d' := Option.some.inj hg
    subst e2
    refine ⟨by rw [r1.length]; exact hl, fun p o np od => ?_⟩
    exact h2 (.ref p) _ (e1.trans (ExtP.new np)) (.tup (TupAt.of upd_same od) (r1.ext (ExtP.new np) eo.zc)) (co1.new np)
  · rw [if_neg hl] at hg; cases hg
theorem d_lst (ha : PA X es (tAs X.K ca E fs)) : PE X (.List es pos) (tD X.K ca E (eArgs gLst fs)) := by
  refine ⟨fun pins s σ H Q I h => (pe_lst ha).run pins s σ H Q I ?_⟩
  obtain ⟨Z, Y, ρ, c, eo, co, h⟩ := h
  refine ⟨Z, Y, ρ, c, eo, co, (Do.bind h).mono fun ds c1 h1 xs H1 e1 r1 co1 => ?_⟩
  obtain ⟨d', hg, h2⟩ := Do.lift h1
  unfold gLst at hg
  by_cases hl : ds.length ≤ sizeLine
  · rw [if_pos hl] at hg
    have e2 : D.lst ds = d' := Option.some.inj hg
    subst e2
    refine ⟨by rw [r1.length]; exact hl, fun p np => ?_⟩
    exact h2 (.ref p) _ (e1.trans (ExtP.new np)) (.lst ((eo.zok.ext e1).free np) upd_same (r1.ext (ExtP.new np) eo.zc)) (co1.new np)
  · rw [if_neg hl] at hg; cases hg
/-! built-in functions and types, by name -/
variable {x : Str} {p : Pos} {id T : String} {r : List V → Hp → VK → Prop} {gl : List D → Option D}
theorem call_run (hr : CalD X.K ca r gl) {σ : L2.St} {H : Hp} {Q : VK} (h : tD X.K ca E (eArgs gl fs) σ H Q) : tCB r (tAs X.K ca E fs) σ H Q := by
  obtain ⟨Z, Y, ρ, c, eo, co, h⟩ := h
  refine ⟨Z, Y, ρ, c, eo, co, (Do.bind h).mono fun ds c1 h1 xs H1 e1 r1 co1 => ?_⟩
  obtain ⟨d', hg, h2⟩ := Do.lift h1
  exact hr (U Z Y) H1 c1 xs ds d' Q (eo.zok.ext e1) co1 r1 hg fun v H' e' r' co' => h2 v H' (e1.trans e') r' co'
theorem d_callB (hc : CallR X (.builtin id) r) (hr : CalD X.K ca r gl) (hm : X.mg x = none) (hv : bootBuiltins x = some (.builtin id)) (ha : PA X (e :: es) (tAs X.K ca E fs)) (hg : Gl X x := by rfl) (hn : x ≠ "__name__" := by decide) (hd : (x == ("__debug__" : Str)) = false := by decide)
    (he : starEach (e :: es) X.env = (false, eval e X.env) :: starEach es X.env := by rfl) (hpl : (backTo pos (starEach es X.env)).any (·.1) = false := by rfl) :
    PE X (.Call (.Name x p) (e :: es) [] pos) (tD X.K ca E (eArgs gl fs)) :=
  ⟨fun pins s σ H Q I h => (pe_callB hc hg hm hv ha hn hd he hpl).run pins s σ H Q I (call_run hr h)⟩
theorem d_callTy (hc : CallR X (.type T) r) (hr : CalD X.K ca r gl) (hm : X.mg x = none) (hv : bootBuiltins x = some (.type T)) (ha : PA X (e :: es) (tAs X.K ca E fs)) (hg : Gl X x := by rfl) (hn : x ≠ "__name__" := by decide) (hd : (x == ("__debug__" : Str)) = false := by decide)
    (he : starEach (e :: es) X.env = (false, eval e X.env) :: starEach es X.env := by rfl) (hpl : (backTo pos (starEach es X.env)).any (·.1) = false := by rfl) :
    PE X (.Call (.Name x p) (e :: es) [] pos) (tD X.K ca E (eArgs gl fs)) :=
  ⟨fun pins s σ H Q I h => (pe_callTy hc hg hm hv ha hn hd he hpl).run pins s σ H Q I (call_run hr h)⟩
/-! subscripts -/
theorem d_ix {r : R2} {g2 : D → D → Option D} (hi : IxR X r) (hr : BinD X.K ca r g2) (ha : PE X a (tD X.K ca E fa)) (hb : PE X b (tD X.K ca E fb)) (hs : PlainIx b := by exact fun _ _ => rfl) : PE X (.Subscript a b pos) (tD X.K ca E (eBin g2 fa fb)) :=
  ⟨fun pins s σ H Q I h => (pe_ix hi ha hb hs).run pins s σ H Q I (bin_run hr h)⟩
/-! slices -/
def SliD (K : PySem.W.Frag) (ca : Dr) (r : V → Option Int → Option Int → Hp → VK → Prop) (g : D → Option Int → Option Int → Option D) : Prop := ∀ (Z : Addr → Prop) (H : Hp) (c : Churn) (x : V) (d d' : D) (lo hi : Option Int) (Q : VK), ZOk ca Z H → ChOk K ca H c → Rl K ca Z H x d → g d lo hi = some d' →
  (∀ v H', Ext ca H H' → Rl K ca Z H' v d' → ChOk K ca H' c → Q v H') → r x lo hi H Q
def oNone : Ev → M (Option Int) := fun _ => pure none
def intO : D → Option Int
  | .int i => some i
  | _ => none
def oSome (f : Ev → M D) : Ev → M (Option Int) := fun ρ => f ρ >>= fun x => liftO (intO x) >>= fun i => pure (some i)
def tOp' (K : PySem.W.Frag) (ca : Dr) (E : XK) (f : Ev → M (Option Int)) : TO := fun σ H Q => ∃ Z Y ρ c, EnvOk K ca Z Y H σ ρ ∧ ChOk K ca H c ∧
  Do K ca E (U Z Y) H (f ρ c) fun o c' => ∀ H', Ext ca H H' → ChOk K ca H' c' → Q o H'
theorem do_none : PO X none (tOp' X.K ca E oNone) := by
  refine ⟨fun pins s σ H Q I h => po_none.run pins s σ H Q I ?_⟩
  obtain ⟨Z, Y, ρ, c, eo, co, h⟩ := h
  exact h H .refl co
theorem do_some (ha : PE X e (tD X.K ca E f)) : PO X (some e) (tOp' X.K ca E (oSome f)) := by
  refine ⟨fun pins s σ H Q I h => (po_some ha).run pins s σ H Q I ?_⟩
  obtain ⟨Z, Y, ρ, c, eo, co, h⟩ := h
  refine ⟨Z, Y, ρ, c, eo, co, (Do.bind h).mono fun d c1 h1 x H1 e1 r1 co1 => ?_⟩
  obtain ⟨i, hi, h2⟩ := Do.lift (Do.bind h1)
  cases r1 with
  | int j =>
    have e2 : j = i := Option.some.inj hi
    subst e2
    exact ⟨j, rfl, h2 H1 e1 co1⟩
  | _ => cases hi
def eSl (g : D → Option Int → Option Int → Option D) (f : Ev → M D) (l u : Ev → M (Option Int)) : Ev → M D := fun ρ => f ρ >>= fun x => l ρ >>= fun i => u ρ >>= fun j => liftO (g x i j)
theorem d_slice {r : V → Option Int → Option Int → Hp → VK → Prop} {g3 : D → Option Int → Option Int → Option D} {lo hi : Option Expr} {p2 : Pos} {l u : Ev → M (Option Int)} (hs : SlR X r) (hr : SliD X.K ca r g3) (ha : PE X a (tD X.K ca E fa)) (hl : PO X lo (tOp' X.K ca E l)) (hu : PO X hi (tOp' X.K ca E u)) :
    PE X (.Subscript a (.Slice lo hi none p2) pos) (tD X.K ca E (eSl g3 fa l u)) := by
  refine ⟨fun pins s σ H Q I h => (pe_slice hs ha hl hu).run pins s σ H Q I ?_⟩
  obtain ⟨Z, Y, ρ, c, eo, co, h⟩ := h
  refine ⟨Z, Y, ρ, c, eo, co, (Do.bind h).mono fun d c1 h1 x H1 e1 r1 co1 => ?_⟩
  refine ⟨Z, Y, ρ, c1, eo.ext e1, co1, ((Do.bind h1).ext e1).mono fun i c2 h2 H2 e2 co2 => ?_⟩
  refine ⟨Z, Y, ρ, c2, eo.ext (e1.trans e2), co2, ((Do.bind h2).ext (e1.trans e2)).mono fun j c3 h3 H3 e3 co3 => ?_⟩
  obtain ⟨d', hg, h4⟩ := Do.lift h3
  exact hr (U Z Y) H3 c3 x d d' i j Q (eo.zok.ext ((e1.trans e2).trans e3)) co3 (r1.ext (e2.trans e3) eo.zc) hg fun v H' e' r' co' => h4 v H' (((e1.trans e2).trans e3).trans e') r' co'
/-! methods of built-in types -/
def MetD (K : PySem.W.Frag) (ca : Dr) (T : String) (r : V → List V → Hp → VK → Prop) (g : D → List D → Option D) : Prop := ∀ (Z : Addr → Prop) (H : Hp) (c : Churn) (x : V) (xs : List V) (d d' : D) (ds : List D) (Q : VK), ZOk ca Z H → ChOk K ca H c → Rl K ca Z H x d → RlA K ca Z H xs ds → g d ds = some d' →
  (∀ v H', Ext ca H H' → Rl K ca Z H' v d' → ChOk K ca H' c → Q v H') → r x xs H Q
def tyD : String → D → Bool
  | "str", .str _ => true
  | "list", .lst _ => true
  | "dict", .dic _ _ => true
  | _, _ => false
theorem tyD_ok {T : String} {K : PySem.W.Frag} {ca : Dr} {Z : Addr → Prop} {H : Hp} {x : V} {d : D} (r : Rl K ca Z H x d) (h : tyD T d = true) : tyV K T x H := by
  unfold tyD at h
  split at h
  · cases r; rfl
  · cases r with | lst n hH ra => exact .inl ⟨rfl, _, SqL.of hH⟩
  · cases r with | dic n hH ra => exact .inr (.inr (.inl ⟨rfl, .inl ⟨_, hH⟩⟩))
  · cases h
def eMet (T : String) (g : D → List D → Option D) (fo : Ev → M D) (fs : Ev → M (List D)) : Ev → M D := fun ρ => fo ρ >>= fun x => liftO (if tyD T x = true then some () else none) >>= fun _ => fs ρ >>= fun xs => liftO (g x xs)
section
variable {name : Str} {apos cpos : Pos} {rm : V → List V → Hp → VK → Prop} {gm : D → List D → Option D} {o : Expr}
theorem d_bm (pa : PlainAttrs T) (slot : Slot T name id) (hty : typeOf (.builtin id) = pure (.type "method_descriptor")) (hm : MtR X id rm) (hr : MetD X.K ca T rm gm) (ho : PE X o (tD X.K ca E fa)) (ha : PA X (e :: es) (tAs X.K ca E fs))
    (hbase : attributeBase o name X.env (eval o X.env) = eval o X.env := by rfl)
    (hfew : ((backTo cpos (starEach (e :: es) X.env)).all (fun x => !x.1) && (backToKw cpos (keywordEach [] X.env)).all (fun x => x.1.isSome)
      && decide ((e :: es).length + ([] : List Keyword).length + (if ([] : List Keyword).isEmpty then 0 else 1) < 30)) = true := by rfl)
    (hline : (apos.endLine == cpos.line) = true := by rfl) (hst : starEach (e :: es) X.env = (false, eval e X.env) :: starEach es X.env := by rfl) (hpl : (backTo cpos (starEach es X.env)).any (·.1) = false := by rfl) :
    PE X (.Call (.Attribute o name apos) (e :: es) [] cpos) (tD X.K ca E (eMet T gm fa fs)) := by
  refine ⟨fun pins s σ H Q I h => (pe_bm pa slot hty hm ho ha hbase hfew hline hst hpl).run pins s σ H Q I ?_⟩
  obtain ⟨Z, Y, ρ, c, eo, co, h⟩ := h
  refine ⟨Z, Y, ρ, c, eo, co, (Do.bind h).mono fun d c1 h1 x H1 e1 r1 co1 => ?_⟩
  obtain ⟨_, hk, h2⟩ := Do.lift (Do.bind h1)
  have ty : tyD T d = true := by
    by_cases z : tyD T d = true
    · exact z
    · rw [if_neg z] at hk; cases hk
  refine ⟨tyD_ok r1 ty, Z, Y, ρ, c1, eo.ext e1, co1, ((Do.bind h2).ext e1).mono fun ds c2 h3 ys H2 e2 r2 co2 => ?_⟩
  obtain ⟨d', hg, h4⟩ := Do.lift h3
  exact hr (U Z Y) H2 c2 x ys d d' ds Q (eo.zok.ext (e1.trans e2)) co2 (r1.ext e2 eo.zc) r2 hg fun v H' e' r' co' => h4 v H' ((e1.trans e2).trans e') r' co'
end
end
end G

set_option Elab.async false
set_option linter.all false
set_option maxRecDepth 100000
set_option maxHeartbeats 4000000
/-! G3: statements, targets, loops, comprehensions, the calls of defs. -/
namespace G
open PySem PySem.Spec PyProof.Rows L2
inductive Ctl where
  | nx | bk | ct | ret (d : D)
abbrev Sm := Ev → M (Ev × Ctl)
structure Step (ca : Dr) (Y : Addr → Prop) (H : Hp) (Y' : Addr → Prop) (H' : Hp) : Prop where
  ext : ExtP (fun b => b = ca ∨ Y b) H H'
  own : ∀ b, Y' b → Y b ∨ H b = none
section
variable {ca : Dr} {Y Y1 Y2 : Addr → Prop} {H H1 H2 : Hp}
theorem Step.refl : Step ca Y H Y H := ⟨.refl, fun _ h => .inl h⟩
theorem Step.of (e : Ext ca H H1) : Step ca Y H Y H1 := ⟨e.mono fun _ => .inl, fun _ h => .inl h⟩
theorem Step.trans (a : Step ca Y H Y1 H1) (b : Step ca Y1 H1 Y2 H2) : Step ca Y H Y2 H2 where
  ext := fun c o h => by
    have keep : (c = ca ∨ Y1 c) → (c = ca ∨ Y c) := fun z => z.imp id fun y => (a.own c y).resolve_right fun n => by rw [h] at n; cases n
    rcases a.ext c o h with h1 | ⟨p, m, o', h1, m1⟩
    · rcases b.ext c o h1 with h2 | ⟨p2, m2, o2, h2, m3⟩
      · exact .inl h2
      · exact .inr ⟨keep p2, m2, o2, h2, m3⟩
    · rcases b.ext c o' h1 with h2 | ⟨p2, m2, o2, h2, m3⟩
      · exact .inr ⟨p, m, o', h2, m1⟩
      · exact .inr ⟨p, m, o2, h2, m3⟩
  own := fun c y => by
    rcases b.own c y with h | h
    · exact a.own c h
    · exact .inr (a.ext.there h)
end
/-- fewer places are free where a tree lies -/
theorem Rl.grow_aux {K : PySem.W.Frag} {ca : Dr} {Z Z' : Addr → Prop} {H : Hp} (hz : ∀ b, Z' b → Z b ∨ H b = none) : (∀ {v : V} {d : D}, Rl K ca Z H v d → Rl K ca Z' H v d) ∧ ∀ {vs : List V} {ds : List D}, RlA K ca Z H vs ds → RlA K ca Z' H vs ds := by
  have n : ∀ {a : Addr} {o : HO}, H a = some o → ¬ Z a → ¬ Z' a := fun e h z => (hz _ z).elim h fun q => by rw [e] at q; cases q
  constructor
  · intro v d h
    induction h using Rl.rec (motive_2 := fun vs ds _ => RlA K ca Z' H vs ds) with
    | non => exact .non
    | bl b => exact .bl b
    | int i => exact .int i
    | str x => exact .str x
    | ty n => exact .ty n
    | obj a => exact .obj a
    | chn => exact .chn
    | scr h => exact .scr h
    | lst h1 h2 _ ih => exact .lst (n h2 h1) h2 ih
    | tup h1 _ ih => exact .tup h1 ih
    | dic h1 h2 _ ih => exact .dic (n h2 h1) h2 ih
    | nil => exact .nil
    | cons _ _ ih1 ih2 => exact .cons ih1 ih2
  · intro vs ds h
    induction h using RlA.rec (motive_1 := fun v d _ => Rl K ca Z' H v d) with
    | non => exact .non
    | bl b => exact .bl b
    | int i => exact .int i
    | str x => exact .str x
    | ty n => exact .ty n
    | obj a => exact .obj a
    | chn => exact .chn
    | scr h => exact .scr h
    | lst h1 h2 _ ih => exact .lst (n h2 h1) h2 ih
    | tup h1 _ ih => exact .tup h1 ih
    | dic h1 h2 _ ih => exact .dic (n h2 h1) h2 ih
    | nil => exact .nil
    | cons _ _ ih1 ih2 => exact .cons ih1 ih2
theorem Rl.grow {K : PySem.W.Frag} {ca : Dr} {Z Z' : Addr → Prop} {H : Hp} (hz : ∀ b, Z' b → Z b ∨ H b = none) {v : V} {d : D} (h : Rl K ca Z H v d) : Rl K ca Z' H v d := (Rl.grow_aux hz).1 h
theorem RlA.grow {K : PySem.W.Frag} {ca : Dr} {Z Z' : Addr → Prop} {H : Hp} (hz : ∀ b, Z' b → Z b ∨ H b = none) {vs : List V} {ds : List D} (h : RlA K ca Z H vs ds) : RlA K ca Z' H vs ds := (Rl.grow_aux hz).2 h
theorem Top.grow {K : PySem.W.Frag} {ca : Dr} {Z Z' : Addr → Prop} {H : Hp} (hz : ∀ b, Z' b → Z b ∨ H b = none) {a : Addr} {d : D} (h : Top K ca Z H a d) : Top K ca Z' H a d := by
  unfold Top at h ⊢
  split at h
  · obtain ⟨vs, h1, h2⟩ := h
    exact ⟨vs, h1, h2.grow hz⟩
  · obtain ⟨vs, h1, e, nd, h2⟩ := h
    exact ⟨vs, h1, e, nd, h2.grow hz⟩
  · exact h.elim
theorem Top.anti {K : PySem.W.Frag} {ca : Dr} {Z Z' : Addr → Prop} {H : Hp} (hz : ∀ b, Z' b → Z b) {a : Addr} {d : D} (h : Top K ca Z H a d) : Top K ca Z' H a d := by
  unfold Top at h ⊢
  split at h
  · obtain ⟨vs, h1, h2⟩ := h
    exact ⟨vs, h1, h2.anti hz⟩
  · obtain ⟨vs, h1, e, nd, h2⟩ := h
    exact ⟨vs, h1, e, nd, h2.anti hz⟩
  · exact h.elim

section
variable (K : PySem.W.Frag) (ca : Dr) (E : XK)
def EOkS (Z Y : Addr → Prop) (H : Hp) (x : Exn) (c : Churn) : Prop := ∀ Y' cv od H', Step ca Y H Y' H' → XRel K ca (U Z Y') H' x cv od → ChOk K ca H' c → E cv od H'
def Fin (Z : Addr → Prop) (Dn : Ends) (Y : Addr → Prop) (H : Hp) (p : Ev × Ctl) (c : Churn) : Prop :=
  ∀ Y' σ' H', Step ca Y H Y' H' → EnvOk K ca Z Y' H' σ' p.1 → ChOk K ca H' c → match p.2 with
    | .nx => Dn.nx σ' H'
    | .bk => Dn.bk σ' H'
    | .ct => Dn.ct σ' H'
    | .ret d => ∀ v, Rl K ca (U Z Y') H' v d → Dn.rt v H'
def DoS (Z : Addr → Prop) (Dn : Ends) (Y : Addr → Prop) (H : Hp) (r : R (Ev × Ctl)) : Prop := At r (Fin K ca Z Dn Y H) (EOkS K ca E Z Y H)
/-- a statement does g -/
def tS (g : Sm) : TS := fun Dn σ H => ∃ Z Y ρ c, EnvOk K ca Z Y H σ ρ ∧ ChOk K ca H c ∧ DoS K ca E Z Dn Y H (g ρ c)
end
section
variable {K : PySem.W.Frag} {ca : Dr} {E : XK} {Z Y Y1 : Addr → Prop} {Dn : Ends} {H H1 : Hp} {σ : L2.St} {ρ : Ev}
theorem EOkS.step (e : Step ca Y H Y1 H1) {x : Exn} {c : Churn} (h : EOkS K ca E Z Y H x c) : EOkS K ca E Z Y1 H1 x c := fun Y' cv od H' e' r co => h Y' cv od H' (e.trans e') r co
theorem EOkS.e (e : Ext ca H H1) {x : Exn} {c : Churn} (h : EOkS K ca E Z Y H x c) : EOk K ca E (U Z Y) H1 x c := fun cv od H' e' r co => h Y cv od H' (.of (e.trans e')) r co
theorem Fin.step (e : Step ca Y H Y1 H1) {p : Ev × Ctl} {c : Churn} (h : Fin K ca Z Dn Y H p c) : Fin K ca Z Dn Y1 H1 p c := fun Y' σ' H' e' eo co => h Y' σ' H' (e.trans e') eo co
theorem DoS.step (e : Step ca Y H Y1 H1) {r : R (Ev × Ctl)} (h : DoS K ca E Z Dn Y H r) : DoS K ca E Z Dn Y1 H1 r := At.mono h (fun _ _ z => z.step e) fun _ _ z => z.step e
/-- an expression at the head of a statement -/
theorem DoS.expr {α : Type} {m : M α} {f : α → M (Ev × Ctl)} {c : Churn} (h : DoS K ca E Z Dn Y H ((m >>= f) c)) : Do K ca E (U Z Y) H (m c) fun a c1 => DoS K ca E Z Dn Y H (f a c1) :=
  At.mono (At.bind.mp h) (fun _ _ z => z) fun _ _ z => z.e .refl
theorem EnvOk.set (e : EnvOk K ca Z Y H σ ρ) (i : Nat) {v : V} {d : D} (r : Rl K ca (U Z Y) H v d) : EnvOk K ca Z Y H (σ.set i (some v)) (ρ.set i (.val d)) where
  zok := e.zok
  zca := e.zca
  yca := e.yca
  len := by rw [List.length_set, List.length_set, e.len]
  val := fun j d' h => by
    rw [List.getElem?_set] at h ⊢
    by_cases hj : i = j
    · subst hj
      rw [if_pos rfl] at h ⊢
      by_cases hl : i < ρ.length
      · rw [if_pos hl] at h
        rw [if_pos (e.len ▸ hl)]
        cases h
        exact ⟨v, rfl, r⟩
      · rw [if_neg hl] at h; cases h
    · rw [if_neg hj] at h ⊢
      exact e.val j d' h
  own := fun j ds h => by
    rw [List.getElem?_set] at h ⊢
    by_cases hj : i = j
    · subst hj
      rw [if_pos rfl] at h
      by_cases hl : i < ρ.length
      · rw [if_pos hl] at h; cases h
      · rw [if_neg hl] at h; cases h
    · rw [if_neg hj] at h ⊢
      exact e.own j ds h
  dis := e.dis
  inj := fun j k a ds es h1 h2 h3 h4 => by
    have ne : ∀ {j : Nat} {ds : D}, (ρ.set i (.val d))[j]? = some (.own ds) → i ≠ j := fun {j ds} h z => by
      subst z
      rw [List.getElem?_set, if_pos rfl] at h
      split at h <;> cases h
    have n1 := ne h1
    have n2 := ne h2
    rw [List.getElem?_set, if_neg n1] at h1 h3
    rw [List.getElem?_set, if_neg n2] at h2 h4
    exact e.inj j k a ds es h1 h2 h3 h4
/-- a slot forgotten -/
theorem EnvOk.forget (e : EnvOk K ca Z Y H σ ρ) (i : Nat) : EnvOk K ca Z Y H (σ.set i none) (ρ.set i .no) where
  zok := e.zok
  zca := e.zca
  yca := e.yca
  len := by rw [List.length_set, List.length_set, e.len]
  val := fun j d' h => by
    rw [List.getElem?_set] at h ⊢
    by_cases hj : i = j
    · subst hj
      rw [if_pos rfl] at h
      split at h <;> cases h
    · rw [if_neg hj] at h ⊢
      exact e.val j d' h
  own := fun j ds h => by
    rw [List.getElem?_set] at h ⊢
    by_cases hj : i = j
    · subst hj
      rw [if_pos rfl] at h
      split at h <;> cases h
    · rw [if_neg hj] at h ⊢
      exact e.own j ds h
  dis := e.dis
  inj := fun j k a ds es h1 h2 h3 h4 => by
    have ne : ∀ {j : Nat} {ds : D}, (ρ.set i .no)[j]? = some (.own ds) → i ≠ j := fun {j ds} h z => by
      subst z
      rw [List.getElem?_set, if_pos rfl] at h
      split at h <;> cases h
    have n1 := ne h1
    have n2 := ne h2
    rw [List.getElem?_set, if_neg n1] at h1 h3
    rw [List.getElem?_set, if_neg n2] at h2 h4
    exact e.inj j k a ds es h1 h2 h3 h4
end

/-! ### small statements -/
def sSeq (a b : Sm) : Sm := fun ρ => a ρ >>= fun p => match p.2 with
  | .nx => b p.1
  | _ => pure p
def sNil : Sm := fun ρ => pure (ρ, .nx)
def sRet (f : Ev → M D) : Sm := fun ρ => f ρ >>= fun d => pure (ρ, .ret d)
def sRetN : Sm := fun ρ => pure (ρ, .ret .non)
def sIf (c : Ev → M Bool) (a b : Sm) : Sm := fun ρ => c ρ >>= fun k => if k = true then a ρ else b ρ
def sExpr (f : Ev → M D) : Sm := fun ρ => f ρ >>= fun _ => pure (ρ, .nx)
def sBrk : Sm := fun ρ => pure (ρ, .bk)
def sCnt : Sm := fun ρ => pure (ρ, .ct)
def sNever : Sm := fun _ => stuck
abbrev Tg := D → Ev → Option Ev
def gN (i : Nat) : Tg := fun d ρ => some (ρ.set i (.val d))
def gNs : List Tg → List D → Ev → Option Ev
  | [], [], ρ => some ρ
  | t :: ts, d :: ds, ρ => (t d ρ).bind fun ρ' => gNs ts ds ρ'
  | _, _, _ => none
def gT (ts : List Tg) : Tg := fun d ρ => match d with
  | .tup ds => gNs ts ds ρ
  | _ => none
def sAsg (t : Tg) (f : Ev → M D) : Sm := fun ρ => f ρ >>= fun d => liftO (t d ρ) >>= fun ρ' => pure (ρ', .nx)
section
variable {X : Cx} {ca : Dr} {E : XK} {e : Expr} {st : Stmt} {rest : List Stmt} {pos : Pos} {f : Ev → M D} {a b g : Sm} {c : Ev → M Bool}
theorem ss_nil : PSs X [] (tS X.K ca E sNil) := by
  refine ⟨fun pins s σ H Dn I h => pss_nil.run pins s σ H Dn I ?_⟩
  obtain ⟨Z, Y, ρ, c, eo, co, h⟩ := h
  exact h Y σ H .refl eo co
theorem ss_one (h : PS X st (tS X.K ca E a)) : PSs X [st] (tS X.K ca E a) := pss_one h
theorem ss_cons (h1 : PS X st (tS X.K ca E a)) (h2 : PSs X rest (tS X.K ca E b)) : PSs X (st :: rest) (tS X.K ca E (sSeq a b)) := by
  refine ⟨fun pins s σ H Dn I h => (pss_cons h1 h2).run pins s σ H Dn I ?_⟩
  obtain ⟨Z, Y, ρ, c, eo, co, h⟩ := h
  refine ⟨Z, Y, ρ, c, eo, co, At.mono (At.bind.mp h) (fun p c1 h1 => ?_) fun _ _ z => z⟩
  intro Y' σ' H' st' eo' co'
  obtain ⟨ρ1, ctl⟩ := p
  cases ctl with
  | nx => exact ⟨Z, Y', ρ1, c1, eo', co', DoS.step st' h1⟩
  | bk => exact h1 Y' σ' H' st' eo' co'
  | ct => exact h1 Y' σ' H' st' eo' co'
  | ret d => exact h1 Y' σ' H' st' eo' co'
theorem s_pass : PS X (.Pass pos) (tS X.K ca E sNil) := by
  refine ⟨fun pins s σ H Dn I h => ps_pass.run pins s σ H Dn I ?_⟩
  obtain ⟨Z, Y, ρ, c, eo, co, h⟩ := h
  exact h Y σ H .refl eo co
theorem s_brk : PS X (.Break pos) (tS X.K ca E sBrk) := by
  refine ⟨fun pins s σ H Dn I h => ps_break.run pins s σ H Dn I ?_⟩
  obtain ⟨Z, Y, ρ, c, eo, co, h⟩ := h
  exact h Y σ H .refl eo co
theorem s_cnt : PS X (.Continue pos) (tS X.K ca E sCnt) := by
  refine ⟨fun pins s σ H Dn I h => ps_continue.run pins s σ H Dn I ?_⟩
  obtain ⟨Z, Y, ρ, c, eo, co, h⟩ := h
  exact h Y σ H .refl eo co
theorem s_never : PS X st (tS X.K ca E sNever) := by
  refine ⟨fun pins s σ H Dn I h => ?_⟩
  obtain ⟨Z, Y, ρ, c, eo, co, h⟩ := h
  exact h.elim
theorem s_ret (he : PE X e (tD X.K ca E f)) : PS X (.Return (some e) pos) (tS X.K ca E (sRet f)) := by
  refine ⟨fun pins s σ H Dn I h => (ps_ret he).run pins s σ H Dn I ?_⟩
  obtain ⟨Z, Y, ρ, c, eo, co, h⟩ := h
  exact ⟨Z, Y, ρ, c, eo, co, (DoS.expr h).mono fun d c1 h1 v H1 e1 r1 co1 => h1 Y σ H1 (.of e1) (eo.ext e1) co1 v r1⟩
theorem s_retN : PS X (.Return none pos) (tS X.K ca E sRetN) := by
  refine ⟨fun pins s σ H Dn I h => ps_retN.run pins s σ H Dn I ?_⟩
  obtain ⟨Z, Y, ρ, c, eo, co, h⟩ := h
  exact h Y σ H .refl eo co .non .non
theorem s_expr (he : PE X e (tD X.K ca E f)) (hs : swapsWith e none pos.line X.env = pure false := by rfl) : PS X (.Expr e pos) (tS X.K ca E (sExpr f)) := by
  refine ⟨fun pins s σ H Dn I h => (ps_expr he hs).run pins s σ H Dn I ?_⟩
  obtain ⟨Z, Y, ρ, c, eo, co, h⟩ := h
  exact ⟨Z, Y, ρ, c, eo, co, (DoS.expr h).mono fun d c1 h1 v H1 e1 r1 co1 => h1 Y σ H1 (.of e1) (eo.ext e1) co1⟩
theorem s_if {t : Expr} {p q : List Stmt} (hc : PT X t (tT X.K ca E c)) (ha : PSs X p (tS X.K ca E a)) (hb : PSs X q (tS X.K ca E b)) : PS X (.If t p q pos) (tS X.K ca E (sIf c a b)) := by
  refine ⟨fun pins s σ H Dn I h => (ps_if hc ha hb).run pins s σ H Dn I ?_⟩
  obtain ⟨Z, Y, ρ, c, eo, co, h⟩ := h
  refine ⟨Z, Y, ρ, c, eo, co, (DoS.expr h).mono fun k c1 h1 H1 e1 co1 => ?_⟩
  cases k with
  | true => exact iteT ⟨Z, Y, ρ, c1, eo.ext e1, co1, DoS.step (.of e1) h1⟩
  | false => exact iteF ⟨Z, Y, ρ, c1, eo.ext e1, co1, DoS.step (.of e1) h1⟩
/-! ### targets -/
/-- all slots but these stay -/
def OnlyAt (is : List Nat) (σ σ' : L2.St) : Prop := σ'.length = σ.length ∧ ∀ j, j ∉ is → σ'[j]? = σ[j]?
def TgD (K : PySem.W.Frag) (ca : Dr) (g : TG) (t : Tg) (is : List Nat) : Prop := ∀ (Z Y : Addr → Prop) (H : Hp) (σ : L2.St) (ρ ρ' : Ev) (v : V) (d : D) (Q : L2.St → Hp → Prop), EnvOk K ca Z Y H σ ρ → Rl K ca (U Z Y) H v d → t d ρ = some ρ' →
  (∀ σ', EnvOk K ca Z Y H σ' ρ' → OnlyAt is σ σ' → Q σ' H) → g v σ H Q
def TgsD (K : PySem.W.Frag) (ca : Dr) (g : TGs) (ts : List Tg) (is : List Nat) : Prop := ∀ (Z Y : Addr → Prop) (H : Hp) (σ : L2.St) (ρ ρ' : Ev) (vs : List V) (ds : List D) (Q : L2.St → Hp → Prop), EnvOk K ca Z Y H σ ρ → RlA K ca (U Z Y) H vs ds → gNs ts ds ρ = some ρ' →
  (∀ σ', EnvOk K ca Z Y H σ' ρ' → OnlyAt is σ σ' → Q σ' H) → g vs σ H Q
theorem OnlyAt.trans {is js : List Nat} {σ σ1 σ2 : L2.St} (a : OnlyAt is σ σ1) (b : OnlyAt js σ1 σ2) : OnlyAt (is ++ js) σ σ2 :=
  ⟨b.1.trans a.1, fun j hj => (b.2 j fun z => hj (List.mem_append_right _ z)).trans (a.2 j fun z => hj (List.mem_append_left _ z))⟩
theorem tg_name (i : Nat) : TgD X.K ca (gName i) (gN i) [i] := fun Z Y H σ ρ ρ' v d Q eo r e q => by
  cases e
  exact q _ (eo.set i r) ⟨List.length_set, fun j hj => List.getElem?_set_ne (by intro z; exact hj (by simp [z]))⟩
theorem tgs_nil : TgsD X.K ca gNil [] [] := fun Z Y H σ ρ ρ' vs ds Q eo r e q => by
  cases r with
  | nil => cases e; exact ⟨rfl, q σ eo ⟨rfl, fun _ _ => rfl⟩⟩
  | cons _ _ => cases e
theorem tgs_cons {g1 : TG} {gs : TGs} {t : Tg} {ts : List Tg} {is js : List Nat} (h1 : TgD X.K ca g1 t is) (h2 : TgsD X.K ca gs ts js) : TgsD X.K ca (gCons g1 gs) (t :: ts) (is ++ js) := fun Z Y H σ ρ ρ' vs ds Q eo r e q => by
  cases r with
  | nil => cases e
  | cons r1 r2 =>
    rename_i v vs d ds
    have e' : (t d ρ).bind (fun ρ' => gNs ts ds ρ') = some ρ' := e
    cases ht : t d ρ with
    | none => rw [ht] at e'; cases e'
    | some ρ1 =>
      rw [ht] at e'
      exact ⟨v, vs, rfl, h1 Z Y H σ ρ ρ1 v d _ eo r1 ht fun σ1 eo1 o1 => h2 Z Y H σ1 ρ1 ρ' vs ds Q eo1 r2 e' fun σ2 eo2 o2 => q σ2 eo2 (o1.trans o2)⟩
theorem gNs_len : ∀ {ts : List Tg} {ds : List D} {ρ ρ' : Ev}, gNs ts ds ρ = some ρ' → ds.length = ts.length
  | [], [], _, _, _ => rfl
  | [], _ :: _, _, _, h => by cases h
  | _ :: _, [], _, _, h => by cases h
  | t :: ts, d :: ds, ρ, ρ', h => by
    have e' : (t d ρ).bind (fun ρ' => gNs ts ds ρ') = some ρ' := h
    cases ht : t d ρ with
    | none => rw [ht] at e'; cases e'
    | some ρ1 => rw [ht] at e'; exact congrArg Nat.succ (gNs_len e')
theorem tg_tup {gs : TGs} {ts : List Tg} {is : List Nat} {n : Nat} (h : TgsD X.K ca gs ts is) (hn : ts.length = n := by rfl) : TgD X.K ca (L2.gTup X.K n gs) (gT ts) is := fun Z Y H σ ρ ρ' v d Q eo r e q => by
  cases r with
  | tup hs ra => exact ⟨_, _, rfl, hs.s, by rw [ra.length, gNs_len e, hn], h Z Y H σ ρ ρ' _ _ Q eo ra e q⟩
  | _ => cases e
theorem asg_run {te : TE} {tg : TG} {t : Tg} {is : List Nat} (ht : TgD X.K ca tg t is) {Dn : Ends} {σ : L2.St} {H : Hp} (hte : te = tD X.K ca E f) (h : tS X.K ca E (sAsg t f) Dn σ H) : tAsg te tg Dn σ H := by
  subst hte
  obtain ⟨Z, Y, ρ, c, eo, co, h⟩ := h
  refine ⟨Z, Y, ρ, c, eo, co, (DoS.expr h).mono fun d c1 h1 v H1 e1 r1 co1 => ?_⟩
  obtain ⟨ρ', hρ, h2⟩ := Do.lift (DoS.expr h1)
  exact ht Z Y H1 σ ρ ρ' v d _ (eo.ext e1) r1 hρ fun σ' eo' _ => h2 Y σ' H1 (.of e1) eo' co1
theorem s_set (i : Nat) {x : Str} {pos' : Pos} (hN : X.N.Nodup) (he : PE X e (tD X.K ca E f)) (hi : X.N[i]? = some x := by rfl) (hx : Loc X.env.scope x := by first | exact Or.inl rfl | exact Or.inr rfl)
    (hs : swapsWith e (some (.Name x pos')) pos.line X.env = pure false := by rfl) (hf : X.fn x = true ∨ X.env.scope.names.lookup x = some .local := by first | exact .inl rfl | exact .inr rfl) :
    PS X (.Assign [.Name x pos'] e pos) (tS X.K ca E (sAsg (gN i) f)) :=
  ⟨fun pins s σ H Dn I h => (ps_set hN hi hx he hs hf).run pins s σ H Dn I (asg_run (tg_name i) rfl h)⟩
theorem s_asg {te : Expr} {tg : TG} {t : Tg} {is : List Nat} (he : PE X e (tD X.K ca E f)) (hg : PG X te tg) (ht : TgD X.K ca tg t is) (hs : swapsWithSole [te] e pos.line X.env = pure false := by rfl) (hw : swappedStores [te] e X.env = pure none := by rfl)
    (h1 : (assignEach [te] X.env).map (·.2) = [assign te X.env] := by rfl) : PS X (.Assign [te] e pos) (tS X.K ca E (sAsg t f)) :=
  ⟨fun pins s σ H Dn I h => (ps_asg he hg hs hw h1).run pins s σ H Dn I (asg_run ht rfl h)⟩
/-- a, b = x, y: stored from the right, no tuple -/
def sPar (i j : Nat) (fs : Ev → M (List D)) : Sm := fun ρ => fs ρ >>= fun ds => match ds with
  | [d, e] => pure ((ρ.set i (.val d)).set j (.val e), .nx)
  | _ => stuck
theorem s_par (i j : Nat) {x y : Str} {a b : Expr} {fs : Ev → M (List D)} {px py pt : Pos} {kt k2 pt2} (hc : X.calm = true) (hN : X.N.Nodup) (ha : PA X [a, b] (tAs X.K ca E fs)) (hi : X.N[i]? = some x := by rfl) (hj : X.N[j]? = some y := by rfl) (hij : i ≠ j := by decide)
    (hx : X.env.scope.names.lookup x = some .local := by rfl) (hy : X.env.scope.names.lookup y = some .local := by rfl)
    (hw : swappedStores [.Tuple [.Name x px, .Name y py] kt pt] (.Tuple [a, b] k2 pt2) X.env = pure (some [x, y]) := by rfl)
    (hs : swapsWithSole [.Tuple [.Name x px, .Name y py] kt pt] (.Tuple [a, b] k2 pt2) pos.line X.env = pure false := by rfl) :
    PS X (.Assign [.Tuple [.Name x px, .Name y py] kt pt] (.Tuple [a, b] k2 pt2) pos) (tS X.K ca E (sPar i j fs)) := by
  refine ⟨fun pins s σ H Dn I h => (ps_par hc hN hi hj hij hx hy ha hw hs).run pins s σ H Dn I ?_⟩
  obtain ⟨Z, Y, ρ, c, eo, co, h⟩ := h
  refine ⟨Z, Y, ρ, c, eo, co, (DoS.expr h).mono fun ds c1 h1 vs H1 e1 r1 co1 => ?_⟩
  match ds, r1, h1 with
  | [d, e], .cons r1 (.cons r2 .nil), h1 => exact ⟨_, _, rfl, h1 Y _ H1 (.of e1) (((eo.ext e1).set i r1).set j r2) co1⟩
  | [], r1, h1 => exact h1.elim
  | [_], r1, h1 => exact h1.elim
  | _ :: _ :: _ :: _, r1, h1 => exact h1.elim
end
end G

set_option Elab.async false
set_option linter.all false
set_option maxRecDepth 100000
set_option maxHeartbeats 4000000
/-! G4: what is walked, for, while, comprehensions, the calls of defs, a def by its body. -/
namespace G
open PySem PySem.Spec PyProof.Rows L2
/-! ### what is walked -/
structure Yld (K : PySem.W.Frag) (ca : Dr) (W : Addr → Prop) (H : Hp) (ds : List D) (J : It) : Prop where
  go : ∀ (P : Addr → Prop) (i : Nat) (H' : Hp), (∀ b, P b → W b) → ExtP P H H' → i < ds.length → J.go i H'
  stop : ∀ (P : Addr → Prop) (H' : Hp), (∀ b, P b → W b) → ExtP P H H' → J.stop ds.length H'
  yld : ∀ (P W' : Addr → Prop) (i : Nat) (H' : Hp) (x : V) (H'' : Hp) (d : D), (∀ b, W' b → W b ∨ H b = none) → (∀ b, P b → W b) → ExtP P H H' → J.yld i H' x H'' → ds[i]? = some d → (∀ b o, H' b = some o → H'' b = some o) ∧ Rl K ca W' H'' x d
def tI (K : PySem.W.Frag) (ca : Dr) (E : XK) (f : Ev → M (List D)) : TI := fun σ H R => ∃ Z Y ρ c, EnvOk K ca Z Y H σ ρ ∧ ChOk K ca H c ∧
  Do K ca E (U Z Y) H (f ρ c) fun ds c' => ∀ J H', Ext ca H H' → ChOk K ca H' c' → Yld K ca (U Z Y) H' ds J → R J H'
def seqD : D → Option (List D)
  | .lst xs => some xs
  | .tup xs => some xs
  | _ => none
def iSeqL (f : Ev → M D) : Ev → M (List D) := fun ρ => f ρ >>= fun d => liftO (match d with | .lst xs => some xs | _ => none)
def iSeqT (f : Ev → M D) : Ev → M (List D) := fun ρ => f ρ >>= fun d => liftO (match d with | .tup xs => some xs | _ => none)
theorem Rl.later {K : PySem.W.Frag} {ca : Dr} {W W' P : Addr → Prop} {H H' : Hp} {v : V} {d : D} (r : Rl K ca W H v d) (g : ∀ b, W' b → W b ∨ H b = none) (hP : ∀ b, P b → W b) (ex : ExtP P H H') : Rl K ca W' H' v d :=
  ((r.grow (Z' := fun b => W b ∨ W' b) fun b z => z.elim .inl (g b)).ext ex fun b z => .inl (hP b z)).anti fun b z => .inr z
theorem RlA.later {K : PySem.W.Frag} {ca : Dr} {W W' P : Addr → Prop} {H H' : Hp} {v : List V} {d : List D} (r : RlA K ca W H v d) (g : ∀ b, W' b → W b ∨ H b = none) (hP : ∀ b, P b → W b) (ex : ExtP P H H') : RlA K ca W' H' v d :=
  ((r.grow (Z' := fun b => W b ∨ W' b) fun b z => z.elim .inl (g b)).ext ex fun b z => .inl (hP b z)).anti fun b z => .inr z
section
variable {X : Cx} {ca : Dr} {E : XK} {tg e : Expr} {f : Ev → M D} {pos : Pos}
theorem yld_list {K : PySem.W.Frag} {W : Addr → Prop} {H : Hp} {a : Addr} {vs : List V} {ds : List D} (n : ¬ W a) (h : H a = some (.lst vs)) (r : RlA K ca W H vs ds) : Yld K ca W H ds (Itl K a) := by
  refine ⟨fun P i H' hP x hi => ?_, fun P H' hP x => ?_, fun P W' i H' x H'' d g hP ex y hd => ?_⟩
  · have hi' : i < vs.length := by rw [r.length]; exact hi
    exact ⟨vs, vs[i], SqL.of (x.at_ h (.inl fun z => n (hP _ z))), List.getElem?_eq_getElem hi'⟩
  · exact ⟨vs, SqL.of (x.at_ h (.inl fun z => n (hP _ z))), by rw [r.length]; exact Nat.le_refl _⟩
  · obtain ⟨rfl, f⟩ := y
    obtain ⟨v, hv, rv⟩ := r.get hd
    have := (f vs (SqL.of (ex.at_ h (.inl fun z => n (hP _ z))))).symm.trans hv
    cases this
    exact ⟨fun _ _ z => z, rv.later g hP ex⟩
theorem yld_tup {K : PySem.W.Frag} {W : Addr → Prop} {H : Hp} {a : Addr} {vs : List V} {ds : List D} (h : TupAt K H a vs) (r : RlA K ca W H vs ds) : Yld K ca W H ds (Itt K a) := by
  refine ⟨fun P i H' hP x hi => ?_, fun P H' hP x => ?_, fun P W' i H' x H'' d g hP ex y hd => ?_⟩
  · have hi' : i < vs.length := by rw [r.length]; exact hi
    exact ⟨vs, vs[i], (x.tup h).s, List.getElem?_eq_getElem hi'⟩
  · exact ⟨vs, (x.tup h).s, by rw [r.length]; exact Nat.le_refl _⟩
  · obtain ⟨rfl, f⟩ := y
    obtain ⟨v, hv, rv⟩ := r.get hd
    have := (f vs (ex.tup h).s).symm.trans hv
    cases this
    exact ⟨fun _ _ z => z, rv.later g hP ex⟩
theorem i_list (h : PE X e (tD X.K ca E f)) : PI X tg e (tI X.K ca E (iSeqL f)) := by
  refine ⟨fun pins s σ H R I hw => (pi_list h).run pins s σ H R I ?_⟩
  obtain ⟨Z, Y, ρ, c, eo, co, hw⟩ := hw
  refine ⟨Z, Y, ρ, c, eo, co, (Do.bind hw).mono fun d c1 h1 v H1 e1 r1 co1 => ?_⟩
  obtain ⟨ds, hd, h2⟩ := Do.lift h1
  cases r1 with
  | lst n hH ra =>
    cases hd
    exact ⟨_, rfl, ⟨_, SqL.of hH⟩, h2 _ H1 e1 co1 (yld_list n hH ra)⟩
  | _ => cases hd
theorem i_tup (h : PE X e (tD X.K ca E f)) : PI X tg e (tI X.K ca E (iSeqT f)) := by
  refine ⟨fun pins s σ H R I hw => (pi_tup h).run pins s σ H R I ?_⟩
  obtain ⟨Z, Y, ρ, c, eo, co, hw⟩ := hw
  refine ⟨Z, Y, ρ, c, eo, co, (Do.bind hw).mono fun d c1 h1 v H1 e1 r1 co1 => ?_⟩
  obtain ⟨ds, hd, h2⟩ := Do.lift h1
  cases r1 with
  | tup hH ra =>
    cases hd
    exact ⟨_, rfl, ⟨_, hH.s⟩, h2 _ H1 e1 co1 (yld_tup hH ra)⟩
  | _ => cases hd
def rangeD (lo hi : Int) : List D := (List.range (hi - lo).toNat).map fun (i : Nat) => D.int (lo + (i : Int))
def rng1 : List D → Option (List D)
  | [.int j] => if -(2 ^ 62) ≤ j ∧ j < 2 ^ 62 then some (rangeD 0 j) else none
  | _ => none
def rng2 : List D → Option (List D)
  | [.int i, .int j] => if -(2 ^ 62) ≤ i ∧ i < 2 ^ 62 ∧ -(2 ^ 62) ≤ j ∧ j < 2 ^ 62 then some (rangeD i j) else none
  | _ => none
def iRange1 (fs : Ev → M (List D)) : Ev → M (List D) := fun ρ => fs ρ >>= fun ds => liftO (rng1 ds)
def iRange2 (fs : Ev → M (List D)) : Ev → M (List D) := fun ρ => fs ρ >>= fun ds => liftO (rng2 ds)
theorem yld_range {K : PySem.W.Frag} {W : Addr → Prop} {H : Hp} {lo : Int} {n : Nat} : Yld K ca W H ((List.range n).map fun (i : Nat) => D.int (lo + (i : Int))) (Itr lo n) := by
  refine ⟨fun P i H' hP x hi => ?_, fun P H' hP x => ?_, fun P W' i H' x H'' d g hP ex y hd => ?_⟩
  · rw [List.length_map, List.length_range] at hi; exact hi
  · show n ≤ _
    rw [List.length_map, List.length_range]
    exact Nat.le_refl _
  · obtain ⟨rfl, rfl⟩ := y
    rw [List.getElem?_map] at hd
    have hi : i < n := by
      by_cases z : i < n
      · exact z
      · rw [List.getElem?_eq_none (by rw [List.length_range]; omega)] at hd; cases hd
    rw [List.getElem?_range hi] at hd
    cases hd
    exact ⟨fun _ _ z => z, .int _⟩
theorem i_range1 {a : Expr} {fs : Ev → M (List D)} {p : Pos} (hm : X.mg "range" = none) (ha : PA X [a] (tAs X.K ca E fs)) (hg : Gl X "range" := by rfl) (hs : starEach [a] X.env = [(false, eval a X.env)] := by rfl) :
    PI X tg (.Call (.Name "range" p) [a] [] pos) (tI X.K ca E (iRange1 fs)) := by
  refine ⟨fun pins s σ H R I hw => (pi_range1 hg hm ha hs).run pins s σ H R I ?_⟩
  obtain ⟨Z, Y, ρ, c, eo, co, hw⟩ := hw
  refine ⟨Z, Y, ρ, c, eo, co, (Do.bind hw).mono fun d c1 h1 vs H1 e1 r1 co1 => ?_⟩
  obtain ⟨ds, hd, h2⟩ := Do.lift h1
  match d, r1, hd with
  | [.int j], .cons (.int _) .nil, hd =>
    have hd : (if -(2 ^ 62) ≤ j ∧ j < 2 ^ 62 then some (rangeD 0 j) else none) = some ds := hd
    by_cases hj : -(2 ^ 62) ≤ j ∧ j < 2 ^ 62
    · rw [if_pos hj] at hd
      cases hd
      refine ⟨j, rfl, hj.1, hj.2, h2 _ H1 e1 co1 ?_⟩
      have e0 : (j - 0).toNat = j.toNat := by rw [Int.sub_zero]
      unfold rangeD
      rw [e0]
      exact yld_range
    · rw [if_neg hj] at hd; cases hd
theorem i_range2 {a b : Expr} {fs : Ev → M (List D)} {p : Pos} (hm : X.mg "range" = none) (ha : PA X [a, b] (tAs X.K ca E fs)) (hg : Gl X "range" := by rfl) (hs : starEach [a, b] X.env = [(false, eval a X.env), (false, eval b X.env)] := by rfl) (hs2 : starEach [b] X.env = [(false, eval b X.env)] := by rfl) :
    PI X tg (.Call (.Name "range" p) [a, b] [] pos) (tI X.K ca E (iRange2 fs)) := by
  refine ⟨fun pins s σ H R I hw => (pi_range2 hg hm ha hs hs2).run pins s σ H R I ?_⟩
  obtain ⟨Z, Y, ρ, c, eo, co, hw⟩ := hw
  refine ⟨Z, Y, ρ, c, eo, co, (Do.bind hw).mono fun d c1 h1 vs H1 e1 r1 co1 => ?_⟩
  obtain ⟨ds, hd, h2⟩ := Do.lift h1
  match d, r1, hd with
  | [.int i, .int j], .cons (.int _) (.cons (.int _) .nil), hd =>
    have hd : (if -(2 ^ 62) ≤ i ∧ i < 2 ^ 62 ∧ -(2 ^ 62) ≤ j ∧ j < 2 ^ 62 then some (rangeD i j) else none) = some ds := hd
    by_cases hj : -(2 ^ 62) ≤ i ∧ i < 2 ^ 62 ∧ -(2 ^ 62) ≤ j ∧ j < 2 ^ 62
    · rw [if_pos hj] at hd
      cases hd
      exact ⟨i, j, rfl, hj, h2 _ H1 e1 co1 yld_range⟩
    · rw [if_neg hj] at hd; cases hd
end
/-! ### for -/
def forM' (t : Tg) (body : Sm) : List D → Sm
  | [], ρ => pure (ρ, .nx)
  | d :: ds, ρ => liftO (t d ρ) >>= fun ρ1 => body ρ1 >>= fun p => match p.2 with
    | .nx => forM' t body ds p.1
    | .ct => forM' t body ds p.1
    | .bk => pure (p.1, .nx)
    | .ret d => pure (p.1, .ret d)
def sFor (t : Tg) (it : Ev → M (List D)) (body : Sm) : Sm := fun ρ => it ρ >>= fun ds => forM' t body ds ρ
section
variable {X : Cx} {ca : Dr} {E : XK} {tg e : Expr} {pos : Pos}
theorem s_for {g : TG} {t : Tg} {is : List Nat} {it : Ev → M (List D)} {body : List Stmt} {b : Sm} (hc : X.calm = true) (hp : PassesOwn (model X.prog X.w) X.A X.env X.xe) (hi : PI X tg e (tI X.K ca E it)) (hg : PG X tg g) (ht : TgD X.K ca g t is) (hb : PSs X body (tS X.K ca E b))
    (hs : ∀ x, foldedSetIterable e X.env x = pure x := by intro _; rfl) : PS X (.For tg e body [] pos) (tS X.K ca E (sFor t it b)) := by
  refine ⟨fun pins s σ H Dn I h => (ps_for hp hc hi hg hb hs).run pins s σ H Dn I ?_⟩
  obtain ⟨Z, Y, ρ, c, eo, co, h⟩ := h
  refine ⟨Z, Y, ρ, c, eo, co, (DoS.expr h).mono fun ds c1 h1 J H1 e1 co1 y => ?_⟩
  refine ⟨fun i m σ' H' => m = ds.length - i ∧ i ≤ ds.length ∧ ∃ Y' ρ' c', Step ca Y H1 Y' H' ∧ EnvOk X.K ca Z Y' H' σ' ρ' ∧ ChOk X.K ca H' c' ∧ DoS X.K ca E Z Dn Y' H' (forM' t b (ds.drop i) ρ' c'),
    ⟨ds.length, by omega, by omega, Y, ρ, c1, .refl, eo.ext e1, co1, DoS.step (.of e1) h1⟩, ?_⟩
  rintro i m σ' H' ⟨rfl, hi', Y', ρ', c', st, eo', co', hd⟩
  have hP : ∀ b : Addr, (b = ca ∨ Y b) → U Z Y b := fun b z => z.elim (fun z => .inl (z ▸ eo.zca)) .inr
  have hg' : ∀ b, U Z Y' b → U Z Y b ∨ H1 b = none := fun b z => z.elim (fun z => .inl (.inl z)) fun z => (st.own b z).imp .inr id
  by_cases hi : i < ds.length
  · refine .inr ⟨y.go _ i H' hP st.ext hi, fun σ2 H2 => ∃ Y2 ρ2 c2, Step ca Y H1 Y2 H2 ∧ EnvOk X.K ca Z Y2 H2 σ2 ρ2 ∧ ChOk X.K ca H2 c2 ∧ DoS X.K ca E Z Dn Y2 H2 (forM' t b (ds.drop (i + 1)) ρ2 c2),
      fun σ2 H2 ⟨Y2, ρ2, c2, q1, q2, q3, q4⟩ => ⟨ds.length - (i + 1), by omega, rfl, hi, Y2, ρ2, c2, q1, q2, q3, q4⟩, fun x H'' hy => ?_⟩
    obtain ⟨keep, rx⟩ := y.yld _ (U Z Y') i H' x H'' ds[i] hg' hP st.ext hy (List.getElem?_eq_getElem hi)
    rw [List.drop_eq_getElem_cons hi] at hd
    have ex : Ext ca H' H'' := .of keep
    obtain ⟨ρ1, hρ, h2⟩ := Do.lift (DoS.expr (show DoS X.K ca E Z Dn Y' H' (((liftO (t ds[i] ρ')) >>= fun ρ1 => b ρ1 >>= fun p => match p.2 with
      | .nx => forM' t b (ds.drop (i + 1)) p.1
      | .ct => forM' t b (ds.drop (i + 1)) p.1
      | .bk => pure (p.1, .nx)
      | .ret d => pure (p.1, .ret d)) c') from hd))
    refine ht Z Y' H'' σ' ρ' ρ1 x ds[i] _ (eo'.ext ex) rx hρ fun σ2 eo2 _ => ?_
    refine ⟨Z, Y', ρ1, c', eo2, co'.ext keep, At.mono (At.bind.mp h2) (fun p c2 h3 => ?_) fun _ _ z => z.step (.of ex)⟩
    intro Y3 σ3 H3 st3 eo3 co3
    have st4 : Step ca Y' H' Y3 H3 := (Step.of ex).trans st3
    obtain ⟨ρ3, ctl⟩ := p
    cases ctl with
    | nx => exact ⟨Y3, ρ3, c2, st.trans st4, eo3, co3, DoS.step st4 h3⟩
    | ct => exact ⟨Y3, ρ3, c2, st.trans st4, eo3, co3, DoS.step st4 h3⟩
    | bk => exact h3 Y3 σ3 H3 st4 eo3 co3
    | ret d => exact h3 Y3 σ3 H3 st4 eo3 co3
  · have ei : i = ds.length := by omega
    subst ei
    rw [List.drop_length] at hd
    exact .inl ⟨y.stop _ H' hP st.ext, hd Y' σ' H' .refl eo' co'⟩
/-! ### while: n turns at most -/
def whileM (c : Ev → M Bool) (body : Sm) : Nat → Sm
  | 0, _ => stuck
  | n + 1, ρ => c ρ >>= fun k => if k = true then (body ρ >>= fun p => match p.2 with
    | .nx => whileM c body n p.1
    | .ct => whileM c body n p.1
    | .bk => pure (p.1, .nx)
    | .ret d => pure (p.1, .ret d)) else pure (ρ, .nx)
theorem s_while {test : Expr} {body : List Stmt} {c : Ev → M Bool} {b : Sm} (n : Ev → Nat) (hp : PassesOwn (model X.prog X.w) X.A X.env X.xe) (hc : PT X test (tT X.K ca E c)) (hb : PSs X body (tS X.K ca E b)) : PS X (.While test body [] pos) (tS X.K ca E fun ρ => whileM c b (n ρ) ρ) := by
  refine ⟨fun pins s σ H Dn I h => (ps_while hp hc hb).run pins s σ H Dn I ?_⟩
  obtain ⟨Z, Y, ρ, c, eo, co, h⟩ := h
  refine ⟨fun m σ' H' => ∃ Y' ρ' c', Step ca Y H Y' H' ∧ EnvOk X.K ca Z Y' H' σ' ρ' ∧ ChOk X.K ca H' c' ∧ DoS X.K ca E Z Dn Y' H' (whileM _ b m ρ' c'), ⟨n ρ, Y, ρ, c, .refl, eo, co, h⟩, ?_⟩
  rintro m σ' H' ⟨Y', ρ', c', st, eo', co', hd⟩
  cases m with
  | zero => exact hd.elim
  | succ m =>
    refine ⟨Z, Y', ρ', c', eo', co', (DoS.expr hd).mono fun k c1 h1 H1 e1 co1 => ?_⟩
    cases k with
    | true =>
      refine iteT ⟨fun σ2 H2 => ∃ Y2 ρ2 c2, Step ca Y H Y2 H2 ∧ EnvOk X.K ca Z Y2 H2 σ2 ρ2 ∧ ChOk X.K ca H2 c2 ∧ DoS X.K ca E Z Dn Y2 H2 (whileM _ b m ρ2 c2), fun σ2 H2 q => ⟨m, Nat.lt_succ_self m, q⟩, ?_⟩
      refine ⟨Z, Y', ρ', c1, eo'.ext e1, co1, At.mono (At.bind.mp h1) (fun p c2 h3 => ?_) fun _ _ z => z.step (.of e1)⟩
      intro Y3 σ3 H3 st3 eo3 co3
      have st4 : Step ca Y' H' Y3 H3 := (Step.of e1).trans st3
      obtain ⟨ρ3, ctl⟩ := p
      cases ctl with
      | nx => exact ⟨Y3, ρ3, c2, st.trans st4, eo3, co3, DoS.step st4 h3⟩
      | ct => exact ⟨Y3, ρ3, c2, st.trans st4, eo3, co3, DoS.step st4 h3⟩
      | bk => exact h3 Y3 σ3 H3 st4 eo3 co3
      | ret d => exact h3 Y3 σ3 H3 st4 eo3 co3
    | false => exact iteF (h1 Y' σ' H1 (.of e1) (eo'.ext e1) co1)
end
end G

set_option Elab.async false
set_option linter.all false
set_option maxRecDepth 100000
set_option maxHeartbeats 4000000
/-! G5: comprehensions, the calls of defs, a def by its body. -/
namespace G
open PySem PySem.Spec PyProof.Rows L2
def wipeE (ρ : Ev) : List Nat → Ev
  | [] => ρ
  | v :: vs => (wipeE ρ vs).set v .no
/-- no error leaves -/
def nx {α : Type} (m : M α) : M α := fun c => match m c with
  | .ok a c' => .ok a c'
  | _ => .stuck
def compM (t : Tg) (cnd : Ev → M Bool) (f : Ev → M D) (ρ : Ev) : List D → M (List D)
  | [] => pure []
  | d :: ds => liftO (t d ρ) >>= fun ρ1 => cnd ρ1 >>= fun b => if b = true then (f ρ1 >>= fun y => compM t cnd f ρ ds >>= fun ys => pure (y :: ys)) else compM t cnd f ρ ds
def eComp (t : Tg) (it : Ev → M (List D)) (cnd : Ev → M Bool) (f : Ev → M D) (vs : List Nat) : Ev → M D := fun ρ => it ρ >>= fun ds =>
  if ds.length ≤ sizeLine then (nx (compM t cnd f (wipeE ρ vs) ds) >>= fun ys => pure (.lst ys)) else stuck
section
variable {K : PySem.W.Frag} {ca : Dr} {E E' : XK} {Z Y : Addr → Prop} {H H1 H' : Hp} {σ : L2.St} {ρ : Ev}
theorem Do.nx {α : Type} {m : M α} {c : Churn} {k : α → Churn → Prop} (h : Do K ca E Z H ((nx m) c) k) : At (m c) k fun _ _ => False := by
  unfold G.nx at h
  cases e : m c with
  | ok a c' => rw [e] at h; exact h
  | exn x c' => rw [e] at h; exact h.elim
  | stuck => rw [e] at h; exact h.elim
theorem At.doE {α : Type} {r : R α} {k : α → Churn → Prop} (h : At r k fun _ _ => False) : Do K ca E Z H r k := At.mono h (fun _ _ z => z) fun _ _ z => z.elim
theorem EnvOk.wipe (e : EnvOk K ca Z Y H σ ρ) : ∀ vs : List Nat, EnvOk K ca Z Y H (L2.wipe σ vs) (wipeE ρ vs)
  | [] => e
  | v :: vs => (EnvOk.wipe e vs).forget v
theorem EnvOk.blk (e : EnvOk K ca Z Y H σ ρ) {D : Addr} (n : H D = none) (nca : ca ≠ D) (ncc : ca.cc ≠ D) (x : Ext ca H H') {o : HO} (hD : H' D = some o) : EnvOk K ca Z (fun b => Y b ∨ b = D) H' σ ρ := by
  have g : ∀ b, U Z (fun b => Y b ∨ b = D) b → U Z Y b ∨ H b = none := fun b z => z.elim (fun z => .inl (.inl z)) fun z => z.elim (fun z => .inl (.inr z)) fun z => .inr (z ▸ n)
  refine ⟨⟨.inl e.zca, fun z => z.elim (fun z => e.zok.zcc (.inl z)) fun z => z.elim (fun z => e.zok.zcc (.inr z)) ncc, fun b z => ?_⟩, e.zca, fun z => z.elim e.yca nca, e.len, fun i d h => ?_, fun i ds h => ?_, fun b z q => z.elim (fun z => e.dis b z q) fun z => ?_, e.inj⟩
  · rcases z with z | z | z
    · exact x.thereS (e.zok.zin b (.inl z))
    · exact x.thereS (e.zok.zin b (.inr z))
    · exact ⟨o, z ▸ hD⟩
  · obtain ⟨v, h1, h2⟩ := e.val i d h
    exact ⟨v, h1, h2.later g e.zc x⟩
  · obtain ⟨a, h1, h2, h3⟩ := e.own i ds h
    refine ⟨a, h1, .inl h2, ?_⟩
    exact ((h3.grow (Z' := fun b => U Z Y b ∨ U Z (fun b => Y b ∨ b = D) b) fun b z => z.elim .inl (g b)).ext x (fun b z => .inl (e.zc b z)) fun z => e.yca (z ▸ h2)).anti fun b z => .inr z
  · obtain ⟨o, h⟩ := e.zok.zin b (.inl q)
    rw [z, n] at h
    cases h
end
theorem wipe_in {σ : L2.St} {j : Nat} (hj : j < σ.length) : ∀ {vs : List Nat}, j ∈ vs → (L2.wipe σ vs)[j]? = some none
  | v :: vs, h => by
    show ((L2.wipe σ vs).set v none)[j]? = some none
    by_cases e : v = j
    · subst e
      rw [List.getElem?_set_self (by rw [wipe_length]; exact hj)]
    · rw [List.getElem?_set_ne e]
      exact wipe_in hj ((List.mem_cons.mp h).resolve_left fun z => e z.symm)
theorem wipe_same {σ σ2 : L2.St} {is vs : List Nat} (h : OnlyAt is (L2.wipe σ vs) σ2) (hs : ∀ i ∈ is, i ∈ vs) : L2.wipe σ2 vs = L2.wipe σ vs := by
  have hl : σ2.length = σ.length := by rw [h.1, wipe_length]
  refine List.ext_getElem? fun j => ?_
  by_cases hj : j ∈ vs
  · by_cases hb : j < σ.length
    · rw [wipe_in (by rw [hl]; exact hb) hj, wipe_in hb hj]
    · rw [List.getElem?_eq_none (by rw [wipe_length, hl]; omega), List.getElem?_eq_none (by rw [wipe_length]; omega)]
  · rw [wipe_out hj, h.2 j fun z => hj (hs j z)]
/-- an expression that makes a new list or dict -/
def tF (K : PySem.W.Frag) (ca : Dr) (E : XK) (f : Ev → M D) : TE := fun σ H Q => ∃ Z Y ρ c, EnvOk K ca Z Y H σ ρ ∧ ChOk K ca H c ∧
  Do K ca E (U Z Y) H (f ρ c) fun d c' => ∀ p H', H p = none → Ext ca H H' → Top K ca (U Z fun b => Y b ∨ b = p) H' p d → ChOk K ca H' c' → Q (.ref p) H'
theorem Top.rl {K : PySem.W.Frag} {ca : Dr} {W : Addr → Prop} {H : Hp} {a : Addr} {d : D} (t : Top K ca W H a d) (n : ¬ W a) : Rl K ca W H (.ref a) d := by
  unfold Top at t
  split at t
  · obtain ⟨vs, h1, h2⟩ := t
    exact .lst n h1 h2
  · obtain ⟨kvs, h1, e, nd, h2⟩ := t
    subst e
    exact .dic n h1 h2
  · exact t.elim
theorem tF_of {K : PySem.W.Frag} {ca : Dr} {E : XK} {f : Ev → M D} {σ : L2.St} {H : Hp} {Q : VK} (h : tD K ca E f σ H Q) : tF K ca E f σ H Q := by
  obtain ⟨Z, Y, ρ, c, eo, co, h⟩ := h
  exact ⟨Z, Y, ρ, c, eo, co, h.mono fun d c' q p H' n x t co' => q _ H' x ((t.anti fun b z => z.elim .inl fun z => .inr (.inl z)).rl (eo.zok.free n)) co'⟩
section
variable {X : Cx} {ca : Dr} {E : XK} {pos : Pos}
theorem d_of {e : Expr} {f : Ev → M D} (h : PE X e (tF X.K ca E f)) : PE X e (tD X.K ca E f) := ⟨fun pins s σ H Q I q => h.run pins s σ H Q I (tF_of q)⟩
theorem comp_runF {wi : TI} {g : TG} {t : Tg} {is vs : List Nat} {it : Ev → M (List D)} {cnd : Ev → M Bool} {f : Ev → M D} (hw : wi = tI X.K ca E it) (ht : TgD X.K ca g t is) (hv : ∀ i ∈ is, i ∈ vs)
    {σ : L2.St} {H : Hp} {Q : VK} (h : tF X.K ca E (eComp t it cnd f vs) σ H Q) : tLc wi g (tT X.K ca E0 cnd) (tD X.K ca E0 f) vs σ H Q := by
  subst hw
  obtain ⟨Z, Y, ρ, c, eo, co, h⟩ := h
  refine ⟨Z, Y, ρ, c, eo, co, (Do.bind h).mono fun ds c1 h1 J H1 e1 co1 y => fun A nA => ?_⟩
  by_cases hz : ds.length ≤ sizeLine
  · rw [if_pos hz] at h1
    have h2 := (Do.bind h1).nx
    have eo1 := eo.ext e1
    have nca : ca ≠ A := fun z => co1.ne nA z.symm
    refine ⟨fun i m H' => m = ds.length - i ∧ i ≤ ds.length ∧ ∃ acc ys c', H' A = some (.lst acc) ∧ Ext ca H1 H' ∧ ChOk X.K ca H' c' ∧ RlA X.K ca (U Z fun b => Y b ∨ b = A) H' acc ys ∧ ys.length ≤ i ∧
        At (compM t cnd f (wipeE ρ vs) (ds.drop i) c') (fun zs c2 => ∀ p H', H p = none → Ext ca H H' → Top X.K ca (U Z fun b => Y b ∨ b = p) H' p (.lst (ys ++ zs)) → ChOk X.K ca H' c2 → Q (.ref p) H') fun _ _ => False,
      ⟨ds.length, by omega, by omega, [], [], c1, upd_same, ExtP.new nA, co1.new nA, .nil, Nat.le_refl _, h2⟩, ?_⟩
    rintro i m H' ⟨rfl, hi', acc, ys, c', hA, x1, co', ra, hl, hd⟩
    have xH : Ext ca H H' := e1.trans x1
    have eoB : EnvOk X.K ca Z (fun b => Y b ∨ b = A) H' (L2.wipe σ vs) (wipeE ρ vs) := (eo1.blk nA nca (fun z => by have q := co1.2; rw [z, nA] at q; cases q) x1 hA).wipe vs
    by_cases hi : i < ds.length
    · refine .inr ⟨y.go _ i H' eo.zc x1 hi, fun H2 => ∃ acc ys c', H2 A = some (.lst acc) ∧ Ext ca H1 H2 ∧ ChOk X.K ca H2 c' ∧ RlA X.K ca (U Z fun b => Y b ∨ b = A) H2 acc ys ∧ ys.length ≤ i + 1 ∧
        At (compM t cnd f (wipeE ρ vs) (ds.drop (i + 1)) c') (fun zs c2 => ∀ p H', H p = none → Ext ca H H' → Top X.K ca (U Z fun b => Y b ∨ b = p) H' p (.lst (ys ++ zs)) → ChOk X.K ca H' c2 → Q (.ref p) H') fun _ _ => False,
        fun H2 ⟨acc, ys, c', q⟩ => ⟨ds.length - (i + 1), by omega, rfl, hi, acc, ys, c', q⟩, fun x H'' hy => ?_⟩
      have gB : ∀ b, U Z (fun b => Y b ∨ b = A) b → U Z Y b ∨ H1 b = none := fun b z => z.elim (fun z => .inl (.inl z)) fun z => z.elim (fun z => .inl (.inr z)) fun z => .inr (z ▸ nA)
      obtain ⟨keep, rx⟩ := y.yld _ (U Z fun b => Y b ∨ b = A) i H' x H'' ds[i] gB eo.zc x1 hy (List.getElem?_eq_getElem hi)
      have ex : Ext ca H' H'' := .of keep
      rw [List.drop_eq_getElem_cons hi] at hd
      have hd1 := At.bind.mp hd
      cases hρ : t ds[i] (wipeE ρ vs) with
      | none => rw [hρ] at hd1; exact hd1.elim
      | some ρ1 =>
        rw [hρ] at hd1
        refine ht Z _ H'' _ _ ρ1 x ds[i] _ (eoB.ext ex) rx hρ fun σ2 eo2 o2 => ⟨wipe_same o2 hv, ?_⟩
        refine ⟨Z, _, ρ1, c', eo2, co'.ext keep, At.doE (At.mono (At.bind.mp hd1) (fun b c2 h3 H3 e3 co3 => ?_) fun _ _ z => z)⟩
        cases b with
        | false => exact iteF ⟨acc, ys, c2, e3.at_ (keep _ _ hA) (.inl fun z => nca z.symm), (x1.trans ex).trans e3, co3, ra.ext (ex.trans e3) eoB.zc, by omega, h3⟩
        | true =>
          refine iteT ⟨Z, _, ρ1, c2, eo2.ext e3, co3, At.doE (At.mono (At.bind.mp h3) (fun d c4 h4 v H4 e4 r4 co4 => ?_) fun _ _ z => z)⟩
          have h4' := At.bind.mp h4
          have hA4 : H4 A = some (.lst acc) := e4.at_ (e3.at_ (keep _ _ hA) (.inl fun z => nca z.symm)) (.inl fun z => nca z.symm)
          have xD : ExtP (fun b => b = A) H4 (upd H4 A (.lst (acc ++ [v]))) := fun b o q => by
            by_cases hb : b = A
            · subst hb
              rw [hA4] at q; cases q
              exact .inr ⟨rfl, trivial, _, upd_same, trivial⟩
            · exact .inl (by rw [upd_ne hb]; exact q)
          have ra4 := ra.ext ((ex.trans e3).trans e4) eoB.zc
          refine ⟨acc, hA4, by rw [ra.length]; omega, acc ++ [v], ys ++ [d], c4, upd_same, ?_, ?_, (ra4.snoc r4).ext xD fun b z => .inr (.inr z), by rw [List.length_append]; simp; omega, ?_⟩
          · intro b o q
            have nb : b ≠ A := fun z => by rw [z, nA] at q; cases q
            rw [upd_ne nb]
            exact (((x1.trans ex).trans e3).trans e4) b o q
          · have nc : ca.cc ≠ A := fun z => by
              have q := co1.2
              rw [z, nA] at q; cases q
            exact ⟨by rw [upd_ne nca]; exact co4.1, by rw [upd_ne nc]; exact co4.2⟩
          · exact At.mono h4' (fun zs c5 h5 => by rw [List.append_assoc]; exact h5) fun _ _ z => z
    · have ei : i = ds.length := by omega
      subst ei
      rw [List.drop_length] at hd
      have hd' : ∀ p H', H p = none → Ext ca H H' → Top X.K ca (U Z fun b => Y b ∨ b = p) H' p (.lst (ys ++ [])) → ChOk X.K ca H' c' → Q (.ref p) H' := hd
      rw [List.append_nil] at hd'
      exact .inl ⟨y.stop _ H' eo.zc x1, hd' A H' (e1.there nA) xH ⟨acc, hA, ra⟩ co'⟩
  · rw [if_neg hz] at h1; exact h1.elim
theorem comp_run {wi : TI} {g : TG} {t : Tg} {is vs : List Nat} {it : Ev → M (List D)} {cnd : Ev → M Bool} {f : Ev → M D} (hw : wi = tI X.K ca E it) (ht : TgD X.K ca g t is) (hv : ∀ i ∈ is, i ∈ vs)
    {σ : L2.St} {H : Hp} {Q : VK} (h : tD X.K ca E (eComp t it cnd f vs) σ H Q) : tLc wi g (tT X.K ca E0 cnd) (tD X.K ca E0 f) vs σ H Q := comp_runF hw ht hv (tF_of h)
theorem dts_nil : PTs X [] (tT X.K ca E fun _ => pure true) := by
  refine ⟨fun pins s σ H Q I h => pts_nil.run pins s σ H Q I ?_⟩
  obtain ⟨Z, Y, ρ, c, eo, co, h⟩ := h
  exact h H .refl co
theorem dts_one {c : Expr} {cnd : Ev → M Bool} (h : PT X c (tT X.K ca E cnd)) : PTs X [c] (tT X.K ca E cnd) := pts_one h
theorem d_comp {elt tg iter : Expr} {ifs : List Expr} {scope : Scope} (own : List (Str × Nat)) {g : TG} {t : Tg} {is : List Nat} {it : Ev → M (List D)} {cnd : Ev → M Bool} {f : Ev → M D} (hc : X.calm = true) (hN : X.N.Nodup) (ok : BlkOk X.N X.env.scope scope own)
    (hi : PI X tg iter (tI X.K ca E it)) (ht : TgD X.K ca g t is) (hg : ∀ (s : Shared) (H : Hp) (C : Addr) (cl : List (Str × Addr)) (fp : List Addr), PG (X.blk s H scope (compEnvC scope cl C X.env) fp) tg g)
    (hcn : ∀ (s : Shared) (H : Hp) (C : Addr) (cl : List (Str × Addr)) (fp : List Addr), PTs (X.blk s H scope (compEnvC scope cl C X.env) fp) ifs (tT X.K ca E0 cnd))
    (he : ∀ (s : Shared) (H : Hp) (C : Addr) (cl : List (Str × Addr)) (fp : List Addr), PE (X.blk s H scope (compEnvC scope cl C X.env) fp) elt (tD X.K ca E0 f)) (hv : ∀ i ∈ is, i ∈ own.map (·.2) := by decide) (hs : ∀ x, foldedSetIterable iter X.env x = pure x := by intro _; rfl) :
    PE X (.ListComp elt [⟨tg, iter, ifs, 0⟩] scope pos) (tD X.K ca E (eComp t it cnd f (own.map (·.2)))) :=
  ⟨fun pins s σ H Q I h => (pe_lc (own := own) hc hN hi ok hg hcn he hs).run pins s σ H Q I (comp_run rfl ht hv h)⟩
theorem s_setComp (i : Nat) {y : Str} {py spos : Pos} {elt tg iter : Expr} {ifs : List Expr} {scope : Scope} (own : List (Str × Nat)) {g : TG} {t : Tg} {is : List Nat} {it : Ev → M (List D)} {cnd : Ev → M Bool} {f : Ev → M D} (hc : X.calm = true) (hN : X.N.Nodup) (ok : BlkOk X.N X.env.scope scope own)
    (hi : PI X tg iter (tI X.K ca E it)) (ht : TgD X.K ca g t is) (hg : ∀ (s : Shared) (H : Hp) (C : Addr) (cl : List (Str × Addr)) (fp : List Addr), PG (X.blk s H scope (compEnvC scope cl C X.env) fp) tg g)
    (hcn : ∀ (s : Shared) (H : Hp) (C : Addr) (cl : List (Str × Addr)) (fp : List Addr), PTs (X.blk s H scope (compEnvC scope cl C X.env) fp) ifs (tT X.K ca E0 cnd))
    (he : ∀ (s : Shared) (H : Hp) (C : Addr) (cl : List (Str × Addr)) (fp : List Addr), PE (X.blk s H scope (compEnvC scope cl C X.env) fp) elt (tD X.K ca E0 f)) (hsw : swapsWith (.ListComp elt [⟨tg, iter, ifs, 0⟩] scope pos) (some (.Name y py)) spos.line X.env = pure true)
    (hy : X.N[i]? = some y := by rfl) (hyl : X.env.scope.names.lookup y = some .local := by rfl) (hv : ∀ i ∈ is, i ∈ own.map (·.2) := by decide) (hs : ∀ x, foldedSetIterable iter X.env x = pure x := by intro _; rfl) :
    PS X (.Assign [.Name y py] (.ListComp elt [⟨tg, iter, ifs, 0⟩] scope pos) spos) (tS X.K ca E (sAsg (gN i) (eComp t it cnd f (own.map (·.2))))) := by
  refine ⟨fun pins s σ H Dn I h => (ps_setLc (own := own) hc hN hy hyl hsw hi ok hg hcn he hs).run pins s σ H Dn I ?_⟩
  have h1 := asg_run (f := eComp t it cnd f (own.map (·.2))) (tg_name (X := X) (ca := ca) i) rfl h
  exact comp_run (Q := fun x H1 => gName i x σ H1 Dn.nx) rfl ht hv (show tD X.K ca E (eComp t it cnd f (own.map (·.2))) σ H _ from h1)
end

/-! ### defs: where no repr runs around -/
/-- the def at f keeps the promise, called where no repr is under way -/
structure FnG (P : Program) (w : World) (K : PySem.W.Frag) (mg : Str → Option Value) (base : Heap) (CX : CXT) (k : Nat) (f : Addr) (fd : FuncData) (ps : List Str) (sp : Sp) : Prop where
  arity : ∀ xs H Q E, sp xs H Q E → xs.length = ps.length
  runs : ∀ (A : Around) (outer : List Env) (s : Shared) (H : Hp) (args : Args) (us : List Value) (xs : List V) (Q : VK) (E : XK), A.guards = some [] → Room k A →
    Env0 P w K mg base A outer s H → BindsTo s fd args (ps.zip us) → Vals xs us → sp xs H Q E → codeAny (model P w) A (.call (.ref f) args) (CR CX outer P w H s Q E) s
theorem FnG.mono {P : Program} {w : World} {K : PySem.W.Frag} {mg : Str → Option Value} {base : Heap} {CX : CXT} {j k : Nat} {f : Addr} {fd : FuncData} {ps : List Str} {sp : Sp} (F : FnG P w K mg base CX j f fd ps sp) (h : j ≤ k) : FnG P w K mg base CX k f fd ps sp :=
  ⟨F.arity, fun A o s H a us xs Q E g room => F.runs A o s H a us xs Q E g (room.mono h)⟩
theorem FnOk.g {P : Program} {w : World} {K : PySem.W.Frag} {mg : Str → Option Value} {base : Heap} {CX : CXT} {k : Nat} {f : Addr} {fd : FuncData} {ps : List Str} {sp : Sp} (F : FnOk P w K mg base CX k f fd ps sp) : FnG P w K mg base CX k f fd ps sp :=
  ⟨F.len, fun A o s H a us xs Q E _ room => F.run A o s H a us xs Q E room⟩
theorem CR.back {X : Cx} {CX : CXT} {E : XK} {pins : List (Addr × Obj)} {σ : L2.St} {H : Hp} {s : Shared} {Q : VK} (hx : Passes CX X E) (I : L2.Inv X pins σ H s) {r : Result} {s' : Shared} (h : CR CX X.stack X.prog X.w H s Q E r s') :
    wants (EP X pins σ Q) X.xe r s' := by
  match r, h with
  | .error e, h => exact hx pins σ H s e s' I h
  | .ok (.ret u), h => exact I.after h
  | .ok .next, h => exact h.elim
  | .ok .brk, h => exact h.elim
  | .ok .cont, h => exact h.elim
section
variable {X : Cx} {CX : CXT} {E : XK} {k : Nat} {f : Addr} {fd : FuncData} {ps kn : List Str} {sp : Sp}
theorem runG {pins : List (Addr × Obj)} {σ : L2.St} {H : Hp} {s : Shared} {Q : VK} {us ds : List Value} {vs dvs : List V} (F : FnG X.prog X.w X.K X.mg X.base CX k f fd ps sp) (gd : X.A.guards = some []) (hr : Room k X.A) (hb : Binds X.K fd ps ds) (hd : Vals dvs ds) (hx : Passes CX X E)
    (I : L2.Inv X pins σ H s) (r : Vals vs us) (h : sp (vs ++ dvs) H Q E) : wpAny (model X.prog X.w) X.A (call (.ref f) us) (EP X pins σ Q) X.xe s :=
  have rr := r.append hd
  wpAny_call (codeAny_mono (F.runs X.A X.stack s H ⟨us, []⟩ _ _ Q E gd hr I.env0 (hb s us I.kIn (rr.length.symm.trans (F.arity _ _ _ _ h))) rr h) fun _ _ => CR.back hx I)
theorem runGK {pins : List (Addr × Obj)} {σ : L2.St} {H : Hp} {s : Shared} {Q : VK} {us ws : List Value} {vs zs : List V} {m : Nat} {g : List Value → List Value → List Value} {gV : List V → List V → List V} (F : FnG X.prog X.w X.K X.mg X.base CX k f fd ps sp) (gd : X.A.guards = some [])
    (hr : Room k X.A) (hb : KBn X.K fd ps m kn g gV) (hx : Passes CX X E) (I : L2.Inv X pins σ H s) (r : Vals vs us) (rz : Vals zs ws) (l1 : vs.length = m) (l2 : zs.length = kn.length) (h : sp (gV vs zs) H Q E) :
    wpAny (model X.prog X.w) X.A (call (.ref f) us (kn.zip ws)) (EP X pins σ Q) X.xe s :=
  wpAny_call (codeAny_mono (F.runs X.A X.stack s H ⟨us, kn.zip ws⟩ _ _ Q E gd hr I.env0 (hb.to s us ws I.kIn (r.length.symm.trans l1) (rz.length.symm.trans l2)) (hb.rel r rz) h) fun _ _ => CR.back hx I)
end
/-! ### defs -/
/-- a def's promise: called with trees it does F -/
def spD (K : PySem.W.Frag) (n : Nat) (F : List D → M D) : Sp := fun vs H Q E => ∃ (ca : Dr) (Z : Addr → Prop) (c : Churn) (ds : List D), ZOk ca Z H ∧ ChOk K ca H c ∧ RlA K ca Z H vs ds ∧ ds.length = n ∧
  Do K ca E Z H (F ds c) fun d c' => ∀ v H', Ext ca H H' → Rl K ca Z H' v d → ChOk K ca H' c' → Q v H'
theorem spD_len {K : PySem.W.Frag} {n : Nat} {F : List D → M D} {vs : List V} {H : Hp} {Q : VK} {E : XK} (h : spD K n F vs H Q E) : vs.length = n := by
  obtain ⟨ca, Z, c, ds, _, _, r, e, _⟩ := h
  rw [r.length, e]
def eCall (n : Nat) (F : List D → M D) (dds : List D) (fs : Ev → M (List D)) : Ev → M D := fun ρ => fs ρ >>= fun xs => if (xs ++ dds).length = n then F (xs ++ dds) else stuck
/-- the arguments by their places -/
def pick {α : Type} (ix : List Nat) (xs : List α) : List α := ix.filterMap fun i => xs[i]?
def eCallK (n m k : Nat) (ix : List Nat) (F : List D → M D) (fs ks : Ev → M (List D)) : Ev → M D := fun ρ => fs ρ >>= fun xs => ks ρ >>= fun zs => if xs.length = m ∧ zs.length = k ∧ (pick ix (xs ++ zs)).length = n then F (pick ix (xs ++ zs)) else stuck
section
variable {X : Cx} {ca : Dr} {E : XK} {pos : Pos}
theorem RlA.pick {K : PySem.W.Frag} {Z : Addr → Prop} {H : Hp} {vs : List V} {ds : List D} (r : RlA K ca Z H vs ds) : ∀ ix : List Nat, RlA K ca Z H (pick ix vs) (pick ix ds)
  | [] => .nil
  | i :: ix => by
    have ih := RlA.pick r ix
    unfold G.pick at ih ⊢
    rw [List.filterMap_cons, List.filterMap_cons]
    cases hd : ds[i]? with
    | none =>
      have : vs[i]? = none := by
        rw [List.getElem?_eq_none_iff] at hd ⊢
        rw [r.length]; exact hd
      rw [this]
      exact ih
    | some d =>
      obtain ⟨v, hv, rv⟩ := r.get hd
      rw [hv]
      exact .cons rv ih
theorem Vals.pick {vs : List V} {us : List Value} (r : Vals vs us) : ∀ ix : List Nat, Vals (pick ix vs) (pick ix us)
  | [] => .nil
  | i :: ix => by
    have ih := Vals.pick r ix
    unfold G.pick at ih ⊢
    rw [List.filterMap_cons, List.filterMap_cons]
    cases hd : vs[i]? with
    | none =>
      rw [r.none_of hd]
      exact ih
    | some d =>
      obtain ⟨v, hv, rv⟩ := r.get hd
      rw [hv]
      exact .cons rv ih
variable {CX : CXT} {k n : Nat} {fA : Addr} {fd : FuncData} {ps : List Str} {F : List D → M D} {x : Str} {p : Pos} {e : Expr} {es : List Expr} {fs ks : Ev → M (List D)}
theorem d_call {dvs : List V} {dds : List D} {dus : List Value} (Fk : FnG X.prog X.w X.K X.mg X.base CX k fA fd ps (spD X.K n F)) (gd : X.A.guards = some []) (hr : Room k X.A) (hm : X.mg x = some (.ref fA)) (hk : PySem.W.keepIn X.K (.ref fA) = true) (hb : Binds X.K fd ps dus) (hd : Vals dvs dus) (hx : Passes CX X E)
    (hdd : ∀ Z H, RlA X.K ca Z H dvs dds) (ha : PA X (e :: es) (tAs X.K ca E fs)) (hg : Gl X x := by rfl) (hdb : (x == ("__debug__" : Str)) = false := by decide)
    (he : starEach (e :: es) X.env = (false, eval e X.env) :: starEach es X.env := by rfl) (hpl : (backTo pos (starEach es X.env)).any (·.1) = false := by rfl) : PE X (.Call (.Name x p) (e :: es) [] pos) (tD X.K ca E (eCall n F dds fs)) := by
  refine ⟨fun pins s σ H Q I h => ?_⟩
  have h' : tAs X.K ca E fs σ H fun vs H1 => spD X.K n F (vs ++ dvs) H1 Q E := ?_
  · refine wpAny_Call_Name_kw (ld_glob I hg hm (PySem.W.callWith_K (h₀ := X.base) I.ok.mod.kin hk ?_ he hpl) hdb)
    exact thn (ha.run pos pins s σ H _ I h') fun us s1 ⟨vs, H1, I1, r, q⟩ => ⟨I1.kIn, runG Fk gd hr hb hd hx I1 r q⟩
  obtain ⟨Z, Y, ρ, c, eo, co, h⟩ := h
  refine ⟨Z, Y, ρ, c, eo, co, (Do.bind h).mono fun ds c1 h1 vs H1 e1 r1 co1 => ?_⟩
  by_cases hl : (ds ++ dds).length = n
  · rw [if_pos hl] at h1
    exact ⟨ca, U Z Y, c1, ds ++ dds, eo.zok.ext e1, co1, r1.append (hdd _ _), hl, (h1.ext e1).mono fun d c2 h2 v H' e' r' co' => h2 v H' (e1.trans e') r' co'⟩
  · rw [if_neg hl] at h1; exact h1.elim
/-! keywords -/
structure PKD (X : Cx) (ca : Dr) (E : XK) (kws : List Keyword) (ks : Ev → M (List D)) : Prop where
  pk : PK X kws (tAs X.K ca E ks)
variable {kws : List Keyword} {kn : List Str} {nm : Option Str} {kpos : Pos} {f1 : Ev → M D}
theorem dk_nil : PK X [] (tAs X.K ca E aNil) := by
  refine ⟨fun p pins s σ H Q I h => pk_nil.run p pins s σ H Q I ?_⟩
  obtain ⟨Z, Y, ρ, c, eo, co, h⟩ := h
  exact h [] H .refl .nil co
theorem dk_cons (ha : PE X e (tD X.K ca E f1)) (hr : PK X kws (tAs X.K ca E ks)) : PK X (⟨nm, e, kpos⟩ :: kws) (tAs X.K ca E (aCons f1 ks)) := by
  refine ⟨fun p pins s σ H Q I h => (pk_cons ha hr).run p pins s σ H Q I ?_⟩
  obtain ⟨Z, Y, ρ, c, eo, co, h⟩ := h
  refine ⟨Z, Y, ρ, c, eo, co, (Do.bind h).mono fun d c1 h1 x H1 e1 r1 co1 => ?_⟩
  refine ⟨Z, Y, ρ, c1, eo.ext e1, co1, ((Do.bind h1).ext e1).mono fun ds c2 h2 ys H2 e2 r2 co2 => ?_⟩
  exact h2 (x :: ys) H2 (e1.trans e2) (.cons (r1.ext e2 eo.zc) r2) co2
/-- f(e, .., k = v, ..) where all parameters are given -/
theorem kb_of {K : PySem.W.Frag} {m : Nat} {ix : List Nat} (h : ∀ (s : Shared) (us ws : List Value), K.In s.heap → us.length = m → ws.length = kn.length → BindsTo s fd ⟨us, kn.zip ws⟩ (ps.zip (pick ix (us ++ ws)))) :
    KBn K fd ps m kn (fun us ws => pick ix (us ++ ws)) (fun vs zs => pick ix (vs ++ zs)) := ⟨h, fun r1 r2 => Vals.pick (r1.append r2) ix⟩
theorem d_callK {m : Nat} {ix : List Nat} (Fk : FnG X.prog X.w X.K X.mg X.base CX k fA fd ps (spD X.K n F)) (gd : X.A.guards = some []) (hr : Room k X.A) (hm : X.mg x = some (.ref fA)) (hk : PySem.W.keepIn X.K (.ref fA) = true)
    (hb : KBn X.K fd ps m kn (fun us ws => pick ix (us ++ ws)) (fun vs zs => pick ix (vs ++ zs))) (hx : Passes CX X E) (ha : PA X (e :: es) (tAs X.K ca E fs)) (hkw : PK X kws (tAs X.K ca E ks)) (hg : Gl X x := by rfl)
    (hall : (backToKw pos (keywordEach kws X.env)).all (·.1.isSome) = true := by rfl) (hks : (backToKw pos (keywordEach kws X.env)).filterMap (·.1) = kn := by rfl) (hdb : (x == ("__debug__" : Str)) = false := by decide)
    (he : starEach (e :: es) X.env = (false, eval e X.env) :: starEach es X.env := by rfl) (hpl : ((backTo pos (starEach (e :: es) X.env)).any (·.1) || (backToKw pos (keywordEach kws X.env)).any (·.1.isNone)) = false := by rfl) :
    PE X (.Call (.Name x p) (e :: es) kws pos) (tD X.K ca E (eCallK n m kn.length ix F fs ks)) := by
  refine ⟨fun pins s σ H Q I h => ?_⟩
  have h' : tAs X.K ca E fs σ H fun vs H1 => tAs X.K ca E ks σ H1 fun zs H2 => vs.length = m ∧ zs.length = kn.length ∧ spD X.K n F (pick ix (vs ++ zs)) H2 Q E := ?_
  · refine wpAny_Call_Name_kw (ld_glob I hg hm (PySem.W.callWith_KW (h₀ := X.base) I.ok.mod.kin hk hall ?_ hpl he) hdb)
    refine thn (ha.run pos pins s σ H _ I h') fun us s1 ⟨vs, H1, I1, r, q⟩ => thn (hkw.run pos pins s1 σ H1 _ I1 q) fun ws s2 ⟨zs, H2, I2, rz, l1, l2, q2⟩ => ⟨I2.kIn, ?_⟩
    rw [hks]
    exact runGK Fk gd hr hb hx I2 r rz l1 l2 q2
  obtain ⟨Z, Y, ρ, c, eo, co, h⟩ := h
  refine ⟨Z, Y, ρ, c, eo, co, (Do.bind h).mono fun ds c1 h1 vs H1 e1 r1 co1 => ?_⟩
  refine ⟨Z, Y, ρ, c1, eo.ext e1, co1, ((Do.bind h1).ext e1).mono fun es c2 h2 zs H2 e2 r2 co2 => ?_⟩
  by_cases hl : ds.length = m ∧ es.length = kn.length ∧ (pick ix (ds ++ es)).length = n
  · rw [if_pos hl] at h2
    have e12 := e1.trans e2
    exact ⟨by rw [r1.length, hl.1], by rw [r2.length, hl.2.1], ca, U Z Y, c2, _, eo.zok.ext e12, co2, ((r1.ext e2 eo.zc).append r2).pick ix, hl.2.2, (h2.ext e12).mono fun d c3 h3 v H' e' r' co' => h3 v H' (e12.trans e') r' co'⟩
  · rw [if_neg hl] at h2; exact h2.elim
theorem d_callK0 {ix : List Nat} (Fk : FnG X.prog X.w X.K X.mg X.base CX k fA fd ps (spD X.K n F)) (gd : X.A.guards = some []) (hr : Room k X.A) (hm : X.mg x = some (.ref fA)) (hk : PySem.W.keepIn X.K (.ref fA) = true)
    (hb : KBn X.K fd ps 0 kn (fun us ws => pick ix (us ++ ws)) (fun vs zs => pick ix (vs ++ zs))) (hx : Passes CX X E) (hkw : PK X kws (tAs X.K ca E ks)) (hg : Gl X x := by rfl)
    (hall : (backToKw pos (keywordEach kws X.env)).all (·.1.isSome) = true := by rfl) (hks : (backToKw pos (keywordEach kws X.env)).filterMap (·.1) = kn := by rfl) (hdb : (x == ("__debug__" : Str)) = false := by decide)
    (hpl : ((backTo pos (starEach [] X.env)).any (·.1) || (backToKw pos (keywordEach kws X.env)).any (·.1.isNone)) = false := by rfl) :
    PE X (.Call (.Name x p) [] kws pos) (tD X.K ca E (eCallK n 0 kn.length ix F aNil ks)) := by
  refine ⟨fun pins s σ H Q I h => ?_⟩
  refine wpAny_Call_Name_kw (ld_glob I hg hm ?_ hdb)
  refine PySem.W.callWith_KW0 (h₀ := X.base) I.ok.mod.kin hk hall ?_ hpl
  have h' : tAs X.K ca E ks σ H fun zs H2 => zs.length = kn.length ∧ spD X.K n F (pick ix ([] ++ zs)) H2 Q E := by
    obtain ⟨Z, Y, ρ, c, eo, co, h⟩ := h
    have h := Do.bind (show Do X.K ca E (U Z Y) H ((ks ρ >>= fun zs => if ([] : List D).length = 0 ∧ zs.length = kn.length ∧ (pick ix ([] ++ zs)).length = n then F (pick ix ([] ++ zs)) else stuck) c) _ from h)
    refine ⟨Z, Y, ρ, c, eo, co, h.mono fun es c2 h2 zs H2 e2 r2 co2 => ?_⟩
    by_cases hl : ([] : List D).length = 0 ∧ es.length = kn.length ∧ (pick ix ([] ++ es)).length = n
    · rw [if_pos hl] at h2
      exact ⟨by rw [r2.length, hl.2.1], ca, U Z Y, c2, _, eo.zok.ext e2, co2, ((RlA.nil).append r2).pick ix, hl.2.2, (h2.ext e2).mono fun d c3 h3 v H' e' r' co' => h3 v H' (e2.trans e') r' co'⟩
    · rw [if_neg hl] at h2; exact h2.elim
  refine thn (hkw.run pos pins s σ H _ I h') fun ws s2 ⟨zs, H2, I2, rz, l2, q2⟩ => ⟨I2.kIn, ?_⟩
  rw [hks]
  exact runGK (us := []) (vs := []) Fk gd hr hb hx I2 .nil rz rfl l2 q2
end
/-! a def by its body -/
def runDef (N : Nat) (g : Sm) : List D → M D := fun ds => g (ds.map Sl.val ++ List.replicate (N - ds.length) Sl.no) >>= fun p => match p.2 with
  | .ret d => pure d
  | .nx => pure .non
  | _ => stuck
theorem env_start {K : PySem.W.Frag} {ca : Dr} {Z : Addr → Prop} {H : Hp} {N : List Str} {vs : List V} {ds : List D} (z : ZOk ca Z H) (r : RlA K ca Z H vs ds) : EnvOk K ca Z (fun _ => False) H (start N vs) (ds.map Sl.val ++ List.replicate (N.length - ds.length) Sl.no) := by
  have hl := r.length
  have nown : ∀ (i : Nat) (es : D), (ds.map Sl.val ++ List.replicate (N.length - ds.length) Sl.no)[i]? ≠ some (.own es) := fun i es h => by
    have := List.mem_of_getElem? h
    rcases List.mem_append.mp this with h | h
    · obtain ⟨d, _, e⟩ := List.mem_map.mp h
      cases e
    · exact absurd (List.eq_of_mem_replicate h) (by intro z; cases z)
  refine ⟨⟨.inl z.zca, fun h => h.elim z.zcc False.elim, fun b h => h.elim (z.zin b) False.elim⟩, z.zca, id, ?_, fun i d h => ?_, fun i es h => absurd h (nown i es), fun _ h => h.elim, fun i j a es es' h => absurd h (nown i es)⟩
  · unfold L2.start
    simp [hl]
  · by_cases hi : i < ds.length
    · rw [List.getElem?_append_left (by simpa using hi), List.getElem?_map] at h
      cases hd : ds[i]? with
      | none => rw [hd] at h; cases h
      | some d' =>
        rw [hd] at h
        cases h
        obtain ⟨v, hv, rv⟩ := r.get hd
        refine ⟨v, ?_, rv.anti fun b h => h.elim id False.elim⟩
        unfold L2.start
        rw [List.getElem?_append_left (by simpa [hl] using hi), List.getElem?_map, hv]
        rfl
    · rw [List.getElem?_append_right (by simpa using hi)] at h
      exact absurd (List.eq_of_mem_replicate (List.mem_of_getElem? h)) (by intro z; cases z)
section
variable {P : Program} {w : World} {K : PySem.W.Frag} {mg : Str → Option Value} {base : Heap} {x qual : Str} {params : Arguments} {body : List Stmt} {scope : Scope} {dvs : List V} {kws : List (Str × V)} {f : Addr} {fd : FuncData}
/-- the body's end, as the promise wants it -/
theorem body_end {ca : Dr} {E : XK} {N : List Str} {g : Sm} {Z : Addr → Prop} {H : Hp} {vs : List V} {ds : List D} {c : Churn} {Q : VK} (z : ZOk ca Z H) (co : ChOk K ca H c) (r : RlA K ca Z H vs ds)
    (h : Do K ca E Z H (runDef N.length g ds c) fun d c' => ∀ v H', Ext ca H H' → Rl K ca Z H' v d → ChOk K ca H' c' → Q v H') : tS K ca E g { nx := fun _ H' => Q .non H', rt := Q } (start N vs) H := by
  refine ⟨Z, fun _ => False, _, c, env_start z r, co, At.mono (At.bind.mp h) (fun p c1 h1 => ?_) fun x c1 h1 => ?_⟩
  · intro Y' σ' H' st eo' co'
    have ex : Ext ca H H' := st.ext.mono fun b z => z.elim id False.elim
    obtain ⟨ρ1, ctl⟩ := p
    cases ctl with
    | nx => exact h1 .non H' ex .non co'
    | bk => exact h1.elim
    | ct => exact h1.elim
    | ret d => exact fun v rv => h1 v H' ex (rv.anti fun b => .inl) co'
  · intro Y' cv od H' st xr co'
    refine h1 cv od H' (st.ext.mono fun b z => z.elim id False.elim) ?_ co'
    obtain ⟨e1, d, fs, e2, e3, e4, e5⟩ := xr
    exact ⟨e1, d, fs, e2, e3, e4, e5.anti fun b => .inl⟩
/-- a def by its body, entered where no repr is under way -/
theorem FunD.okG {CX : CXT} {N ps : List Str} {k : Nat} {sp : Sp} (F : FunD K x qual params body scope dvs kws f fd) (S : FnScope N ps scope) (len : ∀ xs H Q E, sp xs H Q E → xs.length = ps.length)
    (inside : ∀ (cdv : Value) (A : Around) (outer : List Env) (s : Shared) (H : Hp) (xs : List V) (Q : VK) (E : XK), A.guards = some [] → Room k (A.deeper (envOfC qual scope s.heap.objs.size f cdv)) → sp xs H Q E →
      ∃ t, PSs (cxOf CX P w K mg base N qual scope f cdv A outer s H E) body t ∧ t { nx := fun _ H' => Q .non H', rt := Q } (start N xs) H) : FnG P w K mg base CX (k + 1) f fd ps sp := by
  obtain ⟨oc, od, dV, kV, doc, pm, an, cdv, ct, osl, rfl, found, coded, _, _⟩ := F.ex
  refine ⟨len, fun A outer s H args us xs Q E gd room e0 bound r wish => ?_⟩
  obtain ⟨t, does, want⟩ := inside cdv A outer s H xs Q E gd (room.deeper _) wish
  have inK : K.In s.heap := e0.mod.kin.keeps fun b o e => (e0.bs b o e).1
  refine codeAny_call_function room.depth (inK _ _ found) rfl S.co S.gen rfl (PySem.W.codeRec_of inK coded) (bound _ _ _ _ ?_)
  refine wpAny_newFunctionEnv_cells S.kind (fun y hy => ?_) fun env ee s1 frame => ?_
  · rcases S.par y.1 (List.of_mem_zip hy).1 with loc | cel
    · exact Or.inl loc
    · exact Or.inr ⟨cel, PySem.W.cellsFrom_some _ _ _ (Or.inl cel)⟩
  subst ee
  refine ⟨(e0.mod.nolimit.keeps fun b o e => (e0.bs b o e).1).keeps frame.toInCall.keep, codeAny_func ?_⟩
  have begun : L2.Inv (cxOf CX P w K mg base N qual scope f cdv A outer s H E) [] (start N xs) H s1 := inv_start S room.hd e0 (len _ _ _ _ wish) r frame
  refine wpAny_mono (does.run [] s1 (start N xs) H _ begun want) (fun way s' hs => ?_) fun _ _ z => z
  match way, hs with
  | .ret u, ⟨v, _, H', J, rv, q⟩ => exact ⟨v, H', J.os, J.bare, J.base, J.hok, rv, q⟩
  | .next, ⟨_, H', J, q⟩ => exact ⟨V.non, H', J.os, J.bare, J.base, J.hok, rfl, q⟩
  | .brk, ⟨_, _, _, q⟩ => exact q.elim
  | .cont, ⟨_, _, _, q⟩ => exact q.elim
/-- a def that lets nothing out -/
theorem FunD.okD {N ps : List Str} {k : Nat} {g : Sm} (F : FunD K x qual params body scope dvs kws f fd) (S : FnScope N ps scope)
    (hbody : ∀ (ca : Dr) (cdv : Value) (A : Around) (outer : List Env) (s : Shared) (H : Hp) (E : XK), A.guards = some [] → Room k (A.deeper (envOfC qual scope s.heap.objs.size f cdv)) → PSs (cxOf CX0 P w K mg base N qual scope f cdv A outer s H E).nox body (tS K ca E0 g)) :
    FnG P w K mg base CX0 (k + 1) f fd ps (spD K ps.length fun ds => G.nx (runDef N.length g ds)) := by
  refine FunD.okG F S (fun vs H Q E h => spD_len h) fun cdv A outer s H vs Q E gd hr h => ?_
  obtain ⟨ca, Z, c, ds, z, co, r, hl, h⟩ := h
  exact ⟨tS K ca E0 g, PSs.nox (hbody ca cdv A outer s H E gd hr), body_end z co r (At.doE h.nx)⟩
end
end G

set_option Elab.async false
set_option linter.all false
set_option maxRecDepth 100000
set_option maxHeartbeats 4000000
/-! G6: the operations on trees: arithmetic, comparisons, len, int, abs, str, displays, subscripts, slices. -/
namespace G
open PySem PySem.Spec PyProof.Rows L2
section
variable {K : PySem.W.Frag} {ca : Dr} {X : Cx}
/-! ### arithmetic -/
def gAdd : D → D → Option D
  | .int i, .int j => some (.int (i + j))
  | .str a, .str b => if a.length + b.length ≤ sizeLine then some (.str (a ++ b)) else none
  | .lst xs, .lst ys => if xs.length + ys.length ≤ sizeLine then some (.lst (xs ++ ys)) else none
  | .tup xs, .tup ys => if xs.length + ys.length ≤ sizeLine then some (.tup (xs ++ ys)) else none
  | _, _ => none
def rAddD (K : PySem.W.Frag) : R2 := fun x y H Q => rI0 (fun i j => .int (i + j)) x y H Q ∨ (∃ i j, x = .str i ∧ y = .str j ∧ i.length + j.length ≤ sizeLine ∧ Q (.str (i ++ j)) H) ∨ rCat x y H Q ∨ rCatN K x y H Q
theorem op_addD : OpR X (binaryOp .Add) (rAddD X.K) := op_add.or (op_add_str.or (op_cat.or op_catN))
theorem bin_add : BinD K ca (rAddD K) gAdd := fun Z H c x y d e d' Q z co r1 r2 hg q => by
  unfold gAdd at hg
  split at hg
  · rename_i i j
    cases hg; cases r1; cases r2
    exact .inl ⟨_, _, rfl, rfl, q _ H .refl (.int _) co⟩
  · rename_i i j
    split at hg
    · rename_i hl
      cases hg; cases r1; cases r2
      exact .inr (.inl ⟨_, _, rfl, rfl, hl, q _ H .refl (.str _) co⟩)
    · cases hg
  · split at hg
    · rename_i hl
      cases hg
      cases r1 with | lst n1 h1 a1 => cases r2 with | lst n2 h2 a2 =>
      exact .inr (.inr (.inl ⟨_, _, _, _, rfl, rfl, h1, h2, by rw [a1.length, a2.length]; exact hl, fun p np => q _ _ (ExtP.new np) (.lst (z.free np) upd_same ((a1.append a2).ext (ExtP.new (P := (· = (ca : Addr))) np) fun b e => e ▸ z.zca)) (co.new np)⟩))
    · cases hg
  · split at hg
    · rename_i xs ys hl
      cases hg
      cases r1 with | tup h1 a1 => cases r2 with | tup h2 a2 =>
      refine .inr (.inr (.inr ⟨_, _, _, _, rfl, rfl, h1.s, h2.s, by rw [a1.length, a2.length]; exact hl, fun e => ?_, fun e1 e => ?_, fun _ _ p o np od => ?_⟩))
      · subst e; cases a1
        exact q _ H .refl (.tup h2 a2) co
      · subst e; cases a2
        rw [List.append_nil] at q
        exact q _ H .refl (.tup h1 a1) co
      · exact q _ _ (ExtP.new np) (.tup (TupAt.of upd_same od) ((a1.append a2).ext (ExtP.new (P := (· = (ca : Addr))) np) fun b e => e ▸ z.zca)) (co.new np)
    · cases hg
  · cases hg
def gInt2 (ok : Int → Int → Bool) (f : Int → Int → Int) : D → D → Option D
  | .int i, .int j => if ok i j = true then some (.int (f i j)) else none
  | _, _ => none
theorem bin_int2 {C : Int → Int → Prop} {ok : Int → Int → Bool} {f : Int → Int → Int} (h : ∀ i j, ok i j = true → C i j) : BinD K ca (rI C fun i j => .int (f i j)) (gInt2 ok f) := fun Z H c x y d e d' Q z co r1 r2 hg q => by
  unfold gInt2 at hg
  split at hg
  · rename_i i j
    split at hg
    · rename_i hl
      cases hg; cases r1; cases r2
      exact ⟨_, _, rfl, rfl, h _ _ hl, q _ H .refl (.int _) co⟩
    · cases hg
  · cases hg
def rIS (C : Int → Int → Prop) (g : Int → Int → V) : R2 := rI C g
def gSub : D → D → Option D := gInt2 (fun _ _ => true) fun i j => i - j
theorem op_subD : OpR X (binaryOp .Sub) (rI (fun _ _ => True) fun i j => .int (i - j)) := fun pins s σ H x y v u Q I rx ry ⟨i, j, e1, e2, _, q⟩ => op_sub pins s σ H x y v u Q I rx ry ⟨i, j, e1, e2, q⟩
theorem bin_sub : BinD K ca (rI (fun _ _ => True) fun i j => .int (i - j)) gSub := bin_int2 fun _ _ _ => trivial
def okDiv (_ j : Int) : Bool := decide (0 < j) && decide (j.natAbs.log2 < 9000)
def gDiv : D → D → Option D := gInt2 okDiv fun i j => i / j
theorem bin_div : BinD K ca (rI CDivW fun i j => .int (i / j)) gDiv := bin_int2 fun i j h => by
  have h := Bool.and_eq_true_iff.mp h
  exact ⟨of_decide_eq_true h.1, of_decide_eq_true h.2⟩
def gMod : D → D → Option D := gInt2 (fun _ j => decide (0 < j)) fun i j => i % j
theorem bin_mod : BinD K ca (rI (fun _ j => 0 < j) fun i j => .int (i % j)) gMod := bin_int2 fun i j h => of_decide_eq_true h
def okPow (i j : Int) : Bool := decide (0 ≤ j) && (decide (j ≤ 1000000) && decide (i.natAbs < 2 ^ 64))
def gPow : D → D → Option D := gInt2 okPow fun i j => i ^ j.toNat
theorem bin_pow : BinD K ca (rI CPow fun i j => .int (i ^ j.toNat)) gPow := bin_int2 fun i j h => by
  have h := Bool.and_eq_true_iff.mp h
  have h2 := Bool.and_eq_true_iff.mp h.2
  exact ⟨of_decide_eq_true h.1, of_decide_eq_true h2.1, of_decide_eq_true h2.2⟩
def okMul (i j : Int) : Bool := (decide (-(2 ^ 64) < i) && decide (i < 2 ^ 64)) || ((decide (-(2 ^ 64) < j) && decide (j < 2 ^ 64)) || decide (i.natAbs.log2 + j.natAbs.log2 < 1000000))
def gMul : D → D → Option D
  | .int i, .int j => if okMul i j = true then some (.int (i * j)) else none
  | .lst xs, .int k => if -(2 ^ 63) ≤ k ∧ k < 2 ^ 63 ∧ xs.length * k.toNat ≤ sizeLine then some (.lst (List.replicate k.toNat xs).flatten) else none
  | _, _ => none
def rMulD : R2 := fun x y H Q => rI (fun i j => CMul i j ∨ CMulW i j) (fun i j => .int (i * j)) x y H Q ∨ rRep x y H Q
theorem op_mulD : OpR X (binaryOp .Mult) rMulD := OpR.or (fun pins s σ H x y v u Q I rx ry ⟨i, j, e1, e2, h, q⟩ => h.elim (fun h => op_mul pins s σ H x y v u Q I rx ry ⟨i, j, e1, e2, h, q⟩) fun h => op_mulW pins s σ H x y v u Q I rx ry ⟨i, j, e1, e2, h, q⟩) op_rep
theorem okMul_ok {i j : Int} (h : okMul i j = true) : CMul i j ∨ CMulW i j := by
  unfold okMul at h
  rcases Bool.or_eq_true_iff.mp h with h | h
  · have h := Bool.and_eq_true_iff.mp h
    exact .inl (.inl ⟨of_decide_eq_true h.1, of_decide_eq_true h.2⟩)
  · rcases Bool.or_eq_true_iff.mp h with h | h
    · have h := Bool.and_eq_true_iff.mp h
      exact .inl (.inr ⟨of_decide_eq_true h.1, of_decide_eq_true h.2⟩)
    · exact .inr (show i.natAbs.log2 + j.natAbs.log2 < 1000000 from of_decide_eq_true h)
theorem RlA.rep {Z : Addr → Prop} {H : Hp} {vs : List V} {ds : List D} (r : RlA K ca Z H vs ds) : ∀ n : Nat, RlA K ca Z H (List.replicate n vs).flatten (List.replicate n ds).flatten
  | 0 => .nil
  | n + 1 => by rw [List.replicate_succ, List.replicate_succ, List.flatten_cons, List.flatten_cons]; exact r.append (RlA.rep r n)
theorem bin_mul : BinD K ca rMulD gMul := fun Z H c x y d e d' Q z co r1 r2 hg q => by
  unfold gMul at hg
  split at hg
  · split at hg
    · rename_i hl
      cases hg; cases r1; cases r2
      exact .inl ⟨_, _, rfl, rfl, okMul_ok hl, q _ H .refl (.int _) co⟩
    · cases hg
  · split at hg
    · rename_i hl
      cases hg
      cases r2
      cases r1 with | lst n1 h1 a1 =>
      refine .inr ⟨_, _, _, rfl, rfl, h1, hl.1, hl.2.1, by rw [a1.length]; exact hl.2.2, fun p np => q _ _ (ExtP.new np) (.lst (z.free np) upd_same ((a1.rep _).ext (ExtP.new (P := (· = (ca : Addr))) np) fun b e => e ▸ z.zca)) (co.new np)⟩
    · cases hg
  · cases hg
def gNeg : D → Option D
  | .int i => some (.int (-i))
  | _ => none
theorem un_negD : UnD K ca (rU fun i => .int (-i)) gNeg := fun Z H c x d d' Q z co r hg q => by
  cases r with
  | int i => cases hg; exact ⟨_, rfl, q _ H .refl (.int _) co⟩
  | _ => cases hg
/-! ### comparisons -/
def gCmpI (f : Int → Int → Bool) : D → D → Option Bool
  | .int i, .int j => some (f i j)
  | _, _ => none
theorem cmp_int {f : Int → Int → Bool} : BinB K ca (rI0 fun i j => .bl (f i j)) (gCmpI f) := fun Z H c x y d e k Q z co r1 r2 hg q => by
  unfold gCmpI at hg
  split at hg
  · cases hg; cases r1; cases r2
    exact ⟨_, _, rfl, rfl, q H .refl co⟩
  · cases hg
def ltI (i j : Int) : Bool := decide (i < j)
def leI (i j : Int) : Bool := decide (i ≤ j)
def gtI (i j : Int) : Bool := decide (j < i)
def geI (i j : Int) : Bool := decide (j ≤ i)
def isNonD : D → Bool
  | .non => true
  | _ => false
def gIsN (neg : Bool) : D → D → Option Bool
  | d, .non => some (if neg then !isNonD d else isNonD d)
  | _, _ => none
theorem isNon_of {Z : Addr → Prop} {H : Hp} {v : V} {d : D} (r : Rl K ca Z H v d) : decide (v = .non) = isNonD d := by
  cases r <;> first | rfl | simp [isNonD]
theorem cmp_isN : BinB K ca (fun x y H Q => y = .non ∧ Q (.bl (decide (x = .non))) H) (gIsN false) := fun Z H c x y d e k Q z co r1 r2 hg q => by
  cases r2 with
  | non => cases hg; exact ⟨rfl, by rw [isNon_of r1]; exact q H .refl co⟩
  | _ => cases hg
theorem cmp_notN : BinB K ca (fun x y H Q => y = .non ∧ Q (.bl (!decide (x = .non))) H) (gIsN true) := fun Z H c x y d e k Q z co r1 r2 hg q => by
  cases r2 with
  | non => cases hg; exact ⟨rfl, by rw [isNon_of r1]; exact q H .refl co⟩
  | _ => cases hg
/-! deep == -/
mutual
def toPy : D → Option PyData
  | .non => some .none
  | .bl b => some (.bool b)
  | .int i => some (.int i)
  | .str x => some (.str x)
  | .lst xs => (toPyA xs).map .list
  | .tup xs => (toPyA xs).map .tuple
  | _ => none
def toPyA : List D → Option (List PyData)
  | [] => some []
  | d :: ds => (toPy d).bind fun p => (toPyA ds).map (p :: ·)
end
theorem dp_ints {K : PySem.W.Frag} {H : Hp} : ∀ ns : List Int, DpAll K H (ns.map V.int) (ns.map PyData.int)
  | [] => .nil
  | n :: ns => .cons (.int n) (dp_ints ns)
mutual
theorem Rl.dp {Z : Addr → Prop} {H : Hp} : ∀ {v : V} {d : D} {p : PyData}, Rl K ca Z H v d → toPy d = some p → Dp K H v p
  | _, _, _, .non, e => by simp only [toPy] at e; cases e; exact .non
  | _, _, _, .bl b, e => by simp only [toPy] at e; cases e; exact .bl b
  | _, _, _, .int b, e => by simp only [toPy] at e; cases e; exact .int b
  | _, _, _, .str b, e => by simp only [toPy] at e; cases e; exact .str b
  | _, _, _, .ty n, e => by simp only [toPy] at e; cases e
  | _, _, _, .obj n, e => by simp only [toPy] at e; cases e
  | _, _, _, .chn, e => by simp only [toPy] at e; cases e
  | _, _, _, .scr _, e => by simp only [toPy] at e; cases e
  | _, _, _, .dic _ _ _, e => by simp only [toPy] at e; cases e
  | _, _, _, .lst (ds := ds) n h r, e => by
    simp only [toPy] at e
    cases hp : toPyA ds with
    | none => rw [hp] at e; cases e
    | some ps => rw [hp] at e; cases e; exact .lst (SqL.of h) (RlA.dp r hp)
  | _, _, _, .tup (ds := ds) h r, e => by
    simp only [toPy] at e
    cases hp : toPyA ds with
    | none => rw [hp] at e; cases e
    | some ps => rw [hp] at e; cases e; exact .tup h.s (RlA.dp r hp)
theorem RlA.dp {Z : Addr → Prop} {H : Hp} : ∀ {vs : List V} {ds : List D} {ps : List PyData}, RlA K ca Z H vs ds → toPyA ds = some ps → DpAll K H vs ps
  | _, _, _, .nil, e => by simp only [toPyA] at e; cases e; exact .nil
  | _, _, _, .cons (d := d) (ds := ds) h r, e => by
    simp only [toPyA] at e
    cases hp : toPy d with
    | none => rw [hp] at e; cases e
    | some p =>
      rw [hp] at e
      cases hq : toPyA ds with
      | none => rw [hq] at e; cases e
      | some ps => rw [hq] at e; cases e; exact .cons (Rl.dp h hp) (RlA.dp r hq)
end
def gEq (neg : Bool) : D → D → Option Bool := fun x y => (toPy x).bind fun p => (toPy y).bind fun q => if SeqAt.shaped p = true ∧ SeqAt.shaped q = true then some (if neg then !PyData.eqv p q else PyData.eqv p q) else none
theorem eq_un {neg : Bool} {x y : D} {k : Bool} (h : gEq neg x y = some k) : ∃ p q, toPy x = some p ∧ toPy y = some q ∧ SeqAt.shaped p = true ∧ SeqAt.shaped q = true ∧ k = if neg then !PyData.eqv p q else PyData.eqv p q := by
  unfold gEq at h
  cases hp : toPy x with
  | none => rw [hp] at h; cases h
  | some p =>
    rw [hp] at h
    cases hq : toPy y with
    | none => rw [hq] at h; cases h
    | some q =>
      rw [hq] at h
      have h : (if SeqAt.shaped p = true ∧ SeqAt.shaped q = true then some (if neg then !PyData.eqv p q else PyData.eqv p q) else none) = some k := h
      by_cases hs : SeqAt.shaped p = true ∧ SeqAt.shaped q = true
      · rw [if_pos hs] at h
        exact ⟨p, q, rfl, rfl, hs.1, hs.2, (Option.some.inj h).symm⟩
      · rw [if_neg hs] at h; cases h
theorem cmp_eq : BinB K ca (rEqD K) (gEq false) := fun Z H c x y d e k Q z co r1 r2 hg q => by
  obtain ⟨p, p2, h1, h2, s1, s2, rfl⟩ := eq_un hg
  exact ⟨p, p2, r1.dp h1, r2.dp h2, s1, s2, q H .refl co⟩
theorem cmp_ne : BinB K ca (rNeD K) (gEq true) := fun Z H c x y d e k Q z co r1 r2 hg q => by
  obtain ⟨p, p2, h1, h2, s1, s2, rfl⟩ := eq_un hg
  exact ⟨p, p2, r1.dp h1, r2.dp h2, s1, s2, q H .refl co⟩
/-! in: flat items; signs -/
def flD : D → Option V
  | .non => some .non
  | .bl b => some (.bl b)
  | .int i => some (.int i)
  | .str x => some (.str x)
  | _ => none
def flA : List D → Option (List V)
  | [] => some []
  | d :: ds => (flD d).bind fun v => (flA ds).map (v :: ·)
theorem fl_of {Z : Addr → Prop} {H : Hp} {v u : V} {d : D} (r : Rl K ca Z H v d) (h : flD d = some u) : v = u ∧ flatV v = true := by
  cases r <;> first | (cases h; exact ⟨rfl, rfl⟩) | cases h
theorem flA_of {Z : Addr → Prop} {H : Hp} : ∀ {vs us : List V} {ds : List D}, RlA K ca Z H vs ds → flA ds = some us → vs = us ∧ vs.all flatV = true
  | _, _, _, .nil, h => by cases h; exact ⟨rfl, rfl⟩
  | _, _, _, .cons (d := d) (ds := ds) r ra, h => by
    unfold flA at h
    cases hd : flD d with
    | none => rw [hd] at h; cases h
    | some w =>
      rw [hd] at h
      cases hs : flA ds with
      | none => rw [hs] at h; cases h
      | some ws =>
        rw [hs] at h
        cases h
        obtain ⟨e1, f1⟩ := fl_of r hd
        obtain ⟨e2, f2⟩ := flA_of ra hs
        exact ⟨by rw [e1, e2], by rw [List.all_cons, f1, f2]; rfl⟩
def seqOf : D → Option (List D)
  | .lst xs => some xs
  | .tup xs => some xs
  | _ => none
def gInF (neg : Bool) : D → D → Option Bool := fun x y => (seqOf y).bind fun ys => (flD x).bind fun v => (flA ys).map fun vs => if neg then !inV v vs else inV v vs
theorem cmp_inF {neg : Bool} : BinB K ca (rIn K neg) (gInF neg) := fun Z H c x y d e k Q z co r1 r2 hg q => by
  unfold gInF at hg
  cases hs : seqOf e with
  | none => rw [hs] at hg; cases hg
  | some ys =>
    rw [hs] at hg
    have hg : ((flD d).bind fun v => (flA ys).map fun vs => if neg then !inV v vs else inV v vs) = some k := hg
    cases hd : flD d with
    | none => rw [hd] at hg; cases hg
    | some v =>
      rw [hd] at hg
      have hg : ((flA ys).map fun vs => if neg then !inV v vs else inV v vs) = some k := hg
      cases ha : flA ys with
      | none => rw [ha] at hg; cases hg
      | some vs =>
        rw [ha] at hg
        cases hg
        obtain ⟨rfl, f1⟩ := fl_of r1 hd
        cases r2 with
        | lst n h r =>
          cases hs
          obtain ⟨rfl, f2⟩ := flA_of r ha
          exact ⟨_, _, rfl, .inl (SqL.of h), f1, f2, q H .refl co⟩
        | tup h r =>
          cases hs
          obtain ⟨rfl, f2⟩ := flA_of r ha
          exact ⟨_, _, rfl, .inr h.s, f1, f2, q H .refl co⟩
        | _ => cases hs
/-- the one sign of a text -/
def sign? (x : Str) : Option Nat := match x.cps with
  | ⟨[c]⟩ => some c
  | _ => none
theorem sign_of {x : Str} {c : Nat} (h : sign? x = some c) : x = ⟨#[c]⟩ := by
  unfold sign? at h
  split at h
  · rename_i c' e
    cases h
    cases x with | mk cps => cases e; rfl
  · cases h
def gInS (neg : Bool) : D → D → Option Bool
  | .str x, .str z => (sign? x).map fun c => if neg then !decide (c ∈ z.cps.toList) else decide (c ∈ z.cps.toList)
  | _, _ => none
theorem cmp_inS : BinB K ca (fun x y H Q => ∃ (c : Nat) (z : Str), x = .str ⟨#[c]⟩ ∧ y = .str z ∧ Q (.bl (decide (c ∈ z.cps.toList))) H) (gInS false) := fun Z H c x y d e k Q z co r1 r2 hg q => by
  unfold gInS at hg
  split at hg
  · rename_i a b
    cases ha : sign? a with
    | none => rw [ha] at hg; cases hg
    | some s =>
      rw [ha] at hg; cases hg; cases r1; cases r2
      exact ⟨s, _, by rw [sign_of ha], rfl, q H .refl co⟩
  · cases hg
theorem cmp_notInS : BinB K ca (fun x y H Q => ∃ (c : Nat) (z : Str), x = .str ⟨#[c]⟩ ∧ y = .str z ∧ Q (.bl (!decide (c ∈ z.cps.toList))) H) (gInS true) := fun Z H c x y d e k Q z co r1 r2 hg q => by
  unfold gInS at hg
  split at hg
  · rename_i a b
    cases ha : sign? a with
    | none => rw [ha] at hg; cases hg
    | some s =>
      rw [ha] at hg; cases hg; cases r1; cases r2
      exact ⟨s, _, by rw [sign_of ha], rfl, q H .refl co⟩
  · cases hg
/-! ### len, int, abs -/
def gLen : List D → Option D
  | [.str z] => if z.length ≤ sizeLine then some (.int z.length) else none
  | [.lst xs] => some (.int xs.length)
  | [.tup xs] => some (.int xs.length)
  | [.dic ks _] => some (.int ks.length)
  | _ => none
def rLenD (K : PySem.W.Frag) : List V → Hp → VK → Prop := fun xs H Q => (∃ x n, xs = [x] ∧ LenV K x H n ∧ Q (.int n) H) ∨ ∃ a kvs, xs = [V.ref a] ∧ H a = some (.dK kvs) ∧ Q (.int kvs.length) H
theorem cr_lenD : CallR X (.builtin "len") (rLenD X.K) := CallR.or call_len call_lenD
theorem cal_len : CalD K ca (rLenD K) gLen := fun Z H c xs ds d' Q z co r hg q => by
  unfold gLen at hg
  split at hg
  · split at hg
    · rename_i hl
      cases hg
      cases r with | cons r1 r2 => cases r1; cases r2; exact .inl ⟨_, _, rfl, ⟨hl, rfl⟩, q _ H .refl (.int _) co⟩
    · cases hg
  · cases hg
    cases r with | cons r1 r2 => cases r1 with | lst n h ra => cases r2; exact .inl ⟨_, _, rfl, .inl ⟨_, SqL.of h, ra.length.symm⟩, q _ H .refl (.int _) co⟩
  · cases hg
    cases r with | cons r1 r2 => cases r1 with | tup h ra => cases r2; exact .inl ⟨_, _, rfl, .inr ⟨_, h.s, ra.length.symm⟩, q _ H .refl (.int _) co⟩
  · cases hg
    cases r with | cons r1 r2 => cases r1 with | dic n h ra => cases r2; exact .inr ⟨_, _, rfl, h, by rw [List.length_map] at q; exact q _ H .refl (.int _) co⟩
  · cases hg
def gInt : List D → Option D
  | [.int i] => some (.int i)
  | [.bl b] => some (.int (if b then 1 else 0))
  | _ => none
theorem cal_int : CalD K ca (fun xs H Q => (∃ i, xs = [.int i] ∧ Q (.int i) H) ∨ ∃ k, xs = [.bl k] ∧ Q (.int (if k then 1 else 0)) H) gInt := fun Z H c xs ds d' Q z co r hg q => by
  unfold gInt at hg
  split at hg
  · cases hg; cases r with | cons r1 r2 => cases r1; cases r2; exact .inl ⟨_, rfl, q _ H .refl (.int _) co⟩
  · cases hg; cases r with | cons r1 r2 => cases r1; cases r2; exact .inr ⟨_, rfl, q _ H .refl (.int _) co⟩
  · cases hg
def gAbs : List D → Option D
  | [.int i] => some (.int (if i < 0 then -i else i))
  | _ => none
theorem cal_abs : CalD K ca (fun xs H Q => ∃ i, xs = [.int i] ∧ Q (.int (if i < 0 then -i else i)) H) gAbs := fun Z H c xs ds d' Q z co r hg q => by
  unfold gAbs at hg
  split at hg
  · cases hg; cases r with | cons r1 r2 => cases r1; cases r2; exact ⟨_, rfl, q _ H .refl (.int _) co⟩
  · cases hg
def gStr : List D → Option D
  | [.int i] => if i.natAbs.log2 < 1920 then some (.str (toString i)) else none
  | [.str x] => some (.str x)
  | _ => none
def rStrD : List V → Hp → VK → Prop := fun xs H Q => (∃ i, xs = [.int i] ∧ i.natAbs.log2 < 1920 ∧ Q (.str (toString i)) H) ∨ ∃ a, xs = [.str a] ∧ Q (.str a) H
theorem cr_strD : CallR X (.type "str") rStrD := CallR.or call_str_int SkE.call_str_str
theorem cal_str : CalD K ca rStrD gStr := fun Z H c xs ds d' Q z co r hg q => by
  unfold gStr at hg
  split at hg
  · split at hg
    · rename_i hl
      cases hg; cases r with | cons r1 r2 => cases r1; cases r2; exact .inl ⟨_, rfl, hl, q _ H .refl (.str _) co⟩
    · cases hg
  · cases hg; cases r with | cons r1 r2 => cases r1; cases r2; exact .inr ⟨_, rfl, q _ H .refl (.str _) co⟩
  · cases hg
/-! ### subscripts -/
def gIx : D → D → Option D
  | .lst xs, .int i => atI xs i
  | .tup xs, .int i => atI xs i
  | .str z, .int i => if z.length ≤ sizeLine then (atI z.cps.toList i).map fun c => .str ⟨#[c]⟩ else none
  | _, _ => none
theorem atI_rl {Z : Addr → Prop} {H : Hp} {vs : List V} {ds : List D} {i : Int} {d : D} (r : RlA K ca Z H vs ds) (h : atI ds i = some d) : ∃ v, atI vs i = some v ∧ Rl K ca Z H v d := by
  unfold atI at h ⊢
  rw [r.length]
  cases hj : ixN ds.length i with
  | none => rw [hj] at h; cases h
  | some j => rw [hj] at h; exact r.get h
theorem ix_D : BinD K ca (rIx K) gIx := fun Z H c x y d e d' Q z co r1 r2 hg q => by
  unfold gIx at hg
  split at hg
  · cases r2
    cases r1 with | lst n h ra =>
    obtain ⟨v, h1, h2⟩ := atI_rl ra hg
    exact .inl ⟨_, _, _, _, rfl, rfl, SqL.of h, h1, q _ H .refl h2 co⟩
  · cases r2
    cases r1 with | tup h ra =>
    obtain ⟨v, h1, h2⟩ := atI_rl ra hg
    exact .inr (.inl ⟨_, _, _, _, rfl, rfl, h.s, h1, q _ H .refl h2 co⟩)
  · split at hg
    · rename_i zz i hl
      cases r1; cases r2
      cases hc : atI zz.cps.toList i with
      | none => rw [hc] at hg; cases hg
      | some ch =>
        rw [hc] at hg; cases hg
        exact .inr (.inr ⟨_, _, _, rfl, rfl, hl, hc, q _ H .refl (.str _) co⟩)
    · cases hg
  · cases hg
/-! ### slices -/
def cutD (xs : List D) (lo hi : Option Int) : List D := (xs.drop (HT.sIx xs.length 0 lo)).take (HT.sIx xs.length xs.length hi - HT.sIx xs.length 0 lo)
def gSl : D → Option Int → Option Int → Option D
  | .lst xs, lo, hi => some (.lst (cutD xs lo hi))
  | .tup xs, lo, hi => some (.tup (cutD xs lo hi))
  | .str z, lo, hi => if z.length ≤ sizeLine then some (.str (cutS z lo hi)) else none
  | _, _, _ => none
def rSlD (K : PySem.W.Frag) : V → Option Int → Option Int → Hp → VK → Prop := fun x lo hi H Q => rSlL K x lo hi H Q ∨ rSlN K x lo hi H Q ∨ rSlS x lo hi H Q
theorem sl_D : SlR X (rSlD X.K) := SlR.or sl_list (SlR.or sl_tupN sl_str)
theorem RlA.cut {Z : Addr → Prop} {H : Hp} {vs : List V} {ds : List D} (r : RlA K ca Z H vs ds) (lo hi : Option Int) : RlA K ca Z H (cutV vs lo hi) (cutD ds lo hi) := by
  unfold cutV cutD
  rw [r.length]
  exact (r.drop _).take _
theorem sli_D : SliD K ca (rSlD K) gSl := fun Z H c x d d' lo hi Q z co r hg q => by
  unfold gSl at hg
  split at hg
  · cases hg
    cases r with | lst n h ra =>
    exact .inl ⟨_, _, rfl, SqL.of h, fun p np => q _ _ (ExtP.new np) (.lst (z.free np) upd_same ((ra.cut _ _).ext (ExtP.new (P := (· = (ca : Addr))) np) fun b e => e ▸ z.zca)) (co.new np)⟩
  · rename_i xs
    cases hg
    cases r with | tup h ra =>
    refine .inr (.inl ⟨_, _, rfl, h.s, fun e => ?_, fun _ p o np od => q _ _ (ExtP.new np) (.tup (TupAt.of upd_same od) ((ra.cut _ _).ext (ExtP.new (P := (· = (ca : Addr))) np) fun b e => e ▸ z.zca)) (co.new np)⟩)
    have e2 : cutD xs lo hi = xs := by
      unfold cutD
      rw [← ra.length, e.1, e.2, List.drop_zero, Nat.sub_zero, ra.length, List.take_length]
    rw [e2] at q
    exact q _ H .refl (.tup h ra) co
  · split at hg
    · rename_i hl
      cases hg; cases r
      exact .inr (.inr ⟨_, rfl, hl, q _ H .refl (.str _) co⟩)
    · cases hg
  · cases hg
def eRev (f : Ev → M D) : Ev → M D := fun ρ => f ρ >>= fun x => liftO (match x with | .lst xs => some (.lst xs.reverse) | _ => none)
theorem d_revL {E : XK} {e : Expr} {f : Ev → M D} {k : Nat} {p1 p2 p3 pos : Pos} (he : PE X e (tD X.K ca E f)) : PE X (.Subscript e (.Slice none none (some (.UnaryOp .USub (.Constant (.int 1) k p1) p2)) p3) pos) (tD X.K ca E (eRev f)) := by
  refine ⟨fun pins s σ H Q I h => (pe_revL he).run pins s σ H Q I ?_⟩
  obtain ⟨Z, Y, ρ, c, eo, co, h⟩ := h
  refine ⟨Z, Y, ρ, c, eo, co, (Do.bind h).mono fun d c1 h1 x H1 e1 r1 co1 => ?_⟩
  obtain ⟨d', hg, h2⟩ := Do.lift h1
  cases r1 with
  | lst n hh ra =>
    cases hg
    exact ⟨_, _, rfl, SqL.of hh, fun p np => h2 _ _ (e1.trans (ExtP.new np)) (.lst ((eo.zok.ext e1).free np) upd_same (ra.reverse.ext (ExtP.new (P := (· = (ca : Addr))) np) eo.zc)) (co1.new np)⟩
  | _ => cases hg
/-! ### list(x), tuple(x), all, any -/
def gList : List D → Option D
  | [.lst xs] => some (.lst xs)
  | [.tup xs] => some (.lst xs)
  | _ => none
theorem cal_list : CalD K ca (fun xs H Q => ∃ p ys, xs = [.ref p] ∧ (SqL K H p ys ∨ SqT K H p ys) ∧ ∀ l, H l = none → Q (.ref l) (upd H l (.lst ys))) gList := fun Z H c xs ds d' Q z co r hg q => by
  unfold gList at hg
  split at hg
  · cases hg; cases r with | cons r1 r2 => cases r1 with | lst n h ra => cases r2; exact ⟨_, _, rfl, .inl (SqL.of h), fun p np => q _ _ (ExtP.new np) (.lst (z.free np) upd_same (ra.ext (ExtP.new (P := (· = (ca : Addr))) np) fun b e => e ▸ z.zca)) (co.new np)⟩
  · cases hg; cases r with | cons r1 r2 => cases r1 with | tup h ra => cases r2; exact ⟨_, _, rfl, .inr h.s, fun p np => q _ _ (ExtP.new np) (.lst (z.free np) upd_same (ra.ext (ExtP.new (P := (· = (ca : Addr))) np) fun b e => e ▸ z.zca)) (co.new np)⟩
  · cases hg
def gTuple : List D → Option D
  | [.lst xs] => some (.tup xs)
  | [.tup xs] => some (.tup xs)
  | _ => none
theorem cal_tuple : CalD K ca (rTupN K) gTuple := fun Z H c xs ds d' Q z co r hg q => by
  unfold gTuple at hg
  split at hg
  · cases hg; cases r with | cons r1 r2 => cases r1 with | lst n h ra => cases r2; exact ⟨_, _, rfl, .inl ⟨SqL.of h, fun p o np od => q _ _ (ExtP.new np) (.tup (TupAt.of upd_same od) (ra.ext (ExtP.new (P := (· = (ca : Addr))) np) fun b e => e ▸ z.zca)) (co.new np)⟩⟩
  · cases hg; cases r with | cons r1 r2 => cases r1 with | tup h ra => cases r2; exact ⟨_, _, rfl, .inr ⟨h.s, q _ H .refl (.tup h ra) co⟩⟩
  · cases hg
def blA : List D → Option (List Bool)
  | [] => some []
  | .bl b :: ds => (blA ds).map (b :: ·)
  | _ => none
theorem blA_of {Z : Addr → Prop} {H : Hp} : ∀ {vs : List V} {ds : List D} {bs : List Bool}, RlA K ca Z H vs ds → blA ds = some bs → vs = bs.map V.bl
  | _, _, _, .nil, h => by cases h; rfl
  | _, _, _, .cons (d := d) (ds := ds) r ra, h => by
    cases r with
    | bl b =>
      unfold blA at h
      cases hs : blA ds with
      | none => rw [hs] at h; cases h
      | some ws => rw [hs] at h; cases h; rw [blA_of ra hs]; rfl
    | _ => unfold blA at h; cases h
def gAll : List D → Option D
  | [.lst xs] => (blA xs).map fun bs => .bl (bs.all id)
  | _ => none
def gAny : List D → Option D
  | [.lst xs] => (blA xs).map fun bs => .bl (bs.any id)
  | _ => none
theorem cal_all : CalD K ca (rAll K) gAll := fun Z H c xs ds d' Q z co r hg q => by
  unfold gAll at hg
  split at hg
  · rename_i ys
    cases r with | cons r1 r2 =>
    cases r2
    cases r1 with | lst n h ra =>
    cases hb : blA ys with
    | none => rw [hb] at hg; cases hg
    | some bs => rw [hb] at hg; cases hg; exact ⟨_, bs, rfl, by rw [← blA_of ra hb]; exact SqL.of h, q _ H .refl (.bl _) co⟩
  · cases hg
theorem cal_any : CalD K ca (rAny K) gAny := fun Z H c xs ds d' Q z co r hg q => by
  unfold gAny at hg
  split at hg
  · rename_i ys
    cases r with | cons r1 r2 =>
    cases r2
    cases r1 with | lst n h ra =>
    cases hb : blA ys with
    | none => rw [hb] at hg; cases hg
    | some bs => rw [hb] at hg; cases hg; exact ⟨_, bs, rfl, by rw [← blA_of ra hb]; exact SqL.of h, q _ H .refl (.bl _) co⟩
  · cases hg
end
end G

set_option Elab.async false
set_option linter.all false
set_option maxRecDepth 100000
set_option maxHeartbeats 4000000
/-! G7: repr of trees. -/
namespace G
open PySem PySem.Spec PyProof.Rows L2
def encK : Key → PyData
  | .inl i => .int i
  | .inr x => .str x
mutual
def toPyR : D → Option PyData
  | .non => some .none
  | .bl b => some (.bool b)
  | .int i => some (.int i)
  | .str x => some (.str x)
  | .lst xs => (toPyRA xs).map .list
  | .tup xs => (toPyRA xs).map .tuple
  | .dic ks xs => (toPyRA xs).map fun ps => .dict ((ks.map encK).zip ps)
  | _ => none
def toPyRA : List D → Option (List PyData)
  | [] => some []
  | d :: ds => (toPyR d).bind fun p => (toPyRA ds).map (p :: ·)
end
def Sys (base : Heap) : Prop := ∃ o, base.get? sysModules = some o
section
variable {X : Cx} {ca : Dr} {Z : Addr → Prop} {pins : List (Addr × Obj)} {σ : L2.St} {H : Hp} {s : Shared}
theorem Sys.ne (y : Sys X.base) (I : L2.Inv X pins σ H s) {a : Addr} {o : HO} (h : H a = some o) : a ≠ sysModules := fun z => by
  obtain ⟨ob, e⟩ := y
  have := (I.bs _ ob e).2
  rw [← z, h] at this; cases this
theorem kv_vals : ∀ {kvs : List (Key × V)} {vs : List (Key × Value)}, KV kvs vs → Vals (kvs.map (·.2)) (vs.map (·.2))
  | _, _, .nil => .nil
  | _, _, .cons q r => .cons q.2 (kv_vals r)
theorem pairs_read {h : Heap} : ∀ {kvs : List (Key × V)} {vs : List (Key × Value)} {ps : List PyData}, KV kvs vs → (∃ as, ReadsAll h (vs.map (·.2)) ps as ∧ sysModules ∉ as) →
    ∃ bs, PyProof.V.PairsRead h encK vs ((kvs.map fun p => encK p.1).zip ps) bs ∧ sysModules ∉ bs
  | _, _, ps, .nil, ⟨as, ra, hn⟩ => by
    have ra : ReadsAll h [] ps as := ra
    cases ra
    exact ⟨[], .nil, by simp⟩
  | (k, v) :: kvs, (k', u) :: vs, ps, .cons r rs, ⟨bs0, ra, hn⟩ => by
    have ra : ReadsAll h (u :: vs.map (·.2)) ps bs0 := ra
    have e : k = k' := r.1
    subst e
    cases ra
    rename_i d ds as bs h1 h2
    obtain ⟨bs', q1, q2⟩ := pairs_read rs ⟨bs, h2, fun z => hn (List.mem_append_right _ z)⟩
    exact ⟨as ++ bs', .cons h1 q1, fun z => (List.mem_append.mp z).elim (fun z => hn (List.mem_append_left _ z)) q2⟩
mutual
theorem Rl.reads (y : Sys X.base) (I : L2.Inv X pins σ H s) : ∀ {v : V} {u : Value} {d : D} {p : PyData}, Rl X.K ca Z H v d → RelV v u → toPyR d = some p → ∃ as, Reads s.heap u p as ∧ sysModules ∉ as
  | _, _, _, _, .non, r, e => by simp only [toPyR] at e; cases e; cases r; exact ⟨_, .none, by simp⟩
  | _, _, _, _, .bl b, r, e => by simp only [toPyR] at e; cases e; cases r; exact ⟨_, .bool b, by simp⟩
  | _, _, _, _, .int b, r, e => by simp only [toPyR] at e; cases e; obtain ⟨t, rfl⟩ := r; exact ⟨_, .int b t, by simp⟩
  | _, _, _, _, .str b, r, e => by simp only [toPyR] at e; cases e; obtain ⟨t, rfl⟩ := r; exact ⟨_, .str b t, by simp⟩
  | _, _, _, _, .ty n, r, e => by simp only [toPyR] at e; cases e
  | _, _, _, _, .obj n, r, e => by simp only [toPyR] at e; cases e
  | _, _, _, _, .chn, r, e => by simp only [toPyR] at e; cases e
  | _, _, _, _, .scr _, r, e => by simp only [toPyR] at e; cases e
  | _, _, _, _, .lst (ds := ds) n h ra, r, e => by
    simp only [toPyR] at e
    cases hp : toPyRA ds with
    | none => rw [hp] at e; cases e
    | some ps =>
      rw [hp] at e; cases e; cases r
      obtain ⟨its, rv, ⟨o, m, ho, hc, _, hd⟩, _⟩ := I.list (SqL.of h)
      obtain ⟨as, q, hn⟩ := RlA.reads y I ra rv hp
      exact ⟨_, .list ho hc hd q, fun z => (List.mem_cons.mp z).elim (fun z => y.ne I h z.symm) hn⟩
  | _, _, _, _, .tup (ds := ds) h ra, r, e => by
    simp only [toPyR] at e
    cases hp : toPyRA ds with
    | none => rw [hp] at e; cases e
    | some ps =>
      rw [hp] at e; cases e; cases r
      obtain ⟨its, rv, ⟨o, ho, hc, m, hd⟩, _⟩ := I.tuple h.s
      obtain ⟨as, q, hn⟩ := RlA.reads y I ra rv hp
      exact ⟨_, .tuple ho hc hd q, hn⟩
  | _, _, _, _, .dic (kvs := kvs) (ds := ds) n h ra, r, e => by
    simp only [toPyR] at e
    cases hp : toPyRA ds with
    | none => rw [hp] at e; cases e
    | some ps =>
      rw [hp] at e; cases e; cases r
      obtain ⟨_, hsm, vs, kv, dd⟩ : kvs.length ≤ sizeLine ∧ _ ∧ ∃ vs, KV kvs vs ∧ s.heap.DictOf (mixKind X.prog X.w) _ vs := I.hok _ _ h
      have rv : Vals (kvs.map (·.2)) (vs.map (·.2)) := kv_vals kv
      have q := RlA.reads y I ra rv hp
      obtain ⟨bs, pr, hn⟩ := pairs_read kv q
      rw [List.map_map]
      refine ⟨_, PyProof.V.reads_dictOf (fun k key hk => ?_) dd pr, fun z => (List.mem_cons.mp z).elim (fun z => y.ne I h z.symm) hn⟩
      rcases keyIs_shape hk with ⟨i, t, rfl, rfl⟩ | ⟨x, t, rfl, rfl⟩
      · exact .int i t
      · exact .str x t
theorem RlA.reads (y : Sys X.base) (I : L2.Inv X pins σ H s) : ∀ {vs : List V} {us : List Value} {ds : List D} {ps : List PyData}, RlA X.K ca Z H vs ds → Vals vs us → toPyRA ds = some ps → ∃ as, ReadsAll s.heap us ps as ∧ sysModules ∉ as
  | _, _, _, _, .nil, r, e => by simp only [toPyRA] at e; cases e; cases r; exact ⟨_, .nil, by simp⟩
  | _, _, _, _, .cons (d := d) (ds := ds) h ra, r, e => by
    simp only [toPyRA] at e
    cases hp : toPyR d with
    | none => rw [hp] at e; cases e
    | some p =>
      rw [hp] at e
      cases hq : toPyRA ds with
      | none => rw [hq] at e; cases e
      | some ps =>
        rw [hq] at e; cases e
        cases r with
        | cons r1 r2 =>
          obtain ⟨as, q1, n1⟩ := Rl.reads y I h r1 hp
          obtain ⟨bs, q2, n2⟩ := RlA.reads y I ra r2 hq
          exact ⟨_, .cons q1 q2, fun z => (List.mem_append.mp z).elim n1 n2⟩
end
end
def okShow (p : PyData) : Bool := p.showable && (decide (p.shown.length ≤ sizeLine) && decide (p.depth ≤ 64))
def gRepr : List D → Option D
  | [d] => (toPyR d).bind fun p => if okShow p = true then some (.str p.shown) else none
  | _ => none
section
variable {X : Cx} {ca : Dr}
def rRepr (K : PySem.W.Frag) (ca : Dr) : List V → Hp → VK → Prop := fun xs H Q => ∃ Z v d p, xs = [v] ∧ Rl K ca Z H v d ∧ toPyR d = some p ∧ okShow p = true ∧ Q (.str p.shown) H
theorem cr_repr (y : Sys X.base) (gd : X.A.guards = some []) (hu : X.A.units + 128 < cLine) : CallR X (.builtin "repr") (rRepr X.K ca) := by
  intro pins s σ H xs us Q I r h
  obtain ⟨Z, v, d, p, rfl, rl, hp, ok, q⟩ := h
  obtain ⟨u, rfl, ru⟩ := vals1 r
  have o1 := Bool.and_eq_true_iff.mp ok
  have o2 := Bool.and_eq_true_iff.mp o1.2
  have hs := o1.1
  have hz : p.shown.length ≤ sizeLine := of_decide_eq_true o2.1
  have hd : p.depth ≤ 64 := of_decide_eq_true o2.2
  obtain ⟨as, rd, hn⟩ := rl.reads y I ru hp
  cases rl with
  | non => simp only [toPyR] at hp; cases hp; cases ru; exact PySem.P.repr_of_none ⟨.str _, H, I.tok _, ⟨_, rfl⟩, by simpa only [PyData.shown] using q⟩
  | bl b => simp only [toPyR] at hp; cases hp; cases ru; exact PySem.P.repr_of_bool ⟨.str _, H, I.tok _, ⟨_, rfl⟩, by simpa only [PyData.shown] using q⟩
  | int i =>
    simp only [toPyR] at hp; cases hp; obtain ⟨t, rfl⟩ := ru
    exact PySem.P.repr_of_int (of_decide_eq_true (by simpa only [PyData.showable] using hs)) ⟨.str _, H, I.tok _, ⟨_, rfl⟩, by simpa only [PyData.shown] using q⟩
  | str x =>
    simp only [toPyR] at hp; cases hp; obtain ⟨t, rfl⟩ := ru
    exact PySem.P.repr_of_str ⟨.str _, H, I.tok _, ⟨_, rfl⟩, by simpa only [PyData.shown] using q⟩ (by simpa only [PyData.shown] using hz)
  | ty n => simp only [toPyR] at hp; cases hp
  | obj n => simp only [toPyR] at hp; cases hp
  | chn => simp only [toPyR] at hp; cases hp
  | scr _ => simp only [toPyR] at hp; cases hp
  | lst => cases ru; exact repr_of_reads' rd hs (fun _ => hn) gd (by omega) (fun _ _ e => e) (fun h' u tk hk => ⟨.str _, H, I.kept (t' := tk) hk, ⟨_, rfl⟩, q⟩) hz
  | tup => cases ru; exact repr_of_reads' rd hs (fun _ => hn) gd (by omega) (fun _ _ e => e) (fun h' u tk hk => ⟨.str _, H, I.kept (t' := tk) hk, ⟨_, rfl⟩, q⟩) hz
  | dic => cases ru; exact repr_of_reads' rd hs (fun _ => hn) gd (by omega) (fun _ _ e => e) (fun h' u tk hk => ⟨.str _, H, I.kept (t' := tk) hk, ⟨_, rfl⟩, q⟩) hz
theorem cal_repr {K : PySem.W.Frag} : CalD K ca (rRepr K ca) gRepr := fun Z H c xs ds d' Q z co r hg q => by
  unfold gRepr at hg
  split at hg
  · rename_i d
    cases r with | cons r1 r2 =>
    cases r2
    cases hp : toPyR d with
    | none => rw [hp] at hg; cases hg
    | some p =>
      rw [hp] at hg
      have hg : (if okShow p = true then some (D.str p.shown) else none) = some d' := hg
      by_cases ok : okShow p = true
      · rw [if_pos ok] at hg; cases hg
        exact ⟨Z, _, d, p, rfl, r1, hp, ok, q _ H .refl (.str _) co⟩
      · rw [if_neg ok] at hg; cases hg
  · cases hg
end
end G

set_option Elab.async false
set_option linter.all false
set_option maxRecDepth 100000
set_option maxHeartbeats 4000000
/-! G8: names of classes, constants of the module, isinstance, dicts, join. -/
namespace G
open PySem PySem.Spec PyProof.Rows L2
section
variable {X : Cx} {ca : Dr} {E : XK} {pos : Pos} {K : PySem.W.Frag}
/-- a built-in class as a value -/
theorem d_ty {x : Str} (T : String) (hm : X.mg x = none) (hv : bootBuiltins x = some (.type T)) (hg : Gl X x := by rfl) (hn : x ≠ "__name__" := by decide) (hd : (x == ("__debug__" : Str)) = false := by decide) : PE X (.Name x pos) (tD X.K ca E (eC (.ty T))) :=
  d_con (pe_bltn hg hm hv (show L2.RelV (.ty T) (.type T) from rfl) hn hd) fun _ _ => .ty T
/-- a constant of the module -/
theorem d_glob {x : Str} {v : V} {u : Value} {d : D} (hm : X.mg x = some u) (r : L2.RelV v u) (hr : ∀ Z H, Rl X.K ca Z H v d) (hg : Gl X x := by rfl) (hd : (x == ("__debug__" : Str)) = false := by decide) : PE X (.Name x pos) (tD X.K ca E (eC d)) :=
  d_con (pe_glob hg hm r hd) hr
/-! ### isinstance -/
def tyName : D → Option String
  | .non => some "NoneType"
  | .bl _ => some "bool"
  | .int _ => some "int"
  | .str _ => some "str"
  | .lst _ => some "list"
  | .tup _ => some "tuple"
  | .dic _ _ => some "dict"
  | _ => none
theorem tyX_of {Z : Addr → Prop} {H : Hp} {v : V} {d : D} {n : String} (r : Rl K ca Z H v d) (h : tyName d = some n) : TyX K H v (.type n) := by
  cases r with
  | non => cases h; exact .base .non
  | bl b => cases h; exact .base (.bl b)
  | int b => cases h; exact .base (.int b)
  | str b => cases h; exact .base (.str b)
  | ty n => cases h
  | obj a => cases h
  | chn => cases h
  | scr _ => cases h
  | lst n hH ra => cases h; exact .base (.lst hH)
  | tup hH ra =>
    cases h
    rcases hH with ⟨o, _, hH⟩ | ⟨us, n, sl, e, _, _⟩
    · unfold tupH at hH
      split at hH
      · exact .base (.tup hH)
      · exact .fTuple hH
    · exact .kTuple e rfl
  | dic n hH ra => cases h; exact .base (.dK hH)
def subTy (a b : String) : Bool := a == b || (a == "bool" && b == "int")
def tyAs : List String := ["NoneType", "bool", "int", "str", "list", "tuple", "dict"]
def tyBs : List String := ["bool", "int", "str", "list", "tuple", "dict"]
theorem kit_all : ∀ a ∈ tyAs, ∀ b ∈ tyBs, kitB a b = some (subTy a b) := by decide +kernel
theorem ty_mem {d : D} {n : String} (h : tyName d = some n) : n ∈ tyAs := by
  cases d <;> first | (cases h; decide) | cases h
def tyNm : D → Option String
  | .ty n => if n ∈ tyBs then some n else none
  | _ => none
def tyNms : List D → Option (List String)
  | [] => some []
  | d :: ds => (tyNm d).bind fun n => (tyNms ds).map (n :: ·)
def gIsi : List D → Option D
  | [d, .tup (c :: cs)] => (tyName d).bind fun a => (tyNms (c :: cs)).map fun ns => .bl (ns.any (subTy a))
  | [d, c] => (tyName d).bind fun a => (tyNm c).map fun n => .bl (subTy a n)
  | _ => none
def rIsiD (K : PySem.W.Frag) : List V → Hp → VK → Prop := fun xs H Q => rIsi K xs H Q ∨ rIsiT K xs H Q ∨ rIsiK K xs H Q
theorem cr_isi : CallR X (.builtin "isinstance") (rIsiD X.K) := CallR.or call_isi (CallR.or call_isiT call_isiK)
theorem tyNm_of {Z : Addr → Prop} {H : Hp} {v : V} {d : D} {n : String} (r : Rl K ca Z H v d) (h : tyNm d = some n) : v = .ty n ∧ n ∈ tyBs := by
  cases r with
  | ty m =>
    have h : (if m ∈ tyBs then some m else none) = some n := h
    by_cases hm : m ∈ tyBs
    · rw [if_pos hm] at h; cases h; exact ⟨rfl, hm⟩
    · rw [if_neg hm] at h; cases h
  | _ => cases h
theorem tyNms_of {Z : Addr → Prop} {H : Hp} : ∀ {vs : List V} {ds : List D} {ns : List String}, RlA K ca Z H vs ds → tyNms ds = some ns → vs = ns.map V.ty ∧ ∀ n ∈ ns, n ∈ tyBs
  | _, _, _, .nil, h => by cases h; exact ⟨rfl, by simp⟩
  | _, _, _, .cons (d := d) (ds := ds) r ra, h => by
    unfold tyNms at h
    cases hd : tyNm d with
    | none => rw [hd] at h; cases h
    | some n =>
      rw [hd] at h
      cases hs : tyNms ds with
      | none => rw [hs] at h; cases h
      | some ns =>
        rw [hs] at h; cases h
        obtain ⟨e1, m1⟩ := tyNm_of r hd
        obtain ⟨e2, m2⟩ := tyNms_of ra hs
        exact ⟨by rw [e1, e2]; rfl, fun k hk => (List.mem_cons.mp hk).elim (fun e => e ▸ m1) (m2 k)⟩
theorem kitAny_all {a : String} (ha : a ∈ tyAs) : ∀ {ns : List String}, (∀ n ∈ ns, n ∈ tyBs) → PySem.W.kitAny K (.type a) (ns.map Value.type) = some (ns.any (subTy a))
  | [], _ => kitAny_nil
  | n :: ns, h => by
    have ih := kitAny_all ha (ns := ns) fun k hk => h k (List.mem_cons_of_mem _ hk)
    rw [List.map_cons, List.any_cons]
    refine kitAny_cons (kit_ty (kit_all a ha n (h n List.mem_cons_self))) (fun e => ?_) (fun e => ?_)
    · rw [e, Bool.false_or]; exact ih
    · rw [e, Bool.true_or]
theorem clsA : ∀ ns : List String, Paired ClsV (ns.map V.ty) (ns.map Value.type)
  | [] => .nil
  | n :: ns => .cons (.ty n) (clsA ns)
theorem cal_isi : CalD K ca (rIsiD K) gIsi := fun Z H c xs ds d' Q z co r hg q => by
  have one : ∀ {d k : D}, RlA K ca Z H xs [d, k] → ((tyName d).bind fun a => (tyNm k).map fun n => D.bl (subTy a n)) = some d' → rIsiD K xs H Q := by
    intro d k r hg
    cases r with | cons r1 r2 => cases r2 with | cons r2 r3 =>
    cases r3
    cases ha : tyName d with
    | none => rw [ha] at hg; cases hg
    | some a =>
      rw [ha] at hg
      cases hn : tyNm k with
      | none =>
        have hg : ((tyNm k).map fun n => D.bl (subTy a n)) = some d' := hg
        rw [hn] at hg; cases hg
      | some n =>
        have hg : ((tyNm k).map fun n => D.bl (subTy a n)) = some d' := hg
        rw [hn] at hg; cases hg
        obtain ⟨rfl, m⟩ := tyNm_of r2 hn
        exact .inl ⟨_, _, _, _, _, rfl, .ty n, tyX_of r1 ha, kit_ty (kit_all a (ty_mem ha) n m), q _ H .refl (.bl _) co⟩
  unfold gIsi at hg
  split at hg
  · rename_i d c0 cs
    cases r with | cons r1 r2 => cases r2 with | cons r2 r3 =>
    cases r3
    cases ha : tyName d with
    | none => rw [ha] at hg; cases hg
    | some a =>
      rw [ha] at hg
      have hg : ((tyNms (c0 :: cs)).map fun ns => D.bl (ns.any (subTy a))) = some d' := hg
      cases hn : tyNms (c0 :: cs) with
      | none => rw [hn] at hg; cases hg
      | some ns =>
        rw [hn] at hg; cases hg
        cases r2 with
        | tup hH ra =>
          obtain ⟨rfl, m⟩ := tyNms_of ra hn
          rcases hH with ⟨o, _, hH⟩ | ⟨us, k, sl, e, _, rv⟩
          · have pl : plainT (ns.map V.ty) = true := by
              cases ns with
              | nil => exact nomatch ra.length
              | cons n ns => rfl
            unfold tupH at hH
            rw [if_pos pl] at hH
            exact .inr (.inl ⟨_, _, _, _, _, _, rfl, hH, clsA ns, tyX_of r1 ha, kitAny_all (ty_mem ha) m, q _ H .refl (.bl _) co⟩)
          · have eu := ClsV.all (clsA ns) rv
            subst eu
            exact .inr (.inr ⟨_, _, _, _, _, _, _, _, rfl, e, tyX_of r1 ha, kitAny_all (ty_mem ha) m, q _ H .refl (.bl _) co⟩)
  · exact one r hg
  · cases hg
/-! ### join -/
def strA : List D → Option (List Str)
  | [] => some []
  | .str x :: ds => (strA ds).map (x :: ·)
  | _ => none
theorem strA_of {Z : Addr → Prop} {H : Hp} : ∀ {vs : List V} {ds : List D} {xs : List Str}, RlA K ca Z H vs ds → strA ds = some xs → vs = xs.map V.str
  | _, _, _, .nil, h => by cases h; rfl
  | _, _, _, .cons (d := d) (ds := ds) r ra, h => by
    cases r with
    | str b =>
      unfold strA at h
      cases hs : strA ds with
      | none => rw [hs] at h; cases h
      | some ws => rw [hs] at h; cases h; rw [strA_of ra hs]; rfl
    | _ => unfold strA at h; cases h
def gJoin : D → List D → Option D
  | .str a, [x] => (seqOf x).bind fun ds => (strA ds).bind fun ys => if (ys.map (·.length)).sum + ys.length * a.length ≤ 16777216 then some (.str (Txt.join a ys)) else none
  | _, _ => none
theorem met_join : MetD K ca "str" (fun x xs H Q => ∃ a p, ∃ ys : List Str, x = .str a ∧ xs = [.ref p] ∧ (SqL K H p (ys.map V.str) ∨ SqT K H p (ys.map V.str)) ∧
    (ys.map (·.length)).sum + ys.length * a.length ≤ 16777216 ∧ Q (.str (Txt.join a ys)) H) gJoin := fun Z H c x xs d d' ds Q z co r rs hg q => by
  unfold gJoin at hg
  split at hg
  · rename_i a e
    cases r
    cases rs with | cons r1 r2 =>
    cases r2
    cases he : seqOf e with
    | none => rw [he] at hg; cases hg
    | some es =>
      rw [he] at hg
      have hg : ((strA es).bind fun ys => if (ys.map (·.length)).sum + ys.length * a.length ≤ 16777216 then some (D.str (Txt.join a ys)) else none) = some d' := hg
      cases hy : strA es with
      | none => rw [hy] at hg; cases hg
      | some ys =>
        rw [hy] at hg
        have hg : (if (ys.map (·.length)).sum + ys.length * a.length ≤ 16777216 then some (D.str (Txt.join a ys)) else none) = some d' := hg
        by_cases hz : (ys.map (·.length)).sum + ys.length * a.length ≤ 16777216
        · rw [if_pos hz] at hg; cases hg
          cases r1 with
          | lst n hH ra => cases he; exact ⟨a, _, ys, rfl, rfl, .inl (by rw [← strA_of ra hy]; exact SqL.of hH), hz, q _ H .refl (.str _) co⟩
          | tup hH ra => cases he; exact ⟨a, _, ys, rfl, rfl, .inr (by rw [← strA_of ra hy]; exact hH.s), hz, q _ H .refl (.str _) co⟩
          | _ => cases he
        · rw [if_neg hz] at hg; cases hg
  · cases hg
/-! ### dicts -/
def keyD : D → Option Key
  | .int i => some (.inl i)
  | .str x => some (.inr x)
  | _ => none
def dKey : Key → D
  | .inl i => .int i
  | .inr x => .str x
/-- in its place, or at the end -/
def putD (ks : List Key) (vs : List D) (k : Key) (v : D) : List Key × List D := match ks, vs with
  | k' :: ks, v' :: vs => if k' = k then (k' :: ks, v :: vs) else let r := putD ks vs k v; (k' :: r.1, v' :: r.2)
  | ks, vs => (ks ++ [k], vs ++ [v])
def mergeD : List (Key × D) → List Key × List D → List Key × List D
  | [], a => a
  | (k, v) :: r, a => mergeD r (putD a.1 a.2 k v)
theorem keyD_of {Z : Addr → Prop} {H : Hp} {v : V} {d : D} {k : Key} (r : Rl K ca Z H v d) (h : keyD d = some k) : v = kV k := by
  cases r <;> first | (cases h; rfl) | cases h
theorem map_pos {kvs : List (Key × V)} {k : Key} {v : V} (h : ¬ k ∈ kvs.map (·.1)) : kvs.map (fun kv => if kv.1 = k then (kv.1, v) else kv) = kvs := by
  induction kvs with
  | nil => rfl
  | cons p r ih =>
    rw [List.map_cons, if_neg (fun e => h (by rw [List.map_cons, e]; exact List.mem_cons_self)), ih fun m => h (by rw [List.map_cons]; exact List.mem_cons_of_mem _ m)]
theorem putK_cons_eq {p : Key × V} {r : List (Key × V)} {k : Key} {v : V} (hn : ((p :: r).map (·.1)).Nodup) (e : p.1 = k) : putK (p :: r) k v = (k, v) :: r := by
  unfold putK
  rw [if_pos (by rw [List.any_cons, decide_eq_true e, Bool.true_or]), List.map_cons, if_pos e, e]
  rw [List.map_cons, List.nodup_cons, e] at hn
  rw [map_pos hn.1]
theorem putK_cons_ne {p : Key × V} {r : List (Key × V)} {k : Key} {v : V} (e : ¬ p.1 = k) : putK (p :: r) k v = p :: putK r k v := by
  unfold putK
  rw [List.any_cons, decide_eq_false e, Bool.false_or]
  by_cases h : (r.any fun kv => decide (kv.1 = k)) = true
  · rw [if_pos h, if_pos h, List.map_cons, if_neg e]
  · rw [if_neg h, if_neg h]; rfl
theorem putK_keys {r : List (Key × V)} {k : Key} {v : V} (hn : (r.map (·.1)).Nodup) : ((putK r k v).map (·.1)).Nodup ∧ (∀ j, j ∈ (putK r k v).map (·.1) ↔ j ∈ r.map (·.1) ∨ j = k) := by
  induction r with
  | nil => simp [putK]
  | cons p r ih =>
    have hn' := hn
    rw [List.map_cons, List.nodup_cons] at hn'
    by_cases e : p.1 = k
    · rw [putK_cons_eq hn e]
      subst e
      refine ⟨hn, fun j => ?_⟩
      simp
      intro h; exact .inl h
    · rw [putK_cons_ne e]
      obtain ⟨h1, h2⟩ := ih hn'.2
      refine ⟨?_, fun j => ?_⟩
      · rw [List.map_cons, List.nodup_cons]
        exact ⟨fun m => ((h2 _).mp m).elim hn'.1 e, h1⟩
      · rw [List.map_cons, List.mem_cons, h2, List.map_cons, List.mem_cons, or_assoc]
theorem rl_put {Z : Addr → Prop} {H : Hp} : ∀ {kvs : List (Key × V)} {ds : List D} {k : Key} {v : V} {d : D}, (kvs.map (·.1)).Nodup → RlA K ca Z H (kvs.map (·.2)) ds → Rl K ca Z H v d →
    (putK kvs k v).map (·.1) = (putD (kvs.map (·.1)) ds k d).1 ∧ RlA K ca Z H ((putK kvs k v).map (·.2)) (putD (kvs.map (·.1)) ds k d).2
  | [], ds, k, v, d, _, ra, r => by
    have ra : RlA K ca Z H [] ds := ra
    cases ra
    exact ⟨rfl, .cons r .nil⟩
  | p :: kvs, d' :: ds, k, v, d, hn, .cons r1 ra, r => by
    by_cases e : p.1 = k
    · rw [putK_cons_eq hn e]
      have e2 : putD ((p :: kvs).map (·.1)) (d' :: ds) k d = (p.1 :: kvs.map (·.1), d :: ds) := by
        show (if p.1 = k then (p.1 :: kvs.map (·.1), d :: ds) else _) = _
        rw [if_pos e]
      rw [e2]
      exact ⟨by rw [List.map_cons, e], .cons r ra⟩
    · rw [putK_cons_ne e]
      rw [List.map_cons, List.nodup_cons] at hn
      obtain ⟨h1, h2⟩ := rl_put (k := k) (v := v) (d := d) hn.2 ra r
      have e2 : putD ((p :: kvs).map (·.1)) (d' :: ds) k d = (p.1 :: (putD (kvs.map (·.1)) ds k d).1, d' :: (putD (kvs.map (·.1)) ds k d).2) := by
        show (if p.1 = k then (p.1 :: kvs.map (·.1), d :: ds) else _) = _
        rw [if_neg e]
      rw [e2]
      exact ⟨by rw [List.map_cons, h1], .cons r1 h2⟩
theorem rl_merge {Z : Addr → Prop} {H : Hp} : ∀ {more : List (Key × V)} {mds : List D} {kvs : List (Key × V)} {ds : List D}, (kvs.map (·.1)).Nodup → RlA K ca Z H (kvs.map (·.2)) ds → RlA K ca Z H (more.map (·.2)) mds →
    (mergeK kvs more).map (·.1) = (mergeD ((more.map (·.1)).zip mds) (kvs.map (·.1), ds)).1 ∧ RlA K ca Z H ((mergeK kvs more).map (·.2)) (mergeD ((more.map (·.1)).zip mds) (kvs.map (·.1), ds)).2
  | [], mds, kvs, ds, _, ra, rm => by
    have rm : RlA K ca Z H [] mds := rm
    cases rm
    exact ⟨rfl, ra⟩
  | (k, v) :: more, d :: mds, kvs, ds, hn, ra, .cons r1 rm => by
    obtain ⟨e1, r2⟩ := rl_put (k := k) (v := v) (d := d) hn ra r1
    have := rl_merge (more := more) (mds := mds) (putK_keys (k := k) (v := v) hn).1 r2 rm
    rw [e1] at this
    exact this
end
end G

set_option Elab.async false
set_option linter.all false
set_option maxRecDepth 100000
set_option maxHeartbeats 4000000
/-! G9: dict displays, dict(pairs), list(d.items()). -/
namespace G
open PySem PySem.Spec PyProof.Rows L2
/-- the pairs of a display, key ahead of value -/
def ePairs : List ((Ev → M D) × (Ev → M D)) → Ev → M (List (Key × D))
  | [], _ => pure []
  | (fk, fv) :: r, ρ => fk ρ >>= fun x => liftO (keyD x) >>= fun k => fv ρ >>= fun v => ePairs r ρ >>= fun ps => pure ((k, v) :: ps)
def mkDic (ps : List (Key × D)) : D := let r := mergeD ps ([], []); .dic r.1 r.2
def eDict (ps : List ((Ev → M D) × (Ev → M D))) : Ev → M D := fun ρ => ePairs ps ρ >>= fun kvs => if kvs.length ≤ 15 then pure (mkDic kvs) else stuck
section
variable {X : Cx} {ca : Dr} {E : XK} {pos : Pos} {K : PySem.W.Frag}
def trOf (K : PySem.W.Frag) (ca : Dr) (E : XK) (ps : List ((Ev → M D) × (Ev → M D))) : List (TE × TE) := ps.map fun p => (tD K ca E p.1, tD K ca E p.2)
theorem dp_nil : PPs X pos [] [] (trOf X.K ca E []) := pps_nil
theorem dp_cons {k v : Expr} {ks : List (Option Expr)} {vs : List Expr} {fk fv : Ev → M D} {ps : List ((Ev → M D) × (Ev → M D))} (hk : PE X k (tD X.K ca E fk)) (hv : PE X v (tD X.K ca E fv)) (hr : PPs X pos ks vs (trOf X.K ca E ps)) :
    PPs X pos (some k :: ks) (v :: vs) (trOf X.K ca E ((fk, fv) :: ps)) := pps_cons hk hv hr
theorem tPairs_imp : ∀ (trs : List (TE × TE)) {σ : L2.St} {H : Hp} {Q Q' : List (V × V) → Hp → Prop}, (∀ t ∈ trs, ∀ (σ : L2.St) (H : Hp) (R R' : VK), (∀ v H', R v H' → R' v H') → (t.1 σ H R → t.1 σ H R') ∧ (t.2 σ H R → t.2 σ H R')) → (∀ ps H', Q ps H' → Q' ps H') → tPairs trs σ H Q → tPairs trs σ H Q'
  | [], σ, H, Q, Q', _, h, q => h _ _ q
  | (tk, tv) :: r, σ, H, Q, Q', m, h, q => by
    have m1 := m (tk, tv) List.mem_cons_self
    refine (m1 σ H _ _ fun x H1 q1 => ?_).1 q
    exact (m1 σ H1 _ _ fun y H2 q2 => tPairs_imp r (fun t ht => m t (List.mem_cons_of_mem _ ht)) (fun ps H3 q3 => h _ _ q3) q2).2 q1
theorem pairs_run {Z Y : Addr → Prop} : ∀ {ps : List ((Ev → M D) × (Ev → M D))} {σ : L2.St} {ρ : Ev} {H : Hp} {c : Churn} {Q : List (V × V) → Hp → Prop}, EnvOk X.K ca Z Y H σ ρ → ChOk X.K ca H c →
    Do X.K ca E (U Z Y) H (ePairs ps ρ c) (fun kds c' => ∀ (kvs : List (Key × V)) (H' : Hp), Ext ca H H' → kvs.map (·.1) = kds.map (·.1) → RlA X.K ca (U Z Y) H' (kvs.map (·.2)) (kds.map (·.2)) → ChOk X.K ca H' c' → Q (kvs.map fun kv => (kV kv.1, kv.2)) H') → tPairs (trOf X.K ca E ps) σ H Q
  | [], σ, ρ, H, c, Q, eo, co, h => h [] H .refl rfl .nil co
  | (fk, fv) :: r, σ, ρ, H, c, Q, eo, co, h => by
    refine ⟨Z, Y, ρ, c, eo, co, (Do.bind h).mono fun d c1 h1 x H1 e1 r1 co1 => ?_⟩
    obtain ⟨k, hk, h2⟩ := Do.lift (Do.bind h1)
    have ex := keyD_of r1 hk
    refine ⟨Z, Y, ρ, c1, eo.ext e1, co1, ((Do.bind h2).ext e1).mono fun d2 c2 h3 y H2 e2 r2 co2 => ?_⟩
    refine pairs_run (eo.ext (e1.trans e2)) co2 (((Do.bind h3).ext (e1.trans e2)).mono fun kds c3 h4 kvs H3 e3 ek ra co3 => ?_)
    have := h4 ((k, y) :: kvs) H3 ((e1.trans e2).trans e3) (by rw [List.map_cons, List.map_cons, ek]) (.cons (r2.ext e3 eo.zc) ra) co3
    rw [List.map_cons] at this
    rw [ex]
    exact this
theorem zip_self {α β : Type} : ∀ l : List (α × β), (l.map (·.1)).zip (l.map (·.2)) = l
  | [] => rfl
  | q :: r => by rw [List.map_cons, List.map_cons, List.zip_cons_cons, zip_self r]
theorem Do.anti {K : PySem.W.Frag} {Z Z' : Addr → Prop} {H : Hp} {α : Type} {r : R α} {k : α → Churn → Prop} (hz : ∀ b, Z b → Z' b) (h : Do K ca E Z H r k) : Do K ca E Z' H r k :=
  At.mono h (fun _ _ z => z) fun x c z cv od H' e ⟨q1, d, fs, q2, q3, q4, q5⟩ co => z cv od H' e ⟨q1, d, fs, q2, q3, q4, q5.anti hz⟩ co
theorem d_dict {keys : List (Option Expr)} {values : List Expr} {ps : List ((Ev → M D) × (Ev → M D))} (h : PPs X pos keys values (trOf X.K ca E ps)) (hall : keys.all (·.isSome) = true := by rfl) (hl : keys.length = values.length := by rfl) (h0 : keys ≠ [] := by intro z; cases z) (h15 : keys.length ≤ 15 := by decide) :
    PE X (.Dict keys values pos) (tD X.K ca E (eDict ps)) := by
  refine ⟨fun pins s σ H Q I hw => (pe_disp h hall hl h0 h15).run pins s σ H Q I ?_⟩
  obtain ⟨Z, Y, ρ, c, eo, co, hw⟩ := hw
  intro p np
  have n0 : ExtP (fun b : Addr => b = ca) H (upd H p (.dK [])) := ExtP.new np
  have npca : p ≠ ca := co.ne np
  have eb : EnvOk X.K ca Z (fun b => Y b ∨ b = p) (upd H p (.dK [])) σ ρ := eo.blk np npca.symm (fun z => by have q := co.2; rw [z, np] at q; cases q) n0 upd_same
  refine pairs_run eb (co.new np) ((((Do.bind hw).ext n0).anti fun b z => z.imp id .inl).mono fun kds c1 h1 kvs H1 e1 ek ra co1 => ?_)
  by_cases hz : kds.length ≤ 15
  · rw [if_pos hz] at h1
    have h1 : ∀ v H', Ext ca H H' → Rl X.K ca (U Z Y) H' v (mkDic kds) → ChOk X.K ca H' c1 → Q v H' := h1
    have hp1 : H1 p = some (.dK []) := e1.at_ upd_same (.inl npca)
    have hlen : kvs.length = kds.length := by have := congrArg List.length ek; simpa using this
    have xp : ExtP (fun b => b = p) H1 (upd H1 p (.dK (mergeK [] kvs))) := fun b o q => by
      by_cases hb : b = p
      · subst hb
        rw [hp1] at q; cases q
        exact .inr ⟨rfl, trivial, _, upd_same, trivial⟩
      · exact .inl (by rw [upd_ne hb]; exact q)
    refine ⟨hp1, kvs, rfl, by omega, h1 _ _ ?_ ?_ ?_⟩
    · intro b o q
      have nb : b ≠ p := fun z => by rw [z, np] at q; cases q
      rw [upd_ne nb]
      exact (n0.trans e1) b o q
    · have m := rl_merge (K := X.K) (ca := ca) (Z := U Z fun b => Y b ∨ b = p) (H := H1) (more := kvs) (mds := kds.map (·.2)) (kvs := []) (ds := []) List.nodup_nil .nil ra
      rw [ek, zip_self] at m
      have r3 := (m.2.ext xp fun b z => .inr (.inr z)).anti (Z' := U Z Y) fun b z => z.imp id .inl
      have r4 := Rl.dic (K := X.K) (ca := ca) (Z := U Z Y) (eo.zok.free np) (upd_same (H := H1) (a := p) (o := .dK (mergeK [] kvs))) r3
      rw [m.1] at r4
      exact r4
    · obtain ⟨q1, q2⟩ := co1
      exact ⟨by rw [upd_ne (Ne.symm npca)]; exact q1, by rw [upd_ne (fun z => by rw [z, hp1] at q2; cases q2)]; exact q2⟩
  · rw [if_neg hz] at h1; exact h1.elim
/-! ### dict(pairs) -/
def pairD : D → Option (Key × D)
  | .tup [k, v] => (keyD k).map fun k => (k, v)
  | _ => none
def pairsD : List D → Option (List (Key × D))
  | [] => some []
  | d :: ds => (pairD d).bind fun p => (pairsD ds).map (p :: ·)
def gDict : List D → Option D
  | [.lst xs] => (pairsD xs).map mkDic
  | _ => none
theorem pairsD_of {Z : Addr → Prop} {H : Hp} : ∀ {vs : List V} {ds : List D} {kds : List (Key × D)}, RlA K ca Z H vs ds → pairsD ds = some kds →
    ∃ (as : List Addr) (kvs : List (Key × V)), vs = as.map V.ref ∧ Paired (fun p kv => SqT K H p [kV kv.1, kv.2]) as kvs ∧ kvs.map (·.1) = kds.map (·.1) ∧ RlA K ca Z H (kvs.map (·.2)) (kds.map (·.2))
  | _, _, _, .nil, h => by cases h; exact ⟨[], [], rfl, .nil, rfl, .nil⟩
  | _, _, _, .cons (d := d) (ds := ds) r ra, h => by
    unfold pairsD at h
    cases hd : pairD d with
    | none => rw [hd] at h; cases h
    | some p =>
      rw [hd] at h
      cases hs : pairsD ds with
      | none => rw [hs] at h; cases h
      | some ps =>
        rw [hs] at h; cases h
        obtain ⟨as, kvs, rfl, q1, q2, q3⟩ := pairsD_of ra hs
        unfold pairD at hd
        split at hd
        · rename_i k v
          cases hk : keyD k with
          | none => rw [hk] at hd; cases hd
          | some kk =>
            rw [hk] at hd; cases hd
            cases r with
            | tup hH rr =>
              cases rr with | cons r1 rr => cases rr with | cons r2 rr =>
              cases rr
              have e1 := keyD_of r1 hk
              subst e1
              exact ⟨_ :: as, (kk, _) :: kvs, rfl, .cons hH.s q1, by rw [List.map_cons, List.map_cons, q2], .cons r2 q3⟩
        · cases hd
theorem cal_dict : CalD K ca (fun xs H Q => ∃ (a : Addr) (ps : List Addr) (kvs : List (Key × V)), xs = [.ref a] ∧ SqL K H a (ps.map V.ref) ∧ Paired (fun p kv => SqT K H p [kV kv.1, kv.2]) ps kvs ∧
    ∀ p, H p = none → Q (.ref p) (upd H p (.dK (mergeK [] kvs)))) gDict := fun Z H c xs ds d' Q z co r hg q => by
  unfold gDict at hg
  split at hg
  · rename_i ys
    cases r with | cons r1 r2 =>
    cases r2
    cases hy : pairsD ys with
    | none => rw [hy] at hg; cases hg
    | some kds =>
      rw [hy] at hg; cases hg
      cases r1 with | lst n hH ra =>
      obtain ⟨as, kvs, rfl, q1, q2, q3⟩ := pairsD_of ra hy
      refine ⟨_, as, kvs, rfl, SqL.of hH, q1, fun p np => q _ _ (ExtP.new np) ?_ (co.new np)⟩
      have m := rl_merge (more := kvs) (mds := kds.map (·.2)) (kvs := []) (ds := []) List.nodup_nil .nil q3
      rw [q2, zip_self] at m
      have r4 := Rl.dic (K := K) (ca := ca) (Z := Z) (z.free np) (upd_same (H := H) (a := p) (o := .dK (mergeK [] kvs))) (m.2.ext (ExtP.new (P := fun b : Addr => b = ca) np) fun b e => e ▸ z.zca)
      rw [m.1] at r4
      exact r4
  · cases hg
/-! ### list(d.items()) -/
def itemsD (ks : List Key) (vs : List D) : List D := (ks.zip vs).map fun p => .tup [dKey p.1, p.2]
def eItems (f : Ev → M D) : Ev → M D := fun ρ => f ρ >>= fun d => liftO (match d with | .dic ks vs => some (.lst (itemsD ks vs)) | _ => none)
theorem kV_rl {Z : Addr → Prop} {H : Hp} (k : Key) : Rl K ca Z H (kV k) (dKey k) := by
  cases k with
  | inl i => exact .int i
  | inr x => exact .str x
theorem kV_flat {vs : List V} (k : Key) : plainT (kV k :: vs) = true := by cases k <;> rfl
theorem items_rl {Z : Addr → Prop} {H' : Hp} : ∀ {ts : List Addr} {kvs : List (Key × V)} {ds : List D}, Paired (fun (t : Addr) (q : Key × V) => H' t = some (.tup [kV q.1, q.2])) ts kvs → RlA K ca Z H' (kvs.map (·.2)) ds →
    RlA K ca Z H' (ts.map V.ref) (itemsD (kvs.map (·.1)) ds)
  | _, _, ds, .nil, r => by
    have r : RlA K ca Z H' [] ds := r
    cases r
    exact .nil
  | _, _, _, .cons (a := t) (b := kv) h hs, .cons (d := d) r rs => .cons (.tup (TupAt.ofP h (kV_flat _)) (.cons (kV_rl _) (.cons r .nil))) (items_rl hs rs)
theorem d_listItems {e : Expr} {f : Ev → M D} {p apos cpos : Pos} (hc : X.calm = true) (he : PE X e (tD X.K ca E f)) (hm : X.mg "list" = none) (hv : bootBuiltins "list" = some (.type "list")) (hg : Gl X "list" := by rfl) (hbase : attributeBase e "items" X.env (eval e X.env) = eval e X.env := by rfl) (hline : (apos.endLine == cpos.line) = true := by rfl)
    (hs : starEach [.Call (.Attribute e "items" apos) [] [] cpos] X.env = (false, eval (.Call (.Attribute e "items" apos) [] [] cpos) X.env) :: starEach [] X.env := by rfl) :
    PE X (.Call (.Name "list" p) [.Call (.Attribute e "items" apos) [] [] cpos] [] pos) (tD X.K ca E (eItems f)) := by
  refine ⟨fun pins s σ H Q I h => (LiI.pe_listItems hc he hg hm hv hbase hline hs).run pins s σ H Q I ?_⟩
  obtain ⟨Z, Y, ρ, c, eo, co, h⟩ := h
  refine ⟨Z, Y, ρ, c, eo, co, (Do.bind h).mono fun d c1 h1 x H1 e1 r1 co1 => ?_⟩
  obtain ⟨d', hg, h2⟩ := Do.lift h1
  cases r1 with
  | dic n hH ra =>
    cases hg
    refine ⟨_, _, rfl, hH, fun H' p ts k np nt npt hp ht => ?_⟩
    have ex : ExtP (fun b : Addr => b = ca) H1 H' := .of k
    exact h2 _ H' (e1.trans ex) (.lst ((eo.zok.ext e1).free np) hp (items_rl ht (ra.ext ex eo.zc))) (co1.ext k)
  | _ => cases hg
end
end G

set_option Elab.async false
set_option linter.all false
set_option maxRecDepth 100000
set_option maxHeartbeats 8000000
/-! GA: len(set(xs)), xs a list or a tuple of ints and texts. -/
namespace G
open PySem PySem.Spec PyProof.Rows L2
def hasK (acc : List Key) (k : Key) : Bool := acc.any fun j => decide (j = k)
theorem hasK_iff {acc : List Key} {k : Key} : hasK acc k = true ↔ k ∈ acc := by
  unfold hasK
  rw [List.any_eq_true]
  exact ⟨fun ⟨j, h, e⟩ => of_decide_eq_true e ▸ h, fun h => ⟨k, h, decide_eq_true rfl⟩⟩
theorem hasK_snoc {acc : List Key} {k j : Key} : hasK (acc ++ [k]) j = (hasK acc j || decide (j = k)) := by
  unfold hasK
  rw [List.any_append, List.any_cons, List.any_nil, Bool.or_false]
  congr 1
  by_cases e : j = k
  · rw [decide_eq_true e, decide_eq_true e.symm]
  · rw [decide_eq_false e, decide_eq_false fun z => e z.symm]
theorem setOf_as {prog : Program} {w : World} {h : Heap} {a : Addr} {S T : Key → Bool} {n m : Nat} (x : h.SetOf (mixKind prog w) a S n) (e : ∀ k, S k = T k) (en : n = m) : h.SetOf (mixKind prog w) a T m := by
  cases funext e
  cases en
  exact x
/-- one more key met -/
def stepK (acc : List Key) (k : Key) : List Key := if hasK acc k = true then acc else acc ++ [k]
/-- the keys met so far, each once -/
def metK (acc : List Key) : List Key → List Key
  | [] => acc
  | k :: r => metK (stepK acc k) r
theorem stepK_le (acc : List Key) (k : Key) : (stepK acc k).length ≤ acc.length + 1 := by
  unfold stepK
  split
  · omega
  · rw [List.length_append]; simp
theorem metK_le : ∀ (ks acc : List Key), (metK acc ks).length ≤ acc.length + ks.length
  | [], acc => Nat.le_refl _
  | k :: r, acc => by
    have h1 := metK_le r (stepK acc k)
    have h2 := stepK_le acc k
    rw [List.length_cons]
    show (metK (stepK acc k) r).length ≤ _
    omega
section
variable {prog : Program} {w : World} {A : Around} {R : Result → Shared → Prop} {I : Addr} {fp wr : List Addr} {G : Array GenState → Array GenState → Prop} {n : Nat} {P : Nat → Value → Prop} {Lp : Nat → Shared → Prop}
/-- the filling of a new set from a walk over keys -/
theorem fill_set (walk : WalksS prog w A.in1 I fp wr G n P Lp) (C : Addr) (apart : C ∉ fp) (ks : List Key) (many : ks.length = n) (few : n + 1 < scanBound) (item : ∀ i v, P i v → ∃ k, ks[i]? = some k ∧ keyIs k v = true) :
    ∀ (rest acc : List Key) (i : Nat) (u : Shared), ks.drop i = rest → i ≤ n → acc.length ≤ i → Lp i u → u.heap.SetOf (mixKind prog w) C (hasK acc) acc.length →
      (∀ u', Moved (C :: wr) G u u' → u'.heap.SetOf (mixKind prog w) C (hasK (metK acc rest)) (metK acc rest).length → R (.ok (.ret .none)) u') →
      codeAny (model prog w) A (.builtin "set.update.loop" ⟨[.ref C, .ref I], []⟩) R u := by
  have outW : C ∉ wr := fun z => apart (walk.sub _ z)
  have wider : ∀ b ∈ wr, b ∈ C :: wr := fun _ => List.mem_cons_of_mem _
  have stays : ∀ {u u' : Shared} {S : Key → Bool} {m : Nat}, Moved wr G u u' → u.heap.SetOf (mixKind prog w) C S m → u'.heap.SetOf (mixKind prog w) C S m :=
    fun mv ⟨o, es, ep, t, at_, more⟩ => ⟨o, es, ep, t, mv.heap C _ outW at_, more⟩
  intro rest
  induction rest with
  | nil =>
    intro acc i u hd hi _ st hS back
    have whole : i = n := by
      have := congrArg List.length hd
      rw [List.length_drop, List.length_nil] at this
      omega
    subst whole
    refine codeAny_builtin PyProof.Rows.F.entry_set_update_loop ?_
    rw [Around.under_plainId PyProof.Rows.F.plain_set_update_loop _]
    change wpAny _ A.in1 (pyNext (.ref I) >>= _) _ _ u
    exact wpAny_bind (walk.done u _ _ st fun u' mv => wpAny_pure (back u' (mv.mono wider) (stays mv hS)))
  | cons k rest ih =>
    intro acc i u hd hi hacc st hS back
    have more : i < n := by
      have := congrArg List.length hd
      rw [List.length_drop, List.length_cons] at this
      omega
    have here : ks[i]? = some k := by
      have := congrArg List.head? hd
      rw [List.head?_drop] at this
      simpa using this
    have behind : ks.drop (i + 1) = rest := by
      have := congrArg List.tail hd
      rw [List.tail_drop] at this
      simpa using this
    refine codeAny_builtin PyProof.Rows.F.entry_set_update_loop ?_
    rw [Around.under_plainId PyProof.Rows.F.plain_set_update_loop _]
    change wpAny _ A.in1 (pyNext (.ref I) >>= _) _ _ u
    refine wpAny_bind (walk.item i u _ _ more st fun v u' hv st' mv => ?_)
    obtain ⟨k', hk', isk⟩ := item i v hv
    rw [here] at hk'
    cases hk'
    have scan : v.scannable = true := by
      rcases keyIs_shape isk with ⟨_, _, rfl, rfl⟩ | ⟨_, _, rfl, rfl⟩ <;> rfl
    have hS' := stays mv hS
    change wpAny _ A.in1 (holding [v] (setAdd C v) >>= _) _ _ u'
    refine wpAny_bind (wpAny_holding ?_)
    unfold setAdd
    refine wpAny_holding (wpAny_bind ((mixKind prog w).pyHash (k := k) isk ?_))
    refine wpAny_setAddHashed_of (knd := mixKind prog w) (s := { u' with toks := u'.toks + 1 }) isk scan hS' (by omega) fun h' only grown => ?_
    have next : h'.SetOf (mixKind prog w) C (hasK (stepK acc k)) (stepK acc k).length := by
      unfold stepK
      by_cases hm : hasK acc k = true
      · rw [if_pos hm]
        refine setOf_as grown (fun j => ?_) (if_pos hm)
        by_cases e : j = k
        · subst e; rw [hm]; rfl
        · rw [decide_eq_false e, Bool.or_false]
      · rw [if_neg hm]
        refine setOf_as grown (fun j => hasK_snoc.symm) ?_
        rw [if_neg hm, List.length_append]; rfl
    refine wpAny_pure ⟨plainId_quiet PyProof.Rows.F.plain_set_update_loop _, ih _ (i + 1) _ behind more ?_ (walk.frame _ u' _ _ st' (Nat.le_succ _) fun b hb o e => ?_) next fun u2 mv2 fin => ?_⟩
    · have := stepK_le acc k
      omega
    · rw [only.2 b fun z => apart (z ▸ hb)]; exact e
    · refine back u2 (Moved.trans walk.gtrans ((mv.mono wider).then_heap (Nat.le_succ _) fun b o hb e => ?_) mv2) fin
      rw [only.2 b fun z => hb (by rw [z]; exact List.mem_cons_self)]; exact e
end
section
variable {prog : Program} {w : World} {A : Around} {E : Value → Shared → Prop} {s : Shared}

/-- set(l) of a list of keys -/
theorem set_of_list {l : Addr} {its : Array Value} {ks : List Key} {Q : Value → Shared → Prop} (calm : A.handled = none) (hl : s.heap.IsList l its) (many : ks.length = its.size)
    (item : ∀ (i : Nat) (v : Value), its[i]? = some v → ∃ k, ks[i]? = some k ∧ keyIs k v = true) (few : its.size + 1 < scanBound)
    (h : ∀ (g : Heap) (tk : Nat), g.SetOf (mixKind prog w) s.heap.objs.size (hasK (metK [] ks)) (metK [] ks).length → (∀ b o, s.heap.get? b = some o → g.get? b = some o) →
      Q (.ref s.heap.objs.size) { s with heap := g, toks := tk }) : wpAny (model prog w) A (call (.type "set") [.ref l]) Q E s := by
  obtain ⟨cl, below, mro⟩ := PySem.F.called_set.mro
  have made := PySem.F.called_set.made
  have sub := PySem.F.called_set.sub
  have no1 := PySem.F.called_set.notType
  have can := PySem.F.called_set.canCreate
  have one := PySem.F.typeCall_set_1 (.ref l)
  let bare (led : Bool) : Obj := { cls := .type "set", dict := none, data := .set #[] 0 (.fresh 0 0 led) }
  refine wpAny_call (codeAny_of_tree (show wpAny _ _ (callAny (.type "set") _) _ _ _ from ?_))
  refine wpAny_pure ⟨Code.quiet_builtin _ (by decide +kernel), codeAny_builtin PySem.F.entry_type_call ?_⟩
  rw [Around.under_plain (weight_type_call_type "set" [.ref l] []) rfl]
  repeat any_goals first | assumption | wp_step
  refine codeAny_mono (code_set_new_1 (.ref l) (E := E) (Q₁ := fun made u => ∃ led : Bool, made = .ref s.heap.objs.size ∧ u = { s with heap := s.heap.push (bare led) }) fun led => ⟨led, rfl, rfl⟩) fun r u hr => ?_
  match r, hr with
  | .error e, hr => exact hr
  | .ok .next, hr => exact hr.elim
  | .ok .brk, hr => exact hr.elim
  | .ok .cont, hr => exact hr.elim
  | .ok (.ret obj), hr =>
    obtain ⟨led, rfl, rfl⟩ := hr
    have atS : (s.heap.push (bare led)).get? s.heap.objs.size = some (bare led) := Heap.get?_push_size _ rfl
    have isS : Shared.TypeIs { s with heap := s.heap.push (bare led) } (.ref s.heap.objs.size) "set" := ⟨_, atS, rfl⟩
    have look := PySem.F.called_set.init.lookup
    have bind := PySem.F.called_set.init.bind (.ref s.heap.objs.size)
    repeat any_goals first | assumption | wp_step
    refine codeAny_mono (codeAny_call_builtin (R := wants (fun r u => r = .none ∧ ∃ g tk, u = { s with heap := g, toks := tk } ∧ g.SetOf (mixKind prog w) s.heap.objs.size (hasK (metK [] ks)) (metK [] ks).length ∧
        ∀ b o, s.heap.get? b = some o → g.get? b = some o) E) PySem.F.called_set.init.plain PySem.F.entry_set_init (check_set_init_1 isS ?_)) fun r2 u2 h2 => ?_
    · obtain ⟨⟨lc, ld, lda, lsl⟩, atl, lcl, nl, ldat⟩ := hl
      cases lcl
      cases ldat
      have atl' : (s.heap.push (bare led)).get? l = some { cls := .type "list", dict := ld, data := .seq its nl, slots := lsl } := Heap.get?_push_of_some _ atl
      have f1 := PySem.F.sub_list_set
      have f2 := PySem.F.sub_list_frozenset
      have f3 : (Value.type "list" == Value.type "dict") = false := by decide
      have isl : (s.heap.push (bare led)).IsList l its := ⟨_, atl', rfl, nl, rfl⟩
      have under : l < s.heap.objs.size := Heap.lt_size atl
      have sz : (s.heap.push (bare led)).objs.size = s.heap.objs.size + 1 := Heap.size_push _ _
      unfold Builtin.«set.__init__» noKeywords Builtin.Frozenset.updateFrom
      generalize keep : pyIter = it
      wp_walk
      subst keep
      refine wpAny_pyIter_list isl (wpAny_bind (wpAny_runValue ?_))
      refine fill_set ((Walks.list (by simp [calm]) (s.heap.push (bare led)).objs.size l (Nat.ne_of_lt (Nat.lt_of_lt_of_le under (by rw [sz]; exact Nat.le_succ _))) its).toS) s.heap.objs.size (fun z => by rw [sz] at z; exact (List.mem_cons.mp z).elim (fun z => absurd z (Nat.ne_of_lt (Nat.lt_succ_self _))) fun z => absurd (List.mem_singleton.mp z) (Nat.ne_of_gt under)) ks many few item ks [] 0 _ rfl (Nat.zero_le _) (Nat.le_refl _) ⟨⟨_, Heap.get?_push_size _ rfl, rfl, rfl⟩, isl.push _⟩ ?empty ?back
      case empty =>
        exact ⟨bare led, #[], 0, _, Heap.get?_push_of_some _ atS, ⟨rfl, rfl, rfl⟩, rfl, (fun e he => by simp at he), (fun k => by simp [hasK]), (by decide), (by rfl), rfl⟩
      case back =>
        rintro ⟨g, gs, dr, tk, os⟩ mv hS
        have e1 : gs = s.gens := mv.gens
        have e2 : dr = s.drawn := mv.drawn
        have e3 : os = s.os := mv.os
        cases e1; cases e2; cases e3
        refine wpAny_pure (wpAny_pure ⟨rfl, g, tk, rfl, hS, fun b o e => ?_⟩)
        have nb : b < s.heap.objs.size := Heap.lt_size e
        exact mv.heap b o (fun z => by rw [sz] at z; exact (List.mem_cons.mp z).elim (fun z => absurd z (Nat.ne_of_lt nb)) fun z => absurd (List.mem_singleton.mp z) (Nat.ne_of_lt (Nat.lt_succ_of_lt nb))) (Heap.get?_push_of_some _ (Heap.get?_push_of_some _ e))
    · match r2, h2 with
      | .error e, h2 => exact h2
      | .ok .next, h2 => exact h2.elim
      | .ok .brk, h2 => exact h2.elim
      | .ok .cont, h2 => exact h2.elim
      | .ok (.ret r), h2 =>
        obtain ⟨rfl, g, tk, rfl, hS, keeps⟩ := h2
        repeat any_goals first | assumption | wp_step
        exact h _ _ hS keeps

/-- set(l) of a tuple of keys -/
theorem set_of_tuple {l : Addr} {its : Array Value} {ks : List Key} {Q : Value → Shared → Prop} (calm : A.handled = none) (hl : s.heap.IsTuple l its) (many : ks.length = its.size)
    (item : ∀ (i : Nat) (v : Value), its[i]? = some v → ∃ k, ks[i]? = some k ∧ keyIs k v = true) (few : its.size + 1 < scanBound)
    (h : ∀ (g : Heap) (tk : Nat), g.SetOf (mixKind prog w) s.heap.objs.size (hasK (metK [] ks)) (metK [] ks).length → (∀ b o, s.heap.get? b = some o → g.get? b = some o) →
      Q (.ref s.heap.objs.size) { s with heap := g, toks := tk }) : wpAny (model prog w) A (call (.type "set") [.ref l]) Q E s := by
  obtain ⟨cl, below, mro⟩ := PySem.F.called_set.mro
  have made := PySem.F.called_set.made
  have sub := PySem.F.called_set.sub
  have no1 := PySem.F.called_set.notType
  have can := PySem.F.called_set.canCreate
  have one := PySem.F.typeCall_set_1 (.ref l)
  let bare (led : Bool) : Obj := { cls := .type "set", dict := none, data := .set #[] 0 (.fresh 0 0 led) }
  refine wpAny_call (codeAny_of_tree (show wpAny _ _ (callAny (.type "set") _) _ _ _ from ?_))
  refine wpAny_pure ⟨Code.quiet_builtin _ (by decide +kernel), codeAny_builtin PySem.F.entry_type_call ?_⟩
  rw [Around.under_plain (weight_type_call_type "set" [.ref l] []) rfl]
  repeat any_goals first | assumption | wp_step
  refine codeAny_mono (code_set_new_1 (.ref l) (E := E) (Q₁ := fun made u => ∃ led : Bool, made = .ref s.heap.objs.size ∧ u = { s with heap := s.heap.push (bare led) }) fun led => ⟨led, rfl, rfl⟩) fun r u hr => ?_
  match r, hr with
  | .error e, hr => exact hr
  | .ok .next, hr => exact hr.elim
  | .ok .brk, hr => exact hr.elim
  | .ok .cont, hr => exact hr.elim
  | .ok (.ret obj), hr =>
    obtain ⟨led, rfl, rfl⟩ := hr
    have atS : (s.heap.push (bare led)).get? s.heap.objs.size = some (bare led) := Heap.get?_push_size _ rfl
    have isS : Shared.TypeIs { s with heap := s.heap.push (bare led) } (.ref s.heap.objs.size) "set" := ⟨_, atS, rfl⟩
    have look := PySem.F.called_set.init.lookup
    have bind := PySem.F.called_set.init.bind (.ref s.heap.objs.size)
    repeat any_goals first | assumption | wp_step
    refine codeAny_mono (codeAny_call_builtin (R := wants (fun r u => r = .none ∧ ∃ g tk, u = { s with heap := g, toks := tk } ∧ g.SetOf (mixKind prog w) s.heap.objs.size (hasK (metK [] ks)) (metK [] ks).length ∧
        ∀ b o, s.heap.get? b = some o → g.get? b = some o) E) PySem.F.called_set.init.plain PySem.F.entry_set_init (check_set_init_1 isS ?_)) fun r2 u2 h2 => ?_
    · obtain ⟨⟨lc, ld, lda, lsl⟩, atl, lcl, nl, ldat⟩ := hl
      cases lcl
      cases ldat
      have atl' : (s.heap.push (bare led)).get? l = some { cls := .type "tuple", dict := ld, data := .seq its nl, slots := lsl } := Heap.get?_push_of_some _ atl
      have f1 := PySem.F.sub_tuple_set
      have f2 := PySem.F.sub_tuple_frozenset
      have f3 : (Value.type "tuple" == Value.type "dict") = false := by decide
      have isl : (s.heap.push (bare led)).IsTuple l its := ⟨_, atl', rfl, nl, rfl⟩
      have under : l < s.heap.objs.size := Heap.lt_size atl
      have sz : (s.heap.push (bare led)).objs.size = s.heap.objs.size + 1 := Heap.size_push _ _
      unfold Builtin.«set.__init__» noKeywords Builtin.Frozenset.updateFrom
      generalize keep : pyIter = it
      wp_walk
      subst keep
      refine wpAny_pyIter_tuple isl (wpAny_bind (wpAny_runValue ?_))
      refine fill_set ((Walks.tuple (by simp [calm]) (s.heap.push (bare led)).objs.size l (Nat.ne_of_lt (Nat.lt_of_lt_of_le under (by rw [sz]; exact Nat.le_succ _))) its).toS) s.heap.objs.size (fun z => by rw [sz] at z; exact (List.mem_cons.mp z).elim (fun z => absurd z (Nat.ne_of_lt (Nat.lt_succ_self _))) fun z => absurd (List.mem_singleton.mp z) (Nat.ne_of_gt under)) ks many few item ks [] 0 _ rfl (Nat.zero_le _) (Nat.le_refl _) ⟨⟨_, Heap.get?_push_size _ rfl, rfl, rfl⟩, isl.push _⟩ ?empty ?back
      case empty =>
        exact ⟨bare led, #[], 0, _, Heap.get?_push_of_some _ atS, ⟨rfl, rfl, rfl⟩, rfl, (fun e he => by simp at he), (fun k => by simp [hasK]), (by decide), (by rfl), rfl⟩
      case back =>
        rintro ⟨g, gs, dr, tk, os⟩ mv hS
        have e1 : gs = s.gens := mv.gens
        have e2 : dr = s.drawn := mv.drawn
        have e3 : os = s.os := mv.os
        cases e1; cases e2; cases e3
        refine wpAny_pure (wpAny_pure ⟨rfl, g, tk, rfl, hS, fun b o e => ?_⟩)
        have nb : b < s.heap.objs.size := Heap.lt_size e
        exact mv.heap b o (fun z => by rw [sz] at z; exact (List.mem_cons.mp z).elim (fun z => absurd z (Nat.ne_of_lt nb)) fun z => absurd (List.mem_singleton.mp z) (Nat.ne_of_lt (Nat.lt_succ_of_lt nb))) (Heap.get?_push_of_some _ (Heap.get?_push_of_some _ e))
    · match r2, h2 with
      | .error e, h2 => exact h2
      | .ok .next, h2 => exact h2.elim
      | .ok .brk, h2 => exact h2.elim
      | .ok .cont, h2 => exact h2.elim
      | .ok (.ret r), h2 =>
        obtain ⟨rfl, g, tk, rfl, hS, keeps⟩ := h2
        repeat any_goals first | assumption | wp_step
        exact h _ _ hS keeps
end
end G

set_option Elab.async false
set_option linter.all false
set_option maxRecDepth 100000
set_option maxHeartbeats 8000000
/-! GB: len(set(xs)) as an expression. -/
namespace G
open PySem PySem.Spec PyProof.Rows L2
def keysA : List D → Option (List Key)
  | [] => some []
  | d :: ds => (keyD d).bind fun k => (keysA ds).map (k :: ·)
def gLenSet (d : D) : Option D := (seqOf d).bind fun ds => (keysA ds).bind fun ks => if ks.length ≤ 4000 then some (.int (metK [] ks).length) else none
def eLenSet (f : Ev → M D) : Ev → M D := fun ρ => f ρ >>= fun d => liftO (gLenSet d)
section
variable {X : Cx} {ca : Dr} {E : XK} {K : PySem.W.Frag}
theorem keysA_of {Z : Addr → Prop} {H : Hp} : ∀ {vs : List V} {ds : List D} {ks : List Key}, RlA K ca Z H vs ds → keysA ds = some ks → vs = ks.map kV
  | _, _, _, .nil, h => by cases h; rfl
  | _, _, _, .cons (d := d) (ds := ds) r ra, h => by
    unfold keysA at h
    cases hd : keyD d with
    | none => rw [hd] at h; cases h
    | some n =>
      rw [hd] at h
      cases hs : keysA ds with
      | none => rw [hs] at h; cases h
      | some ns => rw [hs] at h; cases h; rw [keyD_of r hd, keysA_of ra hs]; rfl
theorem keyIs_of {k : Key} {u : Value} (r : L2.RelV (kV k) u) : keyIs k u = true := by
  cases k with
  | inl i => obtain ⟨t, rfl⟩ := r; exact keyIs_int i t
  | inr x => obtain ⟨t, rfl⟩ := r; exact keyIs_str x t
theorem keys_at {ks : List Key} {us : List Value} (r : Vals (ks.map kV) us) {i : Nat} {u : Value} (h : us[i]? = some u) : ∃ k, ks[i]? = some k ∧ keyIs k u = true := by
  cases hk : ks[i]? with
  | none =>
    have := r.none_of (i := i) (by rw [List.getElem?_map, hk]; rfl)
    rw [h] at this; cases this
  | some k =>
    obtain ⟨u', e, ru⟩ := r.get (i := i) (x := kV k) (by rw [List.getElem?_map, hk]; rfl)
    rw [h] at e; cases e
    exact ⟨k, rfl, keyIs_of ru⟩
def rSetLen (K : PySem.W.Frag) (ta : TE) : TE := fun σ H Q => ta σ H fun x H1 => ∃ (a : Addr) (ks : List Key), x = .ref a ∧ (SqL K H1 a (ks.map kV) ∨ SqT K H1 a (ks.map kV)) ∧ ks.length ≤ 4000 ∧ Q (.int (metK [] ks).length) H1
theorem pe_setLen {a : Expr} {ta : TE} {p p2 q pos : Pos} (hc : X.calm = true) (hm : X.mg "len" = none) (hm2 : X.mg "set" = none) (hg : Gl X "len") (hg2 : Gl X "set") (ha : PE X a ta) (na : starEach [a] X.env = (false, eval a X.env) :: starEach [] X.env)
    (nb : starEach [.Call (.Name "set" p2) [a] [] q] X.env = (false, eval (.Call (.Name "set" p2) [a] [] q) X.env) :: starEach [] X.env) :
    PE X (.Call (.Name "len" p) [.Call (.Name "set" p2) [a] [] q] [] pos) (rSetLen X.K ta) := by
  refine ⟨fun pins s σ H Q I h => Call_ (ld_blt I hg hm boot_len (PyProof.Rows.callWith_builtin1 (PyProof.Rows.args_cons ?_ nb) nb rfl))⟩
  refine Call_ (ld_blt I hg2 hm2 boot_set (PyProof.Rows.callWith_type1 (PyProof.Rows.args_cons ?_ na) na rfl))
  refine thn (ha.run pins s σ H _ I h) fun v u ⟨x, H1, J, rv, l, ks, ex, held, few, want⟩ => ?_
  subst ex
  cases rv
  have ends : ∀ (its : List Value), Vals (ks.map kV) its → ∀ (g : Heap) (tk : Nat), g.SetOf (mixKind X.prog X.w) u.heap.objs.size (hasK (metK [] ks)) (metK [] ks).length → (∀ b o, u.heap.get? b = some o → g.get? b = some o) →
      wpAny (model X.prog X.w) X.A (spliced (backTo pos (starEach [] X.env))) (fun vs u2 => wpAny (model X.prog X.w) X.A (call (.builtin "len") (Value.ref u.heap.objs.size :: vs)) (EP X pins σ Q) X.xe u2) X.xe { u with heap := g, toks := tk } := by
    intro its r g tk full keeps
    refine PyProof.Rows.args_nil ?_
    obtain ⟨o, es, ep, t, at_, ex, dat, _, _, few', fits, many⟩ := full
    have J2 : L2.Inv X pins σ H1 { u with heap := g, toks := tk } := J.kept keeps
    have small : (metK [] ks).length ≤ 4000 := by have := metK_le ks []; simp at this; omega
    exact call_len_set at_ ex dat fits (by rw [many] <;> omega) ⟨.int (metK [] ks).length, H1, J2.tok _, ⟨_, by rw [many]⟩, want⟩
  refine PyProof.Rows.args_nil ?_
  have few2 : ks.length + 1 < scanBound := by unfold scanBound; omega
  rcases held with held | held
  · obtain ⟨its, r, pl, _⟩ := J.list held
    have len : ks.length = its.toArray.size := by have := r.length; simpa using this
    exact set_of_list (J.ok.hd hc) pl.isList len (fun i v e => keys_at r (by simpa using e)) (by omega) fun g tk full keeps => ends its r g tk full keeps
  · obtain ⟨its, r, pl, _⟩ := J.tuple held
    have len : ks.length = its.toArray.size := by have := r.length; simpa using this
    exact set_of_tuple (J.ok.hd hc) pl len (fun i v e => keys_at r (by simpa using e)) (by omega) fun g tk full keeps => ends its r g tk full keeps
theorem d_lenSet {a : Expr} {f : Ev → M D} {p p2 q pos : Pos} (hc : X.calm = true) (hm : X.mg "len" = none) (hm2 : X.mg "set" = none) (ha : PE X a (tD X.K ca E f)) (hg : Gl X "len" := by rfl) (hg2 : Gl X "set" := by rfl) (na : starEach [a] X.env = (false, eval a X.env) :: starEach [] X.env := by rfl)
    (nb : starEach [.Call (.Name "set" p2) [a] [] q] X.env = (false, eval (.Call (.Name "set" p2) [a] [] q) X.env) :: starEach [] X.env := by rfl) :
    PE X (.Call (.Name "len" p) [.Call (.Name "set" p2) [a] [] q] [] pos) (tD X.K ca E (eLenSet f)) := by
  refine ⟨fun pins s σ H Q I h => (pe_setLen hc hm hm2 hg hg2 ha na nb).run pins s σ H Q I ?_⟩
  obtain ⟨Z, Y, ρ, c, eo, co, h⟩ := h
  refine ⟨Z, Y, ρ, c, eo, co, (Do.bind h).mono fun d c1 h1 x H1 e1 r1 co1 => ?_⟩
  obtain ⟨d', hg, h2⟩ := Do.lift h1
  unfold gLenSet at hg
  cases hs : seqOf d with
  | none => rw [hs] at hg; cases hg
  | some ds =>
    rw [hs] at hg
    have hg : ((keysA ds).bind fun ks => if ks.length ≤ 4000 then some (D.int (metK [] ks).length) else none) = some d' := hg
    cases hk : keysA ds with
    | none => rw [hk] at hg; cases hg
    | some ks =>
      rw [hk] at hg
      have hg : (if ks.length ≤ 4000 then some (D.int (metK [] ks).length) else none) = some d' := hg
      by_cases hl : ks.length ≤ 4000
      · rw [if_pos hl] at hg; cases hg
        cases r1 with
        | lst n hH ra => cases hs; exact ⟨_, ks, rfl, .inl (by rw [← keysA_of ra hk]; exact SqL.of hH), hl, h2 _ H1 e1 (.int _) co1⟩
        | tup hH ra => cases hs; exact ⟨_, ks, rfl, .inr (by rw [← keysA_of ra hk]; exact hH.s), hl, h2 _ H1 e1 (.int _) co1⟩
        | _ => cases hs
      · rw [if_neg hl] at hg; cases hg
end
end G

set_option Elab.async false
set_option linter.all false
set_option maxRecDepth 100000
set_option maxHeartbeats 8000000
/-! GC: sorted(xs) and < of data. -/
namespace G
open PySem PySem.Spec PyProof.Rows L2
def encD (d : D) : PyData := (toPy d).getD .none
def tupB : PyData → Bool
  | .tuple (_ :: _) => true
  | _ => false
def othB : PyData → Bool
  | .none => false
  | .tuple _ => false
  | _ => true
/-- the items can be sorted -/
def sortOk (ds : List D) : Bool := ds.all (fun d => (toPy d).isSome && decide ((encD d).depth ≤ 64)) && (ds.all (fun a => ds.all fun b => PySem.W.alike (encD a) (encD b)) && ((ds.all (fun d => tupB (encD d)) || ds.all (fun d => othB (encD d))) && decide (ds.length ≤ sizeLine)))
def sortD (ds : List D) : List D := ds.mergeSort (PySem.W.dataLe false encD)
def gSorted : List D → Option D
  | [.lst ds] => if sortOk ds = true then some (.lst (sortD ds)) else none
  | _ => none
section
variable {X : Cx} {ca : Dr} {K : PySem.W.Frag}
mutual
theorem toPy_R : ∀ {d : D} {p : PyData}, toPy d = some p → toPyR d = some p
  | .non, _, h => by simp only [toPy] at h; cases h; simp only [toPyR]
  | .bl _, _, h => by simp only [toPy] at h; cases h; simp only [toPyR]
  | .int _, _, h => by simp only [toPy] at h; cases h; simp only [toPyR]
  | .str _, _, h => by simp only [toPy] at h; cases h; simp only [toPyR]
  | .lst xs, _, h => by
    simp only [toPy] at h
    cases hx : toPyA xs with
    | none => rw [hx] at h; cases h
    | some ps => rw [hx] at h; cases h; simp only [toPyR, toPyA_R hx]; rfl
  | .tup xs, _, h => by
    simp only [toPy] at h
    cases hx : toPyA xs with
    | none => rw [hx] at h; cases h
    | some ps => rw [hx] at h; cases h; simp only [toPyR, toPyA_R hx]; rfl
  | .dic _ _, _, h => by simp only [toPy] at h; cases h
  | .obj _, _, h => by simp only [toPy] at h; cases h
  | .ty _, _, h => by simp only [toPy] at h; cases h
  | .chn, _, h => by simp only [toPy] at h; cases h
  | .scr _, _, h => by simp only [toPy] at h; cases h
theorem toPyA_R : ∀ {ds : List D} {ps : List PyData}, toPyA ds = some ps → toPyRA ds = some ps
  | [], _, h => by simp only [toPyA] at h; cases h; simp only [toPyRA]
  | d :: ds, _, h => by
    simp only [toPyA] at h
    cases hd : toPy d with
    | none => rw [hd] at h; cases h
    | some p =>
      rw [hd] at h
      cases hs : toPyA ds with
      | none => rw [hs] at h; cases h
      | some ps => rw [hs] at h; cases h; simp only [toPyRA, toPy_R hd, toPyA_R hs]; rfl
end
def RelD (K : PySem.W.Frag) (ca : Dr) (Z : Addr → Prop) (H : Hp) (u : Value) (d : D) : Prop := ∃ v, L2.RelV v u ∧ Rl K ca Z H v d
theorem each_of {Z : Addr → Prop} {H : Hp} : ∀ {vs : List V} {us : List Value} {ds : List D}, Vals vs us → RlA K ca Z H vs ds → PySem.W.EachIs (RelD K ca Z H) us ds
  | _, _, _, .nil, .nil => .nil
  | _, _, _, .cons r rs, .cons h hs => .cons ⟨_, r, h⟩ (each_of rs hs)
theorem of_each {Z : Addr → Prop} {H : Hp} : ∀ {us : List Value} {ds : List D}, PySem.W.EachIs (RelD K ca Z H) us ds → ∃ vs, Vals vs us ∧ RlA K ca Z H vs ds
  | _, _, .nil => ⟨[], .nil, .nil⟩
  | _, _, .cons ⟨v, r, h⟩ t => by
    obtain ⟨vs, rs, hs⟩ := of_each t
    exact ⟨v :: vs, .cons r rs, .cons h hs⟩
def rSortD (K : PySem.W.Frag) (ca : Dr) : List V → Hp → VK → Prop := fun xs H Q => ∃ Z a vs ds, xs = [.ref a] ∧ SqL K H a vs ∧ RlA K ca Z H vs ds ∧ sortOk ds = true ∧ ∀ p ws, H p = none → RlA K ca Z H ws (sortD ds) → ws.length ≤ sizeLine → Q (.ref p) (upd H p (.lst ws))
theorem cr_sortD (y : Sys X.base) (hu : X.A.units + 128 < cLine) : CallR X (.builtin "sorted") (rSortD X.K ca) := by
  intro pins s σ H xs us Q I r h
  obtain ⟨Z, a, vs, ds, rfl, hS, ra, ok, q⟩ := h
  obtain ⟨u, rfl, ru⟩ := vals1 r
  cases ru
  obtain ⟨its, rv, pl, hz⟩ := I.list hS
  unfold sortOk at ok
  have o1 := Bool.and_eq_true_iff.mp ok
  have o2 := Bool.and_eq_true_iff.mp o1.2
  have o3 := Bool.and_eq_true_iff.mp o2.2
  have some_ : ∀ d ∈ ds, toPy d = some (encD d) ∧ (encD d).depth ≤ 64 := fun d hd => by
    have := Bool.and_eq_true_iff.mp (List.all_eq_true.mp o1.1 d hd)
    refine ⟨?_, of_decide_eq_true this.2⟩
    cases e : toPy d with
    | none => rw [e] at this; simp at this
    | some p => unfold encD; rw [e]; rfl
  have reads : ∀ {us : List Value} {es : List D}, PySem.W.EachIs (RelD X.K ca Z H) us es → (∀ d ∈ es, d ∈ ds) → PySem.W.EachIs (fun v d => ∃ as, Reads s.heap v (encD d) as) us es := by
    intro us es e
    induction e with
    | nil => intro _; exact .nil
    | cons h t ih =>
      intro m
      obtain ⟨v, rv, rl⟩ := h
      obtain ⟨as, rd, _⟩ := rl.reads y I rv (toPy_R (some_ _ (m _ List.mem_cons_self)).1)
      exact .cons ⟨as, rd⟩ (ih fun d hd => m d (List.mem_cons_of_mem _ hd))
  have ev := each_of rv ra
  have alk : PySem.W.AllAlike (ds.map encD) := fun p hp p' hp' => by
    obtain ⟨d, hd, rfl⟩ := List.mem_map.mp hp
    obtain ⟨d', hd', rfl⟩ := List.mem_map.mp hp'
    exact List.all_eq_true.mp (List.all_eq_true.mp o2.1 d hd) d' hd'
  have srt : PySem.W.Sortable (ds.map encD) := by
    rcases Bool.or_eq_true_iff.mp o3.1 with h | h
    · refine .inl fun p hp => ?_
      obtain ⟨d, hd, rfl⟩ := List.mem_map.mp hp
      have := List.all_eq_true.mp h d hd
      unfold tupB at this
      split at this
      · rename_i x r e; exact ⟨x, r, e⟩
      · cases this
    · refine .inr fun p hp => ?_
      obtain ⟨d, hd, rfl⟩ := List.mem_map.mp hp
      have := List.all_eq_true.mp h d hd
      exact ⟨fun e => by rw [e] at this; simp [othB] at this, fun xs e => by rw [e] at this; simp [othB] at this⟩
  have hL : ds.length ≤ sizeLine := of_decide_eq_true o3.2
  refine PySem.W.sorted_data (enc := encD) (R := RelD X.K ca Z H) pl.isList ev (reads ev fun _ h => h) alk srt hL (fun d hd => by have := (some_ d hd).2; omega) fun out hout eo => ?_
  obtain ⟨ws, rw_, rl⟩ := of_each eo
  have hlen : ws.length ≤ sizeLine := by rw [rw_.length, hout]; exact hL
  obtain ⟨n, at_⟩ := PyProof.Rows.sortedAll_at s.heap its out.toArray
  have up : s.heap.objs.size ≤ s.heap.objs.size + 1 := Nat.le_succ _
  exact ⟨.ref _, _, I.laid (a := s.heap.objs.size + 1) (o := .lst ws) (t' := s.toks) (fun _ _ e => PyProof.Rows.sortedAll_old e) up ⟨hlen, out, n, rw_, at_⟩, rfl, q _ ws (I.hok.fresh up) rl hlen⟩
theorem cal_sorted : CalD K ca (rSortD K ca) gSorted := fun Z H c xs ds d' Q z co r hg q => by
  unfold gSorted at hg
  split at hg
  · rename_i es
    by_cases ok : sortOk es = true
    · rw [if_pos ok] at hg; cases hg
      cases r with | cons r1 r2 =>
      cases r2
      cases r1 with | lst n hH ra =>
      exact ⟨Z, _, _, es, rfl, SqL.of hH, ra, ok, fun p ws np rl hl => q _ _ (ExtP.new np) (.lst (z.free np) upd_same (rl.ext (ExtP.new (P := fun b : Addr => b = ca) np) fun b e => e ▸ z.zca)) (co.new np)⟩
    · rw [if_neg ok] at hg; cases hg
  · cases hg
end
end G

set_option Elab.async false
set_option linter.all false
set_option maxRecDepth 100000
set_option maxHeartbeats 8000000
/-! GD: the draws' list, a law's end. -/
namespace G
open PySem PySem.Spec PyProof.Rows L2
section
variable {X : Cx} {ca : Dr} {E : XK} {pos : Pos} {K : PySem.W.Frag}
def getC : M Churn := fun c => .ok c c
def putC (c : Churn) : M Unit := fun _ => .ok () c
def isChn : D → Option Unit
  | .chn => some ()
  | _ => none
def chnItem (k : Int) (c : Churn) : Option D := if k = 0 then some (.lst (c.cells.map D.int)) else if k = 1 then some (.int c.at_) else if k = 2 then some (.int c.left) else none
/-- h[k] of the draws' list -/
def eChn (k : Int) (i : Nat) : Ev → M D := fun ρ => eVar i ρ >>= fun h => liftO (isChn h) >>= fun _ => getC >>= fun c => liftO (chnItem k c)
theorem ints_rl {Z : Addr → Prop} {H : Hp} : ∀ ns : List Int, RlA K ca Z H (ns.map V.int) (ns.map D.int)
  | [] => .nil
  | n :: ns => .cons (.int n) (ints_rl ns)
theorem d_chn (k : Int) (i : Nat) {x : Str} {p p2 : Pos} {j : Nat} (hN : X.N[i]? = some x := by rfl) (hv : Vis X.env.scope x := by first | exact Or.inl rfl | exact Or.inr (Or.inl rfl) | exact Or.inr (Or.inr rfl)) (hd : (x == ("__debug__" : Str)) = false := by decide)
    (hcd : (x == ("__classdict__" : Str)) = false := by decide) (hs : PlainIx (.Constant (.int k) j p2) := by exact fun _ _ => rfl) : PE X (.Subscript (.Name x p) (.Constant (.int k) j p2) pos) (tD X.K ca E (eChn k i)) := by
  refine ⟨fun pins s σ H Q I h => (pe_ix ix_list (pe_var (i := i) hN hv hd hcd) pe_int hs).run pins s σ H Q I ?_⟩
  obtain ⟨Z, Y, ρ, c, eo, co, h⟩ := h
  have h1 := Do.bind h
  unfold eVar at h1
  cases e : ρ[i]? with
  | none => rw [e] at h1; exact h1.elim
  | some sl =>
    rw [e] at h1
    cases sl with
    | no => exact h1.elim
    | own ds => exact h1.elim
    | val d =>
      obtain ⟨v, hv1, rv⟩ := eo.val i d e
      obtain ⟨_, hc, h2⟩ := Do.lift (Do.bind (show Do X.K ca E (U Z Y) H ((liftO (isChn d) >>= fun _ => getC >>= fun c => liftO (chnItem k c)) c) _ from h1))
      cases rv with
      | chn =>
        obtain ⟨d', hi, h3⟩ := Do.lift (show Do X.K ca E (U Z Y) H (liftO (chnItem k c) c) _ from h2)
        refine ⟨_, hv1, ?_⟩
        unfold chnItem at hi
        by_cases e0 : k = 0
        · subst e0; cases hi
          exact ⟨ca, _, _, _, rfl, rfl, SqL.of co.1, rfl, h3 _ H .refl (.lst eo.zok.zcc co.2 (ints_rl _)) co⟩
        · rw [if_neg e0] at hi
          by_cases e1 : k = 1
          · subst e1; cases hi
            exact ⟨ca, _, _, _, rfl, rfl, SqL.of co.1, rfl, h3 _ H .refl (.int _) co⟩
          · rw [if_neg e1] at hi
            by_cases e2 : k = 2
            · subst e2; cases hi
              exact ⟨ca, _, _, _, rfl, rfl, SqL.of co.1, rfl, h3 _ H .refl (.int _) co⟩
            · rw [if_neg e2] at hi; cases hi
      | _ => cases hc
def chnPut (k : Int) (d : D) (c : Churn) : Option Churn := match d with
  | .int n => if k = 1 then some { c with at_ := n } else if k = 2 then some { c with left := n } else none
  | _ => none
/-- h[k] = e -/
def sChn (k : Int) (i : Nat) (f : Ev → M D) : Sm := fun ρ => f ρ >>= fun d => eVar i ρ >>= fun h => liftO (isChn h) >>= fun _ => getC >>= fun c => liftO (chnPut k d c) >>= fun c' => putC c' >>= fun _ => pure (ρ, .nx)
theorem s_chn (k : Int) (i : Nat) {x : Str} {p p2 p3 : Pos} {j : Nat} {e : Expr} {f : Ev → M D} (he : PE X e (tD X.K ca E f)) (hN : X.N[i]? = some x := by rfl) (hv : Vis X.env.scope x := by first | exact Or.inl rfl | exact Or.inr (Or.inl rfl) | exact Or.inr (Or.inr rfl)) (hd : (x == ("__debug__" : Str)) = false := by decide)
    (hcd : (x == ("__classdict__" : Str)) = false := by decide)
    (ha : ∀ v, assign (.Subscript (.Name x p) (.Constant (.int k) j p2) p3) X.env v = (do
      let ov ← holding [v] (eval (.Name x p) X.env)
      let iv ← holding [v, ov] (eval (.Constant (.int k) j p2) X.env)
      standAt p3
      holding [v, ov, iv] (setItem ov iv v)
      release [v, ov, iv] []) := by intro _; rfl)
    (hs : swapsWithSole [.Subscript (.Name x p) (.Constant (.int k) j p2) p3] e pos.line X.env = pure false := by rfl) (hw : swappedStores [.Subscript (.Name x p) (.Constant (.int k) j p2) p3] e X.env = pure none := by rfl)
    (h1 : (assignEach [.Subscript (.Name x p) (.Constant (.int k) j p2) p3] X.env).map (·.2) = [assign (.Subscript (.Name x p) (.Constant (.int k) j p2) p3) X.env] := by rfl) :
    PS X (.Assign [.Subscript (.Name x p) (.Constant (.int k) j p2) p3] e pos) (tS X.K ca E (sChn k i f)) := by
  refine ⟨fun pins s σ H Dn I h => (ps_asg he (pg_sub (pe_var (i := i) hN hv hd hcd) pe_int set_list ha) hs hw h1).run pins s σ H Dn I ?_⟩
  obtain ⟨Z, Y, ρ, c, eo, co, h⟩ := h
  refine ⟨Z, Y, ρ, c, eo, co, (DoS.expr h).mono fun d c1 h1 v H1 e1 r1 co1 => ?_⟩
  have h2 := DoS.expr h1
  unfold eVar at h2
  cases e : ρ[i]? with
  | none => rw [e] at h2; exact h2.elim
  | some sl =>
    rw [e] at h2
    cases sl with
    | no => exact h2.elim
    | own ds => exact h2.elim
    | val hd =>
      obtain ⟨u, hu, ru⟩ := (eo.ext e1).val i hd e
      obtain ⟨_, hc, h3⟩ := Do.lift (DoS.expr (show DoS X.K ca E Z Dn Y H ((liftO (isChn hd) >>= fun _ => getC >>= fun c => liftO (chnPut k d c) >>= fun c' => putC c' >>= fun _ => (pure (ρ, Ctl.nx) : M (Ev × Ctl))) c1) from h2))
      cases ru with
      | chn =>
        obtain ⟨c2, hp, h4⟩ := Do.lift (DoS.expr (show DoS X.K ca E Z Dn Y H ((liftO (chnPut k d c1) >>= fun c' => putC c' >>= fun _ => (pure (ρ, Ctl.nx) : M (Ev × Ctl))) c1) from h3))
        have h5 : Fin X.K ca Z Dn Y H (ρ, .nx) c2 := h4
        have fin : ∀ (jj : Nat) (n : Int) (xs : List V), [V.ref ca.cc, .int c1.at_, .int c1.left].set jj (.int n) = xs → xs = [.ref ca.cc, .int c2.at_, .int c2.left] → c2.cells = c1.cells → Dn.nx σ (upd H1 ca (.lst ([V.ref ca.cc, .int c1.at_, .int c1.left].set jj (.int n)))) := by
          intro jj n xs ex ex2 ec
          rw [ex, ex2]
          have xt : Ext ca H1 (upd H1 ca (.lst [.ref ca.cc, .int c2.at_, .int c2.left])) := fun b o q => by
            by_cases hb : b = ca
            · subst hb
              rw [co1.1] at q; cases q
              exact .inr ⟨rfl, trivial, _, upd_same, trivial⟩
            · exact .inl (by rw [upd_ne hb]; exact q)
          exact h5 Y σ _ (.of (e1.trans xt)) ((eo.ext e1).ext xt) ⟨upd_same, by rw [upd_ne ca.ne, ec]; exact co1.2⟩
        unfold chnPut at hp
        cases r1 with
        | int n =>
          have hp : (if k = 1 then some { c1 with at_ := n } else if k = 2 then some { c1 with left := n } else none) = some c2 := hp
          by_cases k1 : k = 1
          · rw [if_pos k1] at hp; subst k1; cases hp
            exact ⟨_, hu, ⟨_, _, 1, 1, rfl, rfl, co1.1, rfl, fin 1 n _ rfl rfl rfl⟩⟩
          · rw [if_neg k1] at hp
            by_cases k2 : k = 2
            · rw [if_pos k2] at hp; subst k2; cases hp
              exact ⟨_, hu, ⟨_, _, 2, 2, rfl, rfl, co1.1, rfl, fin 2 n _ rfl rfl rfl⟩⟩
            · rw [if_neg k2] at hp; cases hp
        | _ => cases hp
      | _ => cases hc
end
/-! ### the draws' list is made -/
/-- [[int(cell) for cell in script[:60]], 0, 0] -/
def spMade (K : PySem.W.Frag) : Sp := fun vs H Q _ => ∃ (a : Addr) (ns : List Int), vs = [.ref a] ∧ SqL K H a (ns.map V.int) ∧
  ∀ (ca : Dr) H', (∀ b o, H b = some o → H' b = some o) → H ca = none → H ca.cc = none → ChOk K ca H' ⟨ns.take 60, 0, 0⟩ → Q (.ref ca) H'
theorem cut60 (ns : List Int) : cutV (ns.map V.int) none (some 60) = (ns.take 60).map V.int := by
  unfold cutV
  rw [HT.sIx_none, List.drop_zero, Nat.sub_zero, show HT.sIx (ns.map V.int).length (ns.map V.int).length (some 60) = min 60 (ns.map V.int).length from HT.sIx_nat _ _ 60, List.map_take]
  rw [List.length_map]
  by_cases h : ns.length ≤ 60
  · rw [Nat.min_eq_right h, List.take_of_length_le (by simp), List.take_of_length_le (by simpa using h)]
  · rw [Nat.min_eq_left (by omega)]
section
variable {X : Cx} {K : PySem.W.Frag}
theorem made_read {st : Stmt} {sl : L2.St} {H : Hp} {a : Addr} {ns : List Int} {Q : VK} {i : Nat} {tt : TT} (hS : SqL X.K H a (ns.map V.int)) (hx : sl[0]? = some (some (.ref a)))
    (q : ∀ (ca : Dr) H', (∀ b o, H b = some o → H' b = some o) → H ca = none → H ca.cc = none → ChOk X.K ca H' ⟨ns.take 60, 0, 0⟩ → Q (.ref ca) H') (hi : i < sl.length) :
    tLst (tCons (tLc (iList X.K (tSl (rSlL X.K) (tVar 0) tNoPart (tPart (tC (.int 60))))) (gName i) tYes (tCB (fun xs H Q => (∃ i, xs = [.int i] ∧ Q (.int i) H) ∨ ∃ k, xs = [.bl k] ∧ Q (.int (if k then 1 else 0)) H) (tCons (tVar i) tNil)) [i]) (tCons (tC (.int 0)) (tCons (tC (.int 0)) tNil))) sl H Q := by
  refine ⟨.ref a, hx, 60, rfl, a, _, rfl, hS, fun p np => ⟨p, rfl, ⟨_, SqL.of upd_same⟩, fun D nD => ?_⟩⟩
  rw [cut60]
  have npD : p ≠ D := fun z => by rw [← z, upd_same] at nD; cases nD
  have nDH : H D = none := by
    cases e : H D with
    | none => rfl
    | some o => rw [upd_ne (Ne.symm npD), e] at nD; cases nD
  refine lc_list (K := X.K) (a := p) (xs := (ns.take 60).map V.int) (fun k H' => (∀ b o, H b = some o → H' b = some o) ∧ H' p = some (.lst ((ns.take 60).map V.int)) ∧ H' D = some (.lst (((ns.take 60).take k).map V.int))) ⟨fun b o e => ?_, ?_, upd_same⟩ (fun _ _ _ h => SqL.of h.2.1) (fun k x H1 hk hP => ?_) fun H1 hP => ?_
  · rw [upd_ne (ne_of_none e nDH), upd_ne (ne_of_none e np)]; exact e
  · rw [upd_ne npD, upd_same]
  · obtain ⟨k1, k2, k3⟩ := hP
    have hk' : ((ns.take 60)[k]?).map V.int = some x := by rw [← List.getElem?_map]; exact hk
    cases hn : (ns.take 60)[k]? with
    | none => rw [hn] at hk'; cases hk'
    | some n =>
      rw [hn] at hk'
      cases hk'
      refine ⟨?_, ?_⟩
      · show ((sl.set i none).set i (some (V.int n))).set i none = sl.set i none
        rw [List.set_set, List.set_set]
      · refine iteT (B := (∀ b o, H b = some o → H1 b = some o) ∧ H1 p = some (.lst ((ns.take 60).map V.int)) ∧ H1 D = some (.lst (((ns.take 60).take (k + 1)).map V.int))) ⟨.int n, ?_, .inl ⟨n, rfl, _, k3, ?_, fun b o e => ?_, ?_, ?_⟩⟩
        · rw [List.getElem?_set_self (by rw [wipe_length]; exact hi)]
        · have : ((ns.take 60).take k).length ≤ 60 := by rw [List.length_take, List.length_take]; omega
          rw [List.length_map]
          exact Nat.lt_of_le_of_lt this (by decide)
        · rw [upd_ne (ne_of_none e nDH)]; exact k1 b o e
        · rw [upd_ne npD]; exact k2
        · have e2 : (ns.take 60).take (k + 1) = (ns.take 60).take k ++ [n] := by rw [List.take_add_one (i := k), hn]; rfl
          rw [upd_same, e2, List.map_append]; rfl
  · obtain ⟨k1, k2, k3⟩ := hP
    rw [List.length_map, List.take_length] at k3
    refine ⟨by show 3 ≤ sizeLine; decide, fun p2 np2 => ?_⟩
    have nDp : D ≠ p2 := fun z => by rw [z, np2] at k3; cases k3
    refine q ⟨p2, D, nDp⟩ _ (fun b o e => ?_) ?_ nDH ⟨upd_same, ?_⟩
    · have e1 := k1 b o e
      show upd H1 p2 _ b = some o
      rw [upd_ne (ne_of_none e1 np2)]; exact e1
    · show H p2 = none
      cases e : H p2 with
      | none => rfl
      | some o => have := k1 p2 o e; rw [np2] at this; cases this
    · show upd H1 p2 _ D = _
      rw [upd_ne nDp]; exact k3
end
end G

set_option Elab.async false
set_option linter.all false
set_option maxRecDepth 100000
set_option maxHeartbeats 8000000
/-! GE: a law's own def; the end. -/
namespace G
open PySem PySem.Spec PyProof.Rows L2
def spLaw (K : PySem.W.Frag) : Sp := fun vs H Q _ => ∃ (a : Addr) (ns : List Int), vs = [.ref a] ∧ ScrAt K H a (ns.map V.int) ∧ ns.length ≤ 63 ∧ ∀ H', Q (.bl true) H'
/-- the rest of the law, from the made draws' list on -/
def tSx (K : PySem.W.Frag) (E : XK) (g : Sm) : TS := fun Dn σ H => ∃ ca, tS K ca E g Dn σ H
theorem ss_any {X : Cx} {E : XK} {sts : List Stmt} {g : Sm} (h : ∀ ca, PSs X sts (tS X.K ca E g)) : PSs X sts (tSx X.K E g) :=
  ⟨fun pins s σ H Dn I ⟨ca, hw⟩ => (h ca).run pins s σ H Dn I hw⟩
/-- what is left to be shown of a law: it gives True, whatever the cells are -/
def LawTrue (n : Nat) (g : Sm) : Prop := ∀ ns : List Int, ns.length ≤ 63 → ∃ ρ c, g (.val (.scr ns) :: .val .chn :: List.replicate (n - 2) .no) ⟨ns.take 60, 0, 0⟩ = .ok (ρ, .ret (.bl true)) c
theorem law_read {K : PySem.W.Frag} {N : List Str} {g : Sm} {vs : List V} {H : Hp} {Q : VK} {E : XK} (hN : 2 ≤ N.length) (law : LawTrue N.length g) (h : spLaw K vs H Q E) :
    tSeq (tAsg (tCall (spMade K) [] E0 (tCons (tVar 0) tNil)) (gName 1)) (tSx K E0 g) { nx := fun _ H' => Q .non H', rt := Q } (start N vs) H := by
  obtain ⟨a, ns, rfl, hS, hl, q⟩ := h
  obtain ⟨x1, x2, r, rfl⟩ : ∃ x1 x2 r, N = x1 :: x2 :: r := by
    match N, hN with
    | x1 :: x2 :: r, _ => exact ⟨x1, x2, r, rfl⟩
  have e0 : L2.start (x1 :: x2 :: r) [V.ref a] = some (.ref a) :: none :: List.replicate r.length none := by
    show [V.ref a].map some ++ List.replicate ((x1 :: x2 :: r).length - [V.ref a].length) none = _
    simp [List.replicate_succ]
  refine ⟨.ref a, by rw [e0]; rfl, a, ns, rfl, hS.s, fun ca H' keep n1 n2 co => ⟨ca, fun b => b = ca, fun _ => False, .val (.scr ns) :: .val .chn :: List.replicate r.length .no, ⟨ns.take 60, 0, 0⟩, ?_, co, ?_⟩⟩
  · rw [e0]
    refine ⟨⟨.inl rfl, fun z => z.elim ca.ne False.elim, fun b z => z.elim (fun z => ⟨_, z ▸ co.1⟩) False.elim⟩, rfl, id, by simp, fun i d h => ?_, fun i es h => ?_, fun _ h => h.elim, fun i j b es es' h => ?_⟩
    · match i, h with
      | 0, h => cases h; exact ⟨_, rfl, .scr ((ExtP.of (P := fun _ => False) keep).scr hS)⟩
      | 1, h => cases h; exact ⟨_, rfl, .chn⟩
      | i + 2, h =>
        have h : (List.replicate r.length Sl.no)[i]? = some (.val d) := h
        exact absurd (List.eq_of_mem_replicate (List.mem_of_getElem? h)) (by intro z; cases z)
    · match i, h with
      | 0, h => cases h
      | 1, h => cases h
      | i + 2, h =>
        have h : (List.replicate r.length Sl.no)[i]? = some (.own es) := h
        exact absurd (List.eq_of_mem_replicate (List.mem_of_getElem? h)) (by intro z; cases z)
    · match i, h with
      | 0, h => cases h
      | 1, h => cases h
      | i + 2, h =>
        have h : (List.replicate r.length Sl.no)[i]? = some (.own es) := h
        exact absurd (List.eq_of_mem_replicate (List.mem_of_getElem? h)) (by intro z; cases z)
  · obtain ⟨ρ, c, e⟩ := law ns hl
    have e : g (.val (.scr ns) :: .val .chn :: List.replicate r.length .no) ⟨ns.take 60, 0, 0⟩ = .ok (ρ, .ret (.bl true)) c := e
    unfold DoS
    rw [e]
    intro Y' σ' H2 st eo' co'
    show ∀ v, Rl K ca _ H2 v (.bl true) → Q v H2
    intro v rv
    cases rv
    exact q H2
/-! ### the end -/
/-- the script alone may be tracked -/
def scriptAt (a : Addr) (vs : List Value) (ns : List Int) : Hp := fun b => if b = a then some (.frz { cls := .type "list", data := .seq vs.toArray } (.lst (ns.map V.int))) else none
theorem law_end {P : Program} {w : World} {K : PySem.W.Frag} {mg mb : Str → Option Value} {k : Nat} {fa a : Addr} {fd : FuncData} {x : Str} {s₁ : Shared} {vs : List Value} {ns : List Int}
    (inK : K.In s₁.heap) (hglob : s₁.heap.Ns mainGlobals mg) (hbl : s₁.heap.Ns builtinsNs mb) (hboot : ∀ x : Str, x ≠ "__name__" → mb x = bootBuiltins x) (nolim : s₁.heap.NoLimit) (sys : ∃ o es ep, s₁.heap.get? sysModules = some o ∧ o.data = .dict es ep) (nogen : s₁.gens = #[])
    (hscript : s₁.heap.get? a = some { cls := .type "list", data := .seq vs.toArray }) (areInts : IntsAre vs ns) (few : ns.length ≤ 63) (room : Room k callerA)
    (F : ∀ base : Heap, K.In base → base.Ns mainGlobals mg → Sys base → FnG P w K mg base CX0 k fa fd [x] (spLaw K)) (binds : ∀ (s : Shared) (u : Value), BindsTo s fd ⟨[u], []⟩ [(x, u)]) :
    codeAny (model P w) callerA (.call (.ref fa) ⟨[.ref a], []⟩) (fun r s' => r = .ok (.ret (.bool true)) ∧ OldK s₁.heap s'.heap ∧ s'.os = s₁.os ∧ AllBare s'.gens) s₁ := by
  have line : ns.length ≤ sizeLine := Nat.le_trans few (by decide)
  have along := areInts.length
  have vals := vals_ints areInts
  -- from any heap in which at most the script is tracked
  have go : ∀ H : Hp, (∀ b, H b = none ∨ ∃ o zs, H b = some (.frz o (.lst zs))) → SqL K H a (ns.map V.int) → HOk P w H s₁.heap → (∀ b o, H b = some o → b = a ∧ K.lookup a = none) →
      codeAny (model P w) callerA (.call (.ref fa) ⟨[.ref a], []⟩) (fun r s' => r = .ok (.ret (.bool true)) ∧ OldK s₁.heap s'.heap ∧ s'.os = s₁.os ∧ AllBare s'.gens) s₁ := by
    intro H only seq ok alone
    have low : ∀ {b : Addr} {o : Obj}, s₁.heap.get? b = some o → H b = none → (hidT s₁.heap H).get? b = some o := fun e n => hidT_get e n
    have free : ∀ {b : Addr} {m : Str → Option Value}, s₁.heap.Ns b m → H b = none := by
      intro b m ⟨o, es, ep, e, d, _⟩
      cases q : H b with
      | none => rfl
      | some u =>
        have eb := (alone b u q).1
        subst eb
        rw [hscript] at e; cases e; cases d
    have ns_low : ∀ {b : Addr} {m : Str → Option Value}, s₁.heap.Ns b m → (hidT s₁.heap H).Ns b m := fun {b m} z => by
      have n := free z
      obtain ⟨o, es, ep, e, r⟩ := z
      exact ⟨o, es, ep, low e n, r⟩
    have inBase : K.In (hidT s₁.heap H) := fun b o e => low (inK b o e) (by
      cases q : H b with
      | none => rfl
      | some u =>
        obtain ⟨eb, no⟩ := alone b u q
        subst eb
        rw [no] at e; cases e)
    have there : Sys (hidT s₁.heap H) := by
      obtain ⟨o, es, ep, e, d⟩ := sys
      refine ⟨o, low e ?_⟩
      cases q : H sysModules with
      | none => rfl
      | some u =>
        have eb := (alone _ u q).1
        rw [eb, hscript] at e; cases e; cases d
    have lim : (hidT s₁.heap H).NoLimit := by
      obtain ⟨mc, z1, z2⟩ := nolim
      exact ⟨mc, ns_low z1, z2⟩
    have start0 : Env0 P w K mg (hidT s₁.heap H) callerA [] s₁ H :=
      { frames := rfl, mod := ⟨inBase, ns_low hglob, ⟨mb, ns_low hbl, hboot⟩, lim⟩, bs := fun b o e => of_hidT e, bsz := Nat.le_of_eq (hidT_size _ _), funs := trivial, frf := fun b hb => absurd (show b ∈ ([] : List Addr) from hb) List.not_mem_nil, hok := ok, bare := .of_eq nogen }
    have ran := (F _ inBase (ns_low hglob) there).runs callerA [] s₁ H ⟨[.ref a], []⟩ [.ref a] [.ref a] (fun v _ => v = .bl true) E0 rfl room start0 (binds s₁ (.ref a)) (.cons rfl .nil) ⟨a, ns, rfl, seq.elim (fun z => z.elim (fun z => (only a).elim (fun q => by rw [q] at z; cases z) fun ⟨_, _, q⟩ => by rw [q] at z; cases z) .inl) .inr, few, fun _ => rfl⟩
    refine codeAny_mono ran fun r s' z => ?_
    match r, z with
    | .error e, z => exact z.elim
    | .ok .next, z => exact z.elim
    | .ok .brk, z => exact z.elim
    | .ok .cont, z => exact z.elim
    | .ok (.ret u), ⟨v, H', os, bare, un, ok', rv, ev⟩ =>
      cases (show v = V.bl true from ev)
      cases (show u = Value.bool true from rv)
      refine ⟨rfl, OldK.of_keep fun b o e => ?_, os, bare⟩
      rcases only b with n | ⟨ob, zs, z⟩
      · exact un.keep b o e n (fun z => absurd (show b ∈ ([] : List Addr) from z) List.not_mem_nil) List.not_mem_nil
      · have e1 := (ok b _ z).1
        have e2 := (ok' b _ (un.frzs b ob _ z)).1
        rw [e] at e1; cases e1
        exact e2
  cases own : K.lookup a with
  | some o =>
    have e := inK a o own
    rw [hscript] at e; cases e
    have seq : SqL K (fun _ => none) a (ns.map V.int) := .inr ⟨_, vs.toArray, _, own, rfl, rfl, rfl, by rw [List.size_toArray, along]; exact line, by simpa using vals⟩
    exact go (fun _ => none) (fun _ => .inl rfl) seq (fun b u z => by cases (show (none : Option HO) = some u from z)) fun b u z => by cases (show (none : Option HO) = some u from z)
  | none =>
    have here : scriptAt a vs ns a = some (.frz { cls := .type "list", data := .seq vs.toArray } (.lst (ns.map V.int))) := if_pos rfl
    have off : ∀ {b : Addr}, b ≠ a → scriptAt a vs ns b = none := fun h => if_neg h
    refine go (scriptAt a vs ns) (fun b => ?_) (.inl (.inr ⟨_, here⟩)) (fun b u z => ?_) fun b u z => ?_
    · by_cases hb : b = a
      · exact .inr ⟨_, _, by rw [hb]; exact here⟩
      · exact .inl (off hb)
    · by_cases hb : b = a
      · subst hb
        rw [here] at z; cases z
        exact ⟨hscript, by rw [List.length_map]; exact line, vs, _, vals, hscript⟩
      · rw [off hb] at z; cases z
    · by_cases hb : b = a
      · exact ⟨hb, own⟩
      · rw [off hb] at z; cases z
/-- a law over a head by facts -/
theorem law_walk {l : PySem.W.OpenLaw} {k : Nat} {q : Program} {loose : List Str} {XP : (Str → Option Value) → Heap → Prop} {YP : World → Heap → Prop} {d : DefRec} {x : Str}
    (most : l.most = some 63) (nodf : d.params.defaults = []) (room : Room k callerA)
    (F : ∀ (w : World) (mg : Str → Option Value) (fa : Addr) (h : Heap), YP w h → h.Ns mainGlobals mg → mg d.name = some (.ref fa) →
      ∃ (K : PySem.W.Frag) (fd : FuncData), K.In h ∧ (∃ o es ep, h.get? sysModules = some o ∧ o.data = .dict es ep) ∧ (∀ (s : Shared) (u : Value), BindsTo s fd ⟨[u], []⟩ [(x, u)]) ∧
        ∀ base : Heap, K.In base → base.Ns mainGlobals mg → Sys base → FnG l.prog w K mg base CX0 k fa fd [x] (spLaw K)) :
    PySem.W.WalkO q loose XP YP l.row.toRowW d [] (fun f vs => PySem.call f vs) :=
  Att.attach_call most nodf fun w s₀ s₁ mg mb fa o pm cd doc a vs ns G Y _ _ _ hmg hscript areInts few nogen => by
    obtain ⟨K, fd, inK, sys, binds, keeps⟩ := F w mg fa _ Y G.T.g hmg
    exact law_end inK G.T.g G.T.b G.T.builtins G.T.nolimit sys nogen hscript areInts few room keeps binds
/-! ### the head's facts, and that sys.modules stands -/
/-- constants of the module that are tuples -/
def tupFact (K : PySem.W.Frag) (x : Str) (vs : List V) : Bool := match K.lookup (He.ga K x) with
  | some ⟨.type c, none, .seq its _, _⟩ => decide (c = "tuple") && (decide (its.size ≤ sizeLine) && He.relAll vs its.toList)
  | _ => false
theorem tupFact_ok {K : PySem.W.Frag} {x : Str} {vs : List V} (h : tupFact K x vs = true) (H : Hp) : TupAt K H (He.ga K x) vs := by
  unfold tupFact at h
  split at h
  · rename_i c its n sl e
    obtain ⟨h1, h2⟩ := Bool.and_eq_true_iff.mp h
    obtain ⟨h3, h4⟩ := Bool.and_eq_true_iff.mp h2
    cases of_decide_eq_true h1
    exact .inr ⟨its.toList, n, sl, by simpa using e, by simpa using of_decide_eq_true h3, He.relAll_ok h4⟩
  · cases h
def sysSeen (g : Addr → Option Obj) : Bool := match g sysModules with
  | some ⟨_, _, .dict _ _, _⟩ => true
  | _ => false
/-- facts, defs, more facts over the written part, sys.modules -/
def hookX (n : Nat) (fa : List He.Fa) (fn : List He.DefD) (more : PySem.W.Frag → Bool) : PySem.W.Hook where
  α := (Bool × Bool) × He.AlD
  obs := fun s => ((sysSeen s.heap.get?, more (He.frG s.heap.get? (He.asD s.heap.get? n))), He.obsDG n fa fn s.heap.get?)
  val := fun _ => ((true, true), He.valD fn)
  says := fun _ h => (∃ o es ep, h.get? sysModules = some o ∧ o.data = .dict es ep) ∧ ∃ K : PySem.W.Frag, K.In h ∧ more K = true ∧ He.SaysD fa fn K
  of := fun _ s e => by
    have e1 := congrArg (fun z => z.1.1) e
    have e2 := congrArg (fun z => z.1.2) e
    have e3 := congrArg (fun z => z.2) e
    refine ⟨?_, He.frG s.heap.get? (He.asD s.heap.get? n), He.frG_in, e2, e3⟩
    have e1 : sysSeen s.heap.get? = true := e1
    unfold sysSeen at e1
    split at e1
    · rename_i c d es ep sl h; exact ⟨_, es, ep, h, rfl⟩
    · cases e1
  keeps := fun _ _ _ ⟨⟨o, es, ep, e, d⟩, K, hK, m, c⟩ k => ⟨⟨o, es, ep, k _ _ e, d⟩, K, PySem.W.Frag.In.keeps hK k, m, c⟩
def obsX (n : Nat) (fa : List He.Fa) (fn : List He.DefD) (more : PySem.W.Frag → Bool) (s : PySem.W.SharedT) : (Bool × Bool) × He.AlD :=
  ((sysSeen (HandSHeadRun.getT s), more (He.frG (HandSHeadRun.getT s) (He.asD (HandSHeadRun.getT s) n))), He.obsDG n fa fn (HandSHeadRun.getT s))
theorem obsX_eq {n : Nat} {fa : List He.Fa} {fn : List He.DefD} {more : PySem.W.Frag → Bool} (s : PySem.W.SharedT) : obsX n fa fn more s = (hookX n fa fn more).obs s.abs := by
  have e : HandSHeadRun.getT s = s.abs.heap.get? := funext (HandSHeadRun.getT_eq s)
  unfold obsX
  rw [e]
  rfl
end G

set_option Elab.async false
set_option linter.all false
set_option maxRecDepth 100000
set_option maxHeartbeats 8000000
/-! GF: walking a list, a tuple or a text, as the run has it. -/
namespace G
open PySem PySem.Spec PyProof.Rows L2
def signsD (x : Str) : List D := x.cps.toList.map fun c => D.str ⟨#[c]⟩
def iSeqS (f : Ev → M D) : Ev → M (List D) := fun ρ => f ρ >>= fun d => liftO (match d with | .str x => some (signsD x) | _ => none)
def walkD : D → Option (List D)
  | .lst xs => some xs
  | .tup xs => some xs
  | .str x => some (signsD x)
  | _ => none
def iSeq (f : Ev → M D) : Ev → M (List D) := fun ρ => f ρ >>= fun d => liftO (walkD d)
section
variable {X : Cx} {ca : Dr} {E : XK} {tg e : Expr} {f : Ev → M D} {pos : Pos}
theorem yld_str {K : PySem.W.Frag} {W : Addr → Prop} {H : Hp} {x : Str} : Yld K ca W H (signsD x) (Its x) := by
  have hl : (signsD x).length = x.cps.size := by unfold signsD; simp
  refine ⟨fun P i H' hP ex hi => ?_, fun P H' hP ex => ?_, fun P W' i H' v H'' d g hP ex y hd => ?_⟩
  · rw [hl] at hi; exact hi
  · show x.cps.size ≤ _
    rw [hl]; exact Nat.le_refl _
  · obtain ⟨rfl, c, hc, rfl⟩ := y
    unfold signsD at hd
    rw [List.getElem?_map, Array.getElem?_toList, hc] at hd
    cases hd
    exact ⟨fun _ _ z => z, .str _⟩
theorem i_str (h : PE X e (tD X.K ca E f)) : PI X tg e (tI X.K ca E (iSeqS f)) := by
  refine ⟨fun pins s σ H R I hw => (pi_str h).run pins s σ H R I ?_⟩
  obtain ⟨Z, Y, ρ, c, eo, co, hw⟩ := hw
  refine ⟨Z, Y, ρ, c, eo, co, (Do.bind hw).mono fun d c1 h1 v H1 e1 r1 co1 => ?_⟩
  obtain ⟨ds, hd, h2⟩ := Do.lift h1
  cases r1 with
  | str x =>
    cases hd
    exact ⟨_, rfl, h2 _ H1 e1 co1 yld_str⟩
  | _ => cases hd
theorem bind_congr {α β : Type} {m : M α} {g g' : α → M β} {c : Churn} (h : ∀ a c1, m c = .ok a c1 → g a c1 = g' a c1) : (m >>= g) c = (m >>= g') c := by
  show M.bind m g c = M.bind m g' c
  unfold M.bind
  cases e : m c with
  | ok a c1 => exact h a c1 e
  | exn x c1 => rfl
  | stuck => rfl
theorem i_seq (h : PE X e (tD X.K ca E f)) : PI X tg e (tI X.K ca E (iSeq f)) := by
  refine ⟨fun pins s σ H R I hw => ?_⟩
  obtain ⟨Z, Y, ρ, c, eo, co, hw⟩ := hw
  by_cases hs : ∃ x c1, f ρ c = .ok (.str x) c1
  · obtain ⟨x, c1, hs⟩ := hs
    refine (i_str h).run pins s σ H R I ⟨Z, Y, ρ, c, eo, co, ?_⟩
    have e : iSeqS f ρ c = iSeq f ρ c := bind_congr fun a c2 z => by rw [hs] at z; cases z; rfl
    rw [e]; exact hw
  by_cases ht : ∃ x c1, f ρ c = .ok (.tup x) c1
  · obtain ⟨x, c1, ht⟩ := ht
    refine (i_tup h).run pins s σ H R I ⟨Z, Y, ρ, c, eo, co, ?_⟩
    have e : iSeqT f ρ c = iSeq f ρ c := bind_congr fun a c2 z => by rw [ht] at z; cases z; rfl
    rw [e]; exact hw
  · refine (i_list h).run pins s σ H R I ⟨Z, Y, ρ, c, eo, co, ?_⟩
    have e : iSeqL f ρ c = iSeq f ρ c := bind_congr fun a c2 z => by
      cases a with
      | str x => exact absurd ⟨x, c2, z⟩ hs
      | tup x => exact absurd ⟨x, c2, z⟩ ht
      | _ => rfl
    rw [e]; exact hw
end
end G

set_option Elab.async false
set_option linter.all false
set_option maxRecDepth 100000
set_option maxHeartbeats 8000000
/-! GH: what a printed walk leans on: the head's facts as one premise, a def's promise as one fact, calls of it. -/
namespace G
open PySem PySem.Spec PyProof.Rows L2
theorem roomU {k : Nat} {A : Around} (r : Room k A) : A.units + 128 < cLine := by have := r.un; omega
theorem roomE {k : Nat} {A : Around} (r : Room k A) : A.units + 64 < cLine := by have := r.un; omega
/-- what the head says, over a base -/
structure Hx (fa : List He.Fa) (fn : List He.DefD) (tups : List (Str × List V)) (K : PySem.W.Frag) (mg : Str → Option Value) (base : Heap) : Prop where
  c : He.SaysD fa fn K
  G : ∃ h : Heap, K.In h ∧ h.Ns mainGlobals mg
  y : Sys base
  t : (tups.all fun p => tupFact K p.1 p.2) = true
section
variable {fa : List He.Fa} {fn : List He.DefD} {tups : List (Str × List V)} {K : PySem.W.Frag} {mg : Str → Option Value} {base : Heap}
theorem Hx.free (e : Hx fa fn tups K mg base) (i : Nat) {x : Str} (h : fa[i]? = some (.free x) := by rfl) : mg x = none := let ⟨_, a, b⟩ := e.G; He.free_ok a b (e.c.fact i h)
theorem Hx.glo (e : Hx fa fn tups K mg base) (i : Nat) {x : Str} (h : fa[i]? = some (.glo x) := by rfl) : mg x = some (.ref (He.ga K x)) := let ⟨_, a, b⟩ := e.G; He.glo_ok a b (e.c.fact i h)
theorem Hx.int (e : Hx fa fn tups K mg base) (i : Nat) {x : Str} {n : Int} (h : fa[i]? = some (.int x n) := by rfl) : ∃ t, mg x = some (.int n t) := let ⟨_, a, b⟩ := e.G; He.int_ok a b (e.c.fact i h)
theorem Hx.str (e : Hx fa fn tups K mg base) (i : Nat) {x z : Str} (h : fa[i]? = some (.str x z) := by rfl) : ∃ t, mg x = some (.str z t) := let ⟨_, a, b⟩ := e.G; He.str_ok a b (e.c.fact i h)
theorem Hx.tup (e : Hx fa fn tups K mg base) (i : Nat) {x : Str} {vs : List V} (h : tups[i]? = some (x, vs) := by rfl) (H : Hp) : TupAt K H (He.ga K x) vs := tupFact_ok (List.all_eq_true.mp e.t _ (List.mem_of_getElem? h)) H
end
section
variable {X : Cx} {ca : Dr} {E : XK} {pos : Pos}
theorem d_gInt {x : Str} {i : Int} (h : ∃ t, X.mg x = some (.int i t)) (hg : Gl X x := by rfl) (hd : (x == ("__debug__" : Str)) = false := by decide) : PE X (.Name x pos) (tD X.K ca E (eC (.int i))) := by
  obtain ⟨t, h⟩ := h
  exact d_glob (v := .int i) h ⟨t, rfl⟩ (fun _ _ => .int i) hg hd
theorem d_gStr {x z : Str} (h : ∃ t, X.mg x = some (.str z t)) (hg : Gl X x := by rfl) (hd : (x == ("__debug__" : Str)) = false := by decide) : PE X (.Name x pos) (tD X.K ca E (eC (.str z))) := by
  obtain ⟨t, h⟩ := h
  exact d_glob (v := .str z) h ⟨t, rfl⟩ (fun _ _ => .str z) hg hd
theorem flA_rl {K : PySem.W.Frag} {Z : Addr → Prop} {H : Hp} : ∀ {vs : List V} {ds : List D}, flA ds = some vs → RlA K ca Z H vs ds
  | _, [], h => by cases h; exact .nil
  | _, d :: ds, h => by
    unfold flA at h
    cases hd : flD d with
    | none => rw [hd] at h; cases h
    | some v =>
      rw [hd] at h
      cases hs : flA ds with
      | none => rw [hs] at h; cases h
      | some ws =>
        rw [hs] at h; cases h
        refine .cons ?_ (flA_rl hs)
        cases d <;> first | (cases hd; constructor) | cases hd
theorem d_gTup {x : Str} {vs : List V} {ds : List D} (h : X.mg x = some (.ref (He.ga X.K x))) (ht : ∀ H, TupAt X.K H (He.ga X.K x) vs) (hf : flA ds = some vs) (hg : Gl X x := by rfl) (hd : (x == ("__debug__" : Str)) = false := by decide) : PE X (.Name x pos) (tD X.K ca E (eC (.tup ds))) :=
  d_glob (v := .ref (He.ga X.K x)) h rfl (fun _ H => .tup (ht H) (flA_rl hf)) hg hd
end
/-- the def x at its place does F -/
structure DefG (P : Program) (w : World) (K : PySem.W.Frag) (mg : Str → Option Value) (base : Heap) (k : Nat) (x : Str) (st : Stmt) (ps : List Str) (F : List D → M D) : Prop where
  ex : ∃ fd, FunD K x x (defArgs st) (defBody st) (defScope st) [] [] (He.ga K x) fd ∧ mg x = some (.ref (He.ga K x)) ∧ FnG P w K mg base CX0 k (He.ga K x) fd ps (spD K ps.length F) ∧ Binds K fd ps []
theorem DefG.mk2 {P : Program} {w : World} {K : PySem.W.Frag} {mg : Str → Option Value} {base : Heap} {k : Nat} {x : Str} {st : Stmt} {N ps : List Str} {g : Sm} (hf : ∃ fd, FunD K x x (defArgs st) (defBody st) (defScope st) [] [] (He.ga K x) fd) (hm : mg x = some (.ref (He.ga K x))) (S : FnScope N ps (defScope st))
    (hb : ∀ (kV doc pm : Value) (an : Option Addr) (cdv ct : Value) (us : List Value), us.length = ps.length → bindArgs (PySem.W.fnOf x x (defArgs st) (defBody st) (defScope st) .none kV doc pm an cdv ct) ⟨us, []⟩ = pure (ps.zip us))
    (hbody : ∀ (ca : Dr) (cdv : Value) (A : Around) (outer : List Env) (s : Shared) (H : Hp) (E : XK), A.guards = some [] → Room k (A.deeper (envOfC x (defScope st) s.heap.objs.size (He.ga K x) cdv)) → PSs (cxOf CX0 P w K mg base N x (defScope st) (He.ga K x) cdv A outer s H E).nox (defBody st) (tS K ca E0 g)) :
    DefG P w K mg base (k + 1) x st ps fun ds => G.nx (runDef N.length g ds) := by
  obtain ⟨fd, F⟩ := hf
  exact ⟨fd, F, hm, FunD.okD F S hbody, FunD.bindsN F hb⟩
section
variable {X : Cx} {ca : Dr} {pos : Pos} {k j : Nat} {ps kn : List Str} {F : List D → M D} {x : Str} {st : Stmt} {p : Pos} {e : Expr} {es : List Expr} {fs ks : Ev → M (List D)} {kws : List Keyword}
theorem d_callG (Fk : DefG X.prog X.w X.K X.mg X.base j x st ps F) (gd : X.A.guards = some []) (hr : Room k X.A) (ha : PA X (e :: es) (tAs X.K ca E0 fs)) (hj : j ≤ k := by decide) (hg : Gl X x := by rfl) (hdb : (x == ("__debug__" : Str)) = false := by decide)
    (he : starEach (e :: es) X.env = (false, eval e X.env) :: starEach es X.env := by rfl) (hpl : (backTo pos (starEach es X.env)).any (·.1) = false := by rfl) : PE X (.Call (.Name x p) (e :: es) [] pos) (tD X.K ca E0 (eCall ps.length F [] fs)) := by
  obtain ⟨fd, FF, hm, hF, hb⟩ := Fk.ex
  exact d_call (hF.mono hj) gd hr hm FF.kp hb .nil L2.pass0 (fun _ _ => .nil) ha hg hdb he hpl
theorem kbN {K : PySem.W.Frag} {qual : Str} {params : Arguments} {body : List Stmt} {scope : Scope} {f : Addr} {fd : FuncData} (F : FunD K x qual params body scope [] [] f fd) (m : Nat) (ix : List Nat)
    (h : ∀ (kV doc pm : Value) (an : Option Addr) (cdv ct : Value) (us ws : List Value), us.length = m → ws.length = kn.length → bindArgs (PySem.W.fnOf x qual params body scope .none kV doc pm an cdv ct) ⟨us, kn.zip ws⟩ = pure (ps.zip (pick ix (us ++ ws)))) :
    KBn K fd ps m kn (fun us ws => pick ix (us ++ ws)) (fun vs zs => pick ix (vs ++ zs)) := by
  obtain ⟨oc, od, dV, kV, doc, pm, an, cdv, ct, osl, rfl, lk, hcd, hD, hK⟩ := F.ex
  rcases hD with ⟨_, rfl⟩ | ⟨e, _⟩
  · exact kb_of fun s us ws _ l1 l2 => .of_eq (h kV doc pm an cdv ct us ws l1 l2)
  · exact absurd rfl e
theorem d_callKG (m : Nat) (ix : List Nat) (Fk : DefG X.prog X.w X.K X.mg X.base j x st ps F) (gd : X.A.guards = some []) (hr : Room k X.A)
    (hb : ∀ (kV doc pm : Value) (an : Option Addr) (cdv ct : Value) (us ws : List Value), us.length = m → ws.length = kn.length → bindArgs (PySem.W.fnOf x x (defArgs st) (defBody st) (defScope st) .none kV doc pm an cdv ct) ⟨us, kn.zip ws⟩ = pure (ps.zip (pick ix (us ++ ws))))
    (ha : PA X (e :: es) (tAs X.K ca E0 fs)) (hkw : PK X kws (tAs X.K ca E0 ks)) (hj : j ≤ k := by decide) (hg : Gl X x := by rfl)
    (hall : (backToKw pos (keywordEach kws X.env)).all (·.1.isSome) = true := by rfl) (hks : (backToKw pos (keywordEach kws X.env)).filterMap (·.1) = kn := by rfl) (hdb : (x == ("__debug__" : Str)) = false := by decide)
    (he : starEach (e :: es) X.env = (false, eval e X.env) :: starEach es X.env := by rfl) (hpl : ((backTo pos (starEach (e :: es) X.env)).any (·.1) || (backToKw pos (keywordEach kws X.env)).any (·.1.isNone)) = false := by rfl) :
    PE X (.Call (.Name x p) (e :: es) kws pos) (tD X.K ca E0 (eCallK ps.length m kn.length ix F fs ks)) := by
  obtain ⟨fd, FF, hm, hF, _⟩ := Fk.ex
  exact d_callK (hF.mono hj) gd hr hm FF.kp (kbN FF m ix hb) L2.pass0 ha hkw hg hall hks hdb he hpl
theorem d_callK0G (ix : List Nat) (Fk : DefG X.prog X.w X.K X.mg X.base j x st ps F) (gd : X.A.guards = some []) (hr : Room k X.A)
    (hb : ∀ (kV doc pm : Value) (an : Option Addr) (cdv ct : Value) (us ws : List Value), us.length = 0 → ws.length = kn.length → bindArgs (PySem.W.fnOf x x (defArgs st) (defBody st) (defScope st) .none kV doc pm an cdv ct) ⟨us, kn.zip ws⟩ = pure (ps.zip (pick ix (us ++ ws))))
    (hkw : PK X kws (tAs X.K ca E0 ks)) (hj : j ≤ k := by decide) (hg : Gl X x := by rfl)
    (hall : (backToKw pos (keywordEach kws X.env)).all (·.1.isSome) = true := by rfl) (hks : (backToKw pos (keywordEach kws X.env)).filterMap (·.1) = kn := by rfl) (hdb : (x == ("__debug__" : Str)) = false := by decide)
    (hpl : ((backTo pos (starEach [] X.env)).any (·.1) || (backToKw pos (keywordEach kws X.env)).any (·.1.isNone)) = false := by rfl) :
    PE X (.Call (.Name x p) [] kws pos) (tD X.K ca E0 (eCallK ps.length 0 kn.length ix F aNil ks)) := by
  obtain ⟨fd, FF, hm, hF, _⟩ := Fk.ex
  exact d_callK0 (hF.mono hj) gd hr hm FF.kp (kbN FF 0 ix hb) L2.pass0 hkw hg hall hks hdb hpl
end
end G
namespace G
open PySem PySem.Spec PyProof.Rows L2
theorem funD_one {K : PySem.W.Frag} {x qual : Str} {params : Arguments} {body : List Stmt} {scope : Scope} {dvs : List V} {kws : List (Str × V)} {f : Addr} {fd fd' : FuncData} (F : FunD K x qual params body scope dvs kws f fd) (F' : FunD K x qual params body scope dvs kws f fd') : fd = fd' := by
  obtain ⟨oc, od, dV, kV, doc, pm, an, cdv, ct, osl, e1, lk, _⟩ := F.ex
  obtain ⟨oc', od', dV', kV', doc', pm', an', cdv', ct', osl', e1', lk', _⟩ := F'.ex
  rw [lk] at lk'
  cases lk'
  rfl
end G
namespace G
open PySem PySem.Spec PyProof.Rows L2
/-! == where texts are at hand: no look at their signs -/
theorem canAll_ints : ∀ ns : List Int, PyData.canLayAll0 (ns.map PyData.int) = true
  | [] => rfl
  | n :: ns => by rw [List.map_cons]; simp only [PyData.canLayAll0, canAll_ints ns, PyData.canLay0, Bool.and_true]
theorem depth_ints : ∀ ns : List Int, PyData.depthAll (ns.map PyData.int) = 0
  | [] => rfl
  | n :: ns => by rw [List.map_cons]; simp only [PyData.depthAll, depth_ints ns, PyData.depth]; rfl
theorem shaped_ints (ns : List Int) : SeqAt.shaped (.list (ns.map PyData.int)) = true := by
  unfold SeqAt.shaped
  simp only [PyData.canLay0, PyData.depth, canAll_ints, depth_ints]
  decide
theorem eqv_ints_nil (ns : List Int) : PyData.eqv (.list (ns.map PyData.int)) (.list []) = ns.isEmpty := by cases ns <;> rfl
def gEqX (neg : Bool) : D → D → Option Bool
  | .str a, .str b => some (if neg then !decide (a = b) else decide (a = b))
  | .scr ns, .lst [] => some (if neg then !ns.isEmpty else ns.isEmpty)
  | x, y => gEq neg x y
def rEqX (K : PySem.W.Frag) : R2 := fun x y H Q => rEq x y H Q ∨ rEqD K x y H Q
def rNeX (K : PySem.W.Frag) : R2 := fun x y H Q => rNe x y H Q ∨ rNeD K x y H Q
section
variable {X : Cx} {K : PySem.W.Frag} {ca : Dr}
theorem op_eqX (hu : X.A.units + 64 < cLine) : OpR X (compareOp .Eq) (rEqX X.K) := OpR.or op_eq (op_eqD hu)
theorem op_neX (hu : X.A.units + 64 < cLine) : OpR X (compareOp .NotEq) (rNeX X.K) := OpR.or op_ne (op_neD hu)
theorem str_dec (a b : Str) : decide (V.str a = V.str b) = decide (a = b) := by
  by_cases h : a = b
  · subst h; simp
  · rw [decide_eq_false h, decide_eq_false fun z => h (by cases z; rfl)]
theorem cmp_eqX : BinB K ca (rEqX K) (gEqX false) := fun Z H c x y d e k Q z co r1 r2 hg q => by
  unfold gEqX at hg
  split at hg
  · cases r1; cases r2
    refine .inl ⟨rfl, ?_⟩
    rw [str_dec]
    cases hg
    exact q H .refl co
  · rename_i ns
    cases hg
    cases r1 with | scr h1 =>
    cases r2 with | lst n2 h2 ra =>
    cases ra
    refine .inr ⟨.list (ns.map .int), .list [], .lst h1.s (dp_ints ns), .lst (SqL.of h2) .nil, shaped_ints ns, by decide, ?_⟩
    rw [eqv_ints_nil]
    exact q H .refl co
  · exact .inr (cmp_eq Z H c x y d e k Q z co r1 r2 hg q)
theorem cmp_neX : BinB K ca (rNeX K) (gEqX true) := fun Z H c x y d e k Q z co r1 r2 hg q => by
  unfold gEqX at hg
  split at hg
  · cases r1; cases r2
    refine .inl ⟨rfl, ?_⟩
    rw [str_dec]
    cases hg
    exact q H .refl co
  · rename_i ns
    cases hg
    cases r1 with | scr h1 =>
    cases r2 with | lst n2 h2 ra =>
    cases ra
    refine .inr ⟨.list (ns.map .int), .list [], .lst h1.s (dp_ints ns), .lst (SqL.of h2) .nil, shaped_ints ns, by decide, ?_⟩
    rw [eqv_ints_nil]
    exact q H .refl co
  · exact .inr (cmp_ne Z H c x y d e k Q z co r1 r2 hg q)
end
end G

set_option Elab.async false
set_option linter.all false
set_option maxRecDepth 100000
set_option maxHeartbeats 8000000
/-! GI: running mirrors: Ok r k = r ends well and k holds of what it gives; one equation for each form. -/
namespace G
open PySem PySem.Spec PyProof.Rows L2
def Ok {α : Type} (r : R α) (k : α → Churn → Prop) : Prop := match r with
  | .ok a c => k a c
  | _ => False
section
variable {α β : Type} {m : M α} {f : α → M β} {c : Churn} {a : α}
theorem Ok.ex {r : R α} {k : α → Churn → Prop} (h : Ok r k) : ∃ a c, r = .ok a c ∧ k a c := by
  cases r with
  | ok a c => exact ⟨a, c, rfl, h⟩
  | exn x c => exact h.elim
  | stuck => exact h.elim
theorem Ok.mono {r : R α} {k k' : α → Churn → Prop} (h : Ok r k) (i : ∀ a c, k a c → k' a c) : Ok r k' := by
  cases r with
  | ok a c => exact i a c h
  | exn x c => exact h
  | stuck => exact h
theorem ok_bind {k : β → Churn → Prop} : Ok ((m >>= f) c) k = Ok (m c) fun a c1 => Ok (f a c1) k := by
  show Ok (M.bind m f c) k = _
  unfold M.bind
  cases h : m c with
  | ok a c' => rfl
  | exn x c' => rfl
  | stuck => rfl
theorem ok_pure {k : α → Churn → Prop} : Ok ((pure a : M α) c) k = k a c := rfl
theorem ok_ok {k : α → Churn → Prop} : Ok (R.ok a c) k = k a c := rfl
theorem ok_lift {o : Option α} {k : α → Churn → Prop} : Ok (liftO o c) k = ∃ a, o = some a ∧ k a c := by
  apply propext
  cases o with
  | none => exact ⟨fun h => h.elim, fun ⟨_, h, _⟩ => by cases h⟩
  | some a => exact ⟨fun h => ⟨a, rfl, h⟩, fun ⟨_, h, q⟩ => by cases h; exact q⟩
theorem ok_stuck {k : α → Churn → Prop} : Ok ((stuck : M α) c) k = False := rfl
theorem ok_ite {p : Prop} [Decidable p] {m m' : M α} {k : α → Churn → Prop} : Ok ((if p then m else m') c) k = if p then Ok (m c) k else Ok (m' c) k := by split <;> rfl
theorem ok_nx {k : α → Churn → Prop} : Ok (nx m c) k = Ok (m c) k := by
  unfold nx
  cases h : m c with
  | ok a c' => rfl
  | exn x c' => rfl
  | stuck => rfl
end
section
variable {ρ : Ev} {c : Churn} {fa fb fc : Ev → M D} {c1 c2 : Ev → M Bool} {fs : Ev → M (List D)} {k : D → Churn → Prop} {kb : Bool → Churn → Prop} {ks : List D → Churn → Prop} {kp : Ev × Ctl → Churn → Prop} {s t : Sm}
theorem ok_var {i : Nat} : Ok (eVar i ρ c) k = ∃ d, ρ[i]? = some (.val d) ∧ k d c := by
  apply propext
  unfold eVar
  cases e : ρ[i]? with
  | none => exact ⟨fun h => h.elim, fun ⟨d, h, _⟩ => by cases h⟩
  | some s =>
    cases s with
    | val d => exact ⟨fun h => ⟨d, rfl, h⟩, fun ⟨_, h, q⟩ => by cases h; exact q⟩
    | no => exact ⟨fun h => h.elim, fun ⟨d, h, _⟩ => by cases h⟩
    | own ds => exact ⟨fun h => h.elim, fun ⟨d, h, _⟩ => by cases h⟩
theorem ok_C {d : D} : Ok (eC d ρ c) k = k d c := ok_pure
theorem ok_bin {g : D → D → Option D} : Ok (eBin g fa fb ρ c) k = Ok (fa ρ c) fun x c1 => Ok (fb ρ c1) fun y c2 => ∃ z, g x y = some z ∧ k z c2 := by
  unfold eBin; simp only [ok_bind, ok_lift]
theorem ok_un {g : D → Option D} : Ok (eUn g fa ρ c) k = Ok (fa ρ c) fun x c1 => ∃ z, g x = some z ∧ k z c1 := by
  unfold eUn; simp only [ok_bind, ok_lift]
theorem ok_nil : Ok (aNil ρ c) ks = ks [] c := ok_pure
theorem ok_cons : Ok (aCons fa fs ρ c) ks = Ok (fa ρ c) fun x c1 => Ok (fs ρ c1) fun xs c2 => ks (x :: xs) c2 := by
  unfold aCons; simp only [ok_bind, ok_pure]
theorem ok_args {g : List D → Option D} : Ok (eArgs g fs ρ c) k = Ok (fs ρ c) fun xs c1 => ∃ z, g xs = some z ∧ k z c1 := by
  unfold eArgs; simp only [ok_bind, ok_lift]
theorem ok_tru : Ok (cTru fa ρ c) kb = Ok (fa ρ c) fun x c1 => ∃ b, truD x = some b ∧ kb b c1 := by
  unfold cTru; simp only [ok_bind, ok_lift]
theorem ok_not : Ok (cNot c1 ρ c) kb = Ok (c1 ρ c) fun b c1 => kb (!b) c1 := by
  unfold cNot; simp only [ok_bind, ok_pure]
theorem ok_and : Ok (cAnd c1 c2 ρ c) kb = Ok (c1 ρ c) fun b c1 => if b = true then Ok (c2 ρ c1) kb else kb false c1 := by
  unfold cAnd; simp only [ok_bind, ok_ite, ok_pure]
theorem ok_or : Ok (cOr c1 c2 ρ c) kb = Ok (c1 ρ c) fun b c1 => if b = true then kb true c1 else Ok (c2 ρ c1) kb := by
  unfold cOr; simp only [ok_bind, ok_ite, ok_pure]
theorem ok_eNot : Ok (eNot fa ρ c) k = Ok (fa ρ c) fun x c1 => ∃ b, truD x = some b ∧ k (.bl !b) c1 := by
  unfold eNot; simp only [ok_bind, ok_lift, ok_pure]
theorem ok_eAnd : Ok (eAnd fa fb ρ c) k = Ok (fa ρ c) fun x c1 => ∃ b, truD x = some b ∧ if b = true then Ok (fb ρ c1) k else k x c1 := by
  unfold eAnd; simp only [ok_bind, ok_lift, ok_ite, ok_pure]
theorem ok_eOr : Ok (eOr fa fb ρ c) k = Ok (fa ρ c) fun x c1 => ∃ b, truD x = some b ∧ if b = true then k x c1 else Ok (fb ρ c1) k := by
  unfold eOr; simp only [ok_bind, ok_lift, ok_ite, ok_pure]
theorem ok_if : Ok (eIf c1 fa fb ρ c) k = Ok (c1 ρ c) fun b c1 => if b = true then Ok (fa ρ c1) k else Ok (fb ρ c1) k := by
  unfold eIf; simp only [ok_bind, ok_ite]
theorem ok_cmp {g : D → D → Option Bool} : Ok (cCmp g fa fb ρ c) kb = Ok (fa ρ c) fun x c1 => Ok (fb ρ c1) fun y c2 => ∃ z, g x y = some z ∧ kb z c2 := by
  unfold cCmp; simp only [ok_bind, ok_lift]
theorem ok_chain {g g' : D → D → Option Bool} : Ok (cChain g g' fa fb fc ρ c) kb = Ok (fa ρ c) fun x c1 => Ok (fb ρ c1) fun y c2 => ∃ z, g x y = some z ∧ if z = true then Ok (fc ρ c2) (fun w c3 => ∃ u, g' y w = some u ∧ kb u c3) else kb false c2 := by
  unfold cChain; simp only [ok_bind, ok_lift, ok_ite, ok_pure]
theorem ok_ofC : Ok (eOfC c1 ρ c) k = Ok (c1 ρ c) fun b c1 => k (.bl b) c1 := by
  unfold eOfC; simp only [ok_bind, ok_pure]
theorem ok_oNone {ko : Option Int → Churn → Prop} : Ok (oNone ρ c) ko = ko none c := ok_pure
theorem ok_oSome {ko : Option Int → Churn → Prop} : Ok (oSome fa ρ c) ko = Ok (fa ρ c) fun x c1 => ∃ i, intO x = some i ∧ ko (some i) c1 := by
  unfold oSome; simp only [ok_bind, ok_lift, ok_pure]
theorem ok_sl {g : D → Option Int → Option Int → Option D} {l u : Ev → M (Option Int)} : Ok (eSl g fa l u ρ c) k = Ok (fa ρ c) fun x c1 => Ok (l ρ c1) fun i c2 => Ok (u ρ c2) fun j c3 => ∃ z, g x i j = some z ∧ k z c3 := by
  unfold eSl; simp only [ok_bind, ok_lift]
theorem ok_met {T : String} {g : D → List D → Option D} : Ok (eMet T g fa fs ρ c) k = Ok (fa ρ c) fun x c1 => tyD T x = true ∧ Ok (fs ρ c1) fun xs c2 => ∃ z, g x xs = some z ∧ k z c2 := by
  unfold eMet; simp only [ok_bind, ok_lift]
  congr 1; funext x c1; apply propext
  by_cases h : tyD T x = true <;> simp [h]
theorem ok_call {n : Nat} {F : List D → M D} {dds : List D} : Ok (eCall n F dds fs ρ c) k = Ok (fs ρ c) fun xs c1 => (xs ++ dds).length = n ∧ Ok (F (xs ++ dds) c1) k := by
  unfold eCall; simp only [ok_bind, ok_ite, ok_stuck]
  congr 1; funext x c1; apply propext
  by_cases h : (x ++ dds).length = n <;> simp [h]
theorem ok_callK {n m j : Nat} {ix : List Nat} {F : List D → M D} {gs : Ev → M (List D)} : Ok (eCallK n m j ix F fs gs ρ c) k = Ok (fs ρ c) fun xs c1 => Ok (gs ρ c1) fun zs c2 => (xs.length = m ∧ zs.length = j ∧ (pick ix (xs ++ zs)).length = n) ∧ Ok (F (pick ix (xs ++ zs)) c2) k := by
  unfold eCallK; simp only [ok_bind, ok_ite, ok_stuck]
  congr 1; funext x c1; congr 1; funext z c2; apply propext
  by_cases h : x.length = m ∧ z.length = j ∧ (pick ix (x ++ z)).length = n <;> simp [h]
def revD : D → Option D
  | .lst xs => some (.lst xs.reverse)
  | _ => none
def itmD : D → Option D
  | .dic ks vs => some (.lst (itemsD ks vs))
  | _ => none
theorem ok_rev : Ok (eRev fa ρ c) k = Ok (fa ρ c) fun x c1 => ∃ z, revD x = some z ∧ k z c1 := by
  unfold eRev; simp only [ok_bind, ok_lift]
  rfl
theorem ok_items : Ok (eItems fa ρ c) k = Ok (fa ρ c) fun x c1 => ∃ z, itmD x = some z ∧ k z c1 := by
  unfold eItems; simp only [ok_bind, ok_lift]
  rfl
theorem ok_lenSet : Ok (eLenSet fa ρ c) k = Ok (fa ρ c) fun x c1 => ∃ z, gLenSet x = some z ∧ k z c1 := by
  unfold eLenSet; simp only [ok_bind, ok_lift]
theorem ok_chn {j : Int} {i : Nat} : Ok (eChn j i ρ c) k = ((∃ d, ρ[i]? = some (.val d) ∧ isChn d = some ()) ∧ ∃ z, chnItem j c = some z ∧ k z c) := by
  unfold eChn; simp only [ok_bind, ok_lift, ok_var]
  apply propext
  constructor
  · rintro ⟨d, h, ⟨u, hu, h2⟩⟩
    refine ⟨⟨d, h, hu⟩, ?_⟩
    simpa [getC, ok_ok, ok_lift] using h2
  · rintro ⟨⟨d, h, hu⟩, h2⟩
    refine ⟨d, h, (), hu, ?_⟩
    simpa [getC, ok_ok, ok_lift] using h2
theorem ok_pairs0 {kk : List (Key × D) → Churn → Prop} : Ok (ePairs [] ρ c) kk = kk [] c := ok_pure
theorem ok_pairs {fk fv : Ev → M D} {r} {kk : List (Key × D) → Churn → Prop} : Ok (ePairs ((fk, fv) :: r) ρ c) kk = Ok (fk ρ c) fun x c1 => ∃ y, keyD x = some y ∧ Ok (fv ρ c1) fun v c2 => Ok (ePairs r ρ c2) fun ps c3 => kk ((y, v) :: ps) c3 := by
  simp only [ePairs, ok_bind, ok_lift, ok_pure]
theorem ok_dict {ps} : Ok (eDict ps ρ c) k = Ok (ePairs ps ρ c) fun kvs c1 => kvs.length ≤ 15 ∧ k (mkDic kvs) c1 := by
  unfold eDict; simp only [ok_bind, ok_ite, ok_stuck, ok_pure]
  congr 1; funext x c1; apply propext
  by_cases h : x.length ≤ 15 <;> simp [h]
/-! what is walked, comprehensions -/
theorem ok_iSeq : Ok (iSeq fa ρ c) ks = Ok (fa ρ c) fun x c1 => ∃ z, walkD x = some z ∧ ks z c1 := by
  unfold iSeq; simp only [ok_bind, ok_lift]
theorem ok_rng1 : Ok (iRange1 fs ρ c) ks = Ok (fs ρ c) fun x c1 => ∃ z, rng1 x = some z ∧ ks z c1 := by
  unfold iRange1; simp only [ok_bind, ok_lift]
theorem ok_rng2 : Ok (iRange2 fs ρ c) ks = Ok (fs ρ c) fun x c1 => ∃ z, rng2 x = some z ∧ ks z c1 := by
  unfold iRange2; simp only [ok_bind, ok_lift]
theorem ok_comp {t : Tg} {it : Ev → M (List D)} {vs : List Nat} : Ok (eComp t it c1 fa vs ρ c) k = Ok (it ρ c) fun ds c2 => ds.length ≤ sizeLine ∧ Ok (compM t c1 fa (wipeE ρ vs) ds c2) fun ys c3 => k (.lst ys) c3 := by
  unfold eComp; simp only [ok_bind, ok_ite, ok_stuck, ok_pure, ok_nx]
  congr 1; funext x c3; apply propext
  by_cases h : x.length ≤ sizeLine <;> simp [h]
theorem ok_comp0 {t : Tg} : Ok (compM t c1 fa ρ [] c) ks = ks [] c := ok_pure
theorem ok_compS {t : Tg} {d : D} {ds : List D} : Ok (compM t c1 fa ρ (d :: ds) c) ks = ∃ ρ1, t d ρ = some ρ1 ∧ Ok (c1 ρ1 c) fun b c2 => if b = true then (Ok (fa ρ1 c2) fun y c3 => Ok (compM t c1 fa ρ ds c3) fun ys c4 => ks (y :: ys) c4) else Ok (compM t c1 fa ρ ds c2) ks := by
  simp only [compM, ok_bind, ok_lift, ok_ite, ok_pure]
/-! statements -/
theorem ok_seq : Ok (sSeq s t ρ c) kp = Ok (s ρ c) fun p c1 => match p.2 with | .nx => Ok (t p.1 c1) kp | _ => kp p c1 := by
  unfold sSeq; simp only [ok_bind]
  congr 1; funext p c1
  obtain ⟨ρ1, ctl⟩ := p
  cases ctl <;> simp only [ok_pure]
theorem ok_sNil : Ok (sNil ρ c) kp = kp (ρ, .nx) c := ok_pure
theorem ok_ret : Ok (sRet fa ρ c) kp = Ok (fa ρ c) fun d c1 => kp (ρ, .ret d) c1 := by
  unfold sRet; simp only [ok_bind, ok_pure]
theorem ok_retN : Ok (sRetN ρ c) kp = kp (ρ, .ret .non) c := ok_pure
theorem ok_sIf : Ok (sIf c1 s t ρ c) kp = Ok (c1 ρ c) fun b c2 => if b = true then Ok (s ρ c2) kp else Ok (t ρ c2) kp := by
  unfold sIf; simp only [ok_bind, ok_ite]
theorem ok_expr : Ok (sExpr fa ρ c) kp = Ok (fa ρ c) fun _ c1 => kp (ρ, .nx) c1 := by
  unfold sExpr; simp only [ok_bind, ok_pure]
theorem ok_asg {t : Tg} : Ok (sAsg t fa ρ c) kp = Ok (fa ρ c) fun d c1 => ∃ ρ1, t d ρ = some ρ1 ∧ kp (ρ1, .nx) c1 := by
  unfold sAsg; simp only [ok_bind, ok_lift, ok_pure]
theorem ok_par {i j : Nat} : Ok (sPar i j fs ρ c) kp = Ok (fs ρ c) fun ds c1 => ∃ d e, ds = [d, e] ∧ kp ((ρ.set i (.val d)).set j (.val e), .nx) c1 := by
  unfold sPar; simp only [ok_bind]
  congr 1; funext ds c1; apply propext
  match ds with
  | [d, e] => exact ⟨fun h => ⟨d, e, rfl, h⟩, fun ⟨_, _, h, q⟩ => by cases h; exact q⟩
  | [] => simp [ok_stuck]
  | [_] => simp [ok_stuck]
  | _ :: _ :: _ :: _ => simp [ok_stuck]
theorem ok_sChn {j : Int} {i : Nat} : Ok (sChn j i fa ρ c) kp = Ok (fa ρ c) fun d c1 => (∃ h, ρ[i]? = some (.val h) ∧ isChn h = some ()) ∧ ∃ c2, chnPut j d c1 = some c2 ∧ kp (ρ, .nx) c2 := by
  unfold sChn; simp only [ok_bind, ok_lift, ok_var, ok_pure]
  congr 1; funext d c1; apply propext
  constructor
  · rintro ⟨h, h1, u, hu, h2⟩
    refine ⟨⟨h, h1, hu⟩, ?_⟩
    simpa [getC, putC, ok_ok, ok_lift] using h2
  · rintro ⟨⟨h, h1, hu⟩, h2⟩
    refine ⟨h, h1, (), hu, ?_⟩
    simpa [getC, putC, ok_ok, ok_lift] using h2
theorem ok_for {t : Tg} {it : Ev → M (List D)} : Ok (sFor t it s ρ c) kp = Ok (it ρ c) fun ds c1 => Ok (forM' t s ds ρ c1) kp := by
  unfold sFor; simp only [ok_bind]
theorem ok_for0 {t : Tg} : Ok (forM' t s [] ρ c) kp = kp (ρ, .nx) c := ok_pure
theorem ok_forS {t : Tg} {d : D} {ds : List D} : Ok (forM' t s (d :: ds) ρ c) kp = ∃ ρ1, t d ρ = some ρ1 ∧ Ok (s ρ1 c) fun p c1 => match p.2 with
    | .nx => Ok (forM' t s ds p.1 c1) kp
    | .ct => Ok (forM' t s ds p.1 c1) kp
    | .bk => kp (p.1, .nx) c1
    | .ret d => kp (p.1, .ret d) c1 := by
  simp only [forM', ok_bind, ok_lift]
  congr 1; funext ρ1; congr 1; congr 1; funext p c1
  obtain ⟨ρ2, ctl⟩ := p
  cases ctl <;> simp only [ok_pure]
theorem ok_def {N : Nat} {g : Sm} {ds : List D} : Ok (G.nx (runDef N g ds) c) k = Ok (g (ds.map Sl.val ++ List.replicate (N - ds.length) Sl.no) c) fun p c1 => match p.2 with | .ret d => k d c1 | .nx => k .non c1 | _ => False := by
  rw [ok_nx]
  unfold runDef; simp only [ok_bind]
  congr 1; funext p c1
  obtain ⟨ρ2, ctl⟩ := p
  cases ctl <;> simp only [ok_pure, ok_stuck]
end
theorem LawTrue.of {n : Nat} {g : Sm} (h : ∀ ns : List Int, ns.length ≤ 63 → Ok (g (.val (.scr ns) :: .val .chn :: List.replicate (n - 2) .no) ⟨ns.take 60, 0, 0⟩) fun p _ => p.2 = .ret (.bl true)) : LawTrue n g := fun cells hc => by
  obtain ⟨⟨ρ, ctl⟩, c, e, q⟩ := (h cells hc).ex
  cases q
  exact ⟨ρ, c, e⟩
end G

set_option Elab.async false
set_option linter.all false
set_option maxRecDepth 100000
set_option maxHeartbeats 8000000
/-! GJ: draws. -/
namespace G
open PySem PySem.Spec PyProof.Rows L2
def gDraw1 (m1 a b m2 d f m3 : Int) : Sm := (sSeq (sIf (cCmp (gEqX false) (eChn 0 0) (eArgs gLst aNil)) (sRet (eC (.int 0))) sNil)
  (sSeq (sIf (cCmp (gCmpI gtI) (eChn 2 0) (eC (.int 0))) (sSeq (sAsg (gN 2) (eArgs gInt (aCons (eChn 2 0) aNil)))
  (sSeq (sChn 2 0 (eBin gDiv (eVar 2) (eVar 1)))
  (sRet (eBin gMod (eArgs gInt (aCons (eVar 2) aNil)) (eVar 1))))) sNil)
  (sSeq (sAsg (gN 3) (eChn 1 0))
  (sSeq (sChn 1 0 (eBin gAdd (eVar 3) (eC (.int 1))))
  (sSeq (sAsg (gN 4) (eBin gIx (eChn 0 0) (eBin gMod (eArgs gInt (aCons (eVar 3) aNil)) (eArgs gLen (aCons (eChn 0 0) aNil)))))
  (sSeq (sIf (cAnd (cCmp (gCmpI ltI) (eVar 3) (eArgs gLen (aCons (eChn 0 0) aNil))) (cCmp (gCmpI geI) (eArgs gAbs (aCons (eVar 4) aNil)) (eBin gPow (eC (.int 10)) (eC (.int 18))))) (sSeq (sAsg (gN 2) (eBin gAdd (eBin gMul (eC (.int 2)) (eBin gSub (eArgs gAbs (aCons (eVar 4) aNil)) (eBin gPow (eC (.int 10)) (eC (.int 18))))) (eArgs gInt (aCons (eBin (gBl (gCmpI ltI)) (eVar 4) (eC (.int 0))) aNil))))
  (sSeq (sChn 2 0 (eBin gDiv (eArgs gInt (aCons (eVar 2) aNil)) (eVar 1)))
  (sRet (eBin gMod (eArgs gInt (aCons (eVar 2) aNil)) (eVar 1))))) sNil)
  (sSeq (sAsg (gN 5) (eBin gMod (eArgs gInt (aCons (eBin gPow (eBin gAdd (eBin gAdd (eBin gMod (eArgs gInt (aCons (eVar 4) aNil)) (eC (.int m1))) (eBin gMul (eC (.int a)) (eVar 3))) (eC (.int b))) (eC (.int 5))) aNil)) (eC (.int m2))))
  (sSeq (sAsg (gN 5) (eBin gMod (eArgs gInt (aCons (eBin gPow (eBin gAdd (eBin gAdd (eBin gMul (eVar 5) (eBin gAdd (eBin gMul (eC (.int 2)) (eVar 3)) (eC (.int d)))) (eBin gMul (eBin gMul (eC (.int f)) (eVar 3)) (eVar 3))) (eC (.int a))) (eC (.int 3))) aNil)) (eC (.int m3))))
  (sRet (eBin gMod (eArgs gInt (aCons (eBin gDiv (eVar 5) (eC (.int 64))) aNil)) (eVar 1)))))))))))
structure Good (n : Nat) (c : Churn) : Prop where
  lo : 0 ≤ c.at_
  hi : c.at_ ≤ n
  left : 0 ≤ c.left
  few : c.cells.length ≤ 60
theorem Good.mono {n n' : Nat} {c : Churn} (h : Good n c) (e : n ≤ n') : Good n' c := ⟨h.lo, by have := h.hi; omega, h.left, h.few⟩
theorem toPyA_ints : ∀ ns : List Int, toPyA (ns.map D.int) = some (ns.map PyData.int)
  | [] => rfl
  | n :: ns => by rw [List.map_cons]; unfold toPyA; rw [toPyA_ints ns]; rfl
theorem eq_nil_ints (ns : List Int) : gEqX false (.lst (ns.map D.int)) (.lst []) = some ns.isEmpty := by
  show gEq false (.lst (ns.map D.int)) (.lst []) = some ns.isEmpty
  have h1 : toPy (.lst (ns.map D.int)) = some (.list (ns.map PyData.int)) := by unfold toPy; rw [toPyA_ints]; rfl
  have h2 : toPy (.lst []) = some (.list []) := rfl
  have s1 : SeqAt.shaped (.list (ns.map PyData.int)) = true := by
    unfold SeqAt.shaped
    simp only [PyData.canLay0, PyData.depth, canAll_ints, depth_ints]
    decide
  have s2 : SeqAt.shaped (.list []) = true := by decide
  unfold gEq
  rw [h1, h2]
  simp only [Option.bind_some, s1, s2, and_self, if_true]
  cases ns <;> rfl
theorem atI_ints (ns : List Int) {i : Nat} (h : i < ns.length) : atI (ns.map D.int) (i : Int) = some (.int ns[i]) := by
  have e : ixN (ns.map D.int).length (i : Int) = some i := by
    unfold ixN
    have h0 : (0 : Int) ≤ (i : Int) := Int.natCast_nonneg i
    have h1 : (i : Int) < ((ns.map D.int).length : Int) := by rw [List.length_map]; exact Int.ofNat_lt.mpr h
    rw [if_pos h0, if_pos h1]
    simp
  unfold atI
  rw [e]
  simp [h]
theorem ite_t {b : Bool} {A B : Prop} (h : b = true) (q : A) : if b = true then A else B := by rw [if_pos h]; exact q
theorem ite_f {b : Bool} {A B : Prop} (h : b = false) (q : B) : if b = true then A else B := by rw [h, if_neg (by decide)]; exact q
theorem gMod_ok {i j : Int} (h : 0 < j) : gMod (.int i) (.int j) = some (.int (i % j)) := if_pos (decide_eq_true h)
theorem log_lt {j : Int} {k : Nat} (h : j.natAbs < 2 ^ k) (hk : 0 < k) : j.natAbs.log2 < k := by
  by_cases z : j.natAbs = 0
  · rw [z]; simpa using hk
  · exact (Nat.log2_lt z).mpr h
theorem gDiv_ok {i j : Int} (h : 0 < j) (h2 : j ≤ 2 ^ 62) : gDiv (.int i) (.int j) = some (.int (i / j)) :=
  if_pos (Bool.and_eq_true_iff.mpr ⟨decide_eq_true h, decide_eq_true (Nat.lt_trans (log_lt (k := 63) (by omega) (by decide)) (by decide))⟩)
theorem gMul_l {i j : Int} (h1 : -(2 ^ 64) < i) (h2 : i < 2 ^ 64) : gMul (.int i) (.int j) = some (.int (i * j)) :=
  if_pos (by unfold okMul; rw [decide_eq_true h1, decide_eq_true h2]; rfl)
theorem gMul_r {i j : Int} (h1 : -(2 ^ 64) < j) (h2 : j < 2 ^ 64) : gMul (.int i) (.int j) = some (.int (i * j)) :=
  if_pos (by unfold okMul; rw [decide_eq_true h1, decide_eq_true h2]; simp)
theorem gPow_ok {i j : Int} (h0 : 0 ≤ j) (h1 : j ≤ 1000000) (h : i.natAbs < 2 ^ 64) : gPow (.int i) (.int j) = some (.int (i ^ j.toNat)) :=
  if_pos (by unfold okPow; rw [decide_eq_true h0, decide_eq_true h1, decide_eq_true h]; rfl)
theorem one_of (x : Bool) : gInt [.bl x] = some (.int (if x then 1 else 0)) := rfl
theorem draw1 {m1 a b m2 d f m3 j : Int} {n : Nat} {c : Churn} {k : D → Churn → Prop} (hm1 : 0 < m1 ∧ m1 ≤ 2 ^ 31) (ha : 0 ≤ a ∧ a ≤ 2 ^ 20) (hb : 0 ≤ b ∧ b ≤ 2 ^ 20) (hm2 : 0 < m2 ∧ m2 ≤ 2 ^ 31) (hd : 0 ≤ d ∧ d ≤ 2 ^ 20) (hf : 0 ≤ f ∧ f ≤ 2 ^ 20) (hm3 : 0 < m3)
    (g : Good n c) (hn : n + 1 ≤ 2 ^ 20) (hj : 1 ≤ j) (hj2 : j ≤ 2 ^ 62) (q : ∀ r c', 0 ≤ r → r < j → Good (n + 1) c' → k (.int r) c') : Ok (G.nx (runDef 6 (gDraw1 m1 a b m2 d f m3) [.chn, .int j]) c) k := by
  obtain ⟨cells, at_, left⟩ := c
  rw [ok_def]
  show Ok (gDraw1 m1 a b m2 d f m3 [.val .chn, .val (.int j), .no, .no, .no, .no] _) _
  unfold gDraw1
  rw [ok_seq, ok_sIf, ok_cmp, ok_chn]
  refine ⟨⟨.chn, rfl, rfl⟩, _, rfl, ?_⟩
  rw [ok_args, ok_nil]
  refine ⟨_, rfl, _, eq_nil_ints cells, ?_⟩
  have hlo := g.lo
  have hhi := g.hi
  have hl := g.left
  simp only at hlo hhi hl
  have fin : ∀ r c', 0 ≤ r → r < j → Good (n + 1) c' → k (.int r) c' := q
  cases hc : cells with
  | nil =>
    subst hc
    rw [if_pos (by rfl), ok_ret, ok_C]
    exact q 0 _ (by omega) (by omega) (g.mono (by omega))
  | cons c0 cs =>
    rw [← hc]
    have hlen : 0 < cells.length := by rw [hc]; exact Nat.succ_pos _
    refine ite_f (by rw [hc]; rfl) ?_
    rw [ok_sNil]
    show Ok _ _
    rw [ok_seq, ok_sIf, ok_cmp, ok_chn]
    refine ⟨⟨.chn, rfl, rfl⟩, _, rfl, ?_⟩
    rw [ok_C]
    refine ⟨_, rfl, ?_⟩
    by_cases hz : 0 < left
    · refine ite_t (decide_eq_true hz) ?_
      rw [ok_seq, ok_asg, ok_args, ok_cons, ok_chn]
      refine ⟨⟨.chn, rfl, rfl⟩, _, rfl, ?_⟩
      rw [ok_nil]
      refine ⟨_, rfl, _, rfl, ?_⟩
      show Ok _ _
      rw [ok_seq, ok_sChn, ok_bin, ok_var]
      refine ⟨_, rfl, ?_⟩
      rw [ok_var]
      refine ⟨_, rfl, _, gDiv_ok (by omega) hj2, ⟨.chn, rfl, rfl⟩, _, rfl, ?_⟩
      show Ok _ _
      rw [ok_ret, ok_bin, ok_args, ok_cons, ok_var]
      refine ⟨_, rfl, ?_⟩
      rw [ok_nil]
      refine ⟨_, rfl, ?_⟩
      rw [ok_var]
      refine ⟨_, rfl, _, gMod_ok (by omega), ?_⟩
      refine q _ _ (Int.emod_nonneg _ (by omega)) (Int.emod_lt_of_pos _ (by omega)) ⟨g.lo, ?_, Int.ediv_nonneg hl (by omega), g.few⟩
      show at_ ≤ _
      omega
    · refine ite_f (decide_eq_false hz) ?_
      rw [ok_sNil]
      show Ok _ _
      rw [ok_seq, ok_asg, ok_chn]
      refine ⟨⟨.chn, rfl, rfl⟩, _, rfl, _, rfl, ?_⟩
      show Ok _ _
      rw [ok_seq, ok_sChn, ok_bin, ok_var]
      refine ⟨_, rfl, ?_⟩
      rw [ok_C]
      refine ⟨_, rfl, ⟨.chn, rfl, rfl⟩, _, rfl, ?_⟩
      show Ok _ _
      rw [ok_seq, ok_asg, ok_bin, ok_chn]
      refine ⟨⟨.chn, rfl, rfl⟩, _, rfl, ?_⟩
      rw [ok_bin, ok_args, ok_cons, ok_var]
      refine ⟨_, rfl, ?_⟩
      rw [ok_nil]
      refine ⟨_, rfl, ?_⟩
      rw [ok_args, ok_cons, ok_chn]
      refine ⟨⟨.chn, rfl, rfl⟩, _, rfl, ?_⟩
      rw [ok_nil]
      have hll : (0 : Int) < ((cells.map D.int).length : Int) := by rw [List.length_map]; exact Int.ofNat_lt.mpr hlen
      refine ⟨_, rfl, _, gMod_ok hll, ?_⟩
      have hi1 := Int.emod_nonneg at_ (by omega : ((cells.map D.int).length : Int) ≠ 0)
      have hi2 := Int.emod_lt_of_pos at_ hll
      obtain ⟨i, ei⟩ := Int.eq_ofNat_of_zero_le hi1
      rw [ei, List.length_map] at hi2
      have hi3 : i < cells.length := Int.ofNat_lt.mp hi2
      refine ⟨_, (by rw [ei]; exact atI_ints cells hi3), _, rfl, ?_⟩
      generalize cells[i] = cell
      have at1 : at_ + 1 ≤ ((n + 1 : Nat) : Int) := by omega
      have g1 : Good (n + 1) ⟨cells, at_ + 1, left⟩ := ⟨by show (0 : Int) ≤ at_ + 1; omega, at1, hl, g.few⟩
      show Ok _ _
      rw [ok_seq, ok_sIf, ok_and, ok_cmp, ok_var]
      refine ⟨_, rfl, ?_⟩
      rw [ok_args, ok_cons, ok_chn]
      refine ⟨⟨.chn, rfl, rfl⟩, _, rfl, ?_⟩
      rw [ok_nil]
      refine ⟨_, rfl, _, rfl, ?_⟩
      have hat : ∃ m : Int, at_ = m ∧ 0 ≤ m ∧ m < 2 ^ 20 := ⟨at_, rfl, hlo, by omega⟩
      have rest : ∀ (s2 : Sl), Ok (sSeq (sAsg (gN 5) (eBin gMod (eArgs gInt (aCons (eBin gPow (eBin gAdd (eBin gAdd (eBin gMod (eArgs gInt (aCons (eVar 4) aNil)) (eC (.int m1))) (eBin gMul (eC (.int a)) (eVar 3))) (eC (.int b))) (eC (.int 5))) aNil)) (eC (.int m2))))
  (sSeq (sAsg (gN 5) (eBin gMod (eArgs gInt (aCons (eBin gPow (eBin gAdd (eBin gAdd (eBin gMul (eVar 5) (eBin gAdd (eBin gMul (eC (.int 2)) (eVar 3)) (eC (.int d)))) (eBin gMul (eBin gMul (eC (.int f)) (eVar 3)) (eVar 3))) (eC (.int a))) (eC (.int 3))) aNil)) (eC (.int m3))))
  (sRet (eBin gMod (eArgs gInt (aCons (eBin gDiv (eVar 5) (eC (.int 64))) aNil)) (eVar 1)))) [.val .chn, .val (.int j), s2, .val (.int at_), .val (.int cell), .no] ⟨cells, at_ + 1, left⟩) fun p c1 => match p.2 with | .ret d => k d c1 | .nx => k .non c1 | _ => False := by
        intro s2
        have hat2 : at_ < 2 ^ 20 := by omega
        have p1 : 0 ≤ a * at_ ∧ a * at_ ≤ 2 ^ 40 := ⟨Int.mul_nonneg ha.1 hlo, by
          have := Int.mul_le_mul ha.2 (Int.le_of_lt hat2) hlo (by decide : (0 : Int) ≤ 2 ^ 20)
          have e : (2 : Int) ^ 20 * 2 ^ 20 = 2 ^ 40 := by decide
          omega⟩
        have q1 : 0 ≤ cell % m1 ∧ cell % m1 < 2 ^ 31 := ⟨Int.emod_nonneg _ (by omega), Int.lt_of_lt_of_le (Int.emod_lt_of_pos _ hm1.1) hm1.2⟩
        rw [ok_seq, ok_asg, ok_bin, ok_args, ok_cons, ok_bin, ok_bin, ok_bin, ok_bin, ok_args, ok_cons, ok_var]
        refine ⟨_, rfl, ?_⟩
        rw [ok_nil]
        refine ⟨_, rfl, ?_⟩
        rw [ok_C]
        refine ⟨_, gMod_ok hm1.1, ?_⟩
        rw [ok_bin, ok_C, ok_var]
        refine ⟨_, rfl, _, gMul_l (by omega) (by omega), _, rfl, ?_⟩
        rw [ok_C]
        refine ⟨_, rfl, ?_⟩
        rw [ok_C]
        refine ⟨_, gPow_ok (by decide) (by decide) (by omega), ?_⟩
        rw [ok_nil]
        refine ⟨_, rfl, ?_⟩
        rw [ok_C]
        refine ⟨_, gMod_ok hm2.1, _, rfl, ?_⟩
        have q2 : ∀ y : Int, 0 ≤ y % m2 ∧ y % m2 < 2 ^ 31 := fun y => ⟨Int.emod_nonneg _ (by omega), Int.lt_of_lt_of_le (Int.emod_lt_of_pos _ hm2.1) hm2.2⟩
        generalize hx : (cell % m1 + a * at_ + b) ^ (Int.toNat 5) = xx
        have q3 := q2 xx
        generalize xx % m2 = x5 at q3 ⊢
        show Ok _ _
        have p2 : 0 ≤ x5 * (2 * at_ + d) ∧ x5 * (2 * at_ + d) ≤ 2 ^ 31 * 2 ^ 22 := ⟨Int.mul_nonneg q3.1 (by omega), Int.mul_le_mul (by omega) (by omega) (by omega) (by decide)⟩
        have p3 : 0 ≤ f * at_ ∧ f * at_ ≤ 2 ^ 40 := ⟨Int.mul_nonneg hf.1 hlo, by
          have := Int.mul_le_mul hf.2 (Int.le_of_lt hat2) hlo (by decide : (0 : Int) ≤ 2 ^ 20)
          have e : (2 : Int) ^ 20 * 2 ^ 20 = 2 ^ 40 := by decide
          omega⟩
        have p4 : 0 ≤ f * at_ * at_ ∧ f * at_ * at_ ≤ 2 ^ 60 := ⟨Int.mul_nonneg p3.1 hlo, by
          have := Int.mul_le_mul p3.2 (Int.le_of_lt hat2) hlo (by decide : (0 : Int) ≤ 2 ^ 40)
          have e : (2 : Int) ^ 40 * 2 ^ 20 = 2 ^ 60 := by decide
          omega⟩
        rw [ok_seq, ok_asg, ok_bin, ok_args, ok_cons, ok_bin, ok_bin, ok_bin, ok_bin, ok_var]
        refine ⟨_, rfl, ?_⟩
        rw [ok_bin, ok_bin, ok_C, ok_var]
        refine ⟨_, rfl, _, gMul_l (by decide) (by decide), ?_⟩
        rw [ok_C]
        refine ⟨_, rfl, _, gMul_l (by omega) (by omega), ?_⟩
        rw [ok_bin, ok_bin, ok_C, ok_var]
        refine ⟨_, rfl, _, gMul_l (by omega) (by omega), ?_⟩
        rw [ok_var]
        refine ⟨_, rfl, _, gMul_l (by omega) (by omega), _, rfl, ?_⟩
        rw [ok_C]
        refine ⟨_, rfl, ?_⟩
        rw [ok_C]
        have e53 : (2 : Int) ^ 31 * 2 ^ 22 = 2 ^ 53 := by decide
        refine ⟨_, gPow_ok (by decide) (by decide) (by omega), ?_⟩
        rw [ok_nil]
        refine ⟨_, rfl, ?_⟩
        rw [ok_C]
        refine ⟨_, gMod_ok hm3, _, rfl, ?_⟩
        show Ok _ _
        rw [ok_ret, ok_bin, ok_args, ok_cons, ok_bin, ok_var]
        refine ⟨_, rfl, ?_⟩
        rw [ok_C]
        refine ⟨_, gDiv_ok (by decide) (by decide), ?_⟩
        rw [ok_nil]
        refine ⟨_, rfl, ?_⟩
        rw [ok_var]
        refine ⟨_, rfl, _, gMod_ok (by omega), ?_⟩
        exact q _ _ (Int.emod_nonneg _ (by omega)) (Int.emod_lt_of_pos _ (by omega)) g1
      by_cases h1 : at_ < ((cells.map D.int).length : Int)
      · refine ite_t (decide_eq_true h1) ?_
        rw [ok_cmp, ok_args, ok_cons, ok_var]
        refine ⟨_, rfl, ?_⟩
        rw [ok_nil]
        refine ⟨_, rfl, ?_⟩
        rw [ok_bin, ok_C, ok_C]
        refine ⟨_, gPow_ok (by decide) (by decide) (by decide), _, rfl, ?_⟩
        by_cases h2 : (10 : Int) ^ (Int.toNat 18) ≤ (if cell < 0 then -cell else cell)
        · refine ite_t (decide_eq_true h2) ?_
          rw [ok_seq, ok_asg, ok_bin, ok_bin, ok_C, ok_bin, ok_args, ok_cons, ok_var]
          refine ⟨_, rfl, ?_⟩
          rw [ok_nil]
          refine ⟨_, rfl, ?_⟩
          rw [ok_bin, ok_C, ok_C]
          refine ⟨_, gPow_ok (by decide) (by decide) (by decide), _, rfl, _, gMul_l (by decide) (by decide), ?_⟩
          rw [ok_args, ok_cons, ok_bin, ok_var]
          refine ⟨_, rfl, ?_⟩
          rw [ok_C]
          refine ⟨_, rfl, ?_⟩
          rw [ok_nil]
          refine ⟨_, rfl, _, rfl, _, rfl, ?_⟩
          show Ok _ _
          have hb01 : (0 : Int) ≤ (if ltI cell 0 then 1 else 0) := by split <;> decide
          have hr : 0 ≤ 2 * ((if cell < 0 then -cell else cell) - (10 : Int) ^ (Int.toNat 18)) + (if ltI cell 0 then 1 else 0) := by omega
          generalize 2 * ((if cell < 0 then -cell else cell) - (10 : Int) ^ (Int.toNat 18)) + (if ltI cell 0 then 1 else 0) = rr at hr ⊢
          rw [ok_seq, ok_sChn, ok_bin, ok_args, ok_cons, ok_var]
          refine ⟨_, rfl, ?_⟩
          rw [ok_nil]
          refine ⟨_, rfl, ?_⟩
          rw [ok_var]
          refine ⟨_, rfl, _, gDiv_ok (by omega) hj2, ⟨.chn, rfl, rfl⟩, _, rfl, ?_⟩
          show Ok _ _
          rw [ok_ret, ok_bin, ok_args, ok_cons, ok_var]
          refine ⟨_, rfl, ?_⟩
          rw [ok_nil]
          refine ⟨_, rfl, ?_⟩
          rw [ok_var]
          refine ⟨_, rfl, _, gMod_ok (by omega), ?_⟩
          exact q _ _ (Int.emod_nonneg _ (by omega)) (Int.emod_lt_of_pos _ (by omega)) ⟨g1.lo, g1.hi, Int.ediv_nonneg hr (by omega), g.few⟩
        · refine ite_f (decide_eq_false h2) ?_
          rw [ok_sNil]
          exact rest .no
      · refine ite_f (decide_eq_false h1) (ite_f rfl ?_)
        rw [ok_sNil]
        exact rest .no
end G

set_option Elab.async false
set_option linter.all false
set_option maxRecDepth 100000
set_option maxHeartbeats 8000000
/-! GK: small equations for running mirrors; what can be shown. -/
namespace G
open PySem PySem.Spec PyProof.Rows L2
theorem Ok.of_eq {α : Type} {r : R α} {a : α} {c : Churn} {k : α → Churn → Prop} (e : r = .ok a c) (q : k a c) : Ok r k := by rw [e]; exact q
theorem ok_eq {α : Type} {r : R α} {a : α} {c : Churn} {k : α → Churn → Prop} (e : r = .ok a c) : Ok r k = k a c := by rw [e]; rfl
theorem gAdd_i {i j : Int} : gAdd (.int i) (.int j) = some (.int (i + j)) := rfl
theorem gSub_i {i j : Int} : gSub (.int i) (.int j) = some (.int (i - j)) := rfl
theorem gNeg_i {i : Int} : gNeg (.int i) = some (.int (-i)) := rfl
theorem gBl_e {g : D → D → Option Bool} {x y : D} : gBl g x y = (g x y).map D.bl := rfl
theorem gCmpI_i {f : Int → Int → Bool} {i j : Int} : gCmpI f (.int i) (.int j) = some (f i j) := rfl
theorem gLst_o {xs : List D} (h : xs.length ≤ 1000) : gLst xs = some (.lst xs) := if_pos (Nat.le_trans h (by decide))
theorem gTup_o {xs : List D} (h : xs.length ≤ 1000) : gTup xs = some (.tup xs) := if_pos (Nat.le_trans h (by decide))
theorem gN_e {i : Nat} {d : D} {ρ : Ev} : gN i d ρ = some (ρ.set i (.val d)) := rfl
theorem truD_b {b : Bool} : truD (.bl b) = some b := rfl
theorem truD_i {i : Int} : truD (.int i) = some (i != 0) := rfl
theorem gIsN_n {neg : Bool} {d : D} : gIsN neg d .non = some (if neg then !isNonD d else isNonD d) := rfl
theorem gLen_l {xs : List D} : gLen [.lst xs] = some (.int xs.length) := rfl
theorem gInt_b {b : Bool} : gInt [.bl b] = some (.int (if b then 1 else 0)) := rfl
theorem gInt_i {i : Int} : gInt [.int i] = some (.int i) := rfl
theorem atI_mem {xs : List D} {r : Int} (h0 : 0 ≤ r) (h1 : r < xs.length) : ∃ x ∈ xs, atI xs r = some x := by
  obtain ⟨i, rfl⟩ := Int.eq_ofNat_of_zero_le h0
  have hi : i < xs.length := Int.ofNat_lt.mp h1
  refine ⟨xs[i], List.getElem_mem hi, ?_⟩
  have e : ixN xs.length (i : Int) = some i := by
    unfold ixN
    rw [if_pos h0, if_pos h1]
    simp
  unfold atI
  rw [e]
  simp [hi]
theorem rng1_i {j : Int} (h0 : 0 ≤ j) (h1 : j < 2 ^ 62) : rng1 [.int j] = some (rangeD 0 j) := if_pos ⟨by omega, h1⟩
/-! what is plain: no class, no object -/
def plainD (d : D) : Bool := (tyName d).isSome
def isIntD : D → Bool
  | .int _ => true
  | _ => false
/-! ### repr -/
def sizI (i : Int) : Bool := decide (i.natAbs < 10 ^ 60)
def sizS (x : Str) : Bool := (x.cps.toList.all fun c => decide (c < 16 ^ 8)) && decide (x.cps.size ≤ 1000)
mutual
/-- small at its leaves -/
def tame : D → Bool
  | .non => true
  | .bl _ => true
  | .int i => sizI i
  | .str x => sizS x
  | .lst xs => tameA xs
  | .tup xs => tameA xs
  | .dic ks vs => (ks.all fun k => match k with | .inl i => sizI i | .inr x => sizS x) && tameA vs
  | _ => false
def tameA : List D → Bool
  | [] => true
  | d :: ds => tame d && tameA ds
end
mutual
/-- how many leaves and boxes -/
def cnt : D → Nat
  | .lst xs => 1 + cntA xs
  | .tup xs => 1 + cntA xs
  | .dic ks vs => 1 + 2 * ks.length + cntA vs
  | _ => 1
def cntA : List D → Nat
  | [] => 0
  | d :: ds => cnt d + cntA ds
end
mutual
def hgt : D → Nat
  | .lst xs => 1 + hgtA xs
  | .tup xs => 1 + hgtA xs
  | .dic _ vs => 1 + hgtA vs
  | _ => 0
def hgtA : List D → Nat
  | [] => 0
  | d :: ds => max (hgt d) (hgtA ds)
end
theorem int_short {i : Int} (h : sizI i = true) : (PyData.shown (.int i)).length ≤ 61 ∧ i.natAbs.log2 < 1920 ∧ PyData.weight (.int i) ≤ 1000 := by
  have h : i.natAbs < 10 ^ 60 := of_decide_eq_true h
  have e := int_text_length_le10 (k := 60) (by decide) h
  have hl : i.natAbs.log2 < 200 := log_lt (Nat.lt_of_lt_of_le h (by decide)) (by decide)
  refine ⟨?_, by omega, ?_⟩
  · show (Str.ofString (toString i)).length ≤ 61
    rw [PySem.ofString_length]; exact e
  · unfold PyData.weight
    split <;> omega
theorem str_short {x : Str} (h : sizS x = true) : (x.cps.toList.all fun c => decide (c < 16 ^ 8)) = true ∧ PyData.weight (.str x) ≤ 1000 := by
  obtain ⟨h1, h2⟩ := Bool.and_eq_true_iff.mp h
  exact ⟨h1, by unfold PyData.weight; exact of_decide_eq_true h2⟩
/-- what a tame tree's data are like -/
structure Fine (p : PyData) (n h : Nat) : Prop where
  show_ : p.showable = true
  leaf : p.leavesShort 61 = true
  wt : p.weight + 1 ≤ 1002 * n
  dep : p.depth ≤ h
structure FineA (ps : List PyData) (n h : Nat) : Prop where
  show_ : PyData.showableAll ps = true
  leaf : PyData.leavesShortAll 61 ps = true
  wt : PyData.weightAll ps ≤ 1002 * n
  dep : PyData.depthAll ps ≤ h
theorem fine_int {i : Int} (h : sizI i = true) : Fine (.int i) 1 0 := by
  obtain ⟨h1, h2, h3⟩ := int_short h
  exact ⟨by unfold PyData.showable; exact decide_eq_true h2, by unfold PyData.leavesShort; exact decide_eq_true h1, by omega, Nat.le_refl _⟩
theorem fine_str {x : Str} (h : sizS x = true) : Fine (.str x) 1 0 := by
  obtain ⟨h1, h2⟩ := str_short h
  exact ⟨rfl, by unfold PyData.leavesShort; exact h1, by omega, Nat.le_refl _⟩
def keyT (k : Key) : Bool := match k with | .inl i => sizI i | .inr x => sizS x
theorem fine_key {k : Key} (h : keyT k = true) : Fine (encK k) 1 0 := by
  cases k with
  | inl i => exact fine_int h
  | inr x => exact fine_str h
theorem fine_kv : ∀ {ks : List Key} {ps : List PyData} {n h : Nat}, (ks.all keyT) = true → FineA ps n h →
    PyData.showableKv ((ks.map encK).zip ps) = true ∧ PyData.leavesShortKv 61 ((ks.map encK).zip ps) = true ∧ PyData.weightKv ((ks.map encK).zip ps) ≤ 2000 * ks.length + PyData.weightAll ps ∧ PyData.depthKv ((ks.map encK).zip ps) ≤ PyData.depthAll ps
  | [], ps, n, h, _, _ => ⟨rfl, rfl, Nat.zero_le _, Nat.zero_le _⟩
  | k :: ks, [], n, h, _, _ => ⟨rfl, rfl, Nat.zero_le _, Nat.zero_le _⟩
  | k :: ks, p :: ps, n, h, hk, f => by
    obtain ⟨k1, k2⟩ := Bool.and_eq_true_iff.mp (show (keyT k && ks.all keyT) = true from hk)
    obtain ⟨s1, s2, s3, s4⟩ := f
    simp only [PyData.showableAll, PyData.leavesShortAll, Bool.and_eq_true] at s1 s2
    have f' : FineA ps (PyData.weightAll ps) (PyData.depthAll ps) := ⟨s1.2, s2.2, by omega, Nat.le_refl _⟩
    obtain ⟨q1, q2, q3, q4⟩ := fine_kv k2 f'
    obtain ⟨r1, r2, r3, r4⟩ := fine_key k1
    refine ⟨?_, ?_, ?_, ?_⟩
    · show PyData.showableKv ((encK k, p) :: (ks.map encK).zip ps) = true
      unfold PyData.showableKv
      rw [r1, s1.1, q1]; rfl
    · show PyData.leavesShortKv 61 ((encK k, p) :: (ks.map encK).zip ps) = true
      unfold PyData.leavesShortKv
      rw [r2, s2.1, q2]; rfl
    · show PyData.weightKv ((encK k, p) :: (ks.map encK).zip ps) ≤ _
      unfold PyData.weightKv PyData.weightAll
      rw [List.length_cons]
      omega
    · show PyData.depthKv ((encK k, p) :: (ks.map encK).zip ps) ≤ _
      unfold PyData.depthKv PyData.depthAll
      omega
mutual
theorem fine_of : ∀ {d : D}, tame d = true → ∃ p, toPyR d = some p ∧ Fine p (cnt d) (hgt d)
  | .non, _ => ⟨.none, by simp only [toPyR], rfl, rfl, by unfold PyData.weight cnt; omega, Nat.le_refl _⟩
  | .bl b, _ => ⟨.bool b, by simp only [toPyR], rfl, rfl, by unfold PyData.weight cnt; omega, Nat.le_refl _⟩
  | .int i, h => ⟨.int i, by simp only [toPyR], by simpa only [cnt, hgt] using fine_int (by simpa only [tame] using h)⟩
  | .str x, h => ⟨.str x, by simp only [toPyR], by simpa only [cnt, hgt] using fine_str (by simpa only [tame] using h)⟩
  | .lst xs, h => by
    obtain ⟨ps, e, f⟩ := fineA_of (ds := xs) (by simpa only [tame] using h)
    refine ⟨.list ps, by simp only [toPyR, e, Option.map_some], ?_, ?_, ?_, ?_⟩
    · unfold PyData.showable; exact f.show_
    · unfold PyData.leavesShort; exact f.leaf
    · unfold PyData.weight cnt; have := f.wt; omega
    · unfold PyData.depth hgt; have := f.dep; omega
  | .tup xs, h => by
    obtain ⟨ps, e, f⟩ := fineA_of (ds := xs) (by simpa only [tame] using h)
    refine ⟨.tuple ps, by simp only [toPyR, e, Option.map_some], ?_, ?_, ?_, ?_⟩
    · unfold PyData.showable; exact f.show_
    · unfold PyData.leavesShort; exact f.leaf
    · unfold PyData.weight cnt; have := f.wt; omega
    · unfold PyData.depth hgt; have := f.dep; omega
  | .dic ks vs, h => by
    obtain ⟨h1, h2⟩ := Bool.and_eq_true_iff.mp (show ((ks.all fun k => match k with | .inl i => sizI i | .inr x => sizS x) && tameA vs) = true by simpa only [tame] using h)
    obtain ⟨ps, e, f⟩ := fineA_of (ds := vs) h2
    obtain ⟨q1, q2, q3, q4⟩ := fine_kv (ks := ks) (show ks.all keyT = true from h1) f
    refine ⟨.dict ((ks.map encK).zip ps), by simp only [toPyR, e, Option.map_some], ?_, ?_, ?_, ?_⟩
    · unfold PyData.showable; exact q1
    · unfold PyData.leavesShort; exact q2
    · unfold PyData.weight cnt; have := f.wt; omega
    · unfold PyData.depth hgt; have := f.dep; omega
  | .obj _, h => by simp [tame] at h
  | .ty _, h => by simp [tame] at h
  | .chn, h => by simp [tame] at h
theorem fineA_of : ∀ {ds : List D}, tameA ds = true → ∃ ps, toPyRA ds = some ps ∧ FineA ps (cntA ds) (hgtA ds)
  | [], _ => ⟨[], by simp only [toPyRA], rfl, rfl, Nat.zero_le _, Nat.zero_le _⟩
  | d :: ds, h => by
    obtain ⟨h1, h2⟩ := Bool.and_eq_true_iff.mp (show (tame d && tameA ds) = true by simpa only [tameA] using h)
    obtain ⟨p, e, f⟩ := fine_of h1
    obtain ⟨ps, e2, f2⟩ := fineA_of h2
    refine ⟨p :: ps, by simp only [toPyRA, e, e2, Option.bind_some, Option.map_some], ?_, ?_, ?_, ?_⟩
    · unfold PyData.showableAll; rw [f.show_, f2.show_]; rfl
    · unfold PyData.leavesShortAll; rw [f.leaf, f2.leaf]; rfl
    · unfold PyData.weightAll cntA; have := f.wt; have := f2.wt; omega
    · unfold PyData.depthAll hgtA; have := f.dep; have := f2.dep; omega
end
/-- the text of a tree -/
def shw (d : D) : Str := ((toPyR d).getD .none).shown
theorem gRepr_o {d : D} (t : tame d = true) (hc : cnt d ≤ 200) (hh : hgt d ≤ 60) : gRepr [d] = some (.str (shw d)) := by
  obtain ⟨p, e, f⟩ := fine_of t
  have hs := PyData.shown_le 61 (by decide) p f.leaf
  have w := f.wt
  have dp := f.dep
  have k : okShow p = true := by
    unfold okShow
    rw [f.show_, decide_eq_true (show p.shown.length ≤ sizeLine from ?_), decide_eq_true (show p.depth ≤ 64 by omega)]
    · rfl
    · have : sizeLine = 16777216 := by decide
      omega
  show (toPyR d).bind (fun p => if okShow p = true then some (D.str p.shown) else none) = _
  unfold shw
  rw [e]
  show (if okShow p = true then some (D.str p.shown) else none) = some (D.str p.shown)
  rw [if_pos k]
end G

set_option Elab.async false
set_option linter.all false
set_option maxRecDepth 100000
set_option maxHeartbeats 8000000
/-! GL: comprehensions, run; == with []. -/
namespace G
open PySem PySem.Spec PyProof.Rows L2
section
variable {t : Tg} {cnd : Ev → M Bool} {f : Ev → M D} {ρ : Ev} {c : Churn} {ks : List D → Churn → Prop}
/-- each item by itself, no draws -/
theorem comp_map (h : D → D) : ∀ {ds : List D} {ks : List D → Churn → Prop}, (∀ d ∈ ds, ∀ c, ∃ ρ1, t d ρ = some ρ1 ∧ cnd ρ1 c = .ok true c ∧ f ρ1 c = .ok (h d) c) → ks (ds.map h) c → Ok (compM t cnd f ρ ds c) ks
  | [], _, _, q => q
  | d :: ds, ks, hs, q => by
    rw [ok_compS]
    obtain ⟨ρ1, e1, e2, e3⟩ := hs d (List.mem_cons_self ..) c
    refine ⟨ρ1, e1, Ok.of_eq e2 (ite_t rfl (Ok.of_eq e3 ?_))⟩
    exact comp_map h (fun d hd => hs d (List.mem_cons_of_mem _ hd)) q
theorem comp_filter (p : D → Bool) (h : D → D) : ∀ {ds : List D} {ks : List D → Churn → Prop}, (∀ d ∈ ds, ∀ c, ∃ ρ1, t d ρ = some ρ1 ∧ cnd ρ1 c = .ok (p d) c ∧ (p d = true → f ρ1 c = .ok (h d) c)) → ks ((ds.filter p).map h) c → Ok (compM t cnd f ρ ds c) ks
  | [], _, _, q => q
  | d :: ds, ks, hs, q => by
    rw [ok_compS]
    obtain ⟨ρ1, e1, e2, e3⟩ := hs d (List.mem_cons_self ..) c
    refine ⟨ρ1, e1, Ok.of_eq e2 ?_⟩
    cases hp : p d with
    | true =>
      refine ite_t rfl (Ok.of_eq (e3 hp) ?_)
      rw [List.filter_cons_of_pos hp] at q
      exact comp_filter p h (fun d hd => hs d (List.mem_cons_of_mem _ hd)) q
    | false =>
      refine ite_f rfl ?_
      rw [List.filter_cons_of_neg (by simp [hp])] at q
      exact comp_filter p h (fun d hd => hs d (List.mem_cons_of_mem _ hd)) q
inductive F2 (R : D → D → Prop) : List D → List D → Prop
  | nil : F2 R [] []
  | cons {d y : D} {ds ys : List D} : R d y → F2 R ds ys → F2 R (d :: ds) (y :: ys)
theorem F2.length {R : D → D → Prop} : ∀ {ds ys : List D}, F2 R ds ys → ys.length = ds.length
  | _, _, .nil => rfl
  | _, _, .cons _ r => congrArg Nat.succ (F2.length r)
theorem F2.all {R : D → D → Prop} {p : D → Prop} (h : ∀ d y, R d y → p y) : ∀ {ds ys : List D}, F2 R ds ys → ∀ y ∈ ys, p y
  | _, _, .nil, y, hy => by cases hy
  | _, _, .cons r rs, y, hy => (List.mem_cons.mp hy).elim (fun e => e ▸ h _ _ r) fun hy => F2.all h rs y hy
/-- each item with s draws at most -/
theorem comp_draw (R : D → D → Prop) (s : Nat) {B : Nat} : ∀ {ds : List D} {n : Nat} {c : Churn} {ks : List D → Churn → Prop},
    (∀ d ∈ ds, ∃ ρ1, t d ρ = some ρ1 ∧ ∀ n c (kk : D → Churn → Prop), Good n c → n + s ≤ B → (∀ y c', R d y → Good (n + s) c' → kk y c') → Ok (f ρ1 c) kk) → Good n c → n + s * ds.length ≤ B →
    (∀ ys c', F2 R ds ys → Good (n + s * ds.length) c' → ks ys c') → Ok (compM t (fun _ => pure true) f ρ ds c) ks
  | [], n, c, ks, _, g, _, q => q [] c .nil g
  | d :: ds, n, c, ks, hs, g, hb, q => by
    rw [ok_compS]
    obtain ⟨ρ1, e1, e2⟩ := hs d (List.mem_cons_self ..)
    rw [List.length_cons, Nat.mul_succ] at hb q
    refine ⟨ρ1, e1, ?_⟩
    rw [ok_pure, if_pos rfl]
    refine e2 n c _ g (by omega) fun y c' r g' => ?_
    exact comp_draw R s (fun d hd => hs d (List.mem_cons_of_mem _ hd)) g' (by omega) fun ys c2 rs g2 => q (y :: ys) c2 (.cons r rs) (g2.mono (by omega))
end
theorem blA_map {p : D → Bool} : ∀ ds : List D, blA (ds.map fun d => .bl (p d)) = some (ds.map p)
  | [] => rfl
  | d :: ds => by rw [List.map_cons]; unfold blA; rw [blA_map ds]; rfl
theorem gAll_map {p : D → Bool} (ds : List D) : gAll [.lst (ds.map fun d => .bl (p d))] = some (.bl (ds.all p)) := by
  show (blA (ds.map fun d => .bl (p d))).map (fun bs => D.bl (bs.all id)) = _
  rw [blA_map]
  simp [List.all_map, Function.comp_def]
/-- can be compared -/
def okD (d : D) : Prop := ∃ p, toPy d = some p ∧ p.canLay0 = true ∧ p.depth ≤ 60
theorem okA {xs : List D} (h : ∀ x ∈ xs, okD x) : ∃ ps, toPyA xs = some ps ∧ PyData.canLayAll0 ps = true ∧ PyData.depthAll ps ≤ 60 ∧ ps.length = xs.length := by
  induction xs with
  | nil => exact ⟨[], by simp only [toPyA], rfl, Nat.zero_le _, rfl⟩
  | cons x xs ih =>
    obtain ⟨ps, e, h1, h2, h3⟩ := ih fun y hy => h y (List.mem_cons_of_mem _ hy)
    obtain ⟨p, e2, h4, h5⟩ := h x (List.mem_cons_self ..)
    refine ⟨p :: ps, by simp only [toPyA, e, e2, Option.bind_some, Option.map_some], ?_, ?_, ?_⟩
    · simp only [PyData.canLayAll0, h4, h1, Bool.and_self]
    · simp only [PyData.depthAll]; omega
    · simp [h3]
theorem okL {xs : List D} (h : ∀ x ∈ xs, okD x) : ∃ ps, toPy (.lst xs) = some (.list ps) ∧ SeqAt.shaped (.list ps) = true ∧ ps.length = xs.length := by
  obtain ⟨ps, e, h1, h2, h3⟩ := okA h
  refine ⟨ps, by simp only [toPy, e, Option.map_some], ?_, h3⟩
  unfold SeqAt.shaped
  simp only [PyData.canLay0, PyData.depth, h1, Bool.true_and]
  exact decide_eq_true (by omega)
theorem eqX_nil {neg : Bool} {xs : List D} (h : ∀ x ∈ xs, okD x) : gEqX neg (.lst xs) (.lst []) = some (if neg then !xs.isEmpty else xs.isEmpty) := by
  show gEq neg (.lst xs) (.lst []) = _
  obtain ⟨ps, e, s, l⟩ := okL h
  have h2 : toPy (.lst []) = some (.list []) := rfl
  have s2 : SeqAt.shaped (.list []) = true := by decide
  unfold gEq
  rw [e, h2]
  simp only [Option.bind_some, s, s2, and_self, if_true]
  have hv : PyData.eqv (.list ps) (.list []) = xs.isEmpty := by
    cases xs with
    | nil => cases ps with | nil => rfl | cons _ _ => cases l
    | cons _ _ => cases ps with | nil => cases l | cons _ _ => rfl
  rw [hv]
theorem okD_int (i : Int) : okD (.int i) := ⟨.int i, by simp only [toPy], rfl, Nat.zero_le _⟩
theorem okD_bl (i : Bool) : okD (.bl i) := ⟨.bool i, by simp only [toPy], rfl, Nat.zero_le _⟩
theorem okD_non : okD .non := ⟨.none, by simp only [toPy], rfl, Nat.zero_le _⟩
theorem gRepr_b {b : Bool} : gRepr [.bl b] = some (.str (shw (.bl b))) := gRepr_o rfl (by unfold cnt; decide) (by unfold hgt; decide)
theorem gRepr_b4 {a b d e : Bool} : gRepr [.lst [.bl a, .bl b, .bl d, .bl e]] = some (.str (shw (.lst [.bl a, .bl b, .bl d, .bl e]))) :=
  gRepr_o (by simp [tame, tameA]) (by simp [cnt, cntA]) (by simp [hgt, hgtA])
theorem eqX_str {neg : Bool} {a b : Str} : gEqX neg (.str a) (.str b) = some (if neg then !decide (a = b) else decide (a = b)) := rfl
end G

set_option Elab.async false
set_option linter.all false
set_option maxRecDepth 100000
set_option maxHeartbeats 8000000
/-! GM: for, texts cut. -/
namespace G
open PySem PySem.Spec PyProof.Rows L2
theorem for_inv {t : Tg} {s : Sm} (I : Ev → Churn → Prop) : ∀ {ds : List D} {ρ : Ev} {c : Churn} {kp : Ev × Ctl → Churn → Prop},
    (∀ d ∈ ds, ∀ ρ c, I ρ c → ∃ ρ1, t d ρ = some ρ1 ∧ Ok (s ρ1 c) fun p c1 => p.2 = .nx ∧ I p.1 c1) → I ρ c → (∀ ρ c, I ρ c → kp (ρ, .nx) c) → Ok (forM' t s ds ρ c) kp
  | [], ρ, c, kp, _, i, q => q ρ c i
  | d :: ds, ρ, c, kp, hs, i, q => by
    rw [ok_forS]
    obtain ⟨ρ1, e1, h⟩ := hs d (List.mem_cons_self ..) ρ c i
    refine ⟨ρ1, e1, h.mono fun p c1 ⟨e2, i2⟩ => ?_⟩
    obtain ⟨ρ2, ctl⟩ := p
    cases e2
    exact for_inv I (fun d hd => hs d (List.mem_cons_of_mem _ hd)) i2 q
/-- with a number that grows by s at each turn -/
theorem for_count {t : Tg} {b : Sm} (I : Nat → Ev → Churn → Prop) (s : Nat) : ∀ {ds : List D} {n : Nat} {ρ : Ev} {c : Churn} {kp : Ev × Ctl → Churn → Prop} {B : Nat},
    (∀ d ∈ ds, ∀ n ρ c, n + s ≤ B → I n ρ c → ∃ ρ1, t d ρ = some ρ1 ∧ Ok (b ρ1 c) fun p c1 => p.2 = .nx ∧ I (n + s) p.1 c1) → I n ρ c → n + s * ds.length ≤ B → (∀ ρ c, I (n + s * ds.length) ρ c → kp (ρ, .nx) c) → Ok (forM' t b ds ρ c) kp
  | [], n, ρ, c, kp, B, _, i, _, q => q ρ c i
  | d :: ds, n, ρ, c, kp, B, hs, i, hB, q => by
    rw [ok_forS]
    rw [List.length_cons, Nat.mul_succ] at hB q
    obtain ⟨ρ1, e1, h⟩ := hs d (List.mem_cons_self ..) n ρ c (by omega) i
    refine ⟨ρ1, e1, h.mono fun p c1 ⟨e2, i2⟩ => ?_⟩
    obtain ⟨ρ2, ctl⟩ := p
    cases e2
    have e : n + (s * ds.length + s) = n + s + s * ds.length := by omega
    rw [e] at q
    exact for_count I s (B := B) (fun d hd => hs d (List.mem_cons_of_mem _ hd)) i2 (by omega) q
abbrev sx (cs : List Nat) : Str := ⟨⟨cs⟩⟩
theorem cut_lo {cs : List Nat} {i : Nat} (h : i ≤ cs.length) : cutS (sx cs) none (some (i : Int)) = sx (cs.take i) := by
  unfold cutS
  rw [HT.sIx_none, HT.sIx_nat]
  have e : (sx cs).length = cs.length := rfl
  rw [e, Nat.min_eq_left h]
  rfl
theorem cut_hi {cs : List Nat} {i : Nat} (h : i ≤ cs.length) : cutS (sx cs) (some (i : Int)) none = sx (cs.drop i) := by
  unfold cutS
  rw [HT.sIx_none, HT.sIx_nat]
  have e : (sx cs).length = cs.length := rfl
  rw [e, Nat.min_eq_left h]
  show sx ((cs.drop i).take (cs.length - i)) = _
  rw [List.take_of_length_le (by simp)]
theorem gSl_s {cs : List Nat} {lo hi : Option Int} (h : cs.length ≤ 1000) : gSl (.str (sx cs)) lo hi = some (.str (cutS (sx cs) lo hi)) := if_pos (Nat.le_trans (show (sx cs).length ≤ 1000 from h) (by decide))
theorem sx_app (a b : List Nat) : sx a ++ sx b = sx (a ++ b) := by
  show (⟨(⟨a⟩ : Array Nat) ++ (⟨b⟩ : Array Nat)⟩ : Str) = ⟨⟨a ++ b⟩⟩
  congr 1
  simp
theorem gAdd_s {a b : List Nat} (h : a.length + b.length ≤ 1000) : gAdd (.str (sx a)) (.str (sx b)) = some (.str (sx (a ++ b))) := by
  have h2 : (sx a).length + (sx b).length ≤ sizeLine := Nat.le_trans (show (sx a).length + (sx b).length ≤ 1000 from h) (by decide)
  show (if (sx a).length + (sx b).length ≤ sizeLine then some (D.str (sx a ++ sx b)) else none) = _
  rw [if_pos h2, sx_app]
theorem str_sx (z : Str) : z = sx z.cps.toList := rfl
/-- one statement, then the rest: what holds between them -/
theorem ok_step {s t : Sm} {ρ : Ev} {c : Churn} {kp : Ev × Ctl → Churn → Prop} (mid : Ev → Churn → Prop) (h1 : Ok (s ρ c) fun p c1 => p.2 = .nx ∧ mid p.1 c1) (h2 : ∀ ρ c, mid ρ c → Ok (t ρ c) kp) : Ok (sSeq s t ρ c) kp := by
  rw [ok_seq]
  refine h1.mono fun p c1 ⟨e, m⟩ => ?_
  obtain ⟨ρ1, ctl⟩ := p
  cases e
  exact h2 ρ1 c1 m
theorem ok_stp {s t : Sm} {ρ : Ev} {c : Churn} {kp : Ev × Ctl → Churn → Prop} {mid : Ev × Ctl → Churn → Prop} (h1 : Ok (s ρ c) fun p c1 => p.2 = .nx ∧ mid p c1) (h2 : ∀ p c, mid p c → Ok (t p.1 c) kp) : Ok (sSeq s t ρ c) kp := by
  rw [ok_seq]
  refine h1.mono fun p c1 ⟨e, m⟩ => ?_
  obtain ⟨ρ1, ctl⟩ := p
  cases e
  exact h2 _ c1 m
end G

set_option Elab.async false
set_option linter.all false
set_option maxRecDepth 100000
set_option maxHeartbeats 8000000
/-! GN: lists and dicts of a def's own, that change. -/
namespace G
open PySem PySem.Spec PyProof.Rows L2
section
variable {K : PySem.W.Frag} {ca : Dr} {E : XK} {Z Y : Addr → Prop} {H H1 : Hp} {σ : L2.St} {ρ : Ev}
theorem ext_upd {a : Addr} {o o' : HO} (h : H a = some o) (m : MuO o) (m' : MuO o') : ExtP (· = a) H (upd H a o') := fun b x e => by
  by_cases hb : b = a
  · subst hb
    rw [h] at e; cases e
    exact .inr ⟨rfl, m, _, upd_same, m'⟩
  · exact .inl (by rw [upd_ne hb]; exact e)
theorem EnvOk.chg (e : EnvOk K ca Z Y H σ ρ) {i : Nat} {a : Addr} {d d' : D} {o' : HO} (hi : ρ[i]? = some (.own d)) (hs : σ[i]? = some (some (.ref a))) (x : ExtP (· = a) H (upd H a o')) (ya : Y a) (t : Top K ca (U Z Y) (upd H a o') a d') :
    EnvOk K ca Z Y (upd H a o') σ (ρ.set i (.own d')) where
  zok := e.zok.ext x
  zca := e.zca
  yca := e.yca
  len := by rw [List.length_set, e.len]
  val := fun j d2 h => by
    rw [List.getElem?_set] at h
    by_cases hj : i = j
    · subst hj
      rw [if_pos rfl] at h
      split at h <;> cases h
    · rw [if_neg hj] at h
      obtain ⟨v, h1, h2⟩ := e.val j d2 h
      exact ⟨v, h1, h2.ext x fun b z => z ▸ .inr ya⟩
  own := fun j d2 h => by
    rw [List.getElem?_set] at h
    by_cases hj : i = j
    · subst hj
      rw [if_pos rfl] at h
      split at h
      · cases h
        exact ⟨a, hs, ya, t⟩
      · cases h
    · rw [if_neg hj] at h
      obtain ⟨a2, h1, h2, h3⟩ := e.own j d2 h
      refine ⟨a2, h1, h2, h3.ext x (fun b z => z ▸ .inr ya) fun z => hj ?_⟩
      subst z
      exact e.inj i j a2 d d2 hi h hs h1
  dis := e.dis
  inj := fun j k b d1 d2 h1 h2 h3 h4 => by
    have back : ∀ {j : Nat} {d2 : D}, (ρ.set i (.own d'))[j]? = some (.own d2) → ∃ d3, ρ[j]? = some (.own d3) := fun {j d2} h => by
      rw [List.getElem?_set] at h
      by_cases hj : i = j
      · subst hj; exact ⟨d, hi⟩
      · rw [if_neg hj] at h; exact ⟨_, h⟩
    obtain ⟨_, q1⟩ := back h1
    obtain ⟨_, q2⟩ := back h2
    exact e.inj j k b _ _ q1 q2 h3 h4
theorem Step.chg {a : Addr} {o' : HO} (x : ExtP (· = a) H (upd H a o')) (ya : Y a) : Step ca Y H Y (upd H a o') := ⟨x.mono fun b z => .inr (z ▸ ya), fun _ h => .inl h⟩
theorem ChOk.chg {c : Churn} {a : Addr} {o' : HO} (e : EnvOk K ca Z Y H σ ρ) (co : ChOk K ca H c) (ya : Y a) : ChOk K ca (upd H a o') c := by
  have h1 : (ca : Addr) ≠ a := fun z => e.yca (by rw [z]; exact ya)
  have h2 : ca.cc ≠ a := fun z => e.zok.zcc (.inr (by rw [z]; exact ya))
  exact ⟨by rw [upd_ne h1]; exact co.1, by rw [upd_ne h2]; exact co.2⟩
theorem Top.later {a : Addr} {d : D} {W W' P : Addr → Prop} (h : Top K ca W H a d) (g : ∀ b, W' b → W b ∨ H b = none) (hP : ∀ b, P b → W b) (ex : ExtP P H H1) (n : ¬ P a) : Top K ca W' H1 a d :=
  ((h.grow (Z' := fun b => W b ∨ W' b) fun b z => z.elim .inl (g b)).ext ex (fun b z => .inl (hP b z)) n).anti fun b z => .inr z
/-- a slot gets a new list or dict for its own -/
theorem EnvOk.give (e : EnvOk K ca Z Y H σ ρ) (x : Ext ca H H1) {c : Churn} (co : ChOk K ca H c) (i : Nat) {p : Addr} {d : D} (n : H p = none) (t : Top K ca (U Z fun b => Y b ∨ b = p) H1 p d) : EnvOk K ca Z (fun b => Y b ∨ b = p) H1 (σ.set i (some (.ref p))) (ρ.set i (.own d)) := by
  have g : ∀ b, U Z (fun b => Y b ∨ b = p) b → U Z Y b ∨ H b = none := fun b z => z.elim (fun z => .inl (.inl z)) fun z => z.elim (fun z => .inl (.inr z)) fun z => .inr (z ▸ n)
  have nca : p ≠ ca := co.ne n
  have ncc : ca.cc ≠ p := fun z => by
    have q := co.2
    rw [z, n] at q; cases q
  have no : ∀ b, U Z Y b → b ≠ p := fun b z q => by
    obtain ⟨o, h⟩ := e.zok.zin b z
    rw [q, n] at h; cases h
  refine ⟨⟨.inl e.zca, fun z => z.elim (fun z => e.zok.zcc (.inl z)) fun z => z.elim (fun z => e.zok.zcc (.inr z)) ncc, fun b z => ?_⟩, e.zca, fun z => z.elim e.yca fun z => nca z.symm, by rw [List.length_set, List.length_set, e.len], fun j d' h => ?_, fun j d' h => ?_, fun b z q => ?_, fun j k b d1 d2 h1 h2 h3 h4 => ?_⟩
  · rcases z with z | z | z
    · exact x.thereS (e.zok.zin b (.inl z))
    · exact x.thereS (e.zok.zin b (.inr z))
    · subst z
      obtain ⟨o, hp, _⟩ := t.some
      exact ⟨o, hp⟩
  · rw [List.getElem?_set] at h ⊢
    by_cases hj : i = j
    · subst hj
      rw [if_pos rfl] at h
      split at h <;> cases h
    · rw [if_neg hj] at h ⊢
      obtain ⟨v, h1, h2⟩ := e.val j d' h
      exact ⟨v, h1, h2.later g e.zc x⟩
  · rw [List.getElem?_set] at h ⊢
    by_cases hj : i = j
    · subst hj
      rw [if_pos rfl] at h ⊢
      by_cases hl : i < ρ.length
      · rw [if_pos hl] at h
        rw [if_pos (e.len ▸ hl)]
        cases h
        exact ⟨p, rfl, .inr rfl, t⟩
      · rw [if_neg hl] at h; cases h
    · rw [if_neg hj] at h ⊢
      obtain ⟨a, h1, h2, h3⟩ := e.own j d' h
      exact ⟨a, h1, .inl h2, h3.later g e.zc x fun z => e.yca (z ▸ h2)⟩
  · rcases z with z | z
    · exact e.dis b z q
    · exact no b (.inl q) z
  · rw [List.getElem?_set] at h1 h2 h3 h4
    by_cases hj : i = j
    · by_cases hk : i = k
      · rw [← hj, ← hk]
      · rw [if_neg hk] at h2 h4
        rw [if_pos hj] at h3
        split at h3
        · cases h3
          obtain ⟨a, q1, q2, _⟩ := e.own k d2 h2
          rw [h4] at q1; cases q1
          exact absurd rfl (no _ (.inr q2))
        · cases h3
    · rw [if_neg hj] at h1 h3
      by_cases hk : i = k
      · rw [if_pos hk] at h4
        split at h4
        · cases h4
          obtain ⟨a, q1, q2, _⟩ := e.own j d1 h1
          rw [h3] at q1; cases q1
          exact absurd rfl (no _ (.inr q2))
        · cases h4
      · rw [if_neg hk] at h2 h4
        exact e.inj j k b d1 d2 h1 h2 h3 h4
theorem Step.give (x : Ext ca H H1) {p : Addr} (n : H p = none) : Step ca Y H (fun b => Y b ∨ b = p) H1 := ⟨x.mono fun b z => .inl z, fun b z => z.imp id fun z => by rw [z]; exact n⟩
/-- no more changes: a tree like others -/
def frzE (i : Nat) (ρ : Ev) : Ev := match ρ[i]? with
  | some (.own d) => ρ.set i (.val d)
  | _ => ρ
theorem EnvOk.frz (e : EnvOk K ca Z Y H σ ρ) (i : Nat) : ∃ Y', (∀ b, Y' b → Y b) ∧ EnvOk K ca Z Y' H σ (frzE i ρ) := by
  unfold frzE
  split
  · rename_i d hi
    obtain ⟨a, h1, h2, h3⟩ := e.own i d hi
    have sub : ∀ b, U Z (fun b => Y b ∧ b ≠ a) b → U Z Y b := fun b z => z.imp id And.left
    refine ⟨fun b => Y b ∧ b ≠ a, fun b z => z.1, ⟨.inl e.zca, fun z => e.zok.zcc (sub _ z), fun b z => e.zok.zin b (sub b z)⟩, e.zca, fun z => e.yca z.1, by rw [List.length_set, e.len], fun j d' h => ?_, fun j d' h => ?_, fun b z => e.dis b z.1, fun j k b d1 d2 q1 q2 q3 q4 => ?_⟩
    · rw [List.getElem?_set] at h
      by_cases hj : i = j
      · subst hj
        rw [if_pos rfl] at h
        split at h
        · cases h
          exact ⟨_, h1, (h3.anti sub).rl fun z => z.elim (e.dis a h2) fun z => z.2 rfl⟩
        · cases h
      · rw [if_neg hj] at h
        obtain ⟨v, q1, q2⟩ := e.val j d' h
        exact ⟨v, q1, q2.anti sub⟩
    · rw [List.getElem?_set] at h
      by_cases hj : i = j
      · subst hj
        rw [if_pos rfl] at h
        split at h <;> cases h
      · rw [if_neg hj] at h
        obtain ⟨b, q1, q2, q3⟩ := e.own j d' h
        exact ⟨b, q1, ⟨q2, fun z => hj (e.inj i j a d d' hi h h1 (z ▸ q1))⟩, q3.anti sub⟩
    · have ne : ∀ {j : Nat} {d2 : D}, (ρ.set i (.val d))[j]? = some (.own d2) → i ≠ j := fun {j d2} h z => by
        subst z
        rw [List.getElem?_set, if_pos rfl] at h
        split at h <;> cases h
      have n1 := ne q1
      have n2 := ne q2
      rw [List.getElem?_set, if_neg n1] at q1
      rw [List.getElem?_set, if_neg n2] at q2
      exact e.inj j k b d1 d2 q1 q2 q3 q4
  · exact ⟨Y, fun _ z => z, e⟩
end
/-! ### rules -/
def sOwn (i : Nat) (f : Ev → M D) : Sm := fun ρ => f ρ >>= fun d => pure (ρ.set i (.own d), .nx)
/-- ahead of a statement: slot i changes no more -/
def sFz (i : Nat) (g : Sm) : Sm := fun ρ => g (frzE i ρ)
def isFlat : D → Bool
  | .non => true
  | .bl _ => true
  | .int _ => true
  | .str _ => true
  | .ty _ => true
  | .obj _ => true
  | _ => false
/-- slot i looked at while it is its own -/
def lookE (i : Nat) (ρ : Ev) : Ev := frzE i ρ
def eBor (i : Nat) (f : Ev → M D) : Ev → M D := fun ρ => nx (f (frzE i ρ)) >>= fun d => if isFlat d = true then pure d else stuck
def cBor (i : Nat) (f : Ev → M Bool) : Ev → M Bool := fun ρ => nx (f (frzE i ρ))
theorem Rl.flat {K : PySem.W.Frag} {ca : Dr} {Z Z' : Addr → Prop} {H H' : Hp} {v : V} {d : D} (r : Rl K ca Z H v d) (h : isFlat d = true) : Rl K ca Z' H' v d := by
  cases r <;> first | (cases h; done) | constructor
section
variable {X : Cx} {ca : Dr} {E : XK} {e : Expr} {st : Stmt} {pos : Pos} {f : Ev → M D} {g : Sm} {cnd : Ev → M Bool}
theorem s_own (i : Nat) {x : Str} {pos' : Pos} (hN : X.N.Nodup) (he : PE X e (tF X.K ca E f)) (hi : X.N[i]? = some x := by rfl) (hx : Loc X.env.scope x := by first | exact Or.inl rfl | exact Or.inr rfl)
    (hs : swapsWith e (some (.Name x pos')) pos.line X.env = pure false := by rfl) (hf : X.fn x = true ∨ X.env.scope.names.lookup x = some .local := by first | exact .inl rfl | exact .inr rfl) :
    PS X (.Assign [.Name x pos'] e pos) (tS X.K ca E (sOwn i f)) := by
  refine ⟨fun pins s σ H Dn I h => (ps_set hN hi hx he hs hf).run pins s σ H Dn I ?_⟩
  obtain ⟨Z, Y, ρ, c, eo, co, h⟩ := h
  refine ⟨Z, Y, ρ, c, eo, co, (DoS.expr h).mono fun d c1 h1 p H1 n e1 t co1 => ?_⟩
  exact h1 _ _ H1 (.give e1 n) (eo.give e1 co i n t) co1
theorem s_fz (i : Nat) (h : PS X st (tS X.K ca E g)) : PS X st (tS X.K ca E (sFz i g)) := by
  refine ⟨fun pins s σ H Dn I q => h.run pins s σ H Dn I ?_⟩
  obtain ⟨Z, Y, ρ, c, eo, co, q⟩ := q
  obtain ⟨Y', sub, eo'⟩ := eo.frz i
  exact ⟨Z, Y', frzE i ρ, c, eo', co, DoS.step ⟨.refl, fun b z => .inl (sub b z)⟩ q⟩
theorem dt_bor (i : Nat) (h : PT X e (tT X.K ca E cnd)) : PT X e (tT X.K ca E (cBor i cnd)) := by
  refine ⟨fun pins s σ H Q I q => h.run pins s σ H Q I ?_⟩
  obtain ⟨Z, Y, ρ, c, eo, co, q⟩ := q
  obtain ⟨Y', sub, eo'⟩ := eo.frz i
  exact ⟨Z, Y', frzE i ρ, c, eo', co, At.doE (Do.nx q)⟩
theorem d_bor (i : Nat) (h : PE X e (tD X.K ca E f)) : PE X e (tD X.K ca E (eBor i f)) := by
  refine ⟨fun pins s σ H Q I q => h.run pins s σ H Q I ?_⟩
  obtain ⟨Z, Y, ρ, c, eo, co, q⟩ := q
  obtain ⟨Y', sub, eo'⟩ := eo.frz i
  refine ⟨Z, Y', frzE i ρ, c, eo', co, At.doE ((Do.nx (At.bind.mp q)).mono (fun d c1 h1 v H' e' r co' => ?_) fun _ _ z => z)⟩
  by_cases hf : isFlat d = true
  · rw [if_pos hf] at h1
    exact h1 v H' e' (r.flat hf) co'
  · rw [if_neg hf] at h1; exact h1.elim
end
end G

set_option Elab.async false
set_option linter.all false
set_option maxRecDepth 100000
set_option maxHeartbeats 8000000
/-! GO: what changes a list or dict of a def's own. -/
namespace G
open PySem PySem.Spec PyProof.Rows L2
/-- a method that changes its object: what it gives, and what the object is then -/
def MutD (K : PySem.W.Frag) (ca : Dr) (T : String) (r : V → List V → Hp → VK → Prop) (gm : D → List D → Option (D × D)) : Prop := ∀ (W : Addr → Prop) (H : Hp) (a : Addr) (xs : List V) (ds : List D) (d y d' : D) (Q : VK), W a → Top K ca W H a d → RlA K ca W H xs ds → gm d ds = some (y, d') →
  (∀ v o', ExtP (· = a) H (upd H a o') → Top K ca W (upd H a o') a d' → Rl K ca W (upd H a o') v y → Q v (upd H a o')) → r (.ref a) xs H Q
def PutD (K : PySem.W.Frag) (ca : Dr) (r : V → V → V → Hp → (Hp → Prop) → Prop) (gm : D → D → D → Option D) : Prop := ∀ (W : Addr → Prop) (H : Hp) (a : Addr) (i x : V) (di dx d d' : D) (Q : Hp → Prop), W a → Top K ca W H a d → Rl K ca W H i di → Rl K ca W H x dx → gm d di dx = some d' →
  (∀ o', ExtP (· = a) H (upd H a o') → Top K ca W (upd H a o') a d' → Q (upd H a o')) → r (.ref a) i x H Q
def gAppend : D → List D → Option (D × D)
  | .lst xs, [y] => if xs.length < sizeLine then some (.non, .lst (xs ++ [y])) else none
  | _, _ => none
def gExtend : D → List D → Option (D × D)
  | .lst xs, [.lst ys] => if xs.length + ys.length ≤ sizeLine then some (.non, .lst (xs ++ ys)) else none
  | _, _ => none
def gPop0 : D → List D → Option (D × D)
  | .lst xs, [] => (xs[xs.length - 1]?).map fun y => (y, .lst xs.dropLast)
  | _, _ => none
def gPopAt : D → List D → Option (D × D)
  | .lst xs, [.int i] => if -(2 ^ 63) ≤ i ∧ i < 2 ^ 63 then (seqIndex? i xs.length).bind fun k => (xs[k]?).map fun y => (y, .lst (xs.eraseIdx k)) else none
  | _, _ => none
def gInsert : D → List D → Option (D × D)
  | .lst xs, [.int i, y] => if xs.length < sizeLine ∧ 0 ≤ i ∧ i < 2 ^ 63 then some (.non, .lst (xs.take i.toNat ++ [y] ++ xs.drop i.toNat)) else none
  | _, _ => none
def gPutL : D → D → D → Option D
  | .lst xs, .int i, y => (ixN xs.length i).map fun k => .lst (xs.set k y)
  | _, _, _ => none
def gPutK : D → D → D → Option D
  | .dic ks vs, k, y => if ks.length < sizeLine then (keyD k).map fun k => let r := putD ks vs k y; .dic r.1 r.2 else none
  | _, _, _ => none
section
variable {K : PySem.W.Frag} {ca : Dr} {W : Addr → Prop} {H : Hp}
theorem RlA.set {vs : List V} {ds : List D} {v : V} {d : D} (r : RlA K ca W H vs ds) (h : Rl K ca W H v d) : ∀ k : Nat, RlA K ca W H (vs.set k v) (ds.set k d) := by
  induction ds generalizing vs with
  | nil => intro k; cases r; exact .nil
  | cons d0 ds ih =>
    intro k
    cases r with
    | cons r1 r2 =>
      cases k with
      | zero => exact .cons h r2
      | succ k => exact .cons r1 (ih r2 k)
theorem RlA.erase {vs : List V} {ds : List D} (r : RlA K ca W H vs ds) : ∀ k : Nat, RlA K ca W H (vs.eraseIdx k) (ds.eraseIdx k) := by
  induction ds generalizing vs with
  | nil => intro k; cases r; exact .nil
  | cons d0 ds ih =>
    intro k
    cases r with
    | cons r1 r2 =>
      cases k with
      | zero => exact r2
      | succ k => exact .cons r1 (ih r2 k)
theorem RlA.dropLast {vs : List V} {ds : List D} (r : RlA K ca W H vs ds) : RlA K ca W H vs.dropLast ds.dropLast := by
  rw [List.dropLast_eq_take, List.dropLast_eq_take, r.length]
  exact r.take _
theorem chgL {a : Addr} {vs ws : List V} {ds : List D} (wa : W a) (h : H a = some (.lst vs)) (r : RlA K ca W H ws ds) : ExtP (· = a) H (upd H a (.lst ws)) ∧ Top K ca W (upd H a (.lst ws)) a (.lst ds) := by
  have x := ext_upd (o' := .lst ws) h trivial trivial
  exact ⟨x, ws, upd_same, r.ext x fun b z => by rw [z]; exact wa⟩
theorem mut_append : MutD K ca "list" rAppend gAppend := fun W H a xs ds d y d' Q wa t r hg q => by
  unfold gAppend at hg
  split at hg
  · rename_i ys y0
    obtain ⟨vs, h, rv⟩ := t
    split at hg
    · rename_i hl
      cases hg
      match xs, r with
      | [v], .cons r1 .nil =>
        obtain ⟨x, t'⟩ := chgL wa h (rv.snoc r1)
        exact ⟨a, vs, v, rfl, rfl, h, by rw [rv.length]; exact hl, q _ _ x t' .non⟩
    · cases hg
  · cases hg
theorem mut_extend : MutD K ca "list" rExtend gExtend := fun W H a xs ds d y d' Q wa t r hg q => by
  unfold gExtend at hg
  split at hg
  · rename_i ys zs
    obtain ⟨vs, h, rv⟩ := t
    split at hg
    · rename_i hl
      cases hg
      match xs, r with
      | [_], .cons (.lst n hb rb) .nil =>
        obtain ⟨x, t'⟩ := chgL wa h (rv.append rb)
        exact ⟨a, _, vs, _, rfl, rfl, h, hb, by rw [rv.length, rb.length]; exact hl, q _ _ x t' .non⟩
    · cases hg
  · cases hg
theorem mut_pop0 : MutD K ca "list" rPop gPop0 := fun W H a xs ds d y d' Q wa t r hg q => by
  unfold gPop0 at hg
  split at hg
  · rename_i ys
    obtain ⟨vs, h, rv⟩ := t
    cases r
    cases hy : ys[ys.length - 1]? with
    | none => rw [hy] at hg; cases hg
    | some y0 =>
      rw [hy] at hg; cases hg
      obtain ⟨v, hv, ry⟩ := rv.get hy
      obtain ⟨x, t'⟩ := chgL wa h rv.dropLast
      exact ⟨a, vs, v, rfl, rfl, h, by rw [rv.length]; exact hv, q _ _ x t' (ry.ext x fun b z => by rw [z]; exact wa)⟩
  · cases hg
theorem mut_popAt : MutD K ca "list" rPopAt gPopAt := fun W H a xs ds d y d' Q wa t r hg q => by
  unfold gPopAt at hg
  split at hg
  · rename_i ys i
    obtain ⟨vs, h, rv⟩ := t
    split at hg
    · rename_i hi
      match xs, r with
      | [_], .cons (.int _) .nil =>
        cases hk : seqIndex? i ys.length with
        | none => rw [hk] at hg; cases hg
        | some k =>
          rw [hk] at hg
          have hg : (ys[k]?).map (fun y => (y, D.lst (ys.eraseIdx k))) = some (y, d') := hg
          cases hy : ys[k]? with
          | none => rw [hy] at hg; cases hg
          | some y0 =>
            rw [hy] at hg; cases hg
            obtain ⟨v, hv, ry⟩ := rv.get hy
            obtain ⟨x, t'⟩ := chgL wa h (rv.erase k)
            exact ⟨a, vs, i, k, v, rfl, rfl, h, hi.1, hi.2, by rw [rv.length]; exact hk, hv, q _ _ x t' (ry.ext x fun b z => by rw [z]; exact wa)⟩
    · cases hg
  · cases hg
def rInsert : V → List V → Hp → VK → Prop := fun x vs H Q => ∃ (l : Addr) (xs : List V) (i : Int) (y : V), x = .ref l ∧ vs = [.int i, y] ∧ H l = some (.lst xs) ∧ xs.length < sizeLine ∧ 0 ≤ i ∧ i < 2 ^ 63 ∧
    Q .non (upd H l (.lst (xs.take i.toNat ++ [y] ++ xs.drop i.toNat)))
theorem mut_insert : MutD K ca "list" rInsert gInsert := fun W H a xs ds d y d' Q wa t r hg q => by
  unfold gInsert at hg
  split at hg
  · rename_i ys i y0
    obtain ⟨vs, h, rv⟩ := t
    split at hg
    · rename_i hi
      cases hg
      match xs, r with
      | [_, v], .cons (.int _) (.cons r1 .nil) =>
        obtain ⟨x, t'⟩ := chgL wa h (((rv.take i.toNat).snoc r1).append (rv.drop i.toNat))
        exact ⟨a, vs, i, v, rfl, rfl, h, by rw [rv.length]; exact hi.1, hi.2.1, hi.2.2, q _ _ x t' .non⟩
    · cases hg
  · cases hg
theorem put_list : PutD K ca rSetL gPutL := fun W H a i x di dx d d' Q wa t ri rx hg q => by
  unfold gPutL at hg
  split at hg
  · rename_i ys i0
    obtain ⟨vs, h, rv⟩ := t
    cases ri
    cases hk : ixN ys.length i0 with
    | none => rw [hk] at hg; cases hg
    | some k =>
      rw [hk] at hg; cases hg
      obtain ⟨x', t'⟩ := chgL wa h (rv.set rx k)
      exact ⟨a, vs, i0, k, rfl, rfl, h, by rw [rv.length]; exact hk, q _ x' t'⟩
  · cases hg
theorem put_dict : PutD K ca rSetD gPutK := fun W H a i x di dx d d' Q wa t ri rx hg q => by
  unfold gPutK at hg
  split at hg
  · rename_i ks ys
    obtain ⟨kvs, h, e, nd, rv⟩ := t
    subst e
    split at hg
    · rename_i hl
      cases hk : keyD di with
      | none => rw [hk] at hg; cases hg
      | some k =>
        rw [hk] at hg; cases hg
        have ek := keyD_of ri hk
        subst ek
        have xx := ext_upd (o' := .dK (putK kvs k x)) h trivial trivial
        obtain ⟨e1, r2⟩ := rl_put (k := k) (v := x) (d := dx) nd rv rx
        refine ⟨a, _, rfl, DPut.k h (by simpa using hl), q _ xx ⟨_, upd_same, e1, ?_, r2.ext xx fun b z => by rw [z]; exact wa⟩⟩
        rw [← e1]
        exact (putK_keys (k := k) (v := x) nd).1
    · cases hg
  · cases hg
end
/-- x.m(..) as a statement -/
def sMut (i : Nat) (T : String) (gm : D → List D → Option (D × D)) (fs : Ev → M (List D)) : Sm := fun ρ => match ρ[i]? with
  | some (.own d) => if tyD T d = true then fs ρ >>= fun xs => liftO (gm d xs) >>= fun p => pure (ρ.set i (.own p.2), .nx) else stuck
  | _ => stuck
/-- y = x.m(..) -/
def sMutTo (j i : Nat) (T : String) (gm : D → List D → Option (D × D)) (fs : Ev → M (List D)) : Sm := fun ρ => match ρ[i]? with
  | some (.own d) => if tyD T d = true then fs ρ >>= fun xs => liftO (gm d xs) >>= fun p => pure ((ρ.set i (.own p.2)).set j (.val p.1), .nx) else stuck
  | _ => stuck
/-- x[k] = e -/
def sPut (i : Nat) (gm : D → D → D → Option D) (fv fi : Ev → M D) : Sm := fun ρ => fv ρ >>= fun v => match ρ[i]? with
  | some (.own d) => fi ρ >>= fun k => liftO (gm d k v) >>= fun d' => pure (ρ.set i (.own d'), .nx)
  | _ => stuck
section
variable {X : Cx} {ca : Dr} {E : XK} {e o : Expr} {es : List Expr} {pos apos cpos vpos spos : Pos} {f fi : Ev → M D} {fs : Ev → M (List D)} {T id : String} {name x y : Str} {r : V → List V → Hp → VK → Prop} {gm : D → List D → Option (D × D)}
theorem tyV_own {K : PySem.W.Frag} {W : Addr → Prop} {H : Hp} {a : Addr} {d : D} (t : Top K ca W H a d) (h : tyD T d = true) : tyV K T (.ref a) H := by
  unfold Top at t
  split at t
  · obtain ⟨vs, h1, _⟩ := t
    refine .inl ⟨?_, vs, SqL.of h1⟩
    unfold tyD at h
    split at h <;> first | rfl | (cases h; done) | (rename_i z; cases z; done) | skip
    all_goals simp_all
  · obtain ⟨kvs, h1, _⟩ := t
    refine .inr (.inr (.inl ⟨?_, .inl ⟨kvs, h1⟩⟩))
    unfold tyD at h
    split at h <;> first | rfl | (cases h; done) | (rename_i z; cases z; done) | skip
    all_goals simp_all
  · exact t.elim
theorem own_at {K : PySem.W.Frag} {Z Y : Addr → Prop} {H : Hp} {σ : L2.St} {ρ : Ev} (eo : EnvOk K ca Z Y H σ ρ) {i : Nat} {d : D} (h : ρ[i]? = some (.own d)) : ∃ a, σ[i]? = some (some (.ref a)) ∧ Y a ∧ Top K ca (U Z Y) H a d := eo.own i d h
theorem s_mut (i : Nat) (pa : PlainAttrs T) (slot : Slot T name id) (hty : typeOf (.builtin id) = pure (.type "method_descriptor")) (hm : MtR X id r) (hr : MutD X.K ca T r gm) (ha : PA X (e :: es) (tAs X.K ca E fs))
    (hN : X.N[i]? = some x := by rfl) (hv : Vis X.env.scope x := by first | exact Or.inl rfl | exact Or.inr (Or.inl rfl) | exact Or.inr (Or.inr rfl)) (hd : (x == ("__debug__" : Str)) = false := by decide) (hcd : (x == ("__classdict__" : Str)) = false := by decide)
    (hbase : attributeBase (.Name x vpos) name X.env (eval (.Name x vpos) X.env) = eval (.Name x vpos) X.env := by rfl)
    (hfew : ((backTo cpos (starEach (e :: es) X.env)).all (fun x => !x.1) && (backToKw cpos (keywordEach [] X.env)).all (fun x => x.1.isSome)
      && decide ((e :: es).length + ([] : List Keyword).length + (if ([] : List Keyword).isEmpty then 0 else 1) < 30)) = true := by rfl)
    (hline : (apos.endLine == cpos.line) = true := by rfl) (hst : starEach (e :: es) X.env = (false, eval e X.env) :: starEach es X.env := by rfl) (hpl : (backTo cpos (starEach es X.env)).any (·.1) = false := by rfl)
    (hs : swapsWith (.Call (.Attribute (.Name x vpos) name apos) (e :: es) [] cpos) none pos.line X.env = pure false := by rfl) :
    PS X (.Expr (.Call (.Attribute (.Name x vpos) name apos) (e :: es) [] cpos) pos) (tS X.K ca E (sMut i T gm fs)) := by
  refine ⟨fun pins s σ H Dn I h => (ps_expr (pe_bm pa slot hty hm (pe_var (i := i) hN hv hd hcd) ha hbase hfew hline hst hpl) hs).run pins s σ H Dn I ?_⟩
  obtain ⟨Z, Y, ρ, c, eo, co, h⟩ := h
  unfold sMut at h
  cases hi : ρ[i]? with
  | none => rw [hi] at h; exact h.elim
  | some sl =>
    rw [hi] at h
    cases sl with
    | no => exact h.elim
    | val d => exact h.elim
    | own d =>
      by_cases ht : tyD T d = true
      · have h : DoS X.K ca E Z Dn Y H ((if tyD T d = true then fs ρ >>= fun xs => liftO (gm d xs) >>= fun p => pure (ρ.set i (.own p.2), Ctl.nx) else stuck) c) := h
        rw [if_pos ht] at h
        obtain ⟨a, h1, h2, h3⟩ := eo.own i d hi
        refine ⟨.ref a, h1, tyV_own h3 ht, Z, Y, ρ, c, eo, co, (DoS.expr h).mono fun ds c1 q1 vs H2 e2 r2 co2 => ?_⟩
        obtain ⟨p, hg, q2⟩ := Do.lift (DoS.expr q1)
        have eo2 := eo.ext e2
        obtain ⟨a', k1, k2, k3⟩ := eo2.own i d hi
        rw [h1] at k1; cases k1
        exact hr (U Z Y) H2 a vs ds d p.1 p.2 _ (.inr h2) k3 r2 hg fun v o' x t rv => q2 Y σ _ ((Step.of e2).trans (.chg x h2)) (eo2.chg hi h1 x h2 t) (co2.chg eo2 h2)
      · have h : DoS X.K ca E Z Dn Y H ((if tyD T d = true then fs ρ >>= fun xs => liftO (gm d xs) >>= fun p => pure (ρ.set i (.own p.2), Ctl.nx) else stuck) c) := h
        rw [if_neg ht] at h; exact h.elim
theorem s_mut0 (i : Nat) (pa : PlainAttrs T) (slot : Slot T name id) (hty : typeOf (.builtin id) = pure (.type "method_descriptor")) (hm : MtR X id r) (hr : MutD X.K ca T r gm)
    (hN : X.N[i]? = some x := by rfl) (hv : Vis X.env.scope x := by first | exact Or.inl rfl | exact Or.inr (Or.inl rfl) | exact Or.inr (Or.inr rfl)) (hd : (x == ("__debug__" : Str)) = false := by decide) (hcd : (x == ("__classdict__" : Str)) = false := by decide)
    (hbase : attributeBase (.Name x vpos) name X.env (eval (.Name x vpos) X.env) = eval (.Name x vpos) X.env := by rfl) (hline : (apos.endLine == cpos.line) = true := by rfl)
    (hs : swapsWith (.Call (.Attribute (.Name x vpos) name apos) [] [] cpos) none pos.line X.env = pure false := by rfl) :
    PS X (.Expr (.Call (.Attribute (.Name x vpos) name apos) [] [] cpos) pos) (tS X.K ca E (sMut i T gm aNil)) := by
  refine ⟨fun pins s σ H Dn I h => (ps_expr (pe_bm0 pa slot hty hm (pe_var (i := i) hN hv hd hcd) hbase hline) hs).run pins s σ H Dn I ?_⟩
  obtain ⟨Z, Y, ρ, c, eo, co, h⟩ := h
  unfold sMut at h
  cases hi : ρ[i]? with
  | none => rw [hi] at h; exact h.elim
  | some sl =>
    rw [hi] at h
    cases sl with
    | no => exact h.elim
    | val d => exact h.elim
    | own d =>
      by_cases ht : tyD T d = true
      · have h : DoS X.K ca E Z Dn Y H ((if tyD T d = true then aNil ρ >>= fun xs => liftO (gm d xs) >>= fun p => pure (ρ.set i (.own p.2), Ctl.nx) else stuck) c) := h
        rw [if_pos ht] at h
        obtain ⟨a, h1, h2, h3⟩ := eo.own i d hi
        obtain ⟨p, hg, q2⟩ := Do.lift (DoS.expr (show DoS X.K ca E Z Dn Y H ((liftO (gm d []) >>= fun p => pure (ρ.set i (.own p.2), Ctl.nx)) c) from h))
        exact ⟨.ref a, h1, tyV_own h3 ht, hr (U Z Y) H a [] [] d p.1 p.2 _ (.inr h2) h3 .nil hg fun v o' x t rv => q2 Y σ _ (.chg x h2) (eo.chg hi h1 x h2 t) (co.chg eo h2)⟩
      · have h : DoS X.K ca E Z Dn Y H ((if tyD T d = true then aNil ρ >>= fun xs => liftO (gm d xs) >>= fun p => pure (ρ.set i (.own p.2), Ctl.nx) else stuck) c) := h
        rw [if_neg ht] at h; exact h.elim
theorem s_put (i : Nat) {rp : V → V → V → Hp → (Hp → Prop) → Prop} {gp : D → D → D → Option D} {ie : Expr} (hps : PSet X rp) (hr : PutD X.K ca rp gp) (he : PE X e (tD X.K ca E f)) (hx : PE X ie (tD X.K ca E fi))
    (hN : X.N[i]? = some x := by rfl) (hv : Vis X.env.scope x := by first | exact Or.inl rfl | exact Or.inr (Or.inl rfl) | exact Or.inr (Or.inr rfl)) (hd : (x == ("__debug__" : Str)) = false := by decide) (hcd : (x == ("__classdict__" : Str)) = false := by decide)
    (has : ∀ v, assign (.Subscript (.Name x vpos) ie spos) X.env v = (do
        let ov ← holding [v] (eval (.Name x vpos) X.env)
        let iv ← holding [v, ov] (eval ie X.env)
        standAt spos
        holding [v, ov, iv] (setItem ov iv v)
        release [v, ov, iv] []) := by intro _; rfl)
    (hs : swapsWithSole [.Subscript (.Name x vpos) ie spos] e pos.line X.env = pure false := by rfl) (hw : swappedStores [.Subscript (.Name x vpos) ie spos] e X.env = pure none := by rfl)
    (h1 : (assignEach [.Subscript (.Name x vpos) ie spos] X.env).map (·.2) = [assign (.Subscript (.Name x vpos) ie spos) X.env] := by rfl) :
    PS X (.Assign [.Subscript (.Name x vpos) ie spos] e pos) (tS X.K ca E (sPut i gp f fi)) := by
  refine ⟨fun pins s σ H Dn I h => (ps_asg he (pg_sub (pe_var (i := i) hN hv hd hcd) hx hps has) hs hw h1).run pins s σ H Dn I ?_⟩
  obtain ⟨Z, Y, ρ, c, eo, co, h⟩ := h
  refine ⟨Z, Y, ρ, c, eo, co, (DoS.expr h).mono fun dv c1 q1 v H1 e1 r1 co1 => ?_⟩
  have eo1 := eo.ext e1
  cases hi : ρ[i]? with
  | none => rw [hi] at q1; exact q1.elim
  | some sl =>
    rw [hi] at q1
    cases sl with
    | no => exact q1.elim
    | val d => exact q1.elim
    | own d =>
      obtain ⟨a, h1, h2, h3⟩ := eo1.own i d hi
      have q1 : DoS X.K ca E Z Dn Y H ((fi ρ >>= fun k => liftO (gp d k dv) >>= fun d' => pure (ρ.set i (.own d'), Ctl.nx)) c1) := q1
      refine ⟨.ref a, h1, Z, Y, ρ, c1, eo1, co1, (DoS.expr (DoS.step (.of e1) q1)).mono fun dk c2 q2 k H2 e2 r2 co2 => ?_⟩
      obtain ⟨d', hg, q3⟩ := Do.lift (DoS.expr q2)
      have eo2 := eo1.ext e2
      obtain ⟨a', k1, k2, k3⟩ := eo2.own i d hi
      rw [h1] at k1; cases k1
      exact hr (U Z Y) H2 a k v dk dv d d' _ (.inr h2) k3 r2 (r1.ext e2 eo1.zc) hg fun o' x t => q3 Y σ _ ((Step.of e2).trans (.chg x h2)) (eo2.chg hi h1 x h2 t) (co2.chg eo2 h2)
end
end G

set_option Elab.async false
set_option linter.all false
set_option maxRecDepth 100000
set_option maxHeartbeats 8000000
/-! GP: what makes a new list or dict; several names at once. -/
namespace G
open PySem PySem.Spec PyProof.Rows L2
section
variable {K : PySem.W.Frag} {ca : Dr} {E : XK} {Z Y W : Addr → Prop} {H H1 : Hp} {σ : L2.St} {ρ : Ev}
theorem Top.u {p : Addr} {d : D} (t : Top K ca (fun b => U Z Y b ∨ b = p) H p d) : Top K ca (U Z fun b => Y b ∨ b = p) H p d := t.anti fun b z => z.elim (fun z => .inl (.inl z)) fun z => z.elim (fun z => .inl (.inr z)) .inr
theorem freshL {p : Addr} {vs : List V} {ds : List D} (n : H p = none) (r : RlA K ca W H vs ds) : Top K ca (fun b => W b ∨ b = p) (upd H p (.lst vs)) p (.lst ds) :=
  ⟨vs, upd_same, (r.grow fun b z => z.imp id fun z => by rw [z]; exact n).ext (ExtP.new (P := fun _ => False) n) fun _ h => h.elim⟩
theorem freshK {p : Addr} {kvs : List (Key × V)} {ds : List D} (n : H p = none) (nd : (kvs.map (·.1)).Nodup) (r : RlA K ca W H (kvs.map (·.2)) ds) : Top K ca (fun b => W b ∨ b = p) (upd H p (.dK kvs)) p (.dic (kvs.map (·.1)) ds) :=
  ⟨kvs, upd_same, rfl, nd, (r.grow fun b z => z.imp id fun z => by rw [z]; exact n).ext (ExtP.new (P := fun _ => False) n) fun _ h => h.elim⟩
/-- a built-in that makes a new list or dict -/
def CalF (K : PySem.W.Frag) (ca : Dr) (r : List V → Hp → VK → Prop) (g : List D → Option D) : Prop := ∀ (Z : Addr → Prop) (H : Hp) (c : Churn) (xs : List V) (ds : List D) (d' : D) (Q : VK), ZOk ca Z H → ChOk K ca H c → RlA K ca Z H xs ds → g ds = some d' →
  (∀ p H', H p = none → Ext ca H H' → Top K ca (fun b => Z b ∨ b = p) H' p d' → ChOk K ca H' c → Q (.ref p) H') → r xs H Q
def BinF (K : PySem.W.Frag) (ca : Dr) (r : R2) (g : D → D → Option D) : Prop := ∀ (Z : Addr → Prop) (H : Hp) (c : Churn) (x y : V) (d e d' : D) (Q : VK), ZOk ca Z H → ChOk K ca H c → Rl K ca Z H x d → Rl K ca Z H y e → g d e = some d' →
  (∀ p H', H p = none → Ext ca H H' → Top K ca (fun b => Z b ∨ b = p) H' p d' → ChOk K ca H' c → Q (.ref p) H') → r x y H Q
theorem calF_list : CalF K ca (fun xs H Q => ∃ p ys, xs = [.ref p] ∧ (SqL K H p ys ∨ SqT K H p ys) ∧ ∀ l, H l = none → Q (.ref l) (upd H l (.lst ys))) gList := fun Z H c xs ds d' Q z co r hg q => by
  unfold gList at hg
  split at hg
  · cases hg; cases r with | cons r1 r2 => cases r1 with | lst n h ra => cases r2; exact ⟨_, _, rfl, .inl (SqL.of h), fun p np => q p _ np (ExtP.new np) (freshL np ra) (co.new np)⟩
  · cases hg; cases r with | cons r1 r2 => cases r1 with | tup h ra => cases r2; exact ⟨_, _, rfl, .inr h.s, fun p np => q p _ np (ExtP.new np) (freshL np ra) (co.new np)⟩
  · cases hg
def gAddL : D → D → Option D
  | .lst xs, .lst ys => if xs.length + ys.length ≤ sizeLine then some (.lst (xs ++ ys)) else none
  | _, _ => none
theorem binF_add : BinF K ca (rAddD K) gAddL := fun Z H c x y d e d' Q z co r1 r2 hg q => by
  unfold gAddL at hg
  split at hg
  · split at hg
    · rename_i hl
      cases hg
      cases r1 with | lst n1 h1 a1 => cases r2 with | lst n2 h2 a2 =>
      exact .inr (.inr (.inl ⟨_, _, _, _, rfl, rfl, h1, h2, by rw [a1.length, a2.length]; exact hl, fun p np => q p _ np (ExtP.new np) (freshL np (a1.append a2)) (co.new np)⟩))
    · cases hg
  · cases hg
/-- dict(d) -/
def rDictD : List V → Hp → VK → Prop := fun xs H Q => ∃ (a : Addr) (kvs : List (Key × V)), xs = [.ref a] ∧ Rd H a (.dK kvs) ∧ ∀ p, H p = none → Q (.ref p) (upd H p (.dK kvs))
end
section
variable {X : Cx} {ca : Dr} {E : XK} {x : Str} {T : String} {p pos spos : Pos} {e a b : Expr} {es : List Expr} {fs : Ev → M (List D)} {fa fb : Ev → M D} {gl : List D → Option D} {r : List V → Hp → VK → Prop}
theorem dF_callTy (hc : CallR X (.type T) r) (hr : CalF X.K ca r gl) (hm : X.mg x = none) (hv : bootBuiltins x = some (.type T)) (ha : PA X (e :: es) (tAs X.K ca E fs)) (hg : Gl X x := by rfl) (hn : x ≠ "__name__" := by decide) (hd : (x == ("__debug__" : Str)) = false := by decide)
    (he : starEach (e :: es) X.env = (false, eval e X.env) :: starEach es X.env := by rfl) (hpl : (backTo pos (starEach es X.env)).any (·.1) = false := by rfl) :
    PE X (.Call (.Name x p) (e :: es) [] pos) (tF X.K ca E (eArgs gl fs)) := by
  refine ⟨fun pins s σ H Q I h => (pe_callTy hc hg hm hv ha hn hd he hpl).run pins s σ H Q I ?_⟩
  obtain ⟨Z, Y, ρ, c, eo, co, h⟩ := h
  refine ⟨Z, Y, ρ, c, eo, co, (Do.bind h).mono fun ds c1 h1 xs H1 e1 r1 co1 => ?_⟩
  obtain ⟨d', hg', h2⟩ := Do.lift h1
  exact hr (U Z Y) H1 c1 xs ds d' Q (eo.zok.ext e1) co1 r1 hg' fun p H' n e' t co' => h2 p H' (e1.there n) (e1.trans e') t.u co'
theorem dF_bin {op : Operator} {r : R2} {g : D → D → Option D} (ho : OpR X (binaryOp op) r) (hr : BinF X.K ca r g) (ha : PE X a (tD X.K ca E fa)) (hb : PE X b (tD X.K ca E fb)) :
    PE X (.BinOp a op b pos) (tF X.K ca E (eBin g fa fb)) := by
  refine ⟨fun pins s σ H Q I h => (pe_op ho ha hb).run pins s σ H Q I ?_⟩
  obtain ⟨Z, Y, ρ, c, eo, co, h⟩ := h
  refine ⟨Z, Y, ρ, c, eo, co, (Do.bind h).mono fun d c1 h1 x H1 e1 r1 co1 => ?_⟩
  refine ⟨Z, Y, ρ, c1, eo.ext e1, co1, ((Do.bind h1).ext e1).mono fun d2 c2 h2 y H2 e2 r2 co2 => ?_⟩
  obtain ⟨d', hg, h3⟩ := Do.lift h2
  exact hr (U Z Y) H2 c2 x y d d2 d' Q (eo.zok.ext (e1.trans e2)) co2 (r1.ext e2 eo.zc) r2 hg fun p H' n e' t co' => h3 p H' ((e1.trans e2).there n) ((e1.trans e2).trans e') t.u co'
theorem dF_lst (ha : PA X es (tAs X.K ca E fs)) : PE X (.List es pos) (tF X.K ca E (eArgs gLst fs)) := by
  refine ⟨fun pins s σ H Q I h => (pe_lst ha).run pins s σ H Q I ?_⟩
  obtain ⟨Z, Y, ρ, c, eo, co, h⟩ := h
  refine ⟨Z, Y, ρ, c, eo, co, (Do.bind h).mono fun ds c1 h1 xs H1 e1 r1 co1 => ?_⟩
  obtain ⟨d', hg, h2⟩ := Do.lift h1
  unfold gLst at hg
  by_cases hl : ds.length ≤ sizeLine
  · rw [if_pos hl] at hg
    cases hg
    exact ⟨by rw [r1.length]; exact hl, fun p np => h2 p _ (e1.there np) (e1.trans (ExtP.new np)) (freshL np r1).u (co1.new np)⟩
  · rw [if_neg hl] at hg; cases hg
def eDict0 : Ev → M D := fun _ => pure (.dic [] [])
theorem dF_dict0 : PE X (.Dict [] [] pos) (tF X.K ca E eDict0) := by
  refine ⟨fun pins s σ H Q I h => pe_dnewK.run pins s σ H Q I ?_⟩
  obtain ⟨Z, Y, ρ, c, eo, co, h⟩ := h
  exact fun p np => h p _ np (ExtP.new np) (freshK (kvs := []) np (by simp) .nil).u (co.new np)
theorem dF_comp {elt tg iter : Expr} {ifs : List Expr} {scope : Scope} (own : List (Str × Nat)) {g : TG} {t : Tg} {is : List Nat} {it : Ev → M (List D)} {cnd : Ev → M Bool} {f : Ev → M D} (hc : X.calm = true) (hN : X.N.Nodup) (ok : BlkOk X.N X.env.scope scope own)
    (hi : PI X tg iter (tI X.K ca E it)) (ht : TgD X.K ca g t is) (hg : ∀ (s : Shared) (H : Hp) (C : Addr) (cl : List (Str × Addr)) (fp : List Addr), PG (X.blk s H scope (compEnvC scope cl C X.env) fp) tg g)
    (hcn : ∀ (s : Shared) (H : Hp) (C : Addr) (cl : List (Str × Addr)) (fp : List Addr), PTs (X.blk s H scope (compEnvC scope cl C X.env) fp) ifs (tT X.K ca E0 cnd))
    (he : ∀ (s : Shared) (H : Hp) (C : Addr) (cl : List (Str × Addr)) (fp : List Addr), PE (X.blk s H scope (compEnvC scope cl C X.env) fp) elt (tD X.K ca E0 f)) (hv : ∀ i ∈ is, i ∈ own.map (·.2) := by decide) (hs : ∀ x, foldedSetIterable iter X.env x = pure x := by intro _; rfl) :
    PE X (.ListComp elt [⟨tg, iter, ifs, 0⟩] scope pos) (tF X.K ca E (eComp t it cnd f (own.map (·.2)))) :=
  ⟨fun pins s σ H Q I h => (pe_lc (own := own) hc hN hi ok hg hcn he hs).run pins s σ H Q I (comp_runF rfl ht hv h)⟩
theorem s_ownComp (i : Nat) {y : Str} {py spos : Pos} {elt tg iter : Expr} {ifs : List Expr} {scope : Scope} (own : List (Str × Nat)) {g : TG} {t : Tg} {is : List Nat} {it : Ev → M (List D)} {cnd : Ev → M Bool} {f : Ev → M D} (hc : X.calm = true) (hN : X.N.Nodup) (ok : BlkOk X.N X.env.scope scope own)
    (hi : PI X tg iter (tI X.K ca E it)) (ht : TgD X.K ca g t is) (hg : ∀ (s : Shared) (H : Hp) (C : Addr) (cl : List (Str × Addr)) (fp : List Addr), PG (X.blk s H scope (compEnvC scope cl C X.env) fp) tg g)
    (hcn : ∀ (s : Shared) (H : Hp) (C : Addr) (cl : List (Str × Addr)) (fp : List Addr), PTs (X.blk s H scope (compEnvC scope cl C X.env) fp) ifs (tT X.K ca E0 cnd))
    (he : ∀ (s : Shared) (H : Hp) (C : Addr) (cl : List (Str × Addr)) (fp : List Addr), PE (X.blk s H scope (compEnvC scope cl C X.env) fp) elt (tD X.K ca E0 f)) (hsw : swapsWith (.ListComp elt [⟨tg, iter, ifs, 0⟩] scope pos) (some (.Name y py)) spos.line X.env = pure true)
    (hy : X.N[i]? = some y := by rfl) (hyl : X.env.scope.names.lookup y = some .local := by rfl) (hv : ∀ i ∈ is, i ∈ own.map (·.2) := by decide) (hs : ∀ x, foldedSetIterable iter X.env x = pure x := by intro _; rfl) :
    PS X (.Assign [.Name y py] (.ListComp elt [⟨tg, iter, ifs, 0⟩] scope pos) spos) (tS X.K ca E (sOwn i (eComp t it cnd f (own.map (·.2))))) := by
  refine ⟨fun pins s σ H Dn I h => (ps_setLc (own := own) hc hN hy hyl hsw hi ok hg hcn he hs).run pins s σ H Dn I ?_⟩
  refine comp_runF (Q := fun x H1 => gName i x σ H1 Dn.nx) rfl ht hv ?_
  obtain ⟨Z, Y, ρ, c, eo, co, h⟩ := h
  refine ⟨Z, Y, ρ, c, eo, co, (DoS.expr h).mono fun d c1 h1 p H1 n e1 t co1 => ?_⟩
  exact h1 _ _ H1 (.give e1 n) (eo.give e1 co i n t) co1
end
end G

set_option Elab.async false
set_option linter.all false
set_option maxRecDepth 100000
set_option maxHeartbeats 8000000
/-! GQ: several names at once, some of them their own. -/
namespace G
open PySem PySem.Spec PyProof.Rows L2
section
variable {K : PySem.W.Frag} {ca : Dr} {E : XK} {Z Y W : Addr → Prop} {H H1 : Hp} {σ σ' : L2.St} {ρ ρ' : Ev}
theorem EnvOk.re (e : EnvOk K ca Z Y H σ ρ) (hl : σ'.length = ρ'.length) (f : Nat → Nat) (h : ∀ k sl, ρ'[k]? = some sl → sl ≠ .no → ρ[f k]? = some sl ∧ σ'[k]? = σ[f k]?)
    (inj : ∀ k l, (∃ d, ρ'[k]? = some (.own d)) → (∃ d, ρ'[l]? = some (.own d)) → f k = f l → k = l) : EnvOk K ca Z Y H σ' ρ' where
  zok := e.zok
  zca := e.zca
  yca := e.yca
  len := hl
  val := fun i d hi => by
    obtain ⟨h1, h2⟩ := h i _ hi (by intro z; cases z)
    rw [h2]
    exact e.val _ d h1
  own := fun i d hi => by
    obtain ⟨h1, h2⟩ := h i _ hi (by intro z; cases z)
    rw [h2]
    exact e.own _ d h1
  dis := e.dis
  inj := fun i j a d1 d2 h1 h2 h3 h4 => by
    obtain ⟨q1, q2⟩ := h i _ h1 (by intro z; cases z)
    obtain ⟨q3, q4⟩ := h j _ h2 (by intro z; cases z)
    rw [q2] at h3
    rw [q4] at h4
    exact inj i j ⟨_, h1⟩ ⟨_, h2⟩ (e.inj _ _ a d1 d2 q1 q3 h3 h4)
theorem EnvOk.push0 (e : EnvOk K ca Z Y H σ ρ) : EnvOk K ca Z Y H (σ ++ [none]) (ρ ++ [.no]) := by
  have hl := e.len
  refine e.re (by simp [hl]) id (fun k sl h n => ?_) fun _ _ _ _ z => z
  by_cases hk : k < ρ.length
  · rw [List.getElem?_append_left hk] at h
    exact ⟨h, by rw [List.getElem?_append_left (by rw [hl]; exact hk)]; rfl⟩
  · rw [List.getElem?_append_right (by omega)] at h
    cases hz : k - ρ.length with
    | zero => rw [hz] at h; cases h; exact absurd rfl n
    | succ m => rw [hz] at h; cases h
theorem set_end {α : Type} (xs : List α) (a b : α) : (xs ++ [a]).set xs.length b = xs ++ [b] := by
  rw [List.set_append_right _ _ (Nat.le_refl _), Nat.sub_self]; rfl
theorem EnvOk.pushV (e : EnvOk K ca Z Y H σ ρ) {v : V} {d : D} (r : Rl K ca (U Z Y) H v d) : EnvOk K ca Z Y H (σ ++ [some v]) (ρ ++ [.val d]) := by
  have := e.push0.set ρ.length r
  rw [set_end, ← e.len, set_end] at this
  exact this
theorem EnvOk.pushO (e : EnvOk K ca Z Y H σ ρ) (x : Ext ca H H1) {c : Churn} (co : ChOk K ca H c) {p : Addr} {d : D} (n : H p = none) (t : Top K ca (U Z fun b => Y b ∨ b = p) H1 p d) : EnvOk K ca Z (fun b => Y b ∨ b = p) H1 (σ ++ [some (.ref p)]) (ρ ++ [.own d]) := by
  have := e.push0.give x co ρ.length n t
  rw [set_end, ← e.len, set_end] at this
  exact this
/-- the first slots alone -/
theorem EnvOk.cut {tv : L2.St} {ts : Ev} (e : EnvOk K ca Z Y H (σ ++ tv) (ρ ++ ts)) (hl : σ.length = ρ.length) : EnvOk K ca Z Y H σ ρ := by
  have lt : ∀ {k : Nat} {sl : Sl}, ρ[k]? = some sl → k < ρ.length := fun h => by
    obtain ⟨h, _⟩ := List.getElem?_eq_some_iff.mp h
    exact h
  refine e.re hl id (fun k sl h n => ?_) fun _ _ _ _ z => z
  have hk := lt h
  exact ⟨by rw [show id k = k from rfl, List.getElem?_append_left hk]; exact h, by rw [show id k = k from rfl, List.getElem?_append_left (by omega)]⟩
end
abbrev AX := Ev → M (List Sl)
def xNil : AX := fun _ => pure []
def xVal (f : Ev → M D) (g : AX) : AX := fun ρ => f ρ >>= fun d => g ρ >>= fun sl => pure (.val d :: sl)
def xOwn (f : Ev → M D) (g : AX) : AX := fun ρ => f ρ >>= fun d => g ρ >>= fun sl => pure (.own d :: sl)
def tAx (K : PySem.W.Frag) (ca : Dr) (E : XK) (fs : AX) : TA := fun σ H Q => ∃ Z Y ρ tv ts c, EnvOk K ca Z Y H (σ ++ tv) (ρ ++ ts) ∧ σ.length = ρ.length ∧ ChOk K ca H c ∧
  At (fs ρ c) (fun sls c' => ∀ Y' vs H', Step ca Y H Y' H' → EnvOk K ca Z Y' H' (σ ++ tv ++ vs.map some) (ρ ++ ts ++ sls) → vs.length = sls.length → ChOk K ca H' c' → Q vs H') (EOkS K ca E Z Y H)
section
variable {X : Cx} {ca : Dr} {E : XK} {e : Expr} {es : List Expr} {f : Ev → M D} {g : AX}
theorem dx_nil : PA X [] (tAx X.K ca E xNil) := by
  refine ⟨fun p pins s σ H Q I h => pa_nil.run p pins s σ H Q I ?_⟩
  obtain ⟨Z, Y, ρ, tv, ts, c, eo, hl, co, h⟩ := h
  exact h Y [] H .refl (by simpa using eo) rfl co
theorem dx_val (ha : PE X e (tD X.K ca E f)) (hr : PA X es (tAx X.K ca E g)) (hs : starEach (e :: es) X.env = (false, eval e X.env) :: starEach es X.env := by rfl) : PA X (e :: es) (tAx X.K ca E (xVal f g)) := by
  refine ⟨fun p pins s σ H Q I h => (pa_cons ha hr hs).run p pins s σ H Q I ?_⟩
  obtain ⟨Z, Y, ρ, tv, ts, c, eo, hl, co, h⟩ := h
  refine ⟨Z, Y, ρ, c, eo.cut hl, co, At.mono (At.bind.mp h) (fun d c1 h1 x H1 e1 r1 co1 => ?_) fun _ _ z => z.e .refl⟩
  refine ⟨Z, Y, ρ, tv ++ [some x], ts ++ [.val d], c1, ?_, hl, co1, At.mono (At.bind.mp h1) (fun sls c2 h2 Y' vs H' st eo' hv co' => ?_) fun _ _ z => z.step (.of e1)⟩
  · have := (eo.ext e1).pushV r1
    simpa [List.append_assoc] using this
  · exact h2 Y' (x :: vs) H' ((Step.of e1).trans st) (by simpa [List.append_assoc] using eo') (by simp [hv]) co'
theorem dx_own (ha : PE X e (tF X.K ca E f)) (hr : PA X es (tAx X.K ca E g)) (hs : starEach (e :: es) X.env = (false, eval e X.env) :: starEach es X.env := by rfl) : PA X (e :: es) (tAx X.K ca E (xOwn f g)) := by
  refine ⟨fun p pins s σ H Q I h => (pa_cons ha hr hs).run p pins s σ H Q I ?_⟩
  obtain ⟨Z, Y, ρ, tv, ts, c, eo, hl, co, h⟩ := h
  refine ⟨Z, Y, ρ, c, eo.cut hl, co, At.mono (At.bind.mp h) (fun d c1 h1 p H1 n e1 t co1 => ?_) fun _ _ z => z.e .refl⟩
  refine ⟨Z, fun b => Y b ∨ b = p, ρ, tv ++ [some (.ref p)], ts ++ [.own d], c1, ?_, hl, co1, At.mono (At.bind.mp h1) (fun sls c2 h2 Y' vs H' st eo' hv co' => ?_) fun _ _ z => z.step (.give e1 n)⟩
  · have := eo.pushO e1 co n t
    simpa [List.append_assoc] using this
  · exact h2 Y' (.ref p :: vs) H' ((Step.give e1 n).trans st) (by simpa [List.append_assoc] using eo') (by simp [hv]) co'
def sParX (i j : Nat) (fs : AX) : Sm := fun ρ => fs ρ >>= fun sls => match sls with
  | [a, b] => pure ((ρ.set i a).set j b, .nx)
  | _ => stuck
def sParX3 (i j l : Nat) (fs : AX) : Sm := fun ρ => fs ρ >>= fun sls => match sls with
  | [a, b, c] => pure (((ρ.set i a).set j b).set l c, .nx)
  | _ => stuck
theorem move1 {K : PySem.W.Frag} {Z Y : Addr → Prop} {H : Hp} {σ : L2.St} {ρ : Ev} {i : Nat} {a : Sl} {v : Option V} {vs : L2.St} {as : Ev} (e : EnvOk K ca Z Y H (σ ++ v :: vs) (ρ ++ a :: as)) (hl : σ.length = ρ.length) : EnvOk K ca Z Y H (σ.set i v ++ vs) (ρ.set i a ++ as) := by
  have hlen := e.len
  simp only [List.length_append, List.length_cons] at hlen
  have key : ∀ k : Nat, k < ρ.length → ρ.set i a = ρ.set i a := fun _ _ => rfl
  refine e.re (by simp; omega) (fun k => if k < ρ.length then (if k = i then ρ.length else k) else k + 1) (fun k sl h n => ?_) fun k l h1 h2 z => ?_
  · by_cases hk : k < ρ.length
    · rw [List.getElem?_append_left (by simpa using hk), List.getElem?_set] at h
      have e1 : (σ.set i v ++ vs)[k]? = if i = k then if i < σ.length then some v else none else σ[k]? := by
        rw [List.getElem?_append_left (by simpa using (by omega : k < σ.length)), List.getElem?_set]
      rw [e1]
      simp only [hk, if_true]
      by_cases hi : i = k
      · subst hi
        rw [if_pos rfl, if_pos hk] at h
        rw [if_pos rfl, if_pos rfl, if_pos (by rw [hl]; exact hk)]
        cases h
        refine ⟨?_, ?_⟩
        · rw [List.getElem?_append_right (by omega)]; simp
        · rw [List.getElem?_append_right (by omega), hl]; simp
      · rw [if_neg hi] at h ⊢
        rw [if_neg (fun z => hi z.symm)]
        exact ⟨by rw [List.getElem?_append_left hk]; exact h, by rw [List.getElem?_append_left (by omega)]⟩
    · rw [List.getElem?_append_right (by simpa using hk), List.length_set] at h
      have e1 : (σ.set i v ++ vs)[k]? = vs[k - σ.length]? := by
        rw [List.getElem?_append_right (by simp; omega), List.length_set]
      rw [e1]
      simp only [hk, if_false]
      refine ⟨?_, ?_⟩
      · rw [List.getElem?_append_right (by omega), show k + 1 - ρ.length = (k - ρ.length) + 1 by omega, List.getElem?_cons_succ]
        exact h
      · rw [List.getElem?_append_right (by omega), show k + 1 - σ.length = (k - σ.length) + 1 by omega, List.getElem?_cons_succ]
  · have z : (if k < ρ.length then (if k = i then ρ.length else k) else k + 1) = (if l < ρ.length then (if l = i then ρ.length else l) else l + 1) := z
    revert z
    split <;> split <;> (try split) <;> (try split) <;> intro z <;> omega
theorem move2 {K : PySem.W.Frag} {Z Y : Addr → Prop} {H : Hp} {σ : L2.St} {ρ : Ev} {i j : Nat} {a b : Sl} {v w : Option V} (e : EnvOk K ca Z Y H (σ ++ [v, w]) (ρ ++ [a, b])) (hl : σ.length = ρ.length) : EnvOk K ca Z Y H ((σ.set i v).set j w) ((ρ.set i a).set j b) := by
  have := move1 (i := j) (move1 (i := i) e hl) (by simp [hl])
  simpa using this
theorem move3 {K : PySem.W.Frag} {Z Y : Addr → Prop} {H : Hp} {σ : L2.St} {ρ : Ev} {i j l : Nat} {a b c : Sl} {u v w : Option V} (e : EnvOk K ca Z Y H (σ ++ [u, v, w]) (ρ ++ [a, b, c])) (hl : σ.length = ρ.length) : EnvOk K ca Z Y H (((σ.set i u).set j v).set l w) (((ρ.set i a).set j b).set l c) := by
  have := move1 (i := l) (move1 (i := j) (move1 (i := i) e hl) (by simp [hl])) (by simp [hl])
  simpa using this
theorem s_parX (i j : Nat) {x y : Str} {a b : Expr} {fs : AX} {px py pt pos : Pos} {kt k2 pt2} (hc : X.calm = true) (hN : X.N.Nodup) (ha : PA X [a, b] (tAx X.K ca E fs)) (hi : X.N[i]? = some x := by rfl) (hj : X.N[j]? = some y := by rfl) (hij : i ≠ j := by decide)
    (hx : X.env.scope.names.lookup x = some .local := by rfl) (hy : X.env.scope.names.lookup y = some .local := by rfl)
    (hw : swappedStores [.Tuple [.Name x px, .Name y py] kt pt] (.Tuple [a, b] k2 pt2) X.env = pure (some [x, y]) := by rfl)
    (hs : swapsWithSole [.Tuple [.Name x px, .Name y py] kt pt] (.Tuple [a, b] k2 pt2) pos.line X.env = pure false := by rfl) :
    PS X (.Assign [.Tuple [.Name x px, .Name y py] kt pt] (.Tuple [a, b] k2 pt2) pos) (tS X.K ca E (sParX i j fs)) := by
  refine ⟨fun pins s σ H Dn I h => (ps_par hc hN hi hj hij hx hy ha hw hs).run pins s σ H Dn I ?_⟩
  obtain ⟨Z, Y, ρ, c, eo, co, h⟩ := h
  refine ⟨Z, Y, ρ, [], [], c, by simpa using eo, eo.len, co, At.mono (At.bind.mp h) (fun sls c1 h1 Y' vs H1 st eo1 hv co1 => ?_) fun _ _ z => z⟩
  match sls, vs, hv, h1, eo1 with
  | [a, b], [v, w], _, h1, eo1 => exact ⟨_, _, rfl, h1 Y' _ H1 st (move2 (by simpa using eo1) eo.len) co1⟩
  | [], _, _, h1, _ => exact h1.elim
  | [_], _, _, h1, _ => exact h1.elim
  | _ :: _ :: _ :: _, _, _, h1, _ => exact h1.elim
theorem s_parX3 (i j l : Nat) {x y z : Str} {a b c : Expr} {fs : AX} {px py pz pt pos : Pos} {kt k2 pt2} (hc : X.calm = true) (hN : X.N.Nodup) (ha : PA X [a, b, c] (tAx X.K ca E fs)) (hi : X.N[i]? = some x := by rfl) (hj : X.N[j]? = some y := by rfl) (hlz : X.N[l]? = some z := by rfl) (hij : i ≠ j := by decide) (hil : i ≠ l := by decide) (hjl : j ≠ l := by decide)
    (hx : X.env.scope.names.lookup x = some .local := by rfl) (hy : X.env.scope.names.lookup y = some .local := by rfl) (hz : X.env.scope.names.lookup z = some .local := by rfl)
    (hw : swappedStores [.Tuple [.Name x px, .Name y py, .Name z pz] kt pt] (.Tuple [a, b, c] k2 pt2) X.env = pure (some [x, y, z]) := by rfl)
    (hs : swapsWithSole [.Tuple [.Name x px, .Name y py, .Name z pz] kt pt] (.Tuple [a, b, c] k2 pt2) pos.line X.env = pure false := by rfl) :
    PS X (.Assign [.Tuple [.Name x px, .Name y py, .Name z pz] kt pt] (.Tuple [a, b, c] k2 pt2) pos) (tS X.K ca E (sParX3 i j l fs)) := by
  refine ⟨fun pins s σ H Dn I h => (ps_par3 hc hN hi hj hlz hij hil hjl hx hy hz ha hw hs).run pins s σ H Dn I ?_⟩
  obtain ⟨Z, Y, ρ, c, eo, co, h⟩ := h
  refine ⟨Z, Y, ρ, [], [], c, by simpa using eo, eo.len, co, At.mono (At.bind.mp h) (fun sls c1 h1 Y' vs H1 st eo1 hv co1 => ?_) fun _ _ z => z⟩
  match sls, vs, hv, h1, eo1 with
  | [a, b, c], [u, v, w], _, h1, eo1 => exact ⟨_, _, _, rfl, h1 Y' _ H1 st (move3 (by simpa using eo1) eo.len) co1⟩
  | [], _, _, h1, _ => exact h1.elim
  | [_], _, _, h1, _ => exact h1.elim
  | [_, _], _, _, h1, _ => exact h1.elim
  | _ :: _ :: _ :: _ :: _, _, _, h1, _ => exact h1.elim
end
end G

set_option Elab.async false
set_option linter.all false
set_option maxRecDepth 100000
set_option maxHeartbeats 8000000
/-! GS: sorted of what is walked: a dict's keys, its items. -/
namespace G
open PySem PySem.Spec PyProof.Rows L2
section
variable {X : Cx} {ca : Dr} {pins : List (Addr × Obj)} {σ : L2.St} {H : Hp} {s : Shared} {Z : Addr → Prop} {Q : VK} {A : Around} {E : Value → Shared → Prop}
/-- the new list of these items, sorted -/
theorem sort_new (y : Sys X.base) (I : L2.Inv X pins σ H s) (hu : A.units + 66 < cLine) {us : List Value} {vs : List V} {ds : List D} (rv : Vals vs us) (ra : RlA X.K ca Z H vs ds) (ok : sortOk ds = true)
    (q : ∀ p ws, H p = none → RlA X.K ca Z H ws (sortD ds) → ws.length ≤ sizeLine → Q (.ref p) (upd H p (.lst ws))) :
    wpAny (model X.prog X.w) A (newList us >>= fun l => holding [l] (call (.builtin "list.sort") [l]) >>= fun _ => ret l) (fun fin s' => ∃ v, fin = PySem.Fin.done (.ret v) ∧ EP X pins σ Q v s') E s := by
  unfold sortOk at ok
  have o1 := Bool.and_eq_true_iff.mp ok
  have o2 := Bool.and_eq_true_iff.mp o1.2
  have o3 := Bool.and_eq_true_iff.mp o2.2
  have some_ : ∀ d ∈ ds, toPy d = some (encD d) ∧ (encD d).depth ≤ 64 := fun d hd => by
    have := Bool.and_eq_true_iff.mp (List.all_eq_true.mp o1.1 d hd)
    refine ⟨?_, of_decide_eq_true this.2⟩
    cases e : toPy d with
    | none => rw [e] at this; simp at this
    | some p => unfold encD; rw [e]; rfl
  have reads : ∀ {us : List Value} {es : List D}, PySem.W.EachIs (RelD X.K ca Z H) us es → (∀ d ∈ es, d ∈ ds) → PySem.W.EachIs (fun v d => ∃ as, Reads s.heap v (encD d) as) us es := by
    intro us es e
    induction e with
    | nil => intro _; exact .nil
    | cons h t ih =>
      intro m
      obtain ⟨v, rv, rl⟩ := h
      obtain ⟨as, rd, _⟩ := rl.reads y I rv (toPy_R (some_ _ (m _ List.mem_cons_self)).1)
      exact .cons ⟨as, rd⟩ (ih fun d hd => m d (List.mem_cons_of_mem _ hd))
  have ev := each_of rv ra
  have er := reads ev fun _ h => h
  have alk : PySem.W.AllAlike (ds.map encD) := fun p hp p' hp' => by
    obtain ⟨d, hd, rfl⟩ := List.mem_map.mp hp
    obtain ⟨d', hd', rfl⟩ := List.mem_map.mp hp'
    exact List.all_eq_true.mp (List.all_eq_true.mp o2.1 d hd) d' hd'
  have srt : PySem.W.Sortable (ds.map encD) := by
    rcases Bool.or_eq_true_iff.mp o3.1 with h | h
    · refine .inl fun p hp => ?_
      obtain ⟨d, hd, rfl⟩ := List.mem_map.mp hp
      have := List.all_eq_true.mp h d hd
      unfold tupB at this
      split at this
      · rename_i x r e; exact ⟨x, r, e⟩
      · cases this
    · refine .inr fun p hp => ?_
      obtain ⟨d, hd, rfl⟩ := List.mem_map.mp hp
      have := List.all_eq_true.mp h d hd
      exact ⟨fun e => by rw [e] at this; simp [othB] at this, fun xs e => by rw [e] at this; simp [othB] at this⟩
  have hL : ds.length ≤ sizeLine := of_decide_eq_true o3.2
  have hus : us.length ≤ sizeLine := by rw [← rv.length, ra.length]; exact hL
  refine wpAny_bind (wpAny_newList ?_ hus)
  have ho : (s.heap.push (seqObj "list" us.toArray 0)).get? s.heap.objs.size = some (seqObj "list" us.toArray 0) := Heap.get?_push_size _ rfl
  show wpAny _ _ _ _ _ { s with heap := s.heap.push (seqObj "list" us.toArray 0) }
  have er' : PySem.W.EachIs (fun v b => ∃ as, Reads (PySem.W.sortingHeap (s.heap.push (seqObj "list" us.toArray 0)) s.heap.objs.size us) v (encD b) as) us ds :=
    er.mono fun _ _ ⟨as, r⟩ => ⟨as, PyProof.Rows.Reads.keeps (fun b o e => PySem.W.sortingHeap_old (Nat.ne_of_lt (Heap.lt_size e)) (Heap.get?_push_of_some _ e)) r⟩
  have bnd : ∀ B : Around, B.units + 64 < cLine → ∀ d, d ∈ ds.map encD → B.units + d.depth < cLine := fun B hB d hd => by
    obtain ⟨b, hb, rfl⟩ := List.mem_map.mp hd
    have := (some_ b hb).2
    omega
  refine wpAny_bind (wpAny_holding (wpAny_call_entry PyProof.Rows.slot_list_sort ⟨_, ho, rfl⟩ PyProof.Rows.entry_list_sort
    (PySem.W.list_sort_vals (s := { s with heap := s.heap.push (seqObj "list" us.toArray 0) }) (κ := PySem.W.dataKind (PySem.W.sortingHeap (s.heap.push (seqObj "list" us.toArray 0)) s.heap.objs.size us) (ds.map encD)) ho
      (PySem.W.SortsAt.data (s := { s with heap := PySem.W.sortingHeap (s.heap.push (seqObj "list" us.toArray 0)) s.heap.objs.size us }) (PySem.W.each_map (R := fun v d => ∃ as, Reads (PySem.W.sortingHeap (s.heap.push (seqObj "list" us.toArray 0)) s.heap.objs.size us) v d as) encD er') alk srt
        (bnd A.in1 (by show A.units + 1 + 64 < _; omega))) hus ⟨_, rfl, ?_⟩)
    (PyProof.Rows.args_list_sort _)))
  have eo := PySem.W.sortVals_data (enc := encD) false ev er' alk
  obtain ⟨ws, rw_, rl⟩ := of_each eo
  have hlen : ws.length ≤ sizeLine := by
    rw [rl.length, List.length_mergeSort]
    exact hL
  have hf : H s.heap.objs.size = none := I.hok.fresh (Nat.le_refl _)
  obtain ⟨e', he'⟩ := PyProof.Rows.sortedHeap_at (vs := us) (out := (PySem.W.sortVals (PySem.W.dataKind (PySem.W.sortingHeap (s.heap.push (seqObj "list" us.toArray 0)) s.heap.objs.size us) (ds.map encD)) false us us).toArray) ho
  refine wpAny_pure ⟨_, rfl, .ref s.heap.objs.size, upd H s.heap.objs.size (.lst ws), I.laid (t' := s.toks) (fun b u e => ?_) (Nat.le_refl _) (show ObjOk X.prog X.w _ _ _ (.lst ws) from ⟨hlen, _, e', rw_, he'⟩), rfl, q _ ws hf rl hlen⟩
  have hb : b < s.heap.objs.size := Heap.lt_size e
  rw [PyProof.Rows.sortedHeap_old (Nat.ne_of_lt hb) (by rw [size_push']; exact Nat.lt_succ_of_lt hb)]
  exact Heap.get?_push_of_some _ e
/-- sorted(d) -/
def rSortK : List V → Hp → VK → Prop := fun xs H Q => ∃ (a : Addr) (kvs : List (Key × V)), xs = [.ref a] ∧ Rd H a (.dK kvs) ∧ sortOk (kvs.map fun p => dKey p.1) = true ∧
  ∀ p ws, H p = none → (∀ (K : PySem.W.Frag) (ca : Dr) (Z : Addr → Prop), RlA K ca Z H ws (sortD (kvs.map fun p => dKey p.1))) → ws.length ≤ sizeLine → Q (.ref p) (upd H p (.lst ws))
theorem rl_key {K : PySem.W.Frag} {ca : Dr} {Z : Addr → Prop} {H : Hp} (k : Key) : Rl K ca Z H (kV k) (dKey k) := by
  cases k with
  | inl i => exact .int i
  | inr x => exact .str x
theorem keys_rl {K : PySem.W.Frag} {ca : Dr} {Z : Addr → Prop} {H : Hp} : ∀ kvs : List (Key × V), RlA K ca Z H (kvs.map fun p => kV p.1) (kvs.map fun p => dKey p.1)
  | [] => .nil
  | p :: r => .cons (rl_key p.1) (keys_rl r)
theorem vals_at {vs : List V} {us : List Value} (hl : vs.length = us.length) (h : ∀ (j : Nat) (u : Value), us[j]? = some u → ∃ v, vs[j]? = some v ∧ RelV v u) : Vals vs us := by
  induction vs generalizing us with
  | nil => cases us with
    | nil => exact .nil
    | cons _ _ => cases hl
  | cons v vs ih =>
    cases us with
    | nil => cases hl
    | cons u us =>
      obtain ⟨v', e, r⟩ := h 0 u rfl
      cases e
      exact .cons r (ih (Nat.succ.inj hl) fun j u e => h (j + 1) u e)
theorem rl_flat_all {K : PySem.W.Frag} {ca : Dr} {Z : Addr → Prop} {H : Hp} {ws : List V} {ds : List D} (r : RlA K ca Z H ws ds) (h : ∀ d ∈ ds, isFlat d = true) (K' : PySem.W.Frag) (ca' : Dr) (Z' : Addr → Prop) (hs : ∀ d ∈ ds, ∃ k, d = dKey k) : RlA K' ca' Z' H ws ds := by
  induction ds generalizing ws with
  | nil => cases r; exact .nil
  | cons d ds ih =>
    cases r with
    | cons r1 r2 =>
      obtain ⟨k, rfl⟩ := hs _ (List.mem_cons_self ..)
      refine .cons ?_ (ih r2 (fun d hd => h d (List.mem_cons_of_mem _ hd)) fun d hd => hs d (List.mem_cons_of_mem _ hd))
      cases k with
      | inl i => cases r1; exact .int i
      | inr x => cases r1; exact .str x
theorem cr_sortK (y : Sys X.base) (hu : X.A.units + 128 < cLine) (hcalm : X.calm = true) : CallR X (.builtin "sorted") rSortK := by
  intro pins s σ H xs us Q I r h
  obtain ⟨a, kvs, rfl, hd, ok, q⟩ := h
  obtain ⟨u, rfl, ru⟩ := vals1 r
  cases ru
  obtain ⟨z, lo, vs, rel, dd⟩ := dk_rd I.hok hd
  obtain ⟨ep, hat⟩ := dd.dictAt
  have hl : kvs.length = vs.length := rel.length
  refine Calls.call_function_entry PyProof.Rows.kind_sorted PyProof.Rows.plain_sorted PyProof.Rows.entry_sorted (PyProof.Rows.args_sorted1 _) ?_
  unfold Builtin.«sorted»
  refine wpAny_bind (m := checkCount "sorted" 1 1 _) (wpAny_pure ?_)
  refine wpAny_bind (PySem.W.kdu_collect (A := X.A.in1) (PySem.W.kdl_dict (knd := mixKind X.prog X.w) (kvs := vs) (ep := ep) lo) (I.ok.hd hcalm) hat (by omega) fun h' tk acc hk hacc => ?_)
  have hal : acc.toList.length = kvs.length := by rw [Array.length_toList, hacc.1, hl]
  have I1 : L2.Inv X pins σ H { s with heap := h', toks := tk } := I.kept hk
  have hv : Vals (kvs.map fun p => kV p.1) acc.toList := vals_at (by rw [List.length_map, hal]) fun j v e => by
    obtain ⟨k, x, e1, e2⟩ := hacc.2 j v (by rw [← Array.getElem?_toList]; exact e)
    have e3 : kvs.map (·.1) = vs.map (·.1) := rel.keys
    have e4 : (kvs.map (·.1))[j]? = some k := by rw [e3, List.getElem?_map, e1]; rfl
    refine ⟨kV k, ?_, relV_key e2⟩
    rw [List.getElem?_map] at e4 ⊢
    cases e5 : kvs[j]? with
    | none => rw [e5] at e4; cases e4
    | some p => rw [e5] at e4; cases e4; rfl
  have hdep : X.A.in1.units = X.A.units + 1 := rfl
  refine sort_new (ca := ⟨0, 1, by decide⟩) (Z := fun _ => False) (s := { s with heap := h', toks := tk }) (A := X.A.in1) y I1 (by rw [hdep]; omega) hv (keys_rl kvs) ok fun p ws np rl hl => ?_
  refine q p ws np (fun K' ca' Z' => ?_) hl
  have hmem : ∀ d ∈ sortD (kvs.map fun p => dKey p.1), ∃ k, d = dKey k := fun d hd => by
    have : d ∈ kvs.map fun p => dKey p.1 := List.mem_mergeSort.mp hd
    obtain ⟨p, _, rfl⟩ := List.mem_map.mp this
    exact ⟨_, rfl⟩
  exact rl_flat_all rl (fun d hd => by obtain ⟨k, rfl⟩ := hmem d hd; cases k <;> rfl) K' ca' Z' hmem
def gSortK : List D → Option D
  | [.dic ks _] => if sortOk (ks.map dKey) = true then some (.lst (sortD (ks.map dKey))) else none
  | _ => none
theorem cal_sortK {K : PySem.W.Frag} {ca : Dr} : CalD K ca rSortK gSortK := fun Z H c xs ds d' Q z co r hg q => by
  unfold gSortK at hg
  split at hg
  · rename_i ks vs
    split at hg
    · rename_i ok
      cases hg
      cases r with | cons r1 r2 =>
      cases r2
      cases r1 with | dic n hH ra =>
      rename_i kvs
      rw [List.map_map] at ok q
      exact ⟨_, kvs, rfl, .inl hH, ok, fun p ws np rl hl => q _ _ (ExtP.new np) (.lst (z.free np) upd_same ((rl K ca Z).ext (ExtP.new (P := fun b : Addr => b = ca) np) fun b e => e ▸ z.zca)) (co.new np)⟩
    · cases hg
  · cases hg
end
end G

set_option Elab.async false
set_option linter.all false
set_option maxRecDepth 100000
set_option maxHeartbeats 8000000
/-! GT: sorted(d.items()). -/
namespace G
open PySem PySem.Spec PyProof.Rows L2
section
variable {X : Cx} {ca : Dr} {E : XK} {p apos cpos pos : Pos} {e : Expr} {f : Ev → M D}
/-- the pairs of a dict, new in the heap -/
theorem pairs_laid {pins : List (Addr × Obj)} {σ : L2.St} {H : Hp} {s : Shared} {h' : Heap} {tk : Nat} {kvs : List (Key × V)} {vs : List (Key × Value)} {as : List Addr} (I : L2.Inv X pins σ H s) (kv : KV kvs vs)
    (hk : ∀ b o, s.heap.get? b = some o → h'.get? b = some o) (hl : as.length = vs.length) (hG : PySem.W.KdxG (mixKind X.prog X.w) vs s.heap.objs.size h' as) :
    ∃ H' : Hp, (∀ b o, H b = some o → H' b = some o) ∧ Paired (fun (t : Addr) (q : Key × V) => H' t = some (.tup [kV q.1, q.2])) as kvs ∧ L2.Inv X pins σ H' { s with heap := h', toks := tk } := by
  have lk : kvs.length = vs.length := Paired.length kv
  have nd : as.Nodup := List.Pairwise.imp (fun {a b} (h : a < b) => Nat.ne_of_lt h) hG.rise
  have new : ∀ t ∈ as, H t = none := fun t ht => I.hok.fresh (Nat.le_of_lt (hG.above t ht))
  have atP := LiI.putT_at as kvs H (by omega) nd
  have off : ∀ b, b ∉ as → LiI.putT H as kvs b = H b := fun b h1 => LiI.putT_off as kvs _ h1
  have low : ∀ b o, s.heap.get? b = some o → b ∉ as := fun b o e z => absurd (Heap.lt_size e) (Nat.not_lt.mpr (Nat.le_of_lt (hG.above b z)))
  have kp : ∀ b u, H b = some u → (LiI.putT H as kvs) b = some u := fun b u e => by
    rw [off b (fun z => by rw [new b z] at e; cases e)]
    exact e
  refine ⟨LiI.putT H as kvs, kp, atP, ?_⟩
  refine I.call' (ch := []) rfl ⟨fun b o q _ _ _ => hk b o q, fun b o q _ _ _ => ⟨o.slots, hk b o q⟩, fun b o q n _ => ?_, fun b o q _ => ⟨o, hk b o q⟩, fun b xs q => kp b _ q, fun b o u q => kp b _ q, fun b ps q => ⟨#[], by rw [kp b _ q]; simp⟩⟩ (fun b u q => ?_) I.bare fun b z => by simp at z
  · rw [off b (low b o q)]
    exact n
  · by_cases hb : b ∈ as
    · obtain ⟨j, pk, e1, e2, e3⟩ := LiI.paired_ix atP hb
      rw [e3] at q
      cases q
      obtain ⟨key, k, x, f1, f2, f3⟩ := hG.pairs j b e1
      obtain ⟨qv, g1, g2, g3⟩ := LiI.paired_get kv e2
      rw [f1] at g1
      cases g1
      have rk : RelV (kV pk.1) key := by
        rw [g2]
        exact relV_key (show keyIs k key = true from f2)
      exact ⟨by show 2 ≤ sizeLine; decide, [key, x], .cons rk (.cons g3 .nil), ⟨_, f3, rfl, _, rfl⟩⟩
    · rw [off b hb] at q
      exact (I.hok b u q).stay (fun d v _ y => hk d v y) (fun d y => kp d _ y) fun d xs y => kp d _ y
def eSortItems (f : Ev → M D) : Ev → M D := fun ρ => f ρ >>= fun d => liftO (match d with | .dic ks vs => (if sortOk (itemsD ks vs) = true then some (.lst (sortD (itemsD ks vs))) else none) | _ => none)
theorem d_sortItems (y : Sys X.base) (hu : X.A.units + 128 < cLine) (hc : X.calm = true) (he : PE X e (tD X.K ca E f)) (hm : X.mg "sorted" = none) (hv : bootBuiltins "sorted" = some (.builtin "sorted")) (hg : Gl X "sorted" := by rfl) (hbase : attributeBase e "items" X.env (eval e X.env) = eval e X.env := by rfl) (hline : (apos.endLine == cpos.line) = true := by rfl)
    (hs : starEach [.Call (.Attribute e "items" apos) [] [] cpos] X.env = (false, eval (.Call (.Attribute e "items" apos) [] [] cpos) X.env) :: starEach [] X.env := by rfl) (hpl : (backTo pos (starEach [] X.env)).any (·.1) = false := by rfl) :
    PE X (.Call (.Name "sorted" p) [.Call (.Attribute e "items" apos) [] [] cpos] [] pos) (tD X.K ca E (eSortItems f)) := by
  refine ⟨fun pins s σ H Q I h => ?_⟩
  obtain ⟨Z, Y, ρ, c, eo, co, h⟩ := h
  have h' : tD X.K ca E f σ H fun x H1 => ∃ d kvs ds c', x = .ref d ∧ H1 d = some (.dK kvs) ∧ RlA X.K ca (U Z Y) H1 (kvs.map (·.2)) ds ∧ Ext ca H H1 ∧ ChOk X.K ca H1 c' ∧ sortOk (itemsD (kvs.map (·.1)) ds) = true ∧
      ∀ v H', Ext ca H H' → Rl X.K ca (U Z Y) H' v (.lst (sortD (itemsD (kvs.map (·.1)) ds))) → ChOk X.K ca H' c' → Q v H' := by
    refine ⟨Z, Y, ρ, c, eo, co, (Do.bind h).mono fun d c1 h1 x H1 e1 r1 co1 => ?_⟩
    obtain ⟨d', hg, h2⟩ := Do.lift h1
    cases r1 with
    | dic n hH ra =>
      rename_i a0 kvs0 ds0
      have hg : (if sortOk (itemsD (kvs0.map (·.1)) ds0) = true then some (D.lst (sortD (itemsD (kvs0.map (·.1)) ds0))) else none) = some d' := hg
      by_cases ok : sortOk (itemsD (kvs0.map (·.1)) ds0) = true
      · rw [if_pos ok] at hg
        cases hg
        exact ⟨_, _, _, c1, rfl, hH, ra, e1, co1, ok, h2⟩
      · rw [if_neg ok] at hg; cases hg
    | _ => cases hg
  refine wpAny_Call_Name_kw (ld_blt I hg hm hv ?_)
  refine PyProof.Rows.callWith_builtin1 ?_ hs hpl
  rw [hs]
  show wpAny _ _ (spliced ((false, eval (.Call (.Attribute e "items" apos) [] [] cpos) X.env) :: backTo pos (starEach [] X.env))) _ _ s
  refine Calls.spliced_cons ?_
  refine wpAny_Call_method (T := "dict") (id := "dict.items") hbase rfl hline F.plainAttrs_dict F.slot_dict_items F.type_dict_items (thn (he.run pins s σ H _ I h') fun u s1 ⟨x, H1, I1, rx, d, kvs, ds, c', ex, hd, ra, e1, co1, ok, q⟩ => ?_)
  subst ex
  obtain rfl : u = Value.ref d := rx
  obtain ⟨hz, hs0, vs, kv, hdo⟩ := I1.hok d _ hd
  obtain ⟨ep, hat⟩ := hdo.dictAt
  have lk : kvs.length = vs.length := Paired.length kv
  have I2 : L2.Inv X pins σ H1 { s1 with heap := s1.heap.push { cls := .type "dict_items", data := .fields #[.ref d] } } := I1.kept (t' := s1.toks) fun b ob q => Heap.get?_push_of_some _ q
  refine ⟨hdo.typeIs, hdo.mapOf.noDict, ?_⟩
  show wpAny _ _ (callWith cpos (.builtin "dict.items") [.ref d] [] []) _ X.xe s1
  refine method_meetsIn F.slot_dict_items F.entry_dict_items rfl (PySem.evalArgs_none ⟨rfl, hdo.typeIs, F.args_dict_items_1 _, _, meets_dict_items (mixKind X.prog X.w) d hs0, ⟨vs, hdo⟩, ?_⟩)
  refine Calls.spliced_nil ?_
  refine Calls.call_function_entry PyProof.Rows.kind_sorted PyProof.Rows.plain_sorted PyProof.Rows.entry_sorted (PyProof.Rows.args_sorted1 _) ?_
  unfold Builtin.«sorted»
  refine wpAny_bind (m := checkCount "sorted" 1 1 _) (wpAny_pure ?_)
  refine wpAny_bind (PySem.W.kdx_collect (A := X.A.in1) (knd := mixKind X.prog X.w) (kvs := vs) (ep := ep) (I1.ok.hd hc) ⟨_, Heap.get?_push_size _ rfl, rfl, rfl⟩ (hat.push _) (by omega) fun h' tk as hk hl hG => ?_)
  obtain ⟨H', kp, pr, J⟩ := pairs_laid (tk := tk) I2 kv hk hl hG
  have ex : ExtP (fun b : Addr => b = ca) H1 H' := .of kp
  have hdep : X.A.in1.units = X.A.units + 1 := rfl
  refine sort_new (ca := ca) (Z := U Z Y) (A := X.A.in1) y J (by rw [hdep]; omega) (LiI.vals_refs as) (items_rl pr (ra.ext ex eo.zc)) ok fun p ws np rl hl => ?_
  have e2 : Ext ca H H' := e1.trans ex
  exact q _ _ (e2.trans (ExtP.new np)) (.lst ((eo.zok.ext e2).free np) upd_same (rl.ext (ExtP.new (P := fun b : Addr => b = ca) np) fun b e => e ▸ (eo.zok.ext e2).zca)) ((co1.ext kp).new np)
end
end G

set_option Elab.async false
set_option linter.all false
set_option maxRecDepth 100000
set_option maxHeartbeats 8000000
/-! GU: more built-ins: dicts read, zip, enumerate, *, sum, max, min, split; own lists read by place. -/
namespace G
open PySem PySem.Spec PyProof.Rows L2
section
variable {X : Cx} {K : PySem.W.Frag} {ca : Dr} {E : XK}
/-! ### d[k], k in d -/
def rIxK : R2 := fun x y H Q => ∃ a v, x = .ref a ∧ DGet H a y (some v) ∧ Q v H
theorem ix_dK (hu : X.A.units + 1 < cLine) : IxR X rIxK := by
  intro value slice pins s σ H x y v u Q I rx ry h hs
  obtain ⟨a, r, rfl, g, q⟩ := h
  obtain rfl : v = Value.ref a := rx
  exact tail_any (dict_typeIs I g) F.slot_dict_getitem.lookup (d_getItem hu I g ry fun w' s3 I3 rw' => ⟨r, H, I3, rw', q⟩) hs
def lookD : List Key → List D → Key → Option D
  | k :: ks, v :: vs, j => if k = j then some v else lookD ks vs j
  | _, _, _ => none
theorem valV_cons {p : Key × V} {r : List (Key × V)} {k : Key} : valV (p :: r) k = if p.1 = k then some p.2 else valV r k := by
  unfold valV
  rw [List.find?_cons]
  by_cases h : p.1 = k
  · rw [decide_eq_true h, if_pos h]; rfl
  · rw [decide_eq_false h, if_neg h]
theorem look_rl {Z : Addr → Prop} {H : Hp} : ∀ {kvs : List (Key × V)} {ds : List D} {k : Key}, RlA K ca Z H (kvs.map (·.2)) ds → (∀ d, lookD (kvs.map (·.1)) ds k = some d → ∃ v, valV kvs k = some v ∧ Rl K ca Z H v d) ∧ (lookD (kvs.map (·.1)) ds k = none → valV kvs k = none)
  | [], ds, k, ra => by
    have ra : RlA K ca Z H [] ds := ra
    cases ra
    exact ⟨fun d h => (nomatch (show (none : Option D) = some d from h)), fun _ => rfl⟩
  | p :: r, d0 :: ds, k, .cons r1 ra => by
    obtain ⟨h1, h2⟩ := look_rl (k := k) ra
    have e : lookD ((p :: r).map (·.1)) (d0 :: ds) k = if p.1 = k then some d0 else lookD (r.map (·.1)) ds k := rfl
    rw [e, valV_cons]
    by_cases h : p.1 = k
    · rw [if_pos h, if_pos h]
      exact ⟨fun d q => by cases q; exact ⟨_, rfl, r1⟩, fun q => by cases q⟩
    · rw [if_neg h, if_neg h]
      exact ⟨h1, h2⟩
def gIxK : D → D → Option D
  | .dic ks vs, k => (keyD k).bind fun k => lookD ks vs k
  | _, _ => none
theorem ix_DK : BinD K ca rIxK gIxK := fun Z H c x y d e d' Q z co r1 r2 hg q => by
  unfold gIxK at hg
  split at hg
  · cases r1 with | dic n h ra =>
    cases hk : keyD e with
    | none => rw [hk] at hg; cases hg
    | some k =>
      rw [hk] at hg
      obtain ⟨v, h1, h2⟩ := (look_rl ra).1 _ hg
      have ek := keyD_of r2 hk
      subst ek
      exact ⟨_, v, rfl, by rw [← h1]; exact DGet.k h, q _ H .refl h2 co⟩
  · cases hg
/-- any subscript -/
def gIxA (x y : D) : Option D := match x with
  | .dic _ _ => gIxK x y
  | _ => gIx x y
theorem ix_all (hu : X.A.units + 1 < cLine) : IxR X (fun x y H Q => rIx X.K x y H Q ∨ rIxK x y H Q) := ix_seq.or (ix_dK hu)
theorem ix_DA : BinD K ca (fun x y H Q => rIx K x y H Q ∨ rIxK x y H Q) gIxA := fun Z H c x y d e d' Q z co r1 r2 hg q => by
  unfold gIxA at hg
  split at hg
  · exact .inr (ix_DK Z H c x y _ e d' Q z co r1 r2 hg q)
  · exact .inl (ix_D Z H c x y _ e d' Q z co r1 r2 hg q)
def rInK (neg : Bool) : R2 := fun y x H Q => ∃ a o, x = .ref a ∧ DGet H a y o ∧ Q (.bl (if neg then !o.isSome else o.isSome)) H
theorem op_inK (hu : X.A.units + 1 < cLine) : OpR X (compareOp .In) (rInK false) := by
  intro pins s σ H y x u v Q I ry rx h
  obtain ⟨a, o, rfl, g, q⟩ := h
  obtain rfl : v = Value.ref a := rx
  exact d_in hu I g ry fun s3 I3 => ⟨.bl o.isSome, H, I3, rfl, q⟩
theorem op_notInK (hu : X.A.units + 1 < cLine) : OpR X (compareOp .NotIn) (rInK true) := by
  intro pins s σ H y x u v Q I ry rx h
  obtain ⟨a, o, rfl, g, q⟩ := h
  obtain rfl : v = Value.ref a := rx
  exact d_notIn hu I g ry fun s3 I3 => ⟨.bl (!o.isSome), H, I3, rfl, q⟩
def gInK (neg : Bool) : D → D → Option Bool
  | k, .dic ks vs => (keyD k).map fun k => if neg then !(lookD ks vs k).isSome else (lookD ks vs k).isSome
  | _, _ => none
theorem cmp_inK {neg : Bool} : BinB K ca (rInK neg) (gInK neg) := fun Z H c x y d e k Q z co r1 r2 hg q => by
  unfold gInK at hg
  split at hg
  · rename_i ks vs
    cases r2 with | dic n h ra =>
    rename_i kvs
    cases hk : keyD d with
    | none => rw [hk] at hg; cases hg
    | some j =>
      rw [hk] at hg
      cases hg
      have ek := keyD_of r1 hk
      subst ek
      obtain ⟨h1, h2⟩ := look_rl (k := j) ra
      have e : (valV kvs j).isSome = (lookD (kvs.map (·.1)) vs j).isSome := by
        cases hl : lookD (kvs.map (·.1)) vs j with
        | none => rw [h2 hl]; rfl
        | some d => obtain ⟨v, hv, _⟩ := h1 d hl; rw [hv]; rfl
      refine ⟨_, _, rfl, DGet.k h, ?_⟩
      rw [e]
      exact q H .refl co
  · cases hg
/-- in a list, tuple or dict -/
def gInA (neg : Bool) (x y : D) : Option Bool := match y with
  | .dic _ _ => gInK neg x y
  | _ => gInF neg x y
theorem op_inA (hu : X.A.units + 1 < cLine) : OpR X (compareOp .In) (fun x y H Q => rIn X.K false x y H Q ∨ rInK false x y H Q) := op_in_seq.or (op_inK hu)
theorem op_notInA (hu : X.A.units + 1 < cLine) : OpR X (compareOp .NotIn) (fun x y H Q => rIn X.K true x y H Q ∨ rInK true x y H Q) := op_notIn_seq.or (op_notInK hu)
theorem cmp_inA {neg : Bool} : BinB K ca (fun x y H Q => rIn K neg x y H Q ∨ rInK neg x y H Q) (gInA neg) := fun Z H c x y d e k Q z co r1 r2 hg q => by
  unfold gInA at hg
  split at hg
  · exact .inr (cmp_inK Z H c x y d _ k Q z co r1 r2 hg q)
  · exact .inl (cmp_inF Z H c x y d _ k Q z co r1 r2 hg q)
/-! ### zip, enumerate -/
def zipL (xs ys : List D) : List D := (xs.zip ys).map fun p => .tup [p.1, p.2]
def zipD : List D → Option (List D)
  | [.lst xs, .lst ys] => some (zipL xs ys)
  | [.tup xs, .tup ys] => some (zipL xs ys)
  | _ => none
def iZipM (fs : Ev → M (List D)) : Ev → M (List D) := fun ρ => fs ρ >>= fun ds => liftO (zipD ds)
theorem zipL_get {xs ys : List D} {i : Nat} {d : D} (h : (zipL xs ys)[i]? = some d) : ∃ x y, xs[i]? = some x ∧ ys[i]? = some y ∧ d = .tup [x, y] := by
  unfold zipL at h
  rw [List.getElem?_map] at h
  cases hz : (xs.zip ys)[i]? with
  | none => rw [hz] at h; cases h
  | some p =>
    rw [hz] at h; cases h
    obtain ⟨h1, h2⟩ := List.getElem?_zip_eq_some.mp hz
    exact ⟨_, _, h1, h2, rfl⟩
theorem zipL_len {xs ys : List D} : (zipL xs ys).length = min xs.length ys.length := by
  unfold zipL
  rw [List.length_map, List.length_zip]
theorem yld_zipL {W : Addr → Prop} {H : Hp} {a b : Addr} {vs ws : List V} {xs ys : List D} (na : ¬ W a) (nb : ¬ W b) (h1 : H a = some (.lst vs)) (h2 : H b = some (.lst ws)) (r1 : RlA K ca W H vs xs) (r2 : RlA K ca W H ws ys) : Yld K ca W H (zipL xs ys) (ItzN K a b) := by
  have st : ∀ {P : Addr → Prop} {H' : Hp}, (∀ b, P b → W b) → ExtP P H H' → SqL K H' a vs ∧ SqL K H' b ws := fun hP x => ⟨SqL.of (x.at_ h1 (.inl fun z => na (hP _ z))), SqL.of (x.at_ h2 (.inl fun z => nb (hP _ z)))⟩
  refine ⟨fun P i H' hP x hi => ?_, fun P H' hP x => ?_, fun P W' i H' x H'' d g hP ex y hd => ?_⟩
  · rw [zipL_len] at hi
    obtain ⟨s1, s2⟩ := st hP x
    exact ⟨vs, ws, vs[i]'(by rw [r1.length]; omega), ws[i]'(by rw [r2.length]; omega), s1, s2, List.getElem?_eq_getElem _, List.getElem?_eq_getElem _⟩
  · obtain ⟨s1, s2⟩ := st hP x
    refine ⟨vs, ws, s1, s2, ?_⟩
    rw [zipL_len, r1.length, r2.length]
    omega
  · obtain ⟨T, u, v, o, rfl, nT, od, rfl, f1, f2⟩ := y
    obtain ⟨s1, s2⟩ := st hP ex
    obtain ⟨dx, dy, e1, e2, rfl⟩ := zipL_get hd
    obtain ⟨u', hu, ru⟩ := r1.get e1
    obtain ⟨v', hv, rv⟩ := r2.get e2
    have q1 := (f1 vs s1).symm.trans hu
    have q2 := (f2 ws s2).symm.trans hv
    cases q1; cases q2
    have keep : ∀ b oo, H' b = some oo → upd H' T (tupH [u, v] o) b = some oo := upd_keeps nT
    have xx : ExtP (fun _ => False) H' (upd H' T (tupH [u, v] o)) := .of keep
    exact ⟨keep, .tup (TupAt.of upd_same od) (.cons ((ru.later g hP ex).ext xx fun _ h => h.elim) (.cons ((rv.later g hP ex).ext xx fun _ h => h.elim) .nil))⟩
theorem yld_zipT {W : Addr → Prop} {H : Hp} {a b : Addr} {vs ws : List V} {xs ys : List D} (h1 : TupAt K H a vs) (h2 : TupAt K H b ws) (r1 : RlA K ca W H vs xs) (r2 : RlA K ca W H ws ys) : Yld K ca W H (zipL xs ys) (ItzTN K a b) := by
  have st : ∀ {P : Addr → Prop} {H' : Hp}, ExtP P H H' → SqT K H' a vs ∧ SqT K H' b ws := fun x => ⟨(x.tup h1).s, (x.tup h2).s⟩
  refine ⟨fun P i H' hP x hi => ?_, fun P H' hP x => ?_, fun P W' i H' x H'' d g hP ex y hd => ?_⟩
  · rw [zipL_len] at hi
    obtain ⟨s1, s2⟩ := st x
    exact ⟨vs, ws, vs[i]'(by rw [r1.length]; omega), ws[i]'(by rw [r2.length]; omega), s1, s2, List.getElem?_eq_getElem _, List.getElem?_eq_getElem _⟩
  · obtain ⟨s1, s2⟩ := st x
    refine ⟨vs, ws, s1, s2, ?_⟩
    rw [zipL_len, r1.length, r2.length]
    omega
  · obtain ⟨T, u, v, o, rfl, nT, od, rfl, f1, f2⟩ := y
    obtain ⟨s1, s2⟩ := st ex
    obtain ⟨dx, dy, e1, e2, rfl⟩ := zipL_get hd
    obtain ⟨u', hu, ru⟩ := r1.get e1
    obtain ⟨v', hv, rv⟩ := r2.get e2
    have q1 := (f1 vs s1).symm.trans hu
    have q2 := (f2 ws s2).symm.trans hv
    cases q1; cases q2
    have keep : ∀ b oo, H' b = some oo → upd H' T (tupH [u, v] o) b = some oo := upd_keeps nT
    have xx : ExtP (fun _ => False) H' (upd H' T (tupH [u, v] o)) := .of keep
    exact ⟨keep, .tup (TupAt.of upd_same od) (.cons ((ru.later g hP ex).ext xx fun _ h => h.elim) (.cons ((rv.later g hP ex).ext xx fun _ h => h.elim) .nil))⟩
end
section
variable {X : Cx} {K : PySem.W.Frag} {ca : Dr} {E : XK}
theorem i_zip {a b : Expr} {fs : Ev → M (List D)} {p pos tpos : Pos} {elts : List Expr} {kk : Nat} (hm : X.mg "zip" = none) (ha : PA X [a, b] (tAs X.K ca E fs)) (hg : Gl X "zip" := by rfl)
    (hs : starEach [a, b] X.env = (false, eval a X.env) :: starEach [b] X.env := by rfl) (hpl : (backTo pos (starEach [b] X.env)).any (·.1) = false := by rfl) :
    PI X (.Tuple elts kk tpos) (.Call (.Name "zip" p) [a, b] [] pos) (tI X.K ca E (iZipM fs)) := by
  refine ⟨fun pins s σ H R I hw => (pi_zipN hg hm ha hs hpl).run pins s σ H R I ?_⟩
  obtain ⟨Z, Y, ρ, c, eo, co, hw⟩ := hw
  refine ⟨Z, Y, ρ, c, eo, co, (Do.bind hw).mono fun d c1 h1 vs H1 e1 r1 co1 => ?_⟩
  obtain ⟨ds, hd, h2⟩ := Do.lift h1
  match d, r1, hd with
  | [.lst xs, .lst ys], .cons (.lst n1 q1 a1) (.cons (.lst n2 q2 a2) .nil), hd =>
    cases hd
    exact ⟨_, _, _, _, rfl, .inl ⟨SqL.of q1, SqL.of q2, h2 _ H1 e1 co1 (yld_zipL n1 n2 q1 q2 a1 a2)⟩⟩
  | [.tup xs, .tup ys], .cons (.tup q1 a1) (.cons (.tup q2 a2) .nil), hd =>
    cases hd
    exact ⟨_, _, _, _, rfl, .inr ⟨q1.s, q2.s, h2 _ H1 e1 co1 (yld_zipT q1 q2 a1 a2)⟩⟩
def enumL (xs : List D) : List D := xs.zipIdx.map fun p => .tup [.int (p.2 : Nat), p.1]
def enumD : List D → Option (List D)
  | [.lst xs] => some (enumL xs)
  | _ => none
def iEnumM (fs : Ev → M (List D)) : Ev → M (List D) := fun ρ => fs ρ >>= fun ds => liftO (enumD ds)
theorem enumL_get {xs : List D} {i : Nat} {d : D} (h : (enumL xs)[i]? = some d) : ∃ x, xs[i]? = some x ∧ d = .tup [.int (i : Nat), x] := by
  unfold enumL at h
  rw [List.getElem?_map, List.getElem?_zipIdx] at h
  cases hz : xs[i]? with
  | none => rw [hz] at h; cases h
  | some p => rw [hz] at h; cases h; exact ⟨_, rfl, by simp⟩
theorem yld_enum {W : Addr → Prop} {H : Hp} {a : Addr} {vs : List V} {xs : List D} (na : ¬ W a) (h1 : H a = some (.lst vs)) (r1 : RlA K ca W H vs xs) : Yld K ca W H (enumL xs) (Ite K a) := by
  have st : ∀ {P : Addr → Prop} {H' : Hp}, (∀ b, P b → W b) → ExtP P H H' → SqL K H' a vs := fun hP x => SqL.of (x.at_ h1 (.inl fun z => na (hP _ z)))
  have hl : (enumL xs).length = xs.length := by unfold enumL; rw [List.length_map, List.length_zipIdx]
  refine ⟨fun P i H' hP x hi => ?_, fun P H' hP x => ?_, fun P W' i H' x H'' d g hP ex y hd => ?_⟩
  · rw [hl] at hi
    exact ⟨vs, vs[i]'(by rw [r1.length]; omega), st hP x, List.getElem?_eq_getElem _⟩
  · exact ⟨vs, st hP x, by rw [hl, r1.length]; exact Nat.le_refl _⟩
  · obtain ⟨T, u, rfl, nT, rfl, f1⟩ := y
    obtain ⟨dx, e1, rfl⟩ := enumL_get hd
    obtain ⟨u', hu, ru⟩ := r1.get e1
    have q1 := (f1 vs (st hP ex)).symm.trans hu
    cases q1
    have keep : ∀ b o, H' b = some o → upd H' T (.tup [.int (i : Nat), u]) b = some o := upd_keeps nT
    have xx : ExtP (fun _ => False) H' (upd H' T (.tup [.int (i : Nat), u])) := .of keep
    exact ⟨keep, .tup (TupAt.ofP upd_same rfl) (.cons (.int _) (.cons ((ru.later g hP ex).ext xx fun _ h => h.elim) .nil))⟩
theorem i_enum {a : Expr} {fs : Ev → M (List D)} {p pos tpos : Pos} {elts : List Expr} {kk : Nat} (hm : X.mg "enumerate" = none) (ha : PA X [a] (tAs X.K ca E fs)) (hg : Gl X "enumerate" := by rfl)
    (hs : starEach [a] X.env = (false, eval a X.env) :: starEach [] X.env := by rfl) (hpl : (backTo pos (starEach [] X.env)).any (·.1) = false := by rfl) :
    PI X (.Tuple elts kk tpos) (.Call (.Name "enumerate" p) [a] [] pos) (tI X.K ca E (iEnumM fs)) := by
  refine ⟨fun pins s σ H R I hw => (pi_enum hg hm ha hs).run pins s σ H R I ?_⟩
  obtain ⟨Z, Y, ρ, c, eo, co, hw⟩ := hw
  refine ⟨Z, Y, ρ, c, eo, co, (Do.bind hw).mono fun d c1 h1 vs H1 e1 r1 co1 => ?_⟩
  obtain ⟨ds, hd, h2⟩ := Do.lift h1
  match d, r1, hd with
  | [.lst xs], .cons (.lst n1 q1 a1) .nil, hd =>
    cases hd
    exact ⟨_, _, rfl, SqL.of q1, h2 _ H1 e1 co1 (yld_enum n1 q1 a1)⟩
/-! ### *xs in a display -/
def aStar (f : Ev → M D) (g : Ev → M (List D)) : Ev → M (List D) := fun ρ => f ρ >>= fun x => liftO (seqOf x) >>= fun xs => g ρ >>= fun ys => pure (xs ++ ys)
theorem da_star {e : Expr} {es : List Expr} {p : Pos} {f : Ev → M D} {g : Ev → M (List D)} (ha : PE X e (tD X.K ca E f)) (hr : PA X es (tAs X.K ca E g)) (hs : starEach (.Starred e p :: es) X.env = (true, eval e X.env) :: starEach es X.env := by rfl) :
    PA X (.Starred e p :: es) (tAs X.K ca E (aStar f g)) := by
  refine ⟨fun pos pins s σ H Q I h => (StX.pa_star ha hr hs).run pos pins s σ H Q I ?_⟩
  obtain ⟨Z, Y, ρ, c, eo, co, h⟩ := h
  refine ⟨Z, Y, ρ, c, eo, co, (Do.bind h).mono fun d c1 h1 x H1 e1 r1 co1 => ?_⟩
  obtain ⟨xs, hd, h2⟩ := Do.lift (Do.bind h1)
  cases r1 with
  | lst n q a =>
    cases hd
    refine ⟨_, _, rfl, .inr (SqL.of q), Z, Y, ρ, c1, eo.ext e1, co1, ((Do.bind h2).ext e1).mono fun ds c2 h3 ys H2 e2 r2 co2 => ?_⟩
    exact h3 _ H2 (e1.trans e2) ((a.ext e2 eo.zc).append r2) co2
  | tup q a =>
    cases hd
    refine ⟨_, _, rfl, .inl q.s, Z, Y, ρ, c1, eo.ext e1, co1, ((Do.bind h2).ext e1).mono fun ds c2 h3 ys H2 e2 r2 co2 => ?_⟩
    exact h3 _ H2 (e1.trans e2) ((a.ext e2 eo.zc).append r2) co2
  | _ => cases hd
/-! ### sum, max, min over a list of ints -/
def intA : List D → Option (List Int)
  | [] => some []
  | .int i :: ds => (intA ds).map (i :: ·)
  | _ :: _ => none
theorem intA_rl {Z : Addr → Prop} {H : Hp} : ∀ {vs : List V} {ds : List D} {ns : List Int}, RlA K ca Z H vs ds → intA ds = some ns → vs = ns.map V.int ∧ ds.length = ns.length
  | _, [], _, .nil, h => by cases h; exact ⟨rfl, rfl⟩
  | _, .int i :: ds, ns, .cons (.int _) r, h => by
    have h : (intA ds).map (i :: ·) = some ns := h
    cases hs : intA ds with
    | none => rw [hs] at h; cases h
    | some ms =>
      rw [hs] at h; cases h
      obtain ⟨e, l⟩ := intA_rl r hs
      exact ⟨by rw [e]; rfl, by simp [l]⟩
def gSum : List D → Option D
  | [.lst xs] => (intA xs).map fun ns => .int ns.sum
  | _ => none
theorem cal_sum : CalD K ca (rSum K) gSum := fun Z H c xs ds d' Q z co r hg q => by
  unfold gSum at hg
  split at hg
  · rename_i ys
    cases hs : intA ys with
    | none => rw [hs] at hg; cases hg
    | some ns =>
      rw [hs] at hg; cases hg
      cases r with | cons r1 r2 => cases r1 with | lst n h ra => cases r2; exact ⟨_, ns, rfl, by rw [← (intA_rl ra hs).1]; exact SqL.of h, q _ H .refl (.int _) co⟩
  · cases hg
def gMax : List D → Option D
  | [.lst xs] => (intA xs).bind fun ns => ns.max?.map D.int
  | [.int i, .int j] => some (.int (if j > i then j else i))
  | _ => none
def gMin : List D → Option D
  | [.lst xs] => (intA xs).bind fun ns => ns.min?.map D.int
  | [.tup xs] => (intA xs).bind fun ns => ns.min?.map D.int
  | [.int i, .int j] => some (.int (if j < i then j else i))
  | _ => none
end
end G

set_option Elab.async false
set_option linter.all false
set_option maxRecDepth 100000
set_option maxHeartbeats 8000000
/-! GV: max, min, split; own lists looked at; defs that call themselves. -/
namespace G
open PySem PySem.Spec PyProof.Rows L2
theorem callR_or {X : Cx} {v : Value} {r r' : List V → Hp → VK → Prop} (h : CallR X v r) (h' : CallR X v r') : CallR X v (fun xs H Q => r xs H Q ∨ r' xs H Q) := by
  intro pins s σ H xs us Q I rv q
  rcases q with q | q
  · exact h pins s σ H xs us Q I rv q
  · exact h' pins s σ H xs us Q I rv q
section
variable {X : Cx} {K : PySem.W.Frag} {ca : Dr} {E : XK}
def rMax2 : List V → Hp → VK → Prop := fun xs H Q => ∃ i j, xs = [.int i, .int j] ∧ Q (.int (if j > i then j else i)) H
def rMin2 : List V → Hp → VK → Prop := fun xs H Q => ∃ i j, xs = [.int i, .int j] ∧ Q (.int (if j < i then j else i)) H
theorem max_one {ns : List Int} {m : Int} (h : ns.max? = some m) {k : Int} (hk : k ∈ ns) (hall : ∀ y, y ∈ ns → y ≤ k) : k = m := by
  obtain ⟨h1, h2⟩ := List.max?_eq_some_iff.mp h
  exact Int.le_antisymm (h2 k hk) (hall m h1)
theorem min_one {ns : List Int} {m : Int} (h : ns.min? = some m) {k : Int} (hk : k ∈ ns) (hall : ∀ y, y ∈ ns → k ≤ y) : k = m := by
  obtain ⟨h1, h2⟩ := List.min?_eq_some_iff.mp h
  exact Int.le_antisymm (hall m h1) (h2 k hk)
theorem pos_of {ns : List Int} {m : Int} (h : m ∈ ns) : 0 < ns.length := by
  cases ns with
  | nil => cases h
  | cons _ _ => exact Nat.succ_pos _
theorem cal_max : CalD K ca (fun xs H Q => rMax K xs H Q ∨ rMax2 xs H Q) gMax := fun Z H c xs ds d' Q z co r hg q => by
  unfold gMax at hg
  split at hg
  · rename_i ys
    cases hs : intA ys with
    | none => rw [hs] at hg; cases hg
    | some ns =>
      rw [hs] at hg
      have hg : ns.max?.map D.int = some d' := hg
      cases hm : ns.max? with
      | none => rw [hm] at hg; cases hg
      | some m =>
        rw [hm] at hg; cases hg
        cases r with | cons r1 r2 => cases r1 with | lst n h ra =>
        cases r2
        refine .inl ⟨_, ns, rfl, by rw [← (intA_rl ra hs).1]; exact SqL.of h, pos_of (List.max?_eq_some_iff.mp hm).1, fun k hk hall => ?_⟩
        rw [max_one hm hk hall]
        exact q _ H .refl (.int _) co
  · cases hg
    cases r with | cons r1 r2 => cases r1; cases r2 with | cons r3 r4 => cases r3; cases r4; exact .inr ⟨_, _, rfl, q _ H .refl (.int _) co⟩
  · cases hg
theorem cr_maxA (hc : X.calm = true) : CallR X (.builtin "max") (fun xs H Q => rMax X.K xs H Q ∨ rMax2 xs H Q) := callR_or (cr_max hc) (call_max2 hc)
/-! ### split -/
def gSplit : D → List D → Option D
  | .str a, [.str b] => if (b.length == 0) = false ∧ a.length + 2 ≤ sizeLine then some (.lst ((Txt.split a b).map D.str)) else none
  | _, _ => none
theorem strs_rl {Z : Addr → Prop} {H : Hp} : ∀ ys : List Str, RlA K ca Z H (ys.map V.str) (ys.map D.str)
  | [] => .nil
  | y :: ys => .cons (.str y) (strs_rl ys)
theorem met_split : MetD K ca "str" (fun x xs H Q => ∃ a b, x = .str a ∧ xs = [.str b] ∧ (b.length == 0) = false ∧ a.length + 2 ≤ sizeLine ∧ rNewStrs (Txt.split a b) H Q) gSplit := fun Z H c x xs d d' ds Q z co r ra hg q => by
  unfold gSplit at hg
  split at hg
  · rename_i a b
    split at hg
    · rename_i h
      cases hg
      cases r
      cases ra with | cons r1 r2 =>
      cases r1; cases r2
      exact ⟨a, b, rfl, rfl, h.1, h.2, fun p np => q _ _ (ExtP.new np) (.lst (z.free np) upd_same (strs_rl _)) (co.new np)⟩
    · cases hg
  · cases hg
/-! ### own lists looked at -/
/-- x[i] -/
def eIxO (i : Nat) (f : Ev → M D) : Ev → M D := fun ρ => match ρ[i]? with
  | some (.own (.lst xs)) => f ρ >>= fun k => liftO (intO k) >>= fun k => liftO (atI xs k)
  | _ => stuck
theorem d_ixO (i : Nat) {x : Str} {ie : Expr} {f : Ev → M D} {vpos pos : Pos} (he : PE X ie (tD X.K ca E f)) (hN : X.N[i]? = some x := by rfl) (hv : Vis X.env.scope x := by first | exact Or.inl rfl | exact Or.inr (Or.inl rfl) | exact Or.inr (Or.inr rfl)) (hd : (x == ("__debug__" : Str)) = false := by decide) (hcd : (x == ("__classdict__" : Str)) = false := by decide)
    (hs : PlainIx ie := by exact fun _ _ => rfl) : PE X (.Subscript (.Name x vpos) ie pos) (tD X.K ca E (eIxO i f)) := by
  refine ⟨fun pins s σ H Q I h => (pe_ix ix_seq (pe_var (i := i) hN hv hd hcd) he hs).run pins s σ H Q I ?_⟩
  obtain ⟨Z, Y, ρ, c, eo, co, h⟩ := h
  unfold eIxO at h
  cases hi : ρ[i]? with
  | none => rw [hi] at h; exact h.elim
  | some sl =>
    rw [hi] at h
    cases sl with
    | no => exact h.elim
    | val d => exact h.elim
    | own d =>
      cases d with
      | lst xs =>
        have h : Do X.K ca E (U Z Y) H ((f ρ >>= fun k => liftO (intO k) >>= fun k => liftO (atI xs k)) c) _ := h
        obtain ⟨a, h1, h2, h3⟩ := eo.own i _ hi
        refine ⟨.ref a, h1, Z, Y, ρ, c, eo, co, (Do.bind h).mono fun d c1 q1 k H2 e2 r2 co2 => ?_⟩
        obtain ⟨j, hj, q2⟩ := Do.lift (Do.bind q1)
        obtain ⟨d', hd', q3⟩ := Do.lift q2
        obtain ⟨a', k1, k2, k3⟩ := (eo.ext e2).own i _ hi
        rw [h1] at k1; cases k1
        obtain ⟨vs, hH, rv⟩ := k3
        obtain ⟨v, hv', rl⟩ := atI_rl rv hd'
        cases r2 <;> first | (cases hj; done) | skip
        cases hj
        exact .inl ⟨a, vs, _, v, rfl, rfl, SqL.of hH, hv', q3 v H2 e2 rl co2⟩
      | _ => exact h.elim
/-- len(x) -/
def eLenO (i : Nat) : Ev → M D := eBor i (eArgs gLen (aCons (eVar i) aNil))
end
/-! ### defs that call themselves -/
section
variable {P : Program} {w : World} {K : PySem.W.Frag} {mg : Str → Option Value} {base : Heap} {k : Nat} {x : Str} {st : Stmt} {ps : List Str}
theorem DefG.stk (hf : ∃ fd, FunD K x x (defArgs st) (defBody st) (defScope st) [] [] (He.ga K x) fd) (hm : mg x = some (.ref (He.ga K x)))
    (hb : ∀ (kV doc pm : Value) (an : Option Addr) (cdv ct : Value) (us : List Value), us.length = ps.length → bindArgs (PySem.W.fnOf x x (defArgs st) (defBody st) (defScope st) .none kV doc pm an cdv ct) ⟨us, []⟩ = pure (ps.zip us)) : DefG P w K mg base k x st ps fun _ => stuck := by
  obtain ⟨fd, F⟩ := hf
  refine ⟨fd, F, hm, ⟨fun vs H Q E h => spD_len h, fun A outer s H args us xs Q E gd room e0 bound r wish => ?_⟩, FunD.bindsN F hb⟩
  obtain ⟨ca, Z, c, ds, _, _, _, _, h⟩ := wish
  exact h.elim
theorem DefG.up {j : Nat} {F : List D → M D} (h : DefG P w K mg base j x st ps F) (hj : j ≤ k) : DefG P w K mg base k x st ps F := by
  obtain ⟨fd, a, b, c, d⟩ := h
  exact ⟨fd, a, b, c.mono hj, d⟩
end
end G

set_option Elab.async false
set_option linter.all false
set_option maxRecDepth 100000
set_option maxHeartbeats 8000000
/-! GX: small things for the printer. -/
namespace G
open PySem PySem.Spec PyProof.Rows L2
theorem roomI {k : Nat} {A : Around} (r : Room k A) : A.units + 1 < cLine := by have := r.un; omega
/-- where the surroundings are not known yet -/
theorem DefG.here {X : Cx} {P : Program} {w : World} {K : PySem.W.Frag} {mg : Str → Option Value} {base : Heap} {k : Nat} {x : Str} {st : Stmt} {ps : List Str} {F : List D → M D} (h : DefG P w K mg base k x st ps F) (e1 : X.prog = P := by rfl) (e2 : X.w = w := by rfl) (e3 : X.K = K := by rfl) (e4 : X.mg = mg := by rfl) (e5 : X.base = base := by rfl) :
    DefG X.prog X.w X.K X.mg X.base k x st ps F := by
  subst e1 e2 e3 e4 e5
  exact h
def gSortA (xs : List D) : Option D := match xs with
  | [.dic _ _] => gSortK xs
  | _ => gSorted xs
theorem cal_sortA {K : PySem.W.Frag} {ca : Dr} : CalD K ca (fun xs H Q => rSortD K ca xs H Q ∨ rSortK xs H Q) gSortA := fun Z H c xs ds d' Q z co r hg q => by
  unfold gSortA at hg
  split at hg
  · exact .inr (cal_sortK Z H c xs _ d' Q z co r hg q)
  · exact .inl (cal_sorted Z H c xs _ d' Q z co r hg q)
end G

set_option Elab.async false
set_option linter.all false
set_option maxRecDepth 100000
set_option maxHeartbeats 8000000
/-! GW: running mirrors: the newer forms. -/
namespace G
open PySem PySem.Spec PyProof.Rows L2
section
variable {α : Type} {ρ : Ev} {c : Churn} {fa fb fc fi : Ev → M D} {c1 c2 : Ev → M Bool} {fs : Ev → M (List D)} {gx : AX} {k : D → Churn → Prop} {kb : Bool → Churn → Prop} {ks : List D → Churn → Prop} {kx : List Sl → Churn → Prop} {kp : Ev × Ctl → Churn → Prop} {s t : Sm} {i j l : Nat} {T : String}
theorem ok_sOwn : Ok (sOwn i fa ρ c) kp = Ok (fa ρ c) fun d c1 => kp (ρ.set i (.own d), .nx) c1 := by
  unfold sOwn; simp only [ok_bind, ok_pure]
theorem ok_sFz : Ok (sFz i s ρ c) kp = Ok (s (frzE i ρ) c) kp := rfl
theorem frz_own {d : D} (h : ρ[i]? = some (.own d)) : frzE i ρ = ρ.set i (.val d) := by unfold frzE; rw [h]
theorem ok_cBor : Ok (cBor i c1 ρ c) kb = Ok (c1 (frzE i ρ) c) kb := by unfold cBor; rw [ok_nx]
theorem ok_eBor : Ok (eBor i fa ρ c) k = Ok (fa (frzE i ρ) c) fun d c1 => isFlat d = true ∧ k d c1 := by
  unfold eBor; simp only [ok_bind, ok_nx, ok_ite, ok_pure, ok_stuck]
  congr 1; funext d c1; apply propext
  by_cases h : isFlat d = true <;> simp [h]
theorem ok_sMut {gm : D → List D → Option (D × D)} : Ok (sMut i T gm fs ρ c) kp = ∃ d, ρ[i]? = some (.own d) ∧ tyD T d = true ∧ Ok (fs ρ c) fun xs c1 => ∃ y d', gm d xs = some (y, d') ∧ kp (ρ.set i (.own d'), .nx) c1 := by
  apply propext
  unfold sMut
  cases e : ρ[i]? with
  | none => exact ⟨fun h => h.elim, fun ⟨d, h, _⟩ => by cases h⟩
  | some sl =>
    cases sl with
    | no => exact ⟨fun h => h.elim, fun ⟨d, h, _⟩ => by cases h⟩
    | val d => exact ⟨fun h => h.elim, fun ⟨d, h, _⟩ => by cases h⟩
    | own d =>
      by_cases ht : tyD T d = true
      · simp only [ht, if_true, ok_bind, ok_lift, ok_pure]
        constructor
        · intro h
          exact ⟨d, rfl, ht, h.mono fun xs c1 ⟨p, h1, h2⟩ => ⟨p.1, p.2, h1, h2⟩⟩
        · rintro ⟨d', h, _, q⟩
          cases h
          exact q.mono fun xs c1 ⟨y, d', h1, h2⟩ => ⟨(y, d'), h1, h2⟩
      · constructor
        · intro h
          have h : Ok ((if tyD T d = true then fs ρ >>= fun xs => liftO (gm d xs) >>= fun p => (pure (ρ.set i (.own p.2), Ctl.nx) : M (Ev × Ctl)) else stuck) c) kp := h
          rw [if_neg ht] at h
          exact h.elim
        · rintro ⟨d', h, h2, _⟩
          cases h; exact absurd h2 ht
theorem ok_sPut {gp : D → D → D → Option D} : Ok (sPut i gp fa fi ρ c) kp = Ok (fa ρ c) fun v c1 => ∃ d, ρ[i]? = some (.own d) ∧ Ok (fi ρ c1) fun x c2 => ∃ d', gp d x v = some d' ∧ kp (ρ.set i (.own d'), .nx) c2 := by
  unfold sPut
  rw [ok_bind]
  congr 1; funext v c1; apply propext
  cases e : ρ[i]? with
  | none => exact ⟨fun h => h.elim, fun ⟨d, h, _⟩ => by cases h⟩
  | some sl =>
    cases sl with
    | no => exact ⟨fun h => h.elim, fun ⟨d, h, _⟩ => by cases h⟩
    | val d => exact ⟨fun h => h.elim, fun ⟨d, h, _⟩ => by cases h⟩
    | own d =>
      simp only [ok_bind, ok_lift, ok_pure]
      exact ⟨fun h => ⟨d, rfl, h⟩, fun ⟨d', h, q⟩ => by cases h; exact q⟩
theorem ok_xNil : Ok (xNil ρ c) kx = kx [] c := ok_pure
theorem ok_xVal : Ok (xVal fa gx ρ c) kx = Ok (fa ρ c) fun d c1 => Ok (gx ρ c1) fun sl c2 => kx (.val d :: sl) c2 := by
  unfold xVal; simp only [ok_bind, ok_pure]
theorem ok_xOwn : Ok (xOwn fa gx ρ c) kx = Ok (fa ρ c) fun d c1 => Ok (gx ρ c1) fun sl c2 => kx (.own d :: sl) c2 := by
  unfold xOwn; simp only [ok_bind, ok_pure]
theorem ok_parX : Ok (sParX i j gx ρ c) kp = Ok (gx ρ c) fun sls c1 => ∃ a b, sls = [a, b] ∧ kp ((ρ.set i a).set j b, .nx) c1 := by
  unfold sParX; simp only [ok_bind]
  congr 1; funext ds c1; apply propext
  match ds with
  | [d, e] => exact ⟨fun h => ⟨d, e, rfl, h⟩, fun ⟨_, _, h, q⟩ => by cases h; exact q⟩
  | [] => simp [ok_stuck]
  | [_] => simp [ok_stuck]
  | _ :: _ :: _ :: _ => simp [ok_stuck]
theorem ok_parX3 : Ok (sParX3 i j l gx ρ c) kp = Ok (gx ρ c) fun sls c1 => ∃ a b d, sls = [a, b, d] ∧ kp (((ρ.set i a).set j b).set l d, .nx) c1 := by
  unfold sParX3; simp only [ok_bind]
  congr 1; funext ds c1; apply propext
  match ds with
  | [d, e, f] => exact ⟨fun h => ⟨d, e, f, rfl, h⟩, fun ⟨_, _, _, h, q⟩ => by cases h; exact q⟩
  | [] => simp [ok_stuck]
  | [_] => simp [ok_stuck]
  | [_, _] => simp [ok_stuck]
  | _ :: _ :: _ :: _ :: _ => simp [ok_stuck]
theorem ok_zip : Ok (iZipM fs ρ c) ks = Ok (fs ρ c) fun x c1 => ∃ z, zipD x = some z ∧ ks z c1 := by
  unfold iZipM; simp only [ok_bind, ok_lift]
theorem ok_enum : Ok (iEnumM fs ρ c) ks = Ok (fs ρ c) fun x c1 => ∃ z, enumD x = some z ∧ ks z c1 := by
  unfold iEnumM; simp only [ok_bind, ok_lift]
theorem ok_star : Ok (aStar fa fs ρ c) ks = Ok (fa ρ c) fun x c1 => ∃ xs, seqOf x = some xs ∧ Ok (fs ρ c1) fun ys c2 => ks (xs ++ ys) c2 := by
  unfold aStar; simp only [ok_bind, ok_lift, ok_pure]
def sortItemsD : D → Option D
  | .dic ks vs => if sortOk (itemsD ks vs) = true then some (.lst (sortD (itemsD ks vs))) else none
  | _ => none
theorem ok_sortItems : Ok (eSortItems fa ρ c) k = Ok (fa ρ c) fun x c1 => ∃ z, sortItemsD x = some z ∧ k z c1 := by
  unfold eSortItems; simp only [ok_bind, ok_lift]; rfl
theorem ok_dict0 : Ok (eDict0 ρ c) k = k (.dic [] []) c := ok_pure
theorem ok_ixO : Ok (eIxO i fa ρ c) k = ∃ xs, ρ[i]? = some (.own (.lst xs)) ∧ Ok (fa ρ c) fun x c1 => ∃ n, intO x = some n ∧ ∃ d, atI xs n = some d ∧ k d c1 := by
  apply propext
  unfold eIxO
  cases e : ρ[i]? with
  | none => exact ⟨fun h => h.elim, fun ⟨d, h, _⟩ => by cases h⟩
  | some sl =>
    cases sl with
    | no => exact ⟨fun h => h.elim, fun ⟨d, h, _⟩ => by cases h⟩
    | val d => exact ⟨fun h => h.elim, fun ⟨d, h, _⟩ => by cases h⟩
    | own d =>
      cases d with
      | lst xs =>
        simp only [ok_bind, ok_lift]
        exact ⟨fun h => ⟨xs, rfl, h⟩, fun ⟨d', h, q⟩ => by cases h; exact q⟩
      | _ => exact ⟨fun h => h.elim, fun ⟨d, h, _⟩ => by cases h⟩
end
end G

set_option Elab.async false
set_option linter.all false
set_option maxRecDepth 100000
set_option maxHeartbeats 8000000
/-! GY: == of things of unlike kinds, dicts among them; of lists of unlike lengths. -/
namespace G
open PySem PySem.Spec PyProof.Rows L2 MeetsSeq MeetsSeq2 MeetsSeq3 SeqRoads2 Calls
open AutoSeq1 (wpAny_loadPart')
section
variable {M : Model} {prog : Program} {w : World} {A : Around} {E : Value → Shared → Prop} {s : Shared} {Q : Value → Shared → Prop}
theorem dict_declines {d u : Value} {T : String} (hd : s.TypeIs d "dict") (hu : s.TypeIs u T) (hsub : isSubtype (.type T) (.type "dict") = pure false) (id : Value) {slot : Str} (hslot : Slot "dict" slot "dict.__eq__") (h : Q .notImplemented s) :
    wpAny (model prog w) A (call (.builtin "dict.__eq__") [d, u]) Q E s := by
  refine wpAny_call_entry hslot hd PySem.F.entry_dict_eq ?_ (PySem.F.args_dict_eq_2 _ _)
  show wpAny _ _ (Builtin.Dict.dictSlotArgs "__eq__" ⟨[d, u], []⟩ >>= _) _ _ s
  refine wpAny_bind ?_
  unfold Builtin.Dict.dictSlotArgs
  refine wpAny_bind (wpAny_notOrdered_dict hd ?_)
  show wpAny _ _ (pure (d, u)) _ _ s
  refine wpAny_pure ?_
  refine wpAny_bind (wpAny_isInstance (T := T) hu hsub ?_)
  simp only [Bool.not_false, if_true]
  refine wpAny_bind (wpAny_rule ?_)
  exact wpAny_bind (wpAny_pure (wpAny_pure ⟨_, rfl, h⟩))
variable {l d : Addr} {items : Array Value} {o : Obj}
theorem str_decl (b : Str) (u : Tok) (l : Addr) (es : Array DictEntry) (ep : Nat) (dd : Option Addr) (sl : Array (Option Value)) :
    Meets (Builtin.«str.__eq__» ⟨[.str b u, .ref l], []⟩) (fun _ R s => s.heap.get? l = some { cls := .type "dict", dict := dd, data := .dict es ep, slots := sl } ∧ R (.ok (.ret .notImplemented)) s) :=
  .of_wp fun prog w A R s h => by obtain ⟨hp, g, d, tk, os⟩ := s; obtain ⟨hl, h⟩ := h; wp_walk using wpAny_loadPart' hl, wpAny_load hl; exact ⟨_, rfl, h⟩
theorem int_decl (b : Int) (u : Tok) (l : Addr) (es : Array DictEntry) (ep : Nat) (dd : Option Addr) (sl : Array (Option Value)) :
    Meets (Builtin.«int.__eq__» ⟨[.int b u, .ref l], []⟩) (fun _ R s => s.heap.get? l = some { cls := .type "dict", dict := dd, data := .dict es ep, slots := sl } ∧ R (.ok (.ret .notImplemented)) s) :=
  .of_wp fun prog w A R s h => by obtain ⟨hp, g, d, tk, os⟩ := s; obtain ⟨hl, h⟩ := h; wp_walk using wpAny_loadPart' hl, wpAny_load hl; exact ⟨_, rfl, h⟩
theorem bool_decl (b : Bool) (l : Addr) (es : Array DictEntry) (ep : Nat) (dd : Option Addr) (sl : Array (Option Value)) :
    Meets (Builtin.«int.__eq__» ⟨[.bool b, .ref l], []⟩) (fun _ R s => s.heap.get? l = some { cls := .type "dict", dict := dd, data := .dict es ep, slots := sl } ∧ R (.ok (.ret .notImplemented)) s) :=
  .of_wp fun prog w A R s h => by obtain ⟨hp, g, d, tk, os⟩ := s; obtain ⟨hl, h⟩ := h; wp_walk using wpAny_loadPart' hl, wpAny_load hl; exact ⟨_, rfl, h⟩
theorem list_decl (l b : Addr) (items : Array Value) (n : Nat) (es : Array DictEntry) (ep : Nat) (dd dd2 : Option Addr) (sl sl2 : Array (Option Value)) :
    Meets (Builtin.«list.__eq__» ⟨[.ref l, .ref b], []⟩) (fun _ R s => s.heap.get? l = some { cls := .type "list", dict := dd, data := .seq items n, slots := sl } ∧ s.heap.get? b = some { cls := .type "dict", dict := dd2, data := .dict es ep, slots := sl2 } ∧ R (.ok (.ret .notImplemented)) s) :=
  .of_wp fun prog w A R s h => by obtain ⟨hp, g, d, tk, os⟩ := s; obtain ⟨hl, hb, h⟩ := h; have f1 := F.sub_dict_list; wp_walk using wpAny_loadPart' hl, wpAny_loadPart' hb; exact ⟨_, rfl, h⟩
theorem tuple_decl (l b : Addr) (items : Array Value) (n : Nat) (es : Array DictEntry) (ep : Nat) (dd dd2 : Option Addr) (sl sl2 : Array (Option Value)) :
    Meets (Builtin.«tuple.__eq__» ⟨[.ref l, .ref b], []⟩) (fun _ R s => s.heap.get? l = some { cls := .type "tuple", dict := dd, data := .seq items n, slots := sl } ∧ s.heap.get? b = some { cls := .type "dict", dict := dd2, data := .dict es ep, slots := sl2 } ∧ R (.ok (.ret .notImplemented)) s) :=
  .of_wp fun prog w A R s h => by obtain ⟨hp, g, d, tk, os⟩ := s; obtain ⟨hl, hb, h⟩ := h; have f1 := F.sub_dict_tuple; wp_walk using wpAny_loadPart' hl, wpAny_loadPart' hb; exact ⟨_, rfl, h⟩
/-- what sort of thing a value is -/
inductive KindS (s : Shared) : Value → Nat → Prop
  | non : KindS s .none 0
  | bool (b : Bool) : KindS s (.bool b) 1
  | int (i : Int) (t : Tok) : KindS s (.int i t) 1
  | str (x : Str) (t : Tok) : KindS s (.str x t) 2
  | lst {l : Addr} {items : Array Value} : s.heap.IsList l items → KindS s (.ref l) 3
  | tup {l : Addr} {items : Array Value} : s.heap.IsTuple l items → KindS s (.ref l) 4
  | dic {l : Addr} {es : Array DictEntry} {ep : Nat} {dd : Option Addr} {sl : Array (Option Value)} : s.heap.get? l = some { cls := .type "dict", dict := dd, data := .dict es ep, slots := sl } → KindS s (.ref l) 5
theorem tdict {l : Addr} {es : Array DictEntry} {ep : Nat} {dd : Option Addr} {sl : Array (Option Value)} (h : s.heap.get? l = some { cls := .type "dict", dict := dd, data := .dict es ep, slots := sl }) : s.TypeIs (.ref l) "dict" := ⟨_, h, rfl⟩
theorem rc_d_other {l : Addr} {es : Array DictEntry} {ep : Nat} {dd : Option Addr} {sl : Array (Option Value)} {u : Value} {i : Nat} (h : s.heap.get? l = some { cls := .type "dict", dict := dd, data := .dict es ep, slots := sl }) (hu : A.units < cLine) (k : KindS s u i) (n : i ≠ 5) :
    SeqAt.RcAt A s (.ref l) u false ∧ SeqAt.RcAt A s u (.ref l) false := by
  have td := tdict h
  cases k with
  | non =>
    refine ⟨fun prog w E Q q => ?_, fun prog w E Q q => ?_⟩
    · exact SeqAt.rc_eq_decline_or (k := false) td rfl (by decide) F.sub_NoneType_dict F.slot_dict_eq F.slot_NoneType_eq_refl (fun _ hq => dict_declines td rfl F.sub_NoneType_dict .none F.slot_dict_eq hq)
        (fun _ hq => call_gives F.slot_NoneType_eq_refl rfl F.entry_NoneType_eq (F.args_NoneType_eq_2 _ _) (SeqAt.NoneType___eq___none_ref_0 l) hq) (fun _ hq => wpAny_of_eq (rfl : isSame (.ref l) .none = pure false) hq) (.inr hu) q
    · exact SeqAt.rc_eq_decline_or (k := false) rfl td (by decide) F.sub_dict_NoneType F.slot_NoneType_eq F.slot_dict_eq_refl
        (fun _ hq => call_gives F.slot_NoneType_eq rfl F.entry_NoneType_eq (F.args_NoneType_eq_2 _ _) (SeqAt.NoneType___eq___none_ref_0 l) hq) (fun _ hq => dict_declines td rfl F.sub_NoneType_dict .none F.slot_dict_eq_refl hq) (fun _ hq => wpAny_of_eq (rfl : isSame .none (.ref l) = pure false) hq) (.inr hu) q
  | bool b =>
    refine ⟨fun prog w E Q q => ?_, fun prog w E Q q => ?_⟩
    · exact SeqAt.rc_eq_decline_or (k := false) td rfl (by decide) F.sub_bool_dict F.slot_dict_eq F.slot_bool_eq_refl (fun _ hq => dict_declines td rfl F.sub_bool_dict .none F.slot_dict_eq hq)
        (fun _ hq => call_meets F.slot_bool_eq_refl rfl F.entry_int_eq (F.args_int_eq_2 _ _) (bool_decl b l es ep dd sl) ⟨h, hq⟩) (fun _ hq => wpAny_of_eq (rfl : isSame (.ref l) (.bool b) = pure false) hq) (.inr hu) q
    · exact SeqAt.rc_eq_decline_or (k := false) rfl td (by decide) F.sub_dict_bool F.slot_bool_eq F.slot_dict_eq_refl
        (fun _ hq => call_meets F.slot_bool_eq rfl F.entry_int_eq (F.args_int_eq_2 _ _) (bool_decl b l es ep dd sl) ⟨h, hq⟩) (fun _ hq => dict_declines td rfl F.sub_bool_dict .none F.slot_dict_eq_refl hq) (fun _ hq => wpAny_of_eq (rfl : isSame (.bool b) (.ref l) = pure false) hq) (.inr hu) q
  | int b t =>
    refine ⟨fun prog w E Q q => ?_, fun prog w E Q q => ?_⟩
    · exact SeqAt.rc_eq_decline_or (k := false) td (typeIs_int s b t) (by decide) F.sub_int_dict F.slot_dict_eq F.slot_int_eq_refl (fun _ hq => dict_declines td (typeIs_int s b t) F.sub_int_dict .none F.slot_dict_eq hq)
        (fun _ hq => call_meets F.slot_int_eq_refl (typeIs_int s b t) F.entry_int_eq (F.args_int_eq_2 _ _) (int_decl b t l es ep dd sl) ⟨h, hq⟩) (fun _ hq => wpAny_of_eq (rfl : isSame (.ref l) (.int b t) = pure false) hq) (.inr hu) q
    · exact SeqAt.rc_eq_decline_or (k := false) (typeIs_int s b t) td (by decide) F.sub_dict_int F.slot_int_eq F.slot_dict_eq_refl
        (fun _ hq => call_meets F.slot_int_eq (typeIs_int s b t) F.entry_int_eq (F.args_int_eq_2 _ _) (int_decl b t l es ep dd sl) ⟨h, hq⟩) (fun _ hq => dict_declines td (typeIs_int s b t) F.sub_int_dict .none F.slot_dict_eq_refl hq) (fun _ hq => wpAny_of_eq (rfl : isSame (.int b t) (.ref l) = pure false) hq) (.inr hu) q
  | str b t =>
    refine ⟨fun prog w E Q q => ?_, fun prog w E Q q => ?_⟩
    · exact SeqAt.rc_eq_decline_or (k := false) td (typeIs_str s b t) (by decide) F.sub_str_dict F.slot_dict_eq F.slot_str_eq_refl (fun _ hq => dict_declines td (typeIs_str s b t) F.sub_str_dict .none F.slot_dict_eq hq)
        (fun _ hq => call_meets F.slot_str_eq_refl (typeIs_str s b t) F.entry_str_eq (F.args_str_eq_2 _ _) (str_decl b t l es ep dd sl) ⟨h, hq⟩) (fun _ hq => wpAny_of_eq (rfl : isSame (.ref l) (.str b t) = pure false) hq) (.inr hu) q
    · exact SeqAt.rc_eq_decline_or (k := false) (typeIs_str s b t) td (by decide) F.sub_dict_str F.slot_str_eq F.slot_dict_eq_refl
        (fun _ hq => call_meets F.slot_str_eq (typeIs_str s b t) F.entry_str_eq (F.args_str_eq_2 _ _) (str_decl b t l es ep dd sl) ⟨h, hq⟩) (fun _ hq => dict_declines td (typeIs_str s b t) F.sub_str_dict .none F.slot_dict_eq_refl hq) (fun _ hq => wpAny_of_eq (rfl : isSame (.str b t) (.ref l) = pure false) hq) (.inr hu) q
  | @lst b items hl =>
    obtain ⟨⟨cls2, dd2, data2, sl2⟩, ho2, hc2, n2, hd2⟩ := id hl
    simp only at hc2 hd2
    subst hc2 hd2
    have tl : s.TypeIs (.ref b) "list" := ⟨_, ho2, rfl⟩
    have hne : l ≠ b := fun z => by rw [z, ho2] at h; simp at h
    refine ⟨fun prog w E Q q => ?_, fun prog w E Q q => ?_⟩
    · exact SeqAt.rc_eq_decline_or (k := false) td tl (by decide) F.sub_list_dict F.slot_dict_eq F.slot_list_eq_refl (fun _ hq => dict_declines td tl F.sub_list_dict .none F.slot_dict_eq hq)
        (fun _ hq => call_meets F.slot_list_eq_refl tl F.entry_list_eq (F.args_list_eq_2 _ _) (list_decl b l items n2 es ep dd2 dd sl2 sl) ⟨ho2, h, hq⟩) (fun _ hq => wpAny_isSame_ref_other hne h ho2 (by simp) hq) (.inr hu) q
    · exact SeqAt.rc_eq_decline_or (k := false) tl td (by decide) F.sub_dict_list F.slot_list_eq F.slot_dict_eq_refl
        (fun _ hq => call_meets F.slot_list_eq tl F.entry_list_eq (F.args_list_eq_2 _ _) (list_decl b l items n2 es ep dd2 dd sl2 sl) ⟨ho2, h, hq⟩) (fun _ hq => dict_declines td tl F.sub_list_dict .none F.slot_dict_eq_refl hq) (fun _ hq => wpAny_isSame_ref_other hne.symm ho2 h (by simp) hq) (.inr hu) q
  | @tup b items hl =>
    obtain ⟨⟨cls2, dd2, data2, sl2⟩, ho2, hc2, n2, hd2⟩ := id hl
    simp only at hc2 hd2
    subst hc2 hd2
    have tl : s.TypeIs (.ref b) "tuple" := ⟨_, ho2, rfl⟩
    have hne : l ≠ b := fun z => by rw [z, ho2] at h; simp at h
    refine ⟨fun prog w E Q q => ?_, fun prog w E Q q => ?_⟩
    · exact SeqAt.rc_eq_decline_or (k := false) td tl (by decide) F.sub_tuple_dict F.slot_dict_eq F.slot_tuple_eq_refl (fun _ hq => dict_declines td tl F.sub_tuple_dict .none F.slot_dict_eq hq)
        (fun _ hq => call_meets F.slot_tuple_eq_refl tl F.entry_tuple_eq (F.args_tuple_eq_2 _ _) (tuple_decl b l items n2 es ep dd2 dd sl2 sl) ⟨ho2, h, hq⟩) (fun _ hq => wpAny_isSame_ref_other hne h ho2 (by simp) hq) (.inr hu) q
    · exact SeqAt.rc_eq_decline_or (k := false) tl td (by decide) F.sub_dict_tuple F.slot_tuple_eq F.slot_dict_eq_refl
        (fun _ hq => call_meets F.slot_tuple_eq tl F.entry_tuple_eq (F.args_tuple_eq_2 _ _) (tuple_decl b l items n2 es ep dd2 dd sl2 sl) ⟨ho2, h, hq⟩) (fun _ hq => dict_declines td tl F.sub_tuple_dict .none F.slot_dict_eq_refl hq) (fun _ hq => SeqAt.wpAny_isSame_ref_other' hne.symm ho2 h (by simp) hq) (.inr hu) q
  | dic => exact absurd rfl n
end
end G

set_option Elab.async false
set_option linter.all false
set_option maxRecDepth 100000
set_option maxHeartbeats 8000000
/-! GZ: == and in of things of unlike kinds, as rules. -/
namespace G
open PySem PySem.Spec PyProof.Rows L2
section
variable {A : Around} {s : Shared}
theorem rc_kinds {u v : Value} {i j : Nat} (hu : A.units < cLine) (a : KindS s u i) (b : KindS s v j) (n : i ≠ j) : SeqAt.RcAt A s u v false := by
  cases a with
  | non =>
    cases b with
    | non => exact absurd rfl n
    | bool b => exact SeqAt.RcAt.none_bool b
    | int b t => exact SeqAt.RcAt.none_int b t
    | str b t => exact SeqAt.RcAt.none_str b t
    | lst h => exact SeqAt.RcAt.none_list h hu
    | tup h => exact SeqAt.RcAt.none_tuple h hu
    | dic h => exact (rc_d_other h hu .non (by decide)).2
  | bool x =>
    cases b with
    | non => exact SeqAt.RcAt.bool_none x
    | bool b => exact absurd rfl n
    | int b t => exact absurd rfl n
    | str b t => exact SeqAt.RcAt.bool_str x b t
    | lst h => exact SeqAt.RcAt.bool_list x h hu
    | tup h => exact SeqAt.RcAt.bool_tuple x h hu
    | dic h => exact (rc_d_other h hu (.bool x) (by decide)).2
  | int x t0 =>
    cases b with
    | non => exact SeqAt.RcAt.int_none x t0
    | bool b => exact absurd rfl n
    | int b t => exact absurd rfl n
    | str b t => exact SeqAt.RcAt.int_str x t0 b t
    | lst h => exact SeqAt.RcAt.int_list x t0 h hu
    | tup h => exact SeqAt.RcAt.int_tuple x t0 h hu
    | dic h => exact (rc_d_other h hu (.int x t0) (by decide)).2
  | str x t0 =>
    cases b with
    | non => exact SeqAt.RcAt.str_none x t0
    | bool b => exact SeqAt.RcAt.str_bool x t0 b
    | int b t => exact SeqAt.RcAt.str_int x t0 b t
    | str b t => exact absurd rfl n
    | lst h => exact SeqAt.RcAt.str_list x t0 h hu
    | tup h => exact SeqAt.RcAt.str_tuple x t0 h hu
    | dic h => exact (rc_d_other h hu (.str x t0) (by decide)).2
  | lst h0 =>
    cases b with
    | non => exact SeqAt.RcAt.list_none h0 hu
    | bool b => exact SeqAt.RcAt.list_bool b h0 hu
    | int b t => exact SeqAt.RcAt.list_int b t h0 hu
    | str b t => exact SeqAt.RcAt.list_str b t h0 hu
    | lst h => exact absurd rfl n
    | tup h => exact SeqAt.RcAt.list_tuple h0 h hu
    | dic h => exact (rc_d_other h hu (.lst h0) (by decide)).2
  | tup h0 =>
    cases b with
    | non => exact SeqAt.RcAt.tuple_none h0 hu
    | bool b => exact SeqAt.RcAt.tuple_bool b h0 hu
    | int b t => exact SeqAt.RcAt.tuple_int b t h0 hu
    | str b t => exact SeqAt.RcAt.tuple_str b t h0 hu
    | lst h => exact SeqAt.RcAt.tuple_list h0 h hu
    | tup h => exact absurd rfl n
    | dic h => exact (rc_d_other h hu (.tup h0) (by decide)).2
  | dic h0 => exact (rc_d_other h0 hu b fun z => n z.symm).1
theorem eq_flat_ref {u : Value} {l : Addr} {i : Nat} (k : KindS s u i) (hi : i < 3) (h : SeqAt.RcAt A s u (.ref l) false) : SeqAt.EqAt A s u (.ref l) false := fun prog w E Q hq => by
  cases k <;> first
    | (exfalso; omega)
    | (unfold eqBool
       refine wpAny_holding ?_
       refine wpAny_ite_split (fun hab => absurd (eq_of_beq hab) nofun) (fun _ => ?_)
       exact wpAny_bind (h prog w E _ (wpAny_truthy_bool hq)))
end
/-- sorts of values -/
inductive KindV (K : PySem.W.Frag) (H : Hp) : V → Nat → Prop
  | non : KindV K H .non 0
  | bl (b : Bool) : KindV K H (.bl b) 1
  | int (i : Int) : KindV K H (.int i) 1
  | str (x : Str) : KindV K H (.str x) 2
  | lst {a : Addr} {xs : List V} : SqL K H a xs → KindV K H (.ref a) 3
  | tup {a : Addr} {xs : List V} : SqT K H a xs → KindV K H (.ref a) 4
  | dic {a : Addr} {kvs : List (Key × V)} : H a = some (.dK kvs) → KindV K H (.ref a) 5
section
variable {X : Cx} {K : PySem.W.Frag} {ca : Dr} {pins : List (Addr × Obj)} {σ : L2.St} {H : Hp} {s : Shared}
theorem kind_of {v : V} {u : Value} {i : Nat} (I : L2.Inv X pins σ H s) (r : RelV v u) (k : KindV X.K H v i) : KindS s u i := by
  cases k with
  | non => cases r; exact .non
  | bl b => cases r; exact .bool b
  | int i => obtain ⟨t, rfl⟩ := r; exact .int i t
  | str x => obtain ⟨t, rfl⟩ := r; exact .str x t
  | lst h => cases r; obtain ⟨its, _, pl, _⟩ := I.list h; exact .lst pl.isList
  | tup h => cases r; obtain ⟨its, _, pl, _⟩ := I.tuple h; exact .tup pl
  | dic h =>
    cases r
    obtain ⟨_, _, vs, _, o, es, ep, ho, ex, hd, _⟩ := dk_of I.hok h
    obtain ⟨cls, dd, data, sl⟩ := o
    simp only at hd
    subst hd
    obtain ⟨e1, e2⟩ := ex
    simp only at e1
    subst e1
    exact .dic ho
def rEqN (K : PySem.W.Frag) : R2 := fun x y H Q => (∃ i j, KindV K H x i ∧ KindV K H y j ∧ i ≠ j ∧ Q (.bl false) H) ∨ ∃ a b xs ys, x = .ref a ∧ y = .ref b ∧ SqL K H a xs ∧ SqL K H b ys ∧ xs.length ≠ ys.length ∧ Q (.bl false) H
theorem op_eqN (hu : X.A.units + 1 < cLine) : OpR X (compareOp .Eq) (rEqN X.K) := by
  intro pins s σ H x y v u Q I rx ry h
  rcases h with ⟨i, j, k1, k2, n, q⟩ | ⟨a, b, xs, ys, rfl, rfl, h1, h2, n, q⟩
  · exact rc_kinds (by omega) (kind_of I rx k1) (kind_of I ry k2) n X.prog X.w X.xe _ ⟨.bl false, H, I, rfl, q⟩
  · cases rx; cases ry
    obtain ⟨its, r1, p1, _⟩ := I.list h1
    obtain ⟨its2, r2, p2, _⟩ := I.list h2
    refine SeqAt.eq_list_lengthsAt p1.isList p2.isList ?_ (by omega) ⟨.bl false, H, I, rfl, q⟩
    have e1 := r1.length
    have e2 := r2.length
    simp only [List.size_toArray]
    exact bne_iff_ne.mpr (by omega)
def rInN (K : PySem.W.Frag) (neg : Bool) : R2 := fun x y H Q => ∃ p xs i, y = .ref p ∧ (SqL K H p xs ∨ SqT K H p xs) ∧ KindV K H x i ∧ 3 ≤ i ∧ xs.all flatV = true ∧ Q (.bl neg) H
theorem flat_kind {xs : List V} (h : xs.all flatV = true) : ∀ x ∈ xs, ∃ i, KindV X.K H x i ∧ i < 3 := fun x hx => by
  have := List.all_eq_true.mp h x hx
  cases x <;> first | (cases this; done) | skip
  · exact ⟨0, .non, by decide⟩
  · exact ⟨1, .bl _, by decide⟩
  · exact ⟨1, .int _, by decide⟩
  · exact ⟨2, .str _, by decide⟩
theorem mem_vals {vs : List V} {us : List Value} (r : Vals vs us) : ∀ u ∈ us, ∃ v ∈ vs, RelV v u := by
  induction r with
  | nil => intro u hu; cases hu
  | cons h t ih =>
    intro u hu
    rcases List.mem_cons.mp hu with z | z
    · subst z; exact ⟨_, List.mem_cons_self .., h⟩
    · obtain ⟨v, hv, r⟩ := ih u z; exact ⟨v, List.mem_cons_of_mem _ hv, r⟩
theorem ref_of_kind {K : PySem.W.Frag} {x : V} {i : Nat} (k : KindV K H x i) (h : 3 ≤ i) : ∃ a, x = .ref a := by
  cases k <;> first | (exfalso; omega) | exact ⟨_, rfl⟩
theorem in_none {a : Addr} {its : List Value} {xs : List V} {i : Nat} (hu : X.A.units + 1 < cLine) (I : L2.Inv X pins σ H s) (r : Vals xs its) (f : xs.all flatV = true) (k : KindS s (.ref a) i) (hi : 3 ≤ i) : ∀ w, w ∈ its.toArray → SeqAt.EqAt X.A.in1 s w (.ref a) false := fun w hw => by
  obtain ⟨v, hv, rv⟩ := mem_vals r w (by simpa using hw)
  obtain ⟨j, kj, hj⟩ := flat_kind (X := X) (H := H) f v hv
  have ks := kind_of I rv kj
  exact eq_flat_ref ks hj (rc_kinds (by show X.A.units + 1 < cLine; omega) ks k (by omega))
theorem any_no {its : Array Value} : (its.any fun _ => false) = false := by
  rw [Array.any_eq_false]; simp
theorem op_inN (hu : X.A.units + 1 < cLine) : OpR X (compareOp .In) (rInN X.K false) := by
  intro pins s σ H x y v u Q I rx ry h
  obtain ⟨p, xs, i, rfl, hq, k, hi, f, q⟩ := h
  cases ry
  obtain ⟨a, rfl⟩ := ref_of_kind k hi
  cases rx
  have ks := kind_of I (show RelV (.ref a) (.ref a) from rfl) k
  rcases hq with hq | hq
  · obtain ⟨its, r, pl, hz⟩ := I.list hq
    exact SeqAt.in_listAt (fun _ => false) pl.isList (in_none hu I r f ks hi) ⟨.bl _, H, I, (by rw [any_no]; rfl), q⟩
  · obtain ⟨its, r, pl, hz⟩ := I.tuple hq
    exact SeqAt.in_tupleAt (fun _ => false) pl (in_none hu I r f ks hi) ⟨.bl _, H, I, (by rw [any_no]; rfl), q⟩
theorem op_notInN (hu : X.A.units + 1 < cLine) : OpR X (compareOp .NotIn) (rInN X.K true) := by
  intro pins s σ H x y v u Q I rx ry h
  obtain ⟨p, xs, i, rfl, hq, k, hi, f, q⟩ := h
  cases ry
  obtain ⟨a, rfl⟩ := ref_of_kind k hi
  cases rx
  have ks := kind_of I (show RelV (.ref a) (.ref a) from rfl) k
  rcases hq with hq | hq
  · obtain ⟨its, r, pl, hz⟩ := I.list hq
    exact SeqAt.notIn_listAt (fun _ => false) pl.isList (in_none hu I r f ks hi) ⟨.bl _, H, I, (by rw [any_no]; rfl), q⟩
  · obtain ⟨its, r, pl, hz⟩ := I.tuple hq
    exact SeqAt.notIn_tupleAt (fun _ => false) pl (in_none hu I r f ks hi) ⟨.bl _, H, I, (by rw [any_no]; rfl), q⟩
/-! ### over trees -/
def kindD : D → Option Nat
  | .non => some 0
  | .bl _ => some 1
  | .int _ => some 1
  | .str _ => some 2
  | .lst _ => some 3
  | .tup _ => some 4
  | .dic _ _ => some 5
  | _ => none
theorem kind_rl {Z : Addr → Prop} {v : V} {d : D} {i : Nat} (r : Rl K ca Z H v d) (h : kindD d = some i) : KindV K H v i := by
  cases r <;> first | (cases h; done) | skip
  · cases h; exact .non
  · cases h; exact .bl _
  · cases h; exact .int _
  · cases h; exact .str _
  · cases h; exact .lst (SqL.of (by assumption))
  · cases h; rename_i h _; exact .tup h.s
  · cases h; exact .dic (by assumption)
/-- lists of unlike lengths, things of unlike sorts -/
def apart (x y : D) : Bool := match x, y with
  | .lst xs, .lst ys => xs.length != ys.length
  | x, y => match kindD x, kindD y with
    | some i, some j => i != j
    | _, _ => false
theorem apart_V {Z : Addr → Prop} {x y : V} {d e : D} (r1 : Rl K ca Z H x d) (r2 : Rl K ca Z H y e) (h : apart d e = true) (Q : VK) (q : Q (.bl false) H) : rEqN K x y H Q := by
  unfold apart at h
  split at h
  · cases r1 with | lst n1 h1 a1 => cases r2 with | lst n2 h2 a2 =>
    exact .inr ⟨_, _, _, _, rfl, rfl, SqL.of h1, SqL.of h2, by rw [a1.length, a2.length]; exact bne_iff_ne.mp h, q⟩
  · split at h
    · rename_i i j e1 e2
      exact .inl ⟨i, j, kind_rl r1 e1, kind_rl r2 e2, bne_iff_ne.mp h, q⟩
    · cases h
/-- any == -/
def gEqA : D → D → Option Bool := fun x y => if apart x y = true then some false else gEqX false x y
theorem op_eqA (hu : X.A.units + 64 < cLine) : OpR X (compareOp .Eq) (fun x y H Q => rEqN X.K x y H Q ∨ rEqX X.K x y H Q) := (op_eqN (by omega)).or (op_eqX hu)
theorem cmp_eqA : BinB K ca (fun x y H Q => rEqN K x y H Q ∨ rEqX K x y H Q) gEqA := fun Z H c x y d e k Q z co r1 r2 hg q => by
  unfold gEqA at hg
  split at hg
  · rename_i h
    cases hg
    exact .inl (apart_V r1 r2 h Q (q H .refl co))
  · exact .inr (cmp_eqX Z H c x y d e k Q z co r1 r2 hg q)
/-- any in -/
def big (x : D) : Bool := match kindD x with
  | some i => decide (3 ≤ i)
  | none => false
def gInB (neg : Bool) (x y : D) : Option Bool := match y with
  | .dic _ _ => gInK neg x y
  | .str _ => gInS neg x y
  | _ => if big x = true then (seqOf y).bind fun ys => (flA ys).map fun _ => neg else gInF neg x y
def rSign (neg : Bool) : R2 := fun x y H Q => ∃ (c : Nat) (z : Str), x = .str ⟨#[c]⟩ ∧ y = .str z ∧ Q (.bl (if neg then !decide (c ∈ z.cps.toList) else decide (c ∈ z.cps.toList))) H
theorem op_inB (hu : X.A.units + 1 < cLine) : OpR X (compareOp .In) (fun x y H Q => ((rIn X.K false x y H Q ∨ rInK false x y H Q) ∨ rInN X.K false x y H Q) ∨ rSign false x y H Q) := ((op_inA hu).or (op_inN hu)).or op_in_sign
theorem op_notInB (hu : X.A.units + 1 < cLine) : OpR X (compareOp .NotIn) (fun x y H Q => ((rIn X.K true x y H Q ∨ rInK true x y H Q) ∨ rInN X.K true x y H Q) ∨ rSign true x y H Q) := ((op_notInA hu).or (op_notInN hu)).or op_notIn_sign
theorem cmp_inB {neg : Bool} : BinB K ca (fun x y H Q => ((rIn K neg x y H Q ∨ rInK neg x y H Q) ∨ rInN K neg x y H Q) ∨ rSign neg x y H Q) (gInB neg) := fun Z H c x y d e k Q z co r1 r2 hg q => by
  unfold gInB at hg
  split at hg
  · exact .inl (.inl (.inr (cmp_inK Z H c x y d _ k Q z co r1 r2 hg q)))
  · refine .inr ?_
    unfold gInS at hg
    split at hg
    · rename_i a b heq
      cases ha : sign? a with
      | none => rw [ha] at hg; cases hg
      | some sg =>
        rw [ha] at hg; cases hg; cases r1; cases r2; cases heq
        exact ⟨sg, _, by rw [sign_of ha], rfl, q H .refl co⟩
    · cases hg
  · split at hg
    · rename_i hb
      unfold big at hb
      cases hk : kindD d with
      | none => rw [hk] at hb; cases hb
      | some i =>
        rw [hk] at hb
        have hi : 3 ≤ i := of_decide_eq_true hb
        cases hs : seqOf e with
        | none => rw [hs] at hg; cases hg
        | some ys =>
          rw [hs] at hg
          have hg : (flA ys).map (fun _ => neg) = some k := hg
          cases ha : flA ys with
          | none => rw [ha] at hg; cases hg
          | some vs =>
            rw [ha] at hg
            cases hg
            have kv := kind_rl r1 hk
            cases r2 with
            | lst n h r =>
              cases hs
              obtain ⟨rfl, f2⟩ := flA_of r ha
              exact .inl (.inr ⟨_, _, i, rfl, .inl (SqL.of h), kv, hi, f2, q H .refl co⟩)
            | tup h r =>
              cases hs
              obtain ⟨rfl, f2⟩ := flA_of r ha
              exact .inl (.inr ⟨_, _, i, rfl, .inr h.s, kv, hi, f2, q H .refl co⟩)
            | _ => cases hs
    · exact .inl (.inl (.inl (cmp_inF Z H c x y d _ k Q z co r1 r2 hg q)))
/-- order, of numbers and of texts -/
def ltL (a b : List Nat) : Bool := decide (a < b)
def leL (a b : List Nat) : Bool := !decide (b < a)
def gtL (a b : List Nat) : Bool := decide (b < a)
def gCmpO (f : Int → Int → Bool) (g : List Nat → List Nat → Bool) : D → D → Option Bool
  | .int i, .int j => some (f i j)
  | .str a, .str b => some (g a.cps.toList b.cps.toList)
  | _, _ => none
theorem cmp_ord {f : Int → Int → Bool} {g : List Nat → List Nat → Bool} : BinB K ca (fun x y H Q => rI0 (fun i j => .bl (f i j)) x y H Q ∨ ∃ i j, x = .str i ∧ y = .str j ∧ Q (.bl (g i.cps.toList j.cps.toList)) H) (gCmpO f g) := fun Z H c x y d e k Q z co r1 r2 hg q => by
  unfold gCmpO at hg
  split at hg
  · cases hg; cases r1; cases r2
    exact .inl ⟨_, _, rfl, rfl, q H .refl co⟩
  · cases hg; cases r1; cases r2
    exact .inr ⟨_, _, rfl, rfl, q H .refl co⟩
  · cases hg
theorem op_ltO : OpR X (compareOp .Lt) (fun x y H Q => rI0 (fun i j => .bl (ltI i j)) x y H Q ∨ ∃ i j, x = .str i ∧ y = .str j ∧ Q (.bl (ltL i.cps.toList j.cps.toList)) H) := op_lt.or op_lt_str
theorem op_leO : OpR X (compareOp .LtE) (fun x y H Q => rI0 (fun i j => .bl (leI i j)) x y H Q ∨ ∃ i j, x = .str i ∧ y = .str j ∧ Q (.bl (leL i.cps.toList j.cps.toList)) H) := op_le.or op_le_str
theorem op_gtO : OpR X (compareOp .Gt) (fun x y H Q => rI0 (fun i j => .bl (gtI i j)) x y H Q ∨ ∃ i j, x = .str i ∧ y = .str j ∧ Q (.bl (gtL i.cps.toList j.cps.toList)) H) := op_gt.or op_gt_str
end
end G

set_option Elab.async false
set_option linter.all false
set_option maxRecDepth 100000
set_option maxHeartbeats 8000000
/-! HA: small equations for the newer operations. -/
namespace G
open PySem PySem.Spec PyProof.Rows L2
theorem gIxA_l {xs : List D} {i : Int} : gIxA (.lst xs) (.int i) = atI xs i := rfl
theorem gIxA_t {xs : List D} {i : Int} : gIxA (.tup xs) (.int i) = atI xs i := rfl
theorem atI_nat {α : Type} {xs : List α} {i : Nat} (h : i < xs.length) : atI xs (i : Int) = some xs[i] := by
  have e : ixN xs.length (i : Int) = some i := by
    unfold ixN
    rw [if_pos (Int.natCast_nonneg i), if_pos (Int.ofNat_lt.mpr h)]
    simp
  unfold atI
  rw [e]
  simp [h]
theorem atI_0 {α : Type} {x : α} {xs : List α} : atI (x :: xs) (0 : Int) = some x := atI_nat (xs := x :: xs) (i := 0) (by simp)
theorem atI_1 {α : Type} {x y : α} {xs : List α} : atI (x :: y :: xs) (1 : Int) = some y := atI_nat (xs := x :: y :: xs) (i := 1) (by simp)
theorem atI_2 {α : Type} {x y z : α} {xs : List α} : atI (x :: y :: z :: xs) (2 : Int) = some z := atI_nat (xs := x :: y :: z :: xs) (i := 2) (by simp)
theorem atI_3 {α : Type} {x y z w : α} {xs : List α} : atI (x :: y :: z :: w :: xs) (3 : Int) = some w := atI_nat (xs := x :: y :: z :: w :: xs) (i := 3) (by simp)
theorem gEqA_i {i j : Int} : gEqA (.int i) (.int j) = some (i == j) := by kernel_rfl
theorem gEqA_s {a b : Str} : gEqA (.str a) (.str b) = some (decide (a = b)) := rfl
theorem gCmpO_i {f : Int → Int → Bool} {g : List Nat → List Nat → Bool} {i j : Int} : gCmpO f g (.int i) (.int j) = some (f i j) := rfl
theorem gCmpO_s {f : Int → Int → Bool} {g : List Nat → List Nat → Bool} {a b : Str} : gCmpO f g (.str a) (.str b) = some (g a.cps.toList b.cps.toList) := rfl
theorem gEqX_nil0 : gEqX false (.lst []) (.lst []) = some true := by kernel_rfl
theorem gEqA_nil {xs : List D} : gEqA (.lst xs) (.lst []) = some xs.isEmpty := by
  cases xs with
  | nil => exact gEqX_nil0
  | cons x xs =>
    have h : apart (.lst (x :: xs)) (.lst []) = true := by
      show ((x :: xs).length != ([] : List D).length) = true
      simp
    show (if apart (.lst (x :: xs)) (.lst []) = true then some false else _) = _
    rw [if_pos h]; rfl
theorem gInB_st {neg : Bool} {s : Str} {ys : List D} : gInB neg (.str s) (.tup ys) = (flA ys).map fun vs => if neg then !inV (.str s) vs else inV (.str s) vs := rfl
theorem gInB_sl {neg : Bool} {s : Str} {ys : List D} : gInB neg (.str s) (.lst ys) = (flA ys).map fun vs => if neg then !inV (.str s) vs else inV (.str s) vs := rfl
def strsD (ss : List Str) : List D := ss.map D.str
theorem flA_strs : ∀ ss : List Str, flA (strsD ss) = some (ss.map V.str)
  | [] => rfl
  | s :: ss => by
    show (flD (D.str s)).bind (fun v => (flA (strsD ss)).map (v :: ·)) = _
    rw [flA_strs ss]; rfl
theorem inV_strs {s : Str} {ss : List Str} : inV (.str s) (ss.map V.str) = decide (s ∈ ss) := by
  unfold inV
  induction ss with
  | nil => rfl
  | cons t ss ih =>
    rw [List.map_cons, List.any_cons, ih]
    have e : eqV (.str t) (.str s) = decide (t = s) := by
      unfold eqV
      by_cases h : t = s
      · subst h; simp
      · simp [h]
    rw [e]
    by_cases h : t = s
    · subst h; simp
    · have h2 : ¬ s = t := fun z => h z.symm
      simp [h, h2]
theorem gInB_ss {neg : Bool} {s : Str} {ss : List Str} : gInB neg (.str s) (.tup (strsD ss)) = some (if neg then !decide (s ∈ ss) else decide (s ∈ ss)) := by
  rw [gInB_st, flA_strs, ← inV_strs]; rfl
theorem gInB_sL {neg : Bool} {s : Str} {ss : List Str} : gInB neg (.str s) (.lst (strsD ss)) = some (if neg then !decide (s ∈ ss) else decide (s ∈ ss)) := by
  rw [gInB_sl, flA_strs, ← inV_strs]; rfl
/-- in some texts: only a text is -/
def inStrs (ss : List Str) : D → Bool
  | .str s => decide (s ∈ ss)
  | _ => false
theorem inV_no {v : V} {ss : List Str} (h : ∀ s, eqV (.str s) v = false) : inV v (ss.map V.str) = false := by
  unfold inV
  rw [List.any_map]
  simp [h]
theorem gInB_any {neg : Bool} {d : D} {ss : List Str} (h : plainD d = true) : gInB neg d (.tup (strsD ss)) = some (if neg then !inStrs ss d else inStrs ss d) := by
  cases d with
  | str s => exact gInB_ss
  | non =>
    show (flA (strsD ss)).map (fun vs => if neg then !inV V.non vs else inV V.non vs) = _
    rw [flA_strs]
    show some (if neg then !inV V.non (ss.map V.str) else inV V.non (ss.map V.str)) = _
    rw [inV_no fun s => rfl]; rfl
  | bl b =>
    show (flA (strsD ss)).map (fun vs => if neg then !inV (V.bl b) vs else inV (V.bl b) vs) = _
    rw [flA_strs]
    show some (if neg then !inV (V.bl b) (ss.map V.str) else inV (V.bl b) (ss.map V.str)) = _
    rw [inV_no fun s => rfl]; rfl
  | int b =>
    show (flA (strsD ss)).map (fun vs => if neg then !inV (V.int b) vs else inV (V.int b) vs) = _
    rw [flA_strs]
    show some (if neg then !inV (V.int b) (ss.map V.str) else inV (V.int b) (ss.map V.str)) = _
    rw [inV_no fun s => rfl]; rfl
  | lst xs =>
    show (flA (strsD ss)).map (fun _ => neg) = _
    rw [flA_strs]
    cases neg <;> rfl
  | tup xs =>
    show (flA (strsD ss)).map (fun _ => neg) = _
    rw [flA_strs]
    cases neg <;> rfl
  | dic ks vs =>
    show (flA (strsD ss)).map (fun _ => neg) = _
    rw [flA_strs]
    cases neg <;> rfl
  | _ => simp [plainD, tyName] at h
end G

set_option Elab.async false
set_option linter.all false
set_option maxRecDepth 100000
set_option maxHeartbeats 8000000
/-! HB: a, b = x, x a list or a tuple. -/
namespace G
open PySem PySem.Spec PyProof.Rows L2
def gUnp (K : PySem.W.Frag) (n : Nat) (t : TGs) : TG := fun v σ H Q => L2.gTup K n t v σ H Q ∨ L2.gUnl K n t v σ H Q
def gS (ts : List Tg) : Tg := fun d ρ => match d with
  | .tup ds => gNs ts ds ρ
  | .lst ds => gNs ts ds ρ
  | _ => none
section
variable {X : Cx} {ca : Dr} {es : List Expr} {k : Nat} {t : TGs} {n : Nat} {pos : Pos}
theorem pg_unp (hc : X.calm = true) (h : PGs X es t) (hn : (assignEach es X.env).length = n := by rfl) (hst : (assignEach es X.env).findIdx? (·.1) = none := by rfl) : PG X (.Tuple es k pos) (gUnp X.K n t) :=
  ⟨fun pins s σ H v u Q I r hw => hw.elim (fun hw => (pg_tup hc h hn hst).run pins s σ H v u Q I r hw) fun hw => (L2.pg_unl hc h hn hst).run pins s σ H v u Q I r hw⟩
theorem tg_unp {gs : TGs} {ts : List Tg} {is : List Nat} {n : Nat} (h : TgsD X.K ca gs ts is) (hn : ts.length = n := by rfl) : TgD X.K ca (gUnp X.K n gs) (gS ts) is := fun Z Y H σ ρ ρ' v d Q eo r e q => by
  cases r with
  | tup hs ra => exact .inl ⟨_, _, rfl, hs.s, by rw [ra.length, gNs_len e, hn], h Z Y H σ ρ ρ' _ _ Q eo ra e q⟩
  | lst n0 hs ra => exact .inr ⟨_, _, rfl, SqL.of hs, by rw [ra.length, gNs_len e, hn], h Z Y H σ ρ ρ' _ _ Q eo ra e q⟩
  | _ => cases e
end
end G

set_option Elab.async false
set_option linter.all false
set_option maxRecDepth 100000
set_option maxHeartbeats 4000000
/-! HC: defs with defaults. -/
namespace G
open PySem PySem.Spec PyProof.Rows L2
/-- the def x, with defaults, at its place does F -/
structure DefH (P : Program) (w : World) (K : PySem.W.Frag) (mg : Str → Option Value) (base : Heap) (k : Nat) (x : Str) (st : Stmt) (ps : List Str) (dfl : List He.Dv) (F : List D → M D) : Prop where
  ex : ∃ fd, FunD K x x (defArgs st) (defBody st) (defScope st) (dfl.map (He.Dv.v K)) [] (He.ga K x) fd ∧ mg x = some (.ref (He.ga K x)) ∧ FnG P w K mg base CX0 k (He.ga K x) fd ps (spD K ps.length F)
section
variable {P : Program} {w : World} {K : PySem.W.Frag} {mg : Str → Option Value} {base : Heap} {k : Nat} {x : Str} {st : Stmt} {N ps : List Str} {g : Sm} {dfl : List He.Dv}
theorem DefH.mk2 (hf : ∃ fd, FunD K x x (defArgs st) (defBody st) (defScope st) (dfl.map (He.Dv.v K)) [] (He.ga K x) fd) (hm : mg x = some (.ref (He.ga K x))) (S : FnScope N ps (defScope st))
    (hbody : ∀ (ca : Dr) (cdv : Value) (A : Around) (outer : List Env) (s : Shared) (H : Hp) (E : XK), A.guards = some [] → Room k (A.deeper (envOfC x (defScope st) s.heap.objs.size (He.ga K x) cdv)) → PSs (cxOf CX0 P w K mg base N x (defScope st) (He.ga K x) cdv A outer s H E).nox (defBody st) (tS K ca E0 g)) :
    DefH P w K mg base (k + 1) x st ps dfl fun ds => G.nx (runDef N.length g ds) := by
  obtain ⟨fd, F⟩ := hf
  exact ⟨fd, F, hm, FunD.okD F S hbody⟩
theorem DefH.up {j : Nat} {F : List D → M D} (h : DefH P w K mg base j x st ps dfl F) (hj : j ≤ k) : DefH P w K mg base k x st ps dfl F := by
  obtain ⟨fd, a, b, c⟩ := h
  exact ⟨fd, a, b, c.mono hj⟩
theorem DefH.here {X : Cx} {F : List D → M D} (h : DefH P w K mg base k x st ps dfl F) (e1 : X.prog = P := by rfl) (e2 : X.w = w := by rfl) (e3 : X.K = K := by rfl) (e4 : X.mg = mg := by rfl) (e5 : X.base = base := by rfl) :
    DefH X.prog X.w X.K X.mg X.base k x st ps dfl F := by
  subst e1 e2 e3 e4 e5
  exact h
end
section
variable {X : Cx} {ca : Dr} {pos : Pos} {k j : Nat} {ps kn : List Str} {F : List D → M D} {x : Str} {st : Stmt} {p : Pos} {e : Expr} {es : List Expr} {fs ks : Ev → M (List D)} {kws : List Keyword} {dfl : List He.Dv}
theorem flA_dfl {K : PySem.W.Frag} {vs : List V} {dds : List D} (h : flA dds = some vs) : ∀ Z H, RlA K ca Z H vs dds := fun Z H => flA_rl h
theorem d_callH (n i : Nat) (dds : List D) (Fk : DefH X.prog X.w X.K X.mg X.base j x st ps dfl F) (gd : X.A.guards = some []) (hr : Room k X.A) (ha : PA X (e :: es) (tAs X.K ca E0 fs))
    (h : ∀ (T : Addr) (kV doc pm : Value) (an : Option Addr) (cdv ct : Value) (us its : List Value), us.length = n → its.length = dfl.length →
      ∃ k, bindArgs (PySem.W.fnOf x x (defArgs st) (defBody st) (defScope st) (.ref T) kV doc pm an cdv ct) ⟨us, []⟩ = seqItems? (.ref T) >>= k ∧ k (some its.toArray) = pure (ps.zip (us ++ its.drop i)))
    (hd : dfl ≠ [] := by simp) (hn : n + (dfl.length - i) = ps.length := by rfl) (hdd : ∀ K, flA dds = some ((dfl.map (He.Dv.v K)).drop i) := by exact fun _ => rfl) (hj : j ≤ k := by decide) (hg : Gl X x := by rfl) (hdb : (x == ("__debug__" : Str)) = false := by decide)
    (he : starEach (e :: es) X.env = (false, eval e X.env) :: starEach es X.env := by rfl) (hpl : (backTo pos (starEach es X.env)).any (·.1) = false := by rfl) : PE X (.Call (.Name x p) (e :: es) [] pos) (tD X.K ca E0 (eCall ps.length F dds fs)) := by
  obtain ⟨fd, FF, hm, hF⟩ := Fk.ex
  obtain ⟨ds, v, hb⟩ := FF.binds1 n i (by simpa using hd) (by simpa using hn) (by simpa using h)
  exact d_call (hF.mono hj) gd hr hm FF.kp hb v L2.pass0 (flA_dfl (hdd X.K)) ha hg hdb he hpl
end
end G

set_option Elab.async false
set_option linter.all false
set_option maxRecDepth 100000
set_option maxHeartbeats 4000000
/-! HD: d.get(k), d.get(k, x). -/
namespace G
open PySem PySem.Spec PyProof.Rows L2
section
variable {X : Cx} {K : PySem.W.Frag} {ca : Dr} {E : XK}
def rGet (x : V) (xs : List V) (H : Hp) (Q : VK) : Prop := ∃ a y o, x = .ref a ∧ DGet H a y o ∧ ((xs = [y] ∧ Q (o.getD .non) H) ∨ ∃ d, xs = [y, d] ∧ Q (o.getD d) H)
theorem mt_get (hu : X.A.units + 1 < cLine) : MtR X "dict.get" rGet := by
  intro pins s σ H x xs v us Q I rx rxs h
  obtain ⟨a, y, o, rfl, g, h⟩ := h
  obtain rfl : v = Value.ref a := rx
  rcases h with ⟨rfl, q⟩ | ⟨d, rfl, q⟩
  · cases rxs with | cons r1 rr => cases rr; exact d_get1 hu I g r1 fun w' s' I' rw' => ⟨_, H, I', rw', q⟩
  · cases rxs with | cons r1 rr => cases rr with | cons r2 rr => cases rr; exact d_get2 hu I g r1 r2 fun w' s' I' rw' => ⟨_, H, I', rw', q⟩
def gGet : D → List D → Option D
  | .dic ks vs, [k] => (keyD k).map fun k => (lookD ks vs k).getD .non
  | .dic ks vs, [k, e] => (keyD k).map fun k => (lookD ks vs k).getD e
  | _, _ => none
theorem met_get : MetD K ca "dict" rGet gGet := fun Z H c x xs d d' ds Q z co r ra hg q => by
  unfold gGet at hg
  split at hg
  · rename_i ks vs k
    cases r with | dic n h rv =>
    cases ra with | cons r1 rr =>
    cases rr
    cases hk : keyD k with
    | none => rw [hk] at hg; cases hg
    | some j =>
      rw [hk] at hg
      simp only [Option.map_some] at hg
      have ek := keyD_of r1 hk
      subst ek
      refine ⟨_, _, _, rfl, DGet.k h, .inl ⟨rfl, ?_⟩⟩
      obtain ⟨l1, l2⟩ := look_rl (k := j) rv
      cases hl : lookD _ vs j with
      | some d0 =>
        obtain ⟨v, h1, h2⟩ := l1 _ hl
        rw [hl] at hg
        cases hg
        rw [h1]
        exact q _ H .refl h2 co
      | none =>
        rw [l2 hl]
        rw [hl] at hg
        cases hg
        exact q _ H .refl .non co
  · rename_i ks vs k e
    cases r with | dic n h rv =>
    cases ra with | cons r1 rr =>
    cases rr with | cons r2 rr =>
    cases rr
    cases hk : keyD k with
    | none => rw [hk] at hg; cases hg
    | some j =>
      rw [hk] at hg
      simp only [Option.map_some] at hg
      have ek := keyD_of r1 hk
      subst ek
      refine ⟨_, _, _, rfl, DGet.k h, .inr ⟨_, rfl, ?_⟩⟩
      obtain ⟨l1, l2⟩ := look_rl (k := j) rv
      cases hl : lookD _ vs j with
      | some d0 =>
        obtain ⟨v, h1, h2⟩ := l1 _ hl
        rw [hl] at hg
        cases hg
        rw [h1]
        exact q _ H .refl h2 co
      | none =>
        rw [l2 hl]
        rw [hl] at hg
        cases hg
        exact q _ H .refl r2 co
  · cases hg
end
end G

set_option Elab.async false
set_option linter.all false
set_option maxRecDepth 100000
set_option maxHeartbeats 8000000
/-! HE: sets of ints and texts that can be walked. -/
namespace G
open PySem PySem.Spec PyProof.Rows L2
section
variable {P : Program} {w : World}
/-- no key is at both -/
def Apart2 (P : Program) (w : World) (e f : Int × Value) : Prop := ∀ k, (mixKind P w).is k e.2 = true → (mixKind P w).is k f.2 = true → False
/-- a set of keys: its members S, how many; its entries apart, its table rising -/
structure SetQo (P : Program) (w : World) (es : Array (Int × Value)) (t : SetTable) (S : Key → Bool) (n : Nat) : Prop where
  el : ElemsOf (mixKind P w) es.toList
  mem : ∀ k, S k = true ↔ ∃ e ∈ es.toList, (mixKind P w).is k e.2 = true
  few : es.size < scanBound
  fits : t.fits es.size = true
  num : es.size = n
  apart : es.toList.Pairwise (Apart2 P w)
  ris : Ris t.place.toList
  led : w.params.followText "set-order" = true ∨ t.led = true
def SetQ (P : Program) (w : World) (h : Heap) (a : Addr) (S : Key → Bool) (n : Nat) : Prop :=
  ∃ o es ep t, h.get? a = some o ∧ o.ExactSet ∧ o.data = .set es ep t ∧ SetQo P w es t S n
theorem SetQ.setOf {h : Heap} {a : Addr} {S : Key → Bool} {n : Nat} (R : SetQ P w h a S n) : h.SetOf (mixKind P w) a S n := by
  obtain ⟨o, es, ep, t, h1, h2, h3, q⟩ := R
  exact ⟨o, es, ep, t, h1, h2, h3, q.el, q.mem, q.few, q.fits, q.num⟩
theorem Apart2.symm {e f : Int × Value} (h : Apart2 P w e f) : Apart2 P w f e := fun k a b => h k b a
theorem SetQo.perm {es es2 : Array (Int × Value)} {t t2 : SetTable} {S : Key → Bool} {n : Nat} (q : SetQo P w es t S n) (pm : es2.toList.Perm es.toList) (hf : t2.fits es2.size = true) (hr : Ris t2.place.toList) (hl : t2.led = t.led) : SetQo P w es2 t2 S n := by
  have hs : es2.size = es.size := by rw [← Array.length_toList, pm.length_eq, Array.length_toList]
  refine ⟨fun e he => q.el e (pm.mem_iff.mp he), fun k => (q.mem k).trans ?_, by rw [hs]; exact q.few, hf, hs.trans q.num, (pm.pairwise_iff fun h => Apart2.symm h).mpr q.apart, hr, q.led.imp id fun z => hl.trans z⟩
  exact ⟨fun ⟨e, he, h⟩ => ⟨e, pm.mem_iff.mpr he, h⟩, fun ⟨e, he, h⟩ => ⟨e, pm.mem_iff.mp he, h⟩⟩
variable {A : Around} {E : Value → Shared → Prop} {s : Shared} {a : Addr} {S : Key → Bool} {n : Nat}
/-- the new entries are stored, the table grown if it is too full -/
theorem setQ_tail {gw : Bool → Sem Unit} (hg : ∀ (b : Bool) (u : Shared) (Q : Unit → Shared → Prop), Q () u → wpAny (model P w) A (gw b) Q E u) {o : Obj} {es : Array (Int × Value)} {ep : Nat} {t : SetTable}
    (ho : s.heap.get? a = some o) (hex : o.ExactSet) (hd : o.data = .set es ep t) {es1 : Array (Int × Value)} {t2 : SetTable} {S2 : Key → Bool} {m : Nat} (q : SetQo P w es1 t2 S2 m) {dummy : Bool} {R : Option Bool → Shared → Prop}
    (hR : ∀ g, Heap.SameBut a s.heap g → SetQ P w g a S2 m → R (some true) { s with heap := g }) :
    wpAny (model P w) A (storeSet a es1 t2 >>= fun _ => if (!dummy && t2.tooFull) = true then (gw (relayAll t2 es1 (SetTable.grown es1.size)).2.2 >>= fun _ => storeSet a (relayAll t2 es1 (SetTable.grown es1.size)).1 (relayAll t2 es1 (SetTable.grown es1.size)).2.1 >>= fun _ => pure (some true)) else pure (some true)) R E s := by
  refine wpAny_bind (wpAny_storeSet_of ho hd ?_ (fits_of_scanBound q.few))
  have ho1 := store_at (es' := es1) (t' := t2) ho hd
  have sb := Heap.SameBut.update s.heap a (Obj.putSet es1 t2)
  split
  · have q2 := q.perm (relayAll_perm t2 es1 (SetTable.grown es1.size)) (relayAll_fits t2 es1 (SetTable.grown es1.size)) (relayAll_ris t2 es1 (SetTable.grown es1.size)) (relayAll_led t2 es1 (SetTable.grown es1.size))
    generalize relayAll t2 es1 (SetTable.grown es1.size) = Z at q2 ⊢
    obtain ⟨es2, t3, gave⟩ := Z
    dsimp only at q2 ⊢
    refine wpAny_bind (hg _ _ _ (wpAny_bind (wpAny_storeSet_of ho1 rfl ?_ (fits_of_scanBound q2.few))))
    have ho2 := store_at (es' := es2) (t' := t3) ho1 rfl
    exact wpAny_pure (hR _ (sb.trans (Heap.SameBut.update _ a _)) ⟨_, es2, _, t3, ho2, hex, rfl, q2⟩)
  · exact wpAny_pure (hR _ sb ⟨_, es1, _, t2, ho1, hex, rfl, q⟩)
theorem setQ_add {k : Key} {x : Value} {Q : Bool → Shared → Prop} (isk : (mixKind P w).is k x = true) (scan : x.scannable = true) (R : SetQ P w s.heap a S n) (room : n + 1 < scanBound)
    (hQ : ∀ g, Heap.SameBut a s.heap g → SetQ P w g a (fun j => S j || decide (j = k)) (if S k = true then n else n + 1) → Q (!S k) { s with heap := g }) :
    wpAny (model P w) A (setAddHashed a x ((mixKind P w).hash k)) Q E s := by
  obtain ⟨o, es, ep, t, ho, hex, hd, q⟩ := R
  unfold setAddHashed setAddHashedIn
  refine wpAny_holding (wpAny_bind (wpAny_setState_of ho hd q.fits ?_))
  dsimp only
  rw [byScan_of scan q.few q.el, if_pos rfl]
  unfold setAddByScan
  refine wpAny_bind (wpAny_bind (wpAny_rule (wpAny_bind (wpAny_setScan_of isk ho hd q.fits q.el ?_))))
  cases hfi : List.findIdx? (fun e => (mixKind P w).is k e.2) es.toList with
  | some j =>
    dsimp only
    obtain ⟨hj, pj, _⟩ := List.findIdx?_eq_some_iff_getElem.mp hfi
    have hSk : S k = true := (q.mem k).2 ⟨es.toList[j], List.getElem_mem hj, pj⟩
    have same : (fun j => S j || decide (j = k)) = S := by
      funext i
      by_cases z : i = k
      · subst z; rw [hSk]; rfl
      · rw [decide_eq_false z, Bool.or_false]
    have r := hQ s.heap (Heap.SameBut.refl a s.heap) (by rw [same, if_pos hSk]; exact ⟨o, es, ep, t, ho, hex, hd, q⟩)
    rw [hSk] at r
    exact wpAny_pure (wpAny_pure r)
  | none =>
    dsimp only
    have hno : ∀ e ∈ es.toList, (mixKind P w).is k e.2 = true → False := fun e he z => by
      have := List.findIdx?_eq_none_iff.mp hfi e he
      rw [z] at this; cases this
    have hSk : S k = false := by
      cases z : S k with
      | false => rfl
      | true =>
        obtain ⟨e, he, h⟩ := (q.mem k).1 z
        exact (hno e he h).elim
    have pm := layNew_perm t es ((mixKind P w).hash k) x
    have hf1 := layNew_fits t es ((mixKind P w).hash k) x
    have hr1 := layNew_ris t es ((mixKind P w).hash k) x q.ris
    have hl1 := layNew_led t es ((mixKind P w).hash k) x
    generalize layNew t es ((mixKind P w).hash k) x = Z at pm hf1 hr1 hl1 ⊢
    obtain ⟨es1, t1, dummy, gave⟩ := Z
    dsimp only at pm hf1 hr1 hl1 ⊢
    rw [Array.toList_push] at pm
    have pc : es1.toList.Perm (((mixKind P w).hash k, x) :: es.toList) := pm.trans (List.perm_append_singleton _ _)
    have num : es1.size = n + 1 := by rw [← Array.length_toList, pc.length_eq, List.length_cons, Array.length_toList, q.num]
    have mk : ∀ t2 : SetTable, t2.fits es1.size = true → Ris t2.place.toList → t2.led = t1.led → SetQo P w es1 t2 (fun j => S j || decide (j = k)) (n + 1) := fun t2 f2 r2 l2 => by
      refine ⟨fun e he => ?_, fun j => ?_, by rw [num]; exact room, f2, num, ?_, r2, q.led.imp id fun z => l2.trans (hl1.trans z)⟩
      · rcases List.mem_cons.mp (pc.mem_iff.mp he) with z | z
        · subst z; exact ⟨⟨k, isk, rfl⟩, scan⟩
        · exact q.el e z
      · rw [Bool.or_eq_true, decide_eq_true_eq, q.mem j]
        constructor
        · rintro (⟨e, he, h⟩ | rfl)
          · exact ⟨e, pc.mem_iff.mpr (List.mem_cons_of_mem _ he), h⟩
          · exact ⟨_, pc.mem_iff.mpr (List.mem_cons_self ..), isk⟩
        · rintro ⟨e, he, h⟩
          rcases List.mem_cons.mp (pc.mem_iff.mp he) with z | z
          · subst z; exact .inr ((mixKind P w).inj x j k h isk)
          · exact .inl ⟨e, z, h⟩
      · refine (pc.pairwise_iff fun h => Apart2.symm h).mpr (List.pairwise_cons.mpr ⟨fun e he j h1 h2 => ?_, q.apart⟩)
        have : j = k := (mixKind P w).inj x j k h1 isk
        subst this
        exact hno e he h2
    have fin : ∀ g, Heap.SameBut a s.heap g → SetQ P w g a (fun j => S j || decide (j = k)) (n + 1) → Q true { s with heap := g } := fun g sb r => by
      have z := hQ g sb
      rw [hSk] at z
      exact z r
    have gw : ∀ (b : Bool) (u : Shared) (Q' : Unit → Shared → Prop), Q' () u → wpAny (model P w) A (match b with | true => rule "set.scan.the-table-gave-way" | false => pure ()) Q' E u :=
      fun b u Q' z => match b with | true => wpAny_rule z | false => wpAny_pure z
    refine wpAny_bind (gw _ _ _ ?_)
    split
    · refine wpAny_bind ?_
      rw [hashByValue_scannable 8 scan]
      refine wpAny_pure ?_
      refine setQ_tail (fun b u Q' z => gw b u Q' z) ho hex hd (mk _ ?_ ?_ ?_) fun g sb r => ?_
      · first | (split <;> first | exact hf1 | exact SetTable.fits_plain_off hf1) | exact hf1
      · first | (split <;> exact hr1) | exact hr1
      · first | (split <;> rfl) | rfl
      · dsimp only; exact wpAny_pure (fin g sb r)
    · refine wpAny_bind (wpAny_pure ?_)
      rw [if_pos rfl]
      refine setQ_tail (fun b u Q' z => gw b u Q' z) ho hex hd (mk _ hf1 hr1 rfl) fun g sb r => ?_
      dsimp only
      exact wpAny_pure (fin g sb r)
end
end G

set_option Elab.async false
set_option linter.all false
set_option maxRecDepth 100000
set_option maxHeartbeats 8000000
/-! HF: set(xs) as a set that can be walked; sorted of it. -/
namespace G
open PySem PySem.Spec PyProof.Rows L2
theorem setQ_as {prog : Program} {w : World} {h : Heap} {a : Addr} {S T : Key → Bool} {n m : Nat} (x : SetQ prog w h a S n) (e : ∀ k, S k = T k) (en : n = m) : SetQ prog w h a T m := by
  cases funext e
  cases en
  exact x
theorem led_or (w : World) : w.params.followText "set-order" = true ∨ (!w.params.followText "set-order") = true := by
  cases w.params.followText "set-order" <;> simp
section
variable {prog : Program} {w : World} {A : Around} {R : Result → Shared → Prop} {I : Addr} {fp wr : List Addr} {G : Array GenState → Array GenState → Prop} {n : Nat} {P : Nat → Value → Prop} {Lp : Nat → Shared → Prop}
/-- the filling of a new set from a walk over keys -/
theorem fill_setQ (walk : WalksS prog w A.in1 I fp wr G n P Lp) (C : Addr) (apart : C ∉ fp) (ks : List Key) (many : ks.length = n) (few : n + 1 < scanBound) (item : ∀ i v, P i v → ∃ k, ks[i]? = some k ∧ keyIs k v = true) :
    ∀ (rest acc : List Key) (i : Nat) (u : Shared), ks.drop i = rest → i ≤ n → acc.length ≤ i → Lp i u → SetQ prog w u.heap C (hasK acc) acc.length →
      (∀ u', Moved (C :: wr) G u u' → SetQ prog w u'.heap C (hasK (metK acc rest)) (metK acc rest).length → R (.ok (.ret .none)) u') →
      codeAny (model prog w) A (.builtin "set.update.loop" ⟨[.ref C, .ref I], []⟩) R u := by
  have outW : C ∉ wr := fun z => apart (walk.sub _ z)
  have wider : ∀ b ∈ wr, b ∈ C :: wr := fun _ => List.mem_cons_of_mem _
  have stays : ∀ {u u' : Shared} {S : Key → Bool} {m : Nat}, Moved wr G u u' → SetQ prog w u.heap C S m → SetQ prog w u'.heap C S m :=
    fun mv ⟨o, es, ep, t, at_, more⟩ => ⟨o, es, ep, t, mv.heap C _ outW at_, more⟩
  intro rest
  induction rest with
  | nil =>
    intro acc i u hd hi _ st hS back
    have whole : i = n := by
      have := congrArg List.length hd
      rw [List.length_drop, List.length_nil] at this
      omega
    subst whole
    refine codeAny_builtin PyProof.Rows.F.entry_set_update_loop ?_
    rw [Around.under_plainId PyProof.Rows.F.plain_set_update_loop _]
    change wpAny _ A.in1 (pyNext (.ref I) >>= _) _ _ u
    exact wpAny_bind (walk.done u _ _ st fun u' mv => wpAny_pure (back u' (mv.mono wider) (stays mv hS)))
  | cons k rest ih =>
    intro acc i u hd hi hacc st hS back
    have more : i < n := by
      have := congrArg List.length hd
      rw [List.length_drop, List.length_cons] at this
      omega
    have here : ks[i]? = some k := by
      have := congrArg List.head? hd
      rw [List.head?_drop] at this
      simpa using this
    have behind : ks.drop (i + 1) = rest := by
      have := congrArg List.tail hd
      rw [List.tail_drop] at this
      simpa using this
    refine codeAny_builtin PyProof.Rows.F.entry_set_update_loop ?_
    rw [Around.under_plainId PyProof.Rows.F.plain_set_update_loop _]
    change wpAny _ A.in1 (pyNext (.ref I) >>= _) _ _ u
    refine wpAny_bind (walk.item i u _ _ more st fun v u' hv st' mv => ?_)
    obtain ⟨k', hk', isk⟩ := item i v hv
    rw [here] at hk'
    cases hk'
    have scan : v.scannable = true := by
      rcases keyIs_shape isk with ⟨_, _, rfl, rfl⟩ | ⟨_, _, rfl, rfl⟩ <;> rfl
    have hS' := stays mv hS
    change wpAny _ A.in1 (holding [v] (setAdd C v) >>= _) _ _ u'
    refine wpAny_bind (wpAny_holding ?_)
    unfold setAdd
    refine wpAny_holding (wpAny_bind ((mixKind prog w).pyHash (k := k) isk ?_))
    refine setQ_add (s := { u' with toks := u'.toks + 1 }) isk scan hS' (by omega) fun h' only grown => ?_
    have next : SetQ prog w h' C (hasK (stepK acc k)) (stepK acc k).length := by
      unfold stepK
      by_cases hm : hasK acc k = true
      · rw [if_pos hm]
        refine setQ_as grown (fun j => ?_) (if_pos hm)
        by_cases e : j = k
        · subst e; rw [hm]; rfl
        · rw [decide_eq_false e, Bool.or_false]
      · rw [if_neg hm]
        refine setQ_as grown (fun j => hasK_snoc.symm) ?_
        rw [if_neg hm, List.length_append]; rfl
    refine wpAny_pure ⟨plainId_quiet PyProof.Rows.F.plain_set_update_loop _, ih _ (i + 1) _ behind more ?_ (walk.frame _ u' _ _ st' (Nat.le_succ _) fun b hb o e => ?_) next fun u2 mv2 fin => ?_⟩
    · have := stepK_le acc k
      omega
    · rw [only.2 b fun z => apart (z ▸ hb)]; exact e
    · refine back u2 (Moved.trans walk.gtrans ((mv.mono wider).then_heap (Nat.le_succ _) fun b o hb e => ?_) mv2) fin
      rw [only.2 b fun z => hb (by rw [z]; exact List.mem_cons_self)]; exact e
end
section
variable {prog : Program} {w : World} {A : Around} {E : Value → Shared → Prop} {s : Shared}

/-- set(l) of a list of keys -/
theorem setQ_of_list {l : Addr} {its : Array Value} {ks : List Key} {Q : Value → Shared → Prop} (calm : A.handled = none) (hl : s.heap.IsList l its) (many : ks.length = its.size)
    (item : ∀ (i : Nat) (v : Value), its[i]? = some v → ∃ k, ks[i]? = some k ∧ keyIs k v = true) (few : its.size + 1 < scanBound)
    (h : ∀ (g : Heap) (tk : Nat), SetQ prog w g s.heap.objs.size (hasK (metK [] ks)) (metK [] ks).length → (∀ b o, s.heap.get? b = some o → g.get? b = some o) →
      Q (.ref s.heap.objs.size) { s with heap := g, toks := tk }) : wpAny (model prog w) A (call (.type "set") [.ref l]) Q E s := by
  obtain ⟨cl, below, mro⟩ := PySem.F.called_set.mro
  have made := PySem.F.called_set.made
  have sub := PySem.F.called_set.sub
  have no1 := PySem.F.called_set.notType
  have can := PySem.F.called_set.canCreate
  have one := PySem.F.typeCall_set_1 (.ref l)
  let bare (led : Bool) : Obj := { cls := .type "set", dict := none, data := .set #[] 0 (.fresh 0 0 led) }
  refine wpAny_call (codeAny_of_tree (show wpAny _ _ (callAny (.type "set") _) _ _ _ from ?_))
  refine wpAny_pure ⟨Code.quiet_builtin _ (by decide +kernel), codeAny_builtin PySem.F.entry_type_call ?_⟩
  rw [Around.under_plain (weight_type_call_type "set" [.ref l] []) rfl]
  repeat any_goals first | assumption | wp_step
  refine codeAny_mono (code_set_led1 (.ref l) (E := E) (Q₁ := fun made u => ∃ led : Bool, (w.params.followText "set-order" = true ∨ led = true) ∧ made = .ref s.heap.objs.size ∧ u = { s with heap := s.heap.push (bare led) }) ⟨_, led_or w, rfl, rfl⟩) fun r u hr => ?_
  match r, hr with
  | .error e, hr => exact hr
  | .ok .next, hr => exact hr.elim
  | .ok .brk, hr => exact hr.elim
  | .ok .cont, hr => exact hr.elim
  | .ok (.ret obj), hr =>
    obtain ⟨led, hled, rfl, rfl⟩ := hr
    have atS : (s.heap.push (bare led)).get? s.heap.objs.size = some (bare led) := Heap.get?_push_size _ rfl
    have isS : Shared.TypeIs { s with heap := s.heap.push (bare led) } (.ref s.heap.objs.size) "set" := ⟨_, atS, rfl⟩
    have look := PySem.F.called_set.init.lookup
    have bind := PySem.F.called_set.init.bind (.ref s.heap.objs.size)
    repeat any_goals first | assumption | wp_step
    refine codeAny_mono (codeAny_call_builtin (R := wants (fun r u => r = .none ∧ ∃ g tk, u = { s with heap := g, toks := tk } ∧ SetQ prog w g s.heap.objs.size (hasK (metK [] ks)) (metK [] ks).length ∧
        ∀ b o, s.heap.get? b = some o → g.get? b = some o) E) PySem.F.called_set.init.plain PySem.F.entry_set_init (check_set_init_1 isS ?_)) fun r2 u2 h2 => ?_
    · obtain ⟨⟨lc, ld, lda, lsl⟩, atl, lcl, nl, ldat⟩ := hl
      cases lcl
      cases ldat
      have atl' : (s.heap.push (bare led)).get? l = some { cls := .type "list", dict := ld, data := .seq its nl, slots := lsl } := Heap.get?_push_of_some _ atl
      have f1 := PySem.F.sub_list_set
      have f2 := PySem.F.sub_list_frozenset
      have f3 : (Value.type "list" == Value.type "dict") = false := by decide
      have isl : (s.heap.push (bare led)).IsList l its := ⟨_, atl', rfl, nl, rfl⟩
      have under : l < s.heap.objs.size := Heap.lt_size atl
      have sz : (s.heap.push (bare led)).objs.size = s.heap.objs.size + 1 := Heap.size_push _ _
      unfold Builtin.«set.__init__» noKeywords Builtin.Frozenset.updateFrom
      generalize keep : pyIter = it
      wp_walk
      subst keep
      refine wpAny_pyIter_list isl (wpAny_bind (wpAny_runValue ?_))
      refine fill_setQ ((Walks.list (by simp [calm]) (s.heap.push (bare led)).objs.size l (Nat.ne_of_lt (Nat.lt_of_lt_of_le under (by rw [sz]; exact Nat.le_succ _))) its).toS) s.heap.objs.size (fun z => by rw [sz] at z; exact (List.mem_cons.mp z).elim (fun z => absurd z (Nat.ne_of_lt (Nat.lt_succ_self _))) fun z => absurd (List.mem_singleton.mp z) (Nat.ne_of_gt under)) ks many few item ks [] 0 _ rfl (Nat.zero_le _) (Nat.le_refl _) ⟨⟨_, Heap.get?_push_size _ rfl, rfl, rfl⟩, isl.push _⟩ ?empty ?back
      case empty =>
        exact ⟨bare led, #[], 0, _, Heap.get?_push_of_some _ atS, ⟨rfl, rfl, rfl⟩, rfl, ⟨(fun e he => by simp at he), (fun k => by simp [hasK]), (by decide), (by rfl), rfl, List.Pairwise.nil, List.Pairwise.nil, hled⟩⟩
      case back =>
        rintro ⟨g, gs, dr, tk, os⟩ mv hS
        have e1 : gs = s.gens := mv.gens
        have e2 : dr = s.drawn := mv.drawn
        have e3 : os = s.os := mv.os
        cases e1; cases e2; cases e3
        refine wpAny_pure (wpAny_pure ⟨rfl, g, tk, rfl, hS, fun b o e => ?_⟩)
        have nb : b < s.heap.objs.size := Heap.lt_size e
        exact mv.heap b o (fun z => by rw [sz] at z; exact (List.mem_cons.mp z).elim (fun z => absurd z (Nat.ne_of_lt nb)) fun z => absurd (List.mem_singleton.mp z) (Nat.ne_of_lt (Nat.lt_succ_of_lt nb))) (Heap.get?_push_of_some _ (Heap.get?_push_of_some _ e))
    · match r2, h2 with
      | .error e, h2 => exact h2
      | .ok .next, h2 => exact h2.elim
      | .ok .brk, h2 => exact h2.elim
      | .ok .cont, h2 => exact h2.elim
      | .ok (.ret r), h2 =>
        obtain ⟨rfl, g, tk, rfl, hS, keeps⟩ := h2
        repeat any_goals first | assumption | wp_step
        exact h _ _ hS keeps

/-- set(l) of a tuple of keys -/
theorem setQ_of_tuple {l : Addr} {its : Array Value} {ks : List Key} {Q : Value → Shared → Prop} (calm : A.handled = none) (hl : s.heap.IsTuple l its) (many : ks.length = its.size)
    (item : ∀ (i : Nat) (v : Value), its[i]? = some v → ∃ k, ks[i]? = some k ∧ keyIs k v = true) (few : its.size + 1 < scanBound)
    (h : ∀ (g : Heap) (tk : Nat), SetQ prog w g s.heap.objs.size (hasK (metK [] ks)) (metK [] ks).length → (∀ b o, s.heap.get? b = some o → g.get? b = some o) →
      Q (.ref s.heap.objs.size) { s with heap := g, toks := tk }) : wpAny (model prog w) A (call (.type "set") [.ref l]) Q E s := by
  obtain ⟨cl, below, mro⟩ := PySem.F.called_set.mro
  have made := PySem.F.called_set.made
  have sub := PySem.F.called_set.sub
  have no1 := PySem.F.called_set.notType
  have can := PySem.F.called_set.canCreate
  have one := PySem.F.typeCall_set_1 (.ref l)
  let bare (led : Bool) : Obj := { cls := .type "set", dict := none, data := .set #[] 0 (.fresh 0 0 led) }
  refine wpAny_call (codeAny_of_tree (show wpAny _ _ (callAny (.type "set") _) _ _ _ from ?_))
  refine wpAny_pure ⟨Code.quiet_builtin _ (by decide +kernel), codeAny_builtin PySem.F.entry_type_call ?_⟩
  rw [Around.under_plain (weight_type_call_type "set" [.ref l] []) rfl]
  repeat any_goals first | assumption | wp_step
  refine codeAny_mono (code_set_led1 (.ref l) (E := E) (Q₁ := fun made u => ∃ led : Bool, (w.params.followText "set-order" = true ∨ led = true) ∧ made = .ref s.heap.objs.size ∧ u = { s with heap := s.heap.push (bare led) }) ⟨_, led_or w, rfl, rfl⟩) fun r u hr => ?_
  match r, hr with
  | .error e, hr => exact hr
  | .ok .next, hr => exact hr.elim
  | .ok .brk, hr => exact hr.elim
  | .ok .cont, hr => exact hr.elim
  | .ok (.ret obj), hr =>
    obtain ⟨led, hled, rfl, rfl⟩ := hr
    have atS : (s.heap.push (bare led)).get? s.heap.objs.size = some (bare led) := Heap.get?_push_size _ rfl
    have isS : Shared.TypeIs { s with heap := s.heap.push (bare led) } (.ref s.heap.objs.size) "set" := ⟨_, atS, rfl⟩
    have look := PySem.F.called_set.init.lookup
    have bind := PySem.F.called_set.init.bind (.ref s.heap.objs.size)
    repeat any_goals first | assumption | wp_step
    refine codeAny_mono (codeAny_call_builtin (R := wants (fun r u => r = .none ∧ ∃ g tk, u = { s with heap := g, toks := tk } ∧ SetQ prog w g s.heap.objs.size (hasK (metK [] ks)) (metK [] ks).length ∧
        ∀ b o, s.heap.get? b = some o → g.get? b = some o) E) PySem.F.called_set.init.plain PySem.F.entry_set_init (check_set_init_1 isS ?_)) fun r2 u2 h2 => ?_
    · obtain ⟨⟨lc, ld, lda, lsl⟩, atl, lcl, nl, ldat⟩ := hl
      cases lcl
      cases ldat
      have atl' : (s.heap.push (bare led)).get? l = some { cls := .type "tuple", dict := ld, data := .seq its nl, slots := lsl } := Heap.get?_push_of_some _ atl
      have f1 := PySem.F.sub_tuple_set
      have f2 := PySem.F.sub_tuple_frozenset
      have f3 : (Value.type "tuple" == Value.type "dict") = false := by decide
      have isl : (s.heap.push (bare led)).IsTuple l its := ⟨_, atl', rfl, nl, rfl⟩
      have under : l < s.heap.objs.size := Heap.lt_size atl
      have sz : (s.heap.push (bare led)).objs.size = s.heap.objs.size + 1 := Heap.size_push _ _
      unfold Builtin.«set.__init__» noKeywords Builtin.Frozenset.updateFrom
      generalize keep : pyIter = it
      wp_walk
      subst keep
      refine wpAny_pyIter_tuple isl (wpAny_bind (wpAny_runValue ?_))
      refine fill_setQ ((Walks.tuple (by simp [calm]) (s.heap.push (bare led)).objs.size l (Nat.ne_of_lt (Nat.lt_of_lt_of_le under (by rw [sz]; exact Nat.le_succ _))) its).toS) s.heap.objs.size (fun z => by rw [sz] at z; exact (List.mem_cons.mp z).elim (fun z => absurd z (Nat.ne_of_lt (Nat.lt_succ_self _))) fun z => absurd (List.mem_singleton.mp z) (Nat.ne_of_gt under)) ks many few item ks [] 0 _ rfl (Nat.zero_le _) (Nat.le_refl _) ⟨⟨_, Heap.get?_push_size _ rfl, rfl, rfl⟩, isl.push _⟩ ?empty ?back
      case empty =>
        exact ⟨bare led, #[], 0, _, Heap.get?_push_of_some _ atS, ⟨rfl, rfl, rfl⟩, rfl, ⟨(fun e he => by simp at he), (fun k => by simp [hasK]), (by decide), (by rfl), rfl, List.Pairwise.nil, List.Pairwise.nil, hled⟩⟩
      case back =>
        rintro ⟨g, gs, dr, tk, os⟩ mv hS
        have e1 : gs = s.gens := mv.gens
        have e2 : dr = s.drawn := mv.drawn
        have e3 : os = s.os := mv.os
        cases e1; cases e2; cases e3
        refine wpAny_pure (wpAny_pure ⟨rfl, g, tk, rfl, hS, fun b o e => ?_⟩)
        have nb : b < s.heap.objs.size := Heap.lt_size e
        exact mv.heap b o (fun z => by rw [sz] at z; exact (List.mem_cons.mp z).elim (fun z => absurd z (Nat.ne_of_lt nb)) fun z => absurd (List.mem_singleton.mp z) (Nat.ne_of_lt (Nat.lt_succ_of_lt nb))) (Heap.get?_push_of_some _ (Heap.get?_push_of_some _ e))
    · match r2, h2 with
      | .error e, h2 => exact h2
      | .ok .next, h2 => exact h2.elim
      | .ok .brk, h2 => exact h2.elim
      | .ok .cont, h2 => exact h2.elim
      | .ok (.ret r), h2 =>
        obtain ⟨rfl, g, tk, rfl, hS, keeps⟩ := h2
        repeat any_goals first | assumption | wp_step
        exact h _ _ hS keeps
end
end G

set_option Elab.async false
set_option linter.all false
set_option maxRecDepth 100000
set_option maxHeartbeats 4000000
/-! HG: sorted(set(xs)), xs a list or a tuple of texts, or of ints. -/
namespace G
open PySem PySem.Spec PyProof.Rows L2
/-! order does not count -/
theorem str_ext {a b : Str} (h : a.cps.toList = b.cps.toList) : a = b := by
  obtain ⟨⟨x⟩⟩ := a
  obtain ⟨⟨y⟩⟩ := b
  cases (show x = y from h)
  rfl
theorem sortD_str (ss : List Str) : sortD (ss.map D.str) = (ss.mergeSort fun a b => decide (a.cps.toList ≤ b.cps.toList)).map D.str := by
  unfold sortD
  rw [List.map_mergeSort (s := PySem.W.dataLe false encD) fun a _ b _ => ?_]
  have h := congrFun (congrFun (PySem.W.dataLe_str (fun s : Str => s)) a) b
  exact h.symm
theorem sortD_strP {ss ts : List Str} (h : ss.Perm ts) : sortD (ss.map D.str) = sortD (ts.map D.str) := by
  rw [sortD_str, sortD_str]
  have tr : ∀ a b c : Str, decide (a.cps.toList ≤ b.cps.toList) = true → decide (b.cps.toList ≤ c.cps.toList) = true → decide (a.cps.toList ≤ c.cps.toList) = true := fun a b c h1 h2 =>
    decide_eq_true (List.le_trans (of_decide_eq_true h1) (of_decide_eq_true h2))
  have to : ∀ a b : Str, (decide (a.cps.toList ≤ b.cps.toList) || decide (b.cps.toList ≤ a.cps.toList)) = true := fun a b => by
    rcases List.le_total a.cps.toList b.cps.toList with z | z
    · rw [decide_eq_true z]; rfl
    · rw [decide_eq_true z, Bool.or_true]
  have e : (ss.mergeSort fun a b => decide (a.cps.toList ≤ b.cps.toList)) = ts.mergeSort fun a b => decide (a.cps.toList ≤ b.cps.toList) :=
    List.Perm.eq_of_pairwise (le := fun a b : Str => decide (a.cps.toList ≤ b.cps.toList) = true) (fun a b _ _ h1 h2 => str_ext (List.le_antisymm (of_decide_eq_true h1) (of_decide_eq_true h2)))
      (List.pairwise_mergeSort tr to ss) (List.pairwise_mergeSort tr to ts) ((List.mergeSort_perm ss _).trans (h.trans (List.mergeSort_perm ts _).symm))
  rw [e]
theorem sortD_int (ss : List Int) : sortD (ss.map D.int) = (ss.mergeSort fun a b => decide (a ≤ b)).map D.int := by
  unfold sortD
  rw [List.map_mergeSort (s := PySem.W.dataLe false encD) fun a _ b _ => ?_]
  have h := congrFun (congrFun (PySem.W.dataLe_int (fun s : Int => s)) a) b
  exact h.symm
theorem sortD_intP {ss ts : List Int} (h : ss.Perm ts) : sortD (ss.map D.int) = sortD (ts.map D.int) := by
  rw [sortD_int, sortD_int]
  have tr : ∀ a b c : Int, decide (a ≤ b) = true → decide (b ≤ c) = true → decide (a ≤ c) = true := fun a b c h1 h2 =>
    decide_eq_true (Int.le_trans (of_decide_eq_true h1) (of_decide_eq_true h2))
  have to : ∀ a b : Int, (decide (a ≤ b) || decide (b ≤ a)) = true := fun a b => by
    rcases Int.le_total a b with z | z
    · rw [decide_eq_true z]; rfl
    · rw [decide_eq_true z, Bool.or_true]
  have e : (ss.mergeSort fun a b => decide (a ≤ b)) = ts.mergeSort fun a b => decide (a ≤ b) :=
    List.Perm.eq_of_pairwise (le := fun a b : Int => decide (a ≤ b) = true) (fun a b _ _ h1 h2 => Int.le_antisymm (of_decide_eq_true h1) (of_decide_eq_true h2))
      (List.pairwise_mergeSort tr to ss) (List.pairwise_mergeSort tr to ts) ((List.mergeSort_perm ss _).trans (h.trans (List.mergeSort_perm ts _).symm))
  rw [e]
/-- the texts among keys, the ints among keys -/
def strsK : List Key → Option (List Str)
  | [] => some []
  | .inr x :: ks => (strsK ks).map (x :: ·)
  | _ :: _ => none
def intsK : List Key → Option (List Int)
  | [] => some []
  | .inl x :: ks => (intsK ks).map (x :: ·)
  | _ :: _ => none
theorem strsK_of : ∀ {ks : List Key} {ss : List Str}, strsK ks = some ss → ks = ss.map Sum.inr
  | [], ss, h => by cases h; rfl
  | .inr x :: ks, ss, h => by
    have h : (strsK ks).map (x :: ·) = some ss := h
    cases e : strsK ks with
    | none => rw [e] at h; cases h
    | some ts => rw [e] at h; cases h; rw [strsK_of e]; rfl
  | .inl x :: ks, ss, h => by cases h
theorem intsK_of : ∀ {ks : List Key} {ss : List Int}, intsK ks = some ss → ks = ss.map Sum.inl
  | [], ss, h => by cases h; rfl
  | .inl x :: ks, ss, h => by
    have h : (intsK ks).map (x :: ·) = some ss := h
    cases e : intsK ks with
    | none => rw [e] at h; cases h
    | some ts => rw [e] at h; cases h; rw [intsK_of e]; rfl
  | .inr x :: ks, ss, h => by cases h
def oneKind (ks : List Key) : Bool := (strsK ks).isSome || (intsK ks).isSome
theorem perm_map_inr {ls : List Key} {ss : List Str} (h : ls.Perm (ss.map Sum.inr)) : ∃ ts : List Str, ls = ts.map Sum.inr ∧ ts.Perm ss := by
  refine ⟨ls.filterMap fun k => match k with | .inr x => some x | _ => none, ?_, ?_⟩
  · have : ∀ k ∈ ls, ∃ x, k = Sum.inr x := fun k hk => by
      obtain ⟨x, _, e⟩ := List.mem_map.mp (h.mem_iff.mp hk)
      exact ⟨x, e.symm⟩
    clear h
    induction ls with
    | nil => rfl
    | cons k ls ih =>
      obtain ⟨x, rfl⟩ := this k (List.mem_cons_self ..)
      have e := ih fun k hk => this k (List.mem_cons_of_mem _ hk)
      show _ = _ :: _
      rw [← e]
  · have := h.filterMap (fun k : Key => match k with | .inr x => some x | _ => none)
    rw [List.filterMap_map] at this
    simpa [Function.comp_def] using this
theorem perm_map_inl {ls : List Key} {ss : List Int} (h : ls.Perm (ss.map Sum.inl)) : ∃ ts : List Int, ls = ts.map Sum.inl ∧ ts.Perm ss := by
  refine ⟨ls.filterMap fun k => match k with | .inl x => some x | _ => none, ?_, ?_⟩
  · have : ∀ k ∈ ls, ∃ x, k = Sum.inl x := fun k hk => by
      obtain ⟨x, _, e⟩ := List.mem_map.mp (h.mem_iff.mp hk)
      exact ⟨x, e.symm⟩
    clear h
    induction ls with
    | nil => rfl
    | cons k ls ih =>
      obtain ⟨x, rfl⟩ := this k (List.mem_cons_self ..)
      have e := ih fun k hk => this k (List.mem_cons_of_mem _ hk)
      show _ = _ :: _
      rw [← e]
  · have := h.filterMap (fun k : Key => match k with | .inl x => some x | _ => none)
    rw [List.filterMap_map] at this
    simpa [Function.comp_def] using this
theorem sortD_keys {ls ms : List Key} (h : ls.Perm ms) (o : oneKind ms = true) : sortD (ls.map dKey) = sortD (ms.map dKey) := by
  unfold oneKind at o
  cases e : strsK ms with
  | some ss =>
    cases strsK_of e
    obtain ⟨ts, rfl, p⟩ := perm_map_inr h
    rw [List.map_map, List.map_map]
    exact sortD_strP p
  | none =>
    rw [e] at o
    cases e2 : intsK ms with
    | none => rw [e2] at o; cases o
    | some ss =>
      cases intsK_of e2
      obtain ⟨ts, rfl, p⟩ := perm_map_inl h
      rw [List.map_map, List.map_map]
      exact sortD_intP p
theorem stepK_nodup {acc : List Key} (h : acc.Nodup) (k : Key) : (stepK acc k).Nodup := by
  unfold stepK
  by_cases z : hasK acc k = true
  · rw [if_pos z]; exact h
  · rw [if_neg z]
    have hk : k ∉ acc := fun m => z (hasK_iff.mpr m)
    exact List.nodup_append.mpr ⟨h, by simp, fun a ha b hb => by cases List.mem_singleton.mp hb; exact fun e => hk (e ▸ ha)⟩
theorem metK_nodup : ∀ (ks acc : List Key), acc.Nodup → (metK acc ks).Nodup
  | [], acc, h => h
  | k :: r, acc, h => metK_nodup r (stepK acc k) (stepK_nodup h k)
def keyOfV : Value → Key
  | .int i _ => .inl i
  | .str x _ => .inr x
  | _ => .inl 0
theorem keyOfV_is {k : Key} {v : Value} (h : keyIs k v = true) : keyOfV v = k ∧ RelV (kV k) v := by
  rcases keyIs_shape h with ⟨i, t, rfl, rfl⟩ | ⟨x, t, rfl, rfl⟩
  · exact ⟨rfl, ⟨t, rfl⟩⟩
  · exact ⟨rfl, ⟨t, rfl⟩⟩
theorem keys_out {P : Program} {w : World} {es : Array (Int × Value)} {t : SetTable} {ms : List Key} {n : Nat} {out : List Value} (q : SetQo P w es t (hasK ms) n) (nd : ms.Nodup) (pm : out.Perm (es.toList.map (·.2))) :
    ∃ ls : List Key, Vals (ls.map kV) out ∧ ls.Perm ms := by
  have hk : ∀ v ∈ out, keyIs (keyOfV v) v = true := fun v hv => by
    obtain ⟨e, he, rfl⟩ := List.mem_map.mp (pm.mem_iff.mp hv)
    obtain ⟨⟨k, h, _⟩, _⟩ := q.el e he
    have h : keyIs k e.2 = true := h
    rw [(keyOfV_is h).1]; exact h
  refine ⟨out.map keyOfV, ?_, ?_⟩
  · clear pm
    induction out with
    | nil => exact .nil
    | cons v out ih => exact .cons (keyOfV_is (hk v (List.mem_cons_self ..))).2 (ih fun u hu => hk u (List.mem_cons_of_mem _ hu))
  · refine (pm.map keyOfV).trans ?_
    rw [List.map_map]
    have hes : ∀ e ∈ es.toList, keyIs (keyOfV e.2) e.2 = true := fun e he => hk _ (pm.mem_iff.mpr (List.mem_map.mpr ⟨e, he, rfl⟩))
    refine (List.perm_ext_iff_of_nodup ?_ nd).mpr fun k => ?_
    · rw [List.nodup_iff_pairwise_ne, List.pairwise_map]
      refine List.Pairwise.imp_of_mem (fun {e f} he hf h z => ?_) q.apart
      have z : keyOfV e.2 = keyOfV f.2 := z
      exact h (keyOfV e.2) (hes e he) (by rw [z]; exact hes f hf)
    · rw [← hasK_iff (acc := ms), q.mem k, List.mem_map]
      constructor
      · rintro ⟨e, he, rfl⟩
        exact ⟨e, he, hes e he⟩
      · rintro ⟨e, he, h⟩
        exact ⟨e, he, (keyOfV_is h).1⟩
end G

set_option Elab.async false
set_option linter.all false
set_option maxRecDepth 100000
set_option maxHeartbeats 8000000
/-! HH: sorted(set(xs)) as an expression. -/
namespace G
open PySem PySem.Spec PyProof.Rows L2
theorem sortOk_perm {ds es : List D} (p : es.Perm ds) (h : sortOk ds = true) : sortOk es = true := by
  unfold sortOk at h ⊢
  simp only [Bool.and_eq_true, Bool.or_eq_true, List.all_eq_true, decide_eq_true_eq] at h ⊢
  obtain ⟨h1, h2, h3, h4⟩ := h
  refine ⟨fun d hd => h1 d (p.mem_iff.mp hd), fun a ha b hb => h2 a (p.mem_iff.mp ha) b (p.mem_iff.mp hb), ?_, by rw [p.length_eq]; exact h4⟩
  exact h3.imp (fun z d hd => z d (p.mem_iff.mp hd)) fun z d hd => z d (p.mem_iff.mp hd)
def setL (ks : List Key) : List D := (metK [] ks).map dKey
def gSortSet (d : D) : Option D := (seqOf d).bind fun ds => (keysA ds).bind fun ks => if ks.length ≤ 4000 ∧ sortOk (setL ks) = true ∧ oneKind (metK [] ks) = true then some (.lst (sortD (setL ks))) else none
def eSortSet (f : Ev → M D) : Ev → M D := fun ρ => f ρ >>= fun d => liftO (gSortSet d)
theorem boot_sorted2 : bootBuiltins "sorted" = some (.builtin "sorted") := by decide +kernel
section
variable {X : Cx} {ca : Dr} {E : XK} {K : PySem.W.Frag}
def rSortSet (K : PySem.W.Frag) (ta : TE) : TE := fun σ H Q => ta σ H fun x H1 => ∃ (a : Addr) (ks : List Key), x = .ref a ∧ (SqL K H1 a (ks.map kV) ∨ SqT K H1 a (ks.map kV)) ∧ ks.length ≤ 4000 ∧ sortOk (setL ks) = true ∧ oneKind (metK [] ks) = true ∧
  ∀ p ws, H1 p = none → (∀ (K : PySem.W.Frag) (ca : Dr) (Z : Addr → Prop), RlA K ca Z H1 ws (sortD (setL ks))) → ws.length ≤ sizeLine → Q (.ref p) (upd H1 p (.lst ws))
theorem keys_rlK {K : PySem.W.Frag} {ca : Dr} {Z : Addr → Prop} {H : Hp} : ∀ ks : List Key, RlA K ca Z H (ks.map kV) (ks.map dKey)
  | [] => .nil
  | k :: r => .cons (rl_key k) (keys_rlK r)
theorem pe_sortSet (y : Sys X.base) (hu : X.A.units + 128 < cLine) {a : Expr} {ta : TE} {p p2 q pos : Pos} (hc : X.calm = true) (hm : X.mg "sorted" = none) (hm2 : X.mg "set" = none) (hg : Gl X "sorted") (hg2 : Gl X "set") (ha : PE X a ta)
    (na : starEach [a] X.env = (false, eval a X.env) :: starEach [] X.env) (nb : starEach [.Call (.Name "set" p2) [a] [] q] X.env = (false, eval (.Call (.Name "set" p2) [a] [] q) X.env) :: starEach [] X.env) :
    PE X (.Call (.Name "sorted" p) [.Call (.Name "set" p2) [a] [] q] [] pos) (rSortSet X.K ta) := by
  refine ⟨fun pins s σ H Q I h => Call_ (ld_blt I hg hm boot_sorted2 (PyProof.Rows.callWith_builtin1 (PyProof.Rows.args_cons ?_ nb) nb rfl))⟩
  refine Call_ (ld_blt I hg2 hm2 boot_set (PyProof.Rows.callWith_type1 (PyProof.Rows.args_cons ?_ na) na rfl))
  refine thn (ha.run pins s σ H _ I h) fun v u ⟨x, H1, J, rv, l, ks, ex, held, few, sok, kin, want⟩ => ?_
  subst ex
  cases rv
  have ends : ∀ (its : List Value), Vals (ks.map kV) its → ∀ (g : Heap) (tk : Nat), SetQ X.prog X.w g u.heap.objs.size (hasK (metK [] ks)) (metK [] ks).length → (∀ b o, u.heap.get? b = some o → g.get? b = some o) →
      wpAny (model X.prog X.w) X.A (spliced (backTo pos (starEach [] X.env))) (fun vs u2 => wpAny (model X.prog X.w) X.A (call (.builtin "sorted") (Value.ref u.heap.objs.size :: vs)) (EP X pins σ Q) X.xe u2) X.xe { u with heap := g, toks := tk } := by
    intro its r g tk full keeps
    refine PyProof.Rows.args_nil ?_
    obtain ⟨o, es, ep, t, at_, ex, dat, qo⟩ := full
    have J2 : L2.Inv X pins σ H1 { u with heap := g, toks := tk } := J.kept keeps
    refine Calls.call_function_entry PyProof.Rows.kind_sorted PyProof.Rows.plain_sorted PyProof.Rows.entry_sorted (PyProof.Rows.args_sorted1 _) ?_
    unfold Builtin.«sorted»
    refine wpAny_bind (m := checkCount "sorted" 1 1 _) (wpAny_pure ?_)
    refine wpAny_bind (collect_set (A := X.A.in1) (J2.ok.hd hc) ⟨o, at_, ex.1, dat⟩ qo.fits qo.few qo.ris qo.led fun s1 out kp sz gn os pm => ?_)
    obtain ⟨ls, lv, lp⟩ := keys_out qo (metK_nodup ks [] List.nodup_nil) pm
    have e1 : s1 = { ({ u with heap := g, toks := tk } : Shared) with heap := s1.heap, gens := s1.gens, drawn := s1.drawn, toks := s1.toks } := by
      cases s1
      cases u
      cases os
      rfl
    have J3 : L2.Inv X pins σ H1 s1 := by
      rw [e1]
      exact J2.call (ch := []) (Un.kept kp) (J2.hok.kept kp) (by rw [gn]; exact J2.bare) (fun _ z => nomatch z)
    have dep : X.A.in1.units = X.A.units + 1 := rfl
    have lpD : (ls.map dKey).Perm (setL ks) := lp.map dKey
    refine sort_new (ca := ⟨0, 1, by decide⟩) (Z := fun _ => False) (A := X.A.in1) y J3 (by rw [dep]; omega) lv (keys_rlK ls) (sortOk_perm lpD sok) fun p ws np rl hl => ?_
    rw [sortD_keys lp kin] at rl
    have hmem : ∀ d ∈ sortD (setL ks), ∃ k, d = dKey k := fun d hd => by
      have : d ∈ setL ks := List.mem_mergeSort.mp hd
      obtain ⟨k, _, rfl⟩ := List.mem_map.mp this
      exact ⟨_, rfl⟩
    exact want p ws np (fun K' ca' Z' => rl_flat_all rl (fun d hd => by obtain ⟨k, rfl⟩ := hmem d hd; cases k <;> rfl) K' ca' Z' hmem) hl
  refine PyProof.Rows.args_nil ?_
  have few2 : ks.length + 1 < scanBound := by unfold scanBound; omega
  rcases held with held | held
  · obtain ⟨its, r, pl, _⟩ := J.list held
    have len : ks.length = its.toArray.size := by have := r.length; simpa using this
    exact setQ_of_list (J.ok.hd hc) pl.isList len (fun i v e => keys_at r (by simpa using e)) (by omega) fun g tk full keeps => ends its r g tk full keeps
  · obtain ⟨its, r, pl, _⟩ := J.tuple held
    have len : ks.length = its.toArray.size := by have := r.length; simpa using this
    exact setQ_of_tuple (J.ok.hd hc) pl len (fun i v e => keys_at r (by simpa using e)) (by omega) fun g tk full keeps => ends its r g tk full keeps
theorem d_sortSet (y : Sys X.base) (hu : X.A.units + 128 < cLine) {a : Expr} {f : Ev → M D} {p p2 q pos : Pos} (hc : X.calm = true) (hm : X.mg "sorted" = none) (hm2 : X.mg "set" = none) (ha : PE X a (tD X.K ca E f)) (hg : Gl X "sorted" := by rfl) (hg2 : Gl X "set" := by rfl)
    (na : starEach [a] X.env = (false, eval a X.env) :: starEach [] X.env := by rfl) (nb : starEach [.Call (.Name "set" p2) [a] [] q] X.env = (false, eval (.Call (.Name "set" p2) [a] [] q) X.env) :: starEach [] X.env := by rfl) :
    PE X (.Call (.Name "sorted" p) [.Call (.Name "set" p2) [a] [] q] [] pos) (tD X.K ca E (eSortSet f)) := by
  refine ⟨fun pins s σ H Q I h => (pe_sortSet y hu hc hm hm2 hg hg2 ha na nb).run pins s σ H Q I ?_⟩
  obtain ⟨Z, Y, ρ, c, eo, co, h⟩ := h
  refine ⟨Z, Y, ρ, c, eo, co, (Do.bind h).mono fun d c1 h1 x H1 e1 r1 co1 => ?_⟩
  obtain ⟨d', hg, h2⟩ := Do.lift h1
  unfold gSortSet at hg
  cases hs : seqOf d with
  | none => rw [hs] at hg; cases hg
  | some ds =>
    rw [hs, Option.bind_some] at hg
    cases hk : keysA ds with
    | none => rw [hk] at hg; cases hg
    | some ks =>
      rw [hk, Option.bind_some] at hg
      by_cases hl : ks.length ≤ 4000 ∧ sortOk (setL ks) = true ∧ oneKind (metK [] ks) = true
      · rw [if_pos hl] at hg; cases hg
        have fin : ∀ p ws, H1 p = none → (∀ (K : PySem.W.Frag) (ca : Dr) (Z : Addr → Prop), RlA K ca Z H1 ws (sortD (setL ks))) → ws.length ≤ sizeLine → Q (.ref p) (upd H1 p (.lst ws)) := fun p ws np rl _ =>
          h2 _ _ (e1.trans (ExtP.new np)) (.lst (fun z => ((eo.zok.ext e1).free np) z) upd_same ((rl X.K ca (U Z Y)).ext (ExtP.new (P := fun b : Addr => b = ca) np) fun b e => e ▸ (eo.zok.ext e1).zca)) (co1.new np)
        cases r1 with
        | lst n hH ra => cases hs; exact ⟨_, ks, rfl, .inl (by rw [← keysA_of ra hk]; exact SqL.of hH), hl.1, hl.2.1, hl.2.2, fin⟩
        | tup hH ra => cases hs; exact ⟨_, ks, rfl, .inr (by rw [← keysA_of ra hk]; exact hH.s), hl.1, hl.2.1, hl.2.2, fin⟩
        | _ => cases hs
      · rw [if_neg hl] at hg; cases hg
end
end G

set_option Elab.async false
set_option linter.all false
set_option maxRecDepth 100000
set_option maxHeartbeats 4000000
/-! HI: is, between truths. -/
namespace G
open PySem PySem.Spec PyProof.Rows L2
section
variable {K : PySem.W.Frag} {ca : Dr}
def gIsB (neg : Bool) : D → D → Option Bool
  | .bl a, .bl b => some (if neg then !decide (a = b) else decide (a = b))
  | _, _ => none
theorem cmp_isB : BinB K ca (fun x y H Q => ∃ a b, x = V.bl a ∧ y = V.bl b ∧ Q (.bl (decide (a = b))) H) (gIsB false) := fun Z H c x y d e k Q z co r1 r2 hg q => by
  unfold gIsB at hg
  split at hg
  · cases r1
    cases r2
    cases hg
    exact ⟨_, _, rfl, rfl, q H .refl co⟩
  · cases hg
theorem cmp_isnotB : BinB K ca (fun x y H Q => ∃ a b, x = V.bl a ∧ y = V.bl b ∧ Q (.bl (!decide (a = b))) H) (gIsB true) := fun Z H c x y d e k Q z co r1 r2 hg q => by
  unfold gIsB at hg
  split at hg
  · cases r1
    cases r2
    cases hg
    exact ⟨_, _, rfl, rfl, q H .refl co⟩
  · cases hg
theorem gIsB_b {a b neg : Bool} : gIsB neg (.bl a) (.bl b) = some (if neg then !decide (a = b) else decide (a = b)) := rfl
end
end G

set_option Elab.async false
set_option linter.all false
set_option maxRecDepth 100000
set_option maxHeartbeats 8000000
/-! HJ: dict(xs) of a tuple of pairs. -/
namespace G
open PySem PySem.Spec PyProof.Rows L2
section
variable {X : Cx} {K : PySem.W.Frag} {ca : Dr} {E : XK}
theorem refs_plain : ∀ ps : List Addr, plainT (ps.map V.ref) = false
  | [] => rfl
  | _ :: _ => rfl
theorem tup_seq {pins : List (Addr × Obj)} {σ : L2.St} {H : Hp} {s : Shared} {a : Addr} {ps : List Addr} (I : L2.Inv X pins σ H s) (h : TupAt X.K H a (ps.map V.ref)) :
    PlainSeq "tuple" s.heap a (ps.map Value.ref).toArray ∧ ps.length ≤ sizeLine := by
  rcases h with ⟨o, od, h⟩ | ⟨us, n, sl, hk, hz, r⟩
  · unfold tupH at h
    rw [refs_plain, if_neg Bool.false_ne_true] at h
    obtain ⟨e, z, its, rv, ob, e2, hc, n, hd⟩ := I.hok a _ h
    cases e.symm.trans e2
    have ei := refs_at rv
    subst ei
    rw [List.length_map] at z
    exact ⟨⟨o, n, e, hc, od, hd⟩, z⟩
  · have ei := refs_at r
    subst ei
    rw [List.length_map] at hz
    exact ⟨⟨_, n, I.kIn a _ hk, rfl, rfl, rfl⟩, hz⟩
theorem call_dictT (hcalm : X.calm = true) : CallR X (.type "dict") (fun xs H Q => ∃ (a : Addr) (ps : List Addr) (kvs : List (Key × V)), xs = [.ref a] ∧ TupAt X.K H a (ps.map V.ref) ∧ Paired (fun p kv => SqT X.K H p [kV kv.1, kv.2]) ps kvs ∧
    ∀ p, H p = none → Q (.ref p) (upd H p (.dK (mergeK [] kvs)))) := by
  intro pins s σ H xs us Q I r q
  obtain ⟨a, ps, kvs, rfl, hq, hp, q⟩ := q
  obtain ⟨u, rfl, rx⟩ := vals1 r
  cases rx
  obtain ⟨pl, hz⟩ := tup_seq I hq
  obtain ⟨prs, rel, hl, hpr⟩ := pairs_of I hp
  -- the pairs as they lie
  have kf : ∀ j : Nat, ∃ p : Value × Value, ∀ q, prs[j]? = some q → ∃ b : Addr, ps[j]? = some b ∧ IsTup s.heap b #[p.1, p.2] ∧ p.2 = q.2 ∧ keyIs q.1 p.1 = true := fun j => by
    cases e : prs[j]? with
    | none => exact ⟨(.none, .none), fun q z => nomatch z⟩
    | some q =>
      obtain ⟨b, u, e1, e2, e3⟩ := hpr j q e
      exact ⟨(u, q.2), fun q' z => by cases z; exact ⟨b, e1, e2, rfl, e3⟩⟩
  let kp : Nat → Value × Value := fun j => Classical.choose (kf j)
  have kpp : ∀ j q, prs[j]? = some q → ∃ b : Addr, ps[j]? = some b ∧ IsTup s.heap b #[(kp j).1, (kp j).2] ∧ (kp j).2 = q.2 ∧ keyIs q.1 (kp j).1 = true := fun j => Classical.choose_spec (kf j)
  let cs : List (Value × Value) := (List.range prs.length).map kp
  have cl : cs.length = prs.length := by simp [cs]
  have cg : ∀ j k v, cs[j]? = some (k, v) → ∃ q, prs[j]? = some q ∧ kp j = (k, v) := fun j k v e => by
    have hj : j < prs.length := by rw [← cl]; exact (List.getElem?_eq_some_iff.mp e).1
    refine ⟨prs[j], List.getElem?_eq_getElem hj, ?_⟩
    simpa [cs, List.getElem?_map, List.getElem?_range hj] using e
  refine call_dict_pairs (knd := mixKind X.prog X.w) (kvs := prs) (PairArg.tuple a (ps.map Value.ref).toArray (fun j => ps.getD j 0) cs) (I.ok.hd hcalm) ⟨pl, ?_, fun j k v e => ?_⟩ ⟨cl.symm, fun i key v e => ?_⟩ (by rw [cl, hl]; exact hz) fun h' tk hd' k => ?_
  · simp [cl, hl]
  · obtain ⟨q, e1, e2⟩ := cg j k v e
    obtain ⟨b, b1, b2, _, _⟩ := kpp j q e1
    rw [e2] at b2
    refine ⟨by simp [b1], .inl ?_⟩
    have gb : ps.getD j 0 = b := by simp [List.getD, b1]
    show s.heap.IsTuple (ps.getD j 0) #[k, v]
    rw [gb]
    exact b2
  · obtain ⟨q, e1, e2⟩ := cg i key v e
    obtain ⟨b, _, _, b3, b4⟩ := kpp i q e1
    rw [e2] at b3 b4
    exact ⟨q.1, by rw [e1, show v = q.2 from b3], b4⟩
  · have hm : (s.heap.objs.size == sysModules) = false := beq_eq_false_iff_ne.mpr (Nat.ne_of_gt I.big)
    have ln : (mergeK [] kvs).length ≤ sizeLine := by
      have := length_mergeK kvs []
      have := rel.length
      simp only [List.length_nil, Nat.zero_add] at *
      omega
    exact ⟨.ref s.heap.objs.size, upd H s.heap.objs.size (.dK (mergeK [] kvs)), I.laid (t' := tk) (fun b o z => k b o (by simp) z) (Nat.le_refl _) (show ObjOk X.prog X.w _ _ _ (.dK (mergeK [] kvs)) from ⟨ln, hm, merged [] prs, KV.merge rel .nil, hd'⟩), rfl, q _ (I.hok.fresh (Nat.le_refl _))⟩
def gDictT : List D → Option D
  | [.tup xs] => (pairsD xs).map mkDic
  | ds => gDict ds
def rDictA (K : PySem.W.Frag) : List V → Hp → VK → Prop := fun xs H Q =>
  (∃ (a : Addr) (ps : List Addr) (kvs : List (Key × V)), xs = [.ref a] ∧ SqL K H a (ps.map V.ref) ∧ Paired (fun p kv => SqT K H p [kV kv.1, kv.2]) ps kvs ∧ ∀ p, H p = none → Q (.ref p) (upd H p (.dK (mergeK [] kvs)))) ∨
  (∃ (a : Addr) (ps : List Addr) (kvs : List (Key × V)), xs = [.ref a] ∧ TupAt K H a (ps.map V.ref) ∧ Paired (fun p kv => SqT K H p [kV kv.1, kv.2]) ps kvs ∧ ∀ p, H p = none → Q (.ref p) (upd H p (.dK (mergeK [] kvs))))
theorem call_dictA (hcalm : X.calm = true) : CallR X (.type "dict") (rDictA X.K) := CallR.or (call_dictP hcalm) (call_dictT hcalm)
theorem cal_dictA : CalD K ca (rDictA K) gDictT := fun Z H c xs ds d' Q z co r hg q => by
  unfold gDictT at hg
  split at hg
  · rename_i ys
    cases r with | cons r1 r2 =>
    cases r2
    cases hy : pairsD ys with
    | none => rw [hy] at hg; cases hg
    | some kds =>
      rw [hy] at hg; cases hg
      cases r1 with | tup hH ra =>
      obtain ⟨as, kvs, rfl, q1, q2, q3⟩ := pairsD_of ra hy
      refine .inr ⟨_, as, kvs, rfl, hH, q1, fun p np => q _ _ (ExtP.new np) ?_ (co.new np)⟩
      have m := rl_merge (more := kvs) (mds := kds.map (·.2)) (kvs := []) (ds := []) List.nodup_nil .nil q3
      rw [q2, zip_self] at m
      have r4 := Rl.dic (K := K) (ca := ca) (Z := Z) (z.free np) (upd_same (H := H) (a := p) (o := .dK (mergeK [] kvs))) (m.2.ext (ExtP.new (P := fun b : Addr => b = ca) np) fun b e => e ▸ z.zca)
      rw [m.1] at r4
      exact r4
  · exact .inl (cal_dict Z H c xs _ d' Q z co r hg q)
end
end G

set_option Elab.async false
set_option linter.all false
set_option maxRecDepth 100000
set_option maxHeartbeats 8000000
/-! k04_forms_made_and_judged: printed: the text by places, what each def does, and that it does. -/
namespace G
open PySem PySem.Spec PyProof.Rows L2
def topS (i : Nat) : Stmt := PySem.Challenge.pw_claimduel_k04_forms_made_and_judged.main.body.getD i (.Pass ⟨0, 0, 0, 0⟩)
abbrev s__law_added : Stmt := topS 33
abbrev s__law_peck : Stmt := topS 28
abbrev s__law_pick : Stmt := topS 29
abbrev s__law_bent : Stmt := topS 36
abbrev s__law_is_int : Stmt := topS 30
abbrev s__law_is_name : Stmt := topS 31
abbrev s__law_is_form : Stmt := topS 32
abbrev s__law_listed : Stmt := topS 34
abbrev s__law_nest : Stmt := topS 27
abbrev s__law_pairs : Stmt := topS 35
abbrev s_factor_in : Stmt := topS 22
abbrev s_fixed : Stmt := topS 16
abbrev s_is_integer : Stmt := topS 10
abbrev s_is_name : Stmt := topS 12
abbrev s_are_pairs : Stmt := topS 18
abbrev s_is_form : Stmt := topS 19
abbrev s_need_form : Stmt := topS 20
abbrev s_need_name : Stmt := topS 14
abbrev s_factor_of : Stmt := topS 25
abbrev s_joined : Stmt := topS 21
abbrev s_is_within : Stmt := topS 11
abbrev s_need_number : Stmt := topS 13
abbrev s_form_of : Stmt := topS 23
abbrev s_names_in : Stmt := topS 24
abbrev s_law : Stmt := topS 37
def faL : List He.Fa := ([.free "sorted", .free "set", .free "sum", .free "int", .free "tuple", .free "len", .free "abs", .free "list", .free "dict", .free "isinstance", .free "bool", .free "str", .free "range", .int "LONGEST" 8, .glo "WORDS", .str "LETTERS" "abcdefghijklmnopqrstuvwxyz", .str "DIGITS" "0123456789", .free "all", .free "any", .free "zip", .free "repr", .glo "_law_added", .glo "_law_peck", .glo "_law_pick", .glo "_law_bent", .glo "_law_is_int", .glo "_law_is_name", .glo "_law_is_form", .glo "_law_listed", .glo "_law_nest"] : List He.Fa) ++ ([.glo "_law_pairs", .glo "factor_in", .glo "fixed", .glo "is_integer", .glo "is_name", .glo "are_pairs", .glo "is_form", .glo "need_form", .glo "need_name", .glo "factor_of", .glo "joined", .glo "is_within", .glo "need_number", .glo "form_of", .glo "names_in", .glo "law"] : List He.Fa)
def dd__law_added : He.DefD := ⟨("_law_added", none), "_law_added", "_law_added", defArgs s__law_added, defBody s__law_added, defScope s__law_added, [], []⟩
def dd__law_peck : He.DefD := ⟨("_law_peck", none), "_law_peck", "_law_peck", defArgs s__law_peck, defBody s__law_peck, defScope s__law_peck, [], []⟩
def dd__law_pick : He.DefD := ⟨("_law_pick", none), "_law_pick", "_law_pick", defArgs s__law_pick, defBody s__law_pick, defScope s__law_pick, [], []⟩
def dd__law_bent : He.DefD := ⟨("_law_bent", none), "_law_bent", "_law_bent", defArgs s__law_bent, defBody s__law_bent, defScope s__law_bent, [], []⟩
def dd__law_is_int : He.DefD := ⟨("_law_is_int", none), "_law_is_int", "_law_is_int", defArgs s__law_is_int, defBody s__law_is_int, defScope s__law_is_int, [], []⟩
def dd__law_is_name : He.DefD := ⟨("_law_is_name", none), "_law_is_name", "_law_is_name", defArgs s__law_is_name, defBody s__law_is_name, defScope s__law_is_name, [], []⟩
def dd__law_is_form : He.DefD := ⟨("_law_is_form", none), "_law_is_form", "_law_is_form", defArgs s__law_is_form, defBody s__law_is_form, defScope s__law_is_form, [], []⟩
def dd__law_listed : He.DefD := ⟨("_law_listed", none), "_law_listed", "_law_listed", defArgs s__law_listed, defBody s__law_listed, defScope s__law_listed, [], []⟩
def dd__law_nest : He.DefD := ⟨("_law_nest", none), "_law_nest", "_law_nest", defArgs s__law_nest, defBody s__law_nest, defScope s__law_nest, [], []⟩
def dd__law_pairs : He.DefD := ⟨("_law_pairs", none), "_law_pairs", "_law_pairs", defArgs s__law_pairs, defBody s__law_pairs, defScope s__law_pairs, [], []⟩
def dd_factor_in : He.DefD := ⟨("factor_in", none), "factor_in", "factor_in", defArgs s_factor_in, defBody s_factor_in, defScope s_factor_in, [], []⟩
def dd_fixed : He.DefD := ⟨("fixed", none), "fixed", "fixed", defArgs s_fixed, defBody s_fixed, defScope s_fixed, [], []⟩
def dd_is_integer : He.DefD := ⟨("is_integer", none), "is_integer", "is_integer", defArgs s_is_integer, defBody s_is_integer, defScope s_is_integer, [], []⟩
def dd_is_name : He.DefD := ⟨("is_name", none), "is_name", "is_name", defArgs s_is_name, defBody s_is_name, defScope s_is_name, [], []⟩
def dd_are_pairs : He.DefD := ⟨("are_pairs", none), "are_pairs", "are_pairs", defArgs s_are_pairs, defBody s_are_pairs, defScope s_are_pairs, [], []⟩
def dd_is_form : He.DefD := ⟨("is_form", none), "is_form", "is_form", defArgs s_is_form, defBody s_is_form, defScope s_is_form, [], []⟩
def dd_need_form : He.DefD := ⟨("need_form", none), "need_form", "need_form", defArgs s_need_form, defBody s_need_form, defScope s_need_form, [], []⟩
def dd_need_name : He.DefD := ⟨("need_name", none), "need_name", "need_name", defArgs s_need_name, defBody s_need_name, defScope s_need_name, [.str "name"], []⟩
def dd_factor_of : He.DefD := ⟨("factor_of", none), "factor_of", "factor_of", defArgs s_factor_of, defBody s_factor_of, defScope s_factor_of, [], []⟩
def dd_joined : He.DefD := ⟨("joined", none), "joined", "joined", defArgs s_joined, defBody s_joined, defScope s_joined, [], []⟩
def dd_is_within : He.DefD := ⟨("is_within", none), "is_within", "is_within", defArgs s_is_within, defBody s_is_within, defScope s_is_within, [], []⟩
def dd_need_number : He.DefD := ⟨("need_number", none), "need_number", "need_number", defArgs s_need_number, defBody s_need_number, defScope s_need_number, [.non, .non], []⟩
def dd_form_of : He.DefD := ⟨("form_of", none), "form_of", "form_of", defArgs s_form_of, defBody s_form_of, defScope s_form_of, [], []⟩
def dd_names_in : He.DefD := ⟨("names_in", none), "names_in", "names_in", defArgs s_names_in, defBody s_names_in, defScope s_names_in, [], []⟩
def dd_law : He.DefD := ⟨("law", none), "law", "law", defArgs s_law, defBody s_law, defScope s_law, [], []⟩
def fnL : List He.DefD := [dd__law_added, dd__law_peck, dd__law_pick, dd__law_bent, dd__law_is_int, dd__law_is_name, dd__law_is_form, dd__law_listed, dd__law_nest, dd__law_pairs, dd_factor_in, dd_fixed, dd_is_integer, dd_is_name, dd_are_pairs, dd_is_form, dd_need_form, dd_need_name, dd_factor_of, dd_joined, dd_is_within, dd_need_number, dd_form_of, dd_names_in, dd_law]
def tupL : List (Str × List V) := [("WORDS", [.str "and", .str "or", .str "not", .str "all", .str "some", .str "many", .str "endless", .str "yes", .str "no"])]
abbrev HxL := Hx faL fnL tupL
section
variable {P : Program} {w : World} {K : PySem.W.Frag} {mg : Str → Option Value} {base : Heap}
theorem bt_len : bootBuiltins "len" = some (.builtin "len") := by decide +kernel
theorem bt_isinstance : bootBuiltins "isinstance" = some (.builtin "isinstance") := by decide +kernel
theorem bt_repr : bootBuiltins "repr" = some (.builtin "repr") := by decide +kernel
theorem bt_abs : bootBuiltins "abs" = some (.builtin "abs") := by decide +kernel
theorem bt_all : bootBuiltins "all" = some (.builtin "all") := by decide +kernel
theorem bt_any : bootBuiltins "any" = some (.builtin "any") := by decide +kernel
theorem bt_sorted : bootBuiltins "sorted" = some (.builtin "sorted") := by decide +kernel
theorem bt_sum : bootBuiltins "sum" = some (.builtin "sum") := by decide +kernel
theorem bt_max : bootBuiltins "max" = some (.builtin "max") := by decide +kernel
theorem bt_min : bootBuiltins "min" = some (.builtin "min") := by decide +kernel
/-! _law_added -/
def g_L_added : Sm := (sSeq (sAsg (gN 2) (eArgs gLst aNil))
  (sSeq (sFor (gN 3) (iSeq (eSortSet (eComp (gS [(gN 5), (gN 6)]) (iSeq (eVar 1)) (fun _ => pure true) (eVar 5) [5, 6]))) (sSeq (sAsg (gN 4) (eArgs gSum (aCons (eComp (gS [(gN 5), (gN 6)]) (iSeq (eVar 1)) (cCmp gEqA (eVar 5) (eVar 3)) (eVar 6) [5, 6]) aNil)))
  (sAsg (gN 2) (eBin gAdd (eVar 2) (eBin gMul (eArgs gLst (aCons (eArgs gTup (aCons (eVar 3) (aCons (eVar 4) aNil))) aNil)) (eArgs gInt (aCons (eBin (gBl (gEqX true)) (eVar 4) (eC (.int 0))) aNil)))))))
  (sRet (eArgs gTup (aCons (eVar 0) (aCons (eArgs gTuple (aCons (eVar 2) aNil)) aNil))))))
theorem sc__law_added : FnScope ["_law_constant", "_law_pairs_here", "_law_found", "_law_name", "_law_total", "_law_each", "_law_factor"] ["_law_constant", "_law_pairs_here"] (defScope s__law_added) := ⟨rfl, rfl, rfl, by decide +kernel, rfl, by decide +kernel, by decide +kernel⟩
def F_L_added : List D → M D := fun ds => G.nx (runDef 7 g_L_added ds)
theorem ok__law_added (e : HxL K mg base) : DefG P w K mg base 1 "_law_added" s__law_added ["_law_constant", "_law_pairs_here"] F_L_added :=
  DefG.mk2 (k := 0) (N := ["_law_constant", "_law_pairs_here", "_law_found", "_law_name", "_law_total", "_law_each", "_law_factor"]) (g := g_L_added) (e.c.def_ 0 (d := dd__law_added)) (e.glo 21) sc__law_added (fun _ _ _ _ _ _ us hl => match us, hl with | [_, _], _ => rfl) fun ca cdv A outer s H E gd hr => by
  have nd := sc__law_added.nd
  exact (ss_cons (s_set 2 nd (d_lst da_nil))
  (ss_cons (s_for rfl PassesOwn.never (i_seq (d_sortSet e.y (roomU hr) rfl (e.free 0) (e.free 1) (d_comp (own := [("_law_each", 5), ("_law_factor", 6)]) rfl nd (blkOk_by (by kernel_rfl)) (i_seq (d_var 1)) (tg_unp (tgs_cons (tg_name 5) (tgs_cons (tg_name 6) tgs_nil))) (fun _ _ _ _ _ => (pg_unp rfl (pgs_cons (pg_name (i := 5) nd rfl (by first | exact Or.inl rfl | exact Or.inr rfl)) (pgs_cons (pg_name (i := 6) nd rfl (by first | exact Or.inl rfl | exact Or.inr rfl)) pgs_nil)))) (fun _ _ _ _ _ => dts_nil) (fun _ _ _ _ _ => (d_var 5))))) (pg_name (i := 3) nd rfl (by first | exact Or.inl rfl | exact Or.inr rfl)) (tg_name 3) (ss_cons (s_set 4 nd (d_callB (cr_sum rfl) cal_sum (e.free 2) (bt_sum) (da_cons (d_comp (own := [("_law_each", 5), ("_law_factor", 6)]) rfl nd (blkOk_by (by kernel_rfl)) (i_seq (d_var 1)) (tg_unp (tgs_cons (tg_name 5) (tgs_cons (tg_name 6) tgs_nil))) (fun _ _ _ _ _ => (pg_unp rfl (pgs_cons (pg_name (i := 5) nd rfl (by first | exact Or.inl rfl | exact Or.inr rfl)) (pgs_cons (pg_name (i := 6) nd rfl (by first | exact Or.inl rfl | exact Or.inr rfl)) pgs_nil)))) (fun _ _ _ _ _ => (dts_one (dt_cmp (op_eqA (roomE hr)) cmp_eqA (d_var 5) (d_var 3) (nomark _)))) (fun _ _ _ _ _ => (d_var 6))) da_nil)))
  (ss_one (s_set 2 nd (d_bin op_addD bin_add (d_var 2) (d_bin op_mulD bin_mul (d_lst (da_cons (d_tup (da_cons (d_var 3) (da_cons (d_var 4) da_nil))) da_nil)) (d_callTy call_int1 cal_int (e.free 3) boot_int (da_cons (d_cmp (op_neX (roomE hr)) (BinB.d cmp_neX) (d_var 4) d_int (nomark _)) da_nil))))))))
  (ss_one (s_ret (d_tup (da_cons (d_var 0) (da_cons (d_callTy call_tupN cal_tuple (e.free 4) boot_tuple (da_cons (d_var 2) da_nil)) da_nil)))))))
/-! _law_peck -/
def g_draw : Sm := (sSeq (sIf (cCmp (gEqX false) (eChn 0 0) (eArgs gLst aNil)) (sRet (eC (.int 0))) sNil)
  (sSeq (sIf (cCmp (gCmpI gtI) (eChn 2 0) (eC (.int 0))) (sSeq (sAsg (gN 2) (eArgs gInt (aCons (eChn 2 0) aNil)))
  (sSeq (sChn 2 0 (eBin gDiv (eVar 2) (eVar 1)))
  (sRet (eBin gMod (eArgs gInt (aCons (eVar 2) aNil)) (eVar 1))))) sNil)
  (sSeq (sAsg (gN 3) (eChn 1 0))
  (sSeq (sChn 1 0 (eBin gAdd (eVar 3) (eC (.int 1))))
  (sSeq (sAsg (gN 4) (eBin gIx (eChn 0 0) (eBin gMod (eArgs gInt (aCons (eVar 3) aNil)) (eArgs gLen (aCons (eChn 0 0) aNil)))))
  (sSeq (sIf (cAnd (cCmp (gCmpI ltI) (eVar 3) (eArgs gLen (aCons (eChn 0 0) aNil))) (cCmp (gCmpI geI) (eArgs gAbs (aCons (eVar 4) aNil)) (eBin gPow (eC (.int 10)) (eC (.int 18))))) (sSeq (sAsg (gN 2) (eBin gAdd (eBin gMul (eC (.int 2)) (eBin gSub (eArgs gAbs (aCons (eVar 4) aNil)) (eBin gPow (eC (.int 10)) (eC (.int 18))))) (eArgs gInt (aCons (eBin (gBl (gCmpI ltI)) (eVar 4) (eC (.int 0))) aNil))))
  (sSeq (sChn 2 0 (eBin gDiv (eArgs gInt (aCons (eVar 2) aNil)) (eVar 1)))
  (sRet (eBin gMod (eArgs gInt (aCons (eVar 2) aNil)) (eVar 1))))) sNil)
  (sSeq (sAsg (gN 5) (eBin gMod (eArgs gInt (aCons (eBin gPow (eBin gAdd (eBin gAdd (eBin gMod (eArgs gInt (aCons (eVar 4) aNil)) (eC (.int 2147483629))) (eBin gMul (eC (.int 30109)) (eVar 3))) (eC (.int 9127))) (eC (.int 5))) aNil)) (eC (.int 2147483587))))
  (sSeq (sAsg (gN 5) (eBin gMod (eArgs gInt (aCons (eBin gPow (eBin gAdd (eBin gAdd (eBin gMul (eVar 5) (eBin gAdd (eBin gMul (eC (.int 2)) (eVar 3)) (eC (.int 3511)))) (eBin gMul (eBin gMul (eC (.int 63001)) (eVar 3)) (eVar 3))) (eC (.int 30109))) (eC (.int 3))) aNil)) (eC (.int 2147483549))))
  (sRet (eBin gMod (eArgs gInt (aCons (eBin gDiv (eVar 5) (eC (.int 64))) aNil)) (eVar 1)))))))))))
theorem sc__law_peck : FnScope ["_law_nest_here", "_law_many", "_law_rest", "_law_turn", "_law_cell", "_law_mixed"] ["_law_nest_here", "_law_many"] (defScope s__law_peck) := ⟨rfl, rfl, rfl, by decide +kernel, rfl, by decide +kernel, by decide +kernel⟩
def F_draw : List D → M D := fun ds => G.nx (runDef 6 g_draw ds)
theorem ok__law_peck (e : HxL K mg base) : DefG P w K mg base 1 "_law_peck" s__law_peck ["_law_nest_here", "_law_many"] F_draw :=
  DefG.mk2 (k := 0) (N := ["_law_nest_here", "_law_many", "_law_rest", "_law_turn", "_law_cell", "_law_mixed"]) (g := g_draw) (e.c.def_ 1 (d := dd__law_peck)) (e.glo 22) sc__law_peck (fun _ _ _ _ _ _ us hl => match us, hl with | [_, _], _ => rfl) fun ca cdv A outer s H E gd hr => by
  have nd := sc__law_peck.nd
  exact (ss_cons (s_if (dt_cmp (op_eqX (roomE hr)) cmp_eqX (d_chn 0 0) (d_lst da_nil) (nomark _)) (ss_one (s_ret d_int)) ss_nil)
  (ss_cons (s_if (dt_cmp op_gt (cmp_int (f := gtI)) (d_chn 2 0) d_int (nomark _)) (ss_cons (s_set 2 nd (d_callTy call_int1 cal_int (e.free 3) boot_int (da_cons (d_chn 2 0) da_nil)))
  (ss_cons (s_chn 2 0 (d_bin op_fdivW bin_div (d_var 2) (d_var 1)))
  (ss_one (s_ret (d_bin op_mod bin_mod (d_callTy call_int1 cal_int (e.free 3) boot_int (da_cons (d_var 2) da_nil)) (d_var 1)))))) ss_nil)
  (ss_cons (s_set 3 nd (d_chn 1 0))
  (ss_cons (s_chn 1 0 (d_bin op_addD bin_add (d_var 3) d_int))
  (ss_cons (s_set 4 nd (d_ix ix_seq ix_D (d_chn 0 0) (d_bin op_mod bin_mod (d_callTy call_int1 cal_int (e.free 3) boot_int (da_cons (d_var 3) da_nil)) (d_callB cr_lenD cal_len (e.free 5) (bt_len) (da_cons (d_chn 0 0) da_nil)))))
  (ss_cons (s_if (dw_and (dt_cmp op_lt (cmp_int (f := ltI)) (d_var 3) (d_callB cr_lenD cal_len (e.free 5) (bt_len) (da_cons (d_chn 0 0) da_nil)) (nomark _)) (dw_and1 (dt_cmp op_ge (cmp_int (f := geI)) (d_callB call_abs cal_abs (e.free 6) (bt_abs) (da_cons (d_var 4) da_nil)) (d_bin op_pow bin_pow d_int d_int) (nomark _)))).pt (ss_cons (s_set 2 nd (d_bin op_addD bin_add (d_bin op_mulD bin_mul d_int (d_bin op_subD bin_sub (d_callB call_abs cal_abs (e.free 6) (bt_abs) (da_cons (d_var 4) da_nil)) (d_bin op_pow bin_pow d_int d_int))) (d_callTy call_int1 cal_int (e.free 3) boot_int (da_cons (d_cmp op_lt (BinB.d (cmp_int (f := ltI))) (d_var 4) d_int (nomark _)) da_nil))))
  (ss_cons (s_chn 2 0 (d_bin op_fdivW bin_div (d_callTy call_int1 cal_int (e.free 3) boot_int (da_cons (d_var 2) da_nil)) (d_var 1)))
  (ss_one (s_ret (d_bin op_mod bin_mod (d_callTy call_int1 cal_int (e.free 3) boot_int (da_cons (d_var 2) da_nil)) (d_var 1)))))) ss_nil)
  (ss_cons (s_set 5 nd (d_bin op_mod bin_mod (d_callTy call_int1 cal_int (e.free 3) boot_int (da_cons (d_bin op_pow bin_pow (d_bin op_addD bin_add (d_bin op_addD bin_add (d_bin op_mod bin_mod (d_callTy call_int1 cal_int (e.free 3) boot_int (da_cons (d_var 4) da_nil)) d_int) (d_bin op_mulD bin_mul d_int (d_var 3))) d_int) d_int) da_nil)) d_int))
  (ss_cons (s_set 5 nd (d_bin op_mod bin_mod (d_callTy call_int1 cal_int (e.free 3) boot_int (da_cons (d_bin op_pow bin_pow (d_bin op_addD bin_add (d_bin op_addD bin_add (d_bin op_mulD bin_mul (d_var 5) (d_bin op_addD bin_add (d_bin op_mulD bin_mul d_int (d_var 3)) d_int)) (d_bin op_mulD bin_mul (d_bin op_mulD bin_mul d_int (d_var 3)) (d_var 3))) d_int) d_int) da_nil)) d_int))
  (ss_one (s_ret (d_bin op_mod bin_mod (d_callTy call_int1 cal_int (e.free 3) boot_int (da_cons (d_bin op_fdivW bin_div (d_var 5) d_int) da_nil)) (d_var 1))))))))))))
/-! _law_pick -/
def g_L_pick : Sm := (sRet (eBin gIxA (eVar 1) (eCall 2 F_draw [] (aCons (eVar 0) (aCons (eArgs gLen (aCons (eVar 1) aNil)) aNil)))))
theorem sc__law_pick : FnScope ["_law_nest_here", "_law_some"] ["_law_nest_here", "_law_some"] (defScope s__law_pick) := ⟨rfl, rfl, rfl, by decide +kernel, rfl, by decide +kernel, by decide +kernel⟩
def F_L_pick : List D → M D := fun ds => G.nx (runDef 2 g_L_pick ds)
theorem ok__law_pick (e : HxL K mg base) : DefG P w K mg base 2 "_law_pick" s__law_pick ["_law_nest_here", "_law_some"] F_L_pick :=
  DefG.mk2 (k := 1) (N := ["_law_nest_here", "_law_some"]) (g := g_L_pick) (e.c.def_ 2 (d := dd__law_pick)) (e.glo 23) sc__law_pick (fun _ _ _ _ _ _ us hl => match us, hl with | [_, _], _ => rfl) fun ca cdv A outer s H E gd hr => by
  have nd := sc__law_pick.nd
  exact (ss_one (s_ret (d_ix (ix_all (roomI hr)) ix_DA (d_var 1) (d_callG (ok__law_peck e) gd hr (da_cons (d_var 0) (da_cons (d_callB cr_lenD cal_len (e.free 5) (bt_len) (da_cons (d_var 1) da_nil)) da_nil))))))
/-! _law_bent -/
def g_L_bent3 : Sm := (sSeq (sParX3 2 3 4 (xVal (eBin gIxA (eVar 1) (eC (.int 0))) (xVal (eComp (gN 8) (iSeq (eBin gIxA (eVar 1) (eC (.int 1)))) (fun _ => pure true) (eArgs gList (aCons (eVar 8) aNil)) [8]) (xVal (eCall 2 F_draw [] (aCons (eVar 0) (aCons (eC (.int 9)) aNil))) xNil))))
  (sSeq (sAsg (gN 5) (eCall 2 F_L_pick [] (aCons (eVar 0) (aCons (eArgs gLst (aCons (eC .non) (aCons (eC (.bl true)) (aCons (eC (.str "1")) (aCons (eC (.str "x")) (aCons (eC (.int 0)) (aCons (eArgs gTup aNil) (aCons (eArgs gLst (aCons (eC (.int 1)) aNil)) (aCons (eC (.str "some")) (aCons (eC (.str "X")) (aCons (eC (.str "x y")) (aCons (eC (.str "abcdefghi")) (aCons (eC (.str "1a")) (aCons (eC (.str "")) (aCons eDict0 (aCons (eBin gPow (eC (.int 10)) (eC (.int 50))) aNil)))))))))))))))) aNil))))
  (sSeq (sIf (cCmp gEqA (eVar 4) (eC (.int 0))) (sRet (eArgs gTup (aCons (eVar 5) (aCons (eVar 3) aNil)))) sNil)
  (sSeq (sIf (cCmp gEqA (eVar 4) (eC (.int 1))) (sRet (eArgs gTup (aCons (eVar 2) (aCons (eVar 5) aNil)))) sNil)
  (sSeq (sIf (cAnd (cCmp (gEqX true) (eVar 3) (eArgs gLst aNil)) (cCmp (gCmpO ltI ltL) (eVar 4) (eC (.int 6)))) (sSeq (sAsg (gN 6) (eCall 2 F_draw [] (aCons (eVar 0) (aCons (eArgs gLen (aCons (eVar 3) aNil)) aNil))))
  (sSeq (sAsg (gN 7) (eBin gIxA (eArgs gLst (aCons (eArgs gLst (aCons (eArgs gLst (aCons (eBin gIxA (eBin gIxA (eVar 3) (eVar 6)) (eC (.int 0))) (aCons (eVar 5) aNil))) aNil)) (aCons (eArgs gLst (aCons (eArgs gLst (aCons (eVar 5) (aCons (eBin gIxA (eBin gIxA (eVar 3) (eVar 6)) (eC (.int 1))) aNil))) aNil)) (aCons (eArgs gLst (aCons (eBin gAdd (eBin gIxA (eVar 3) (eVar 6)) (eArgs gLst (aCons (eC (.int 1)) aNil))) aNil)) (aCons (eArgs gLst (aCons (eBin gIxA (eVar 3) (eVar 6)) (aCons (eBin gIxA (eVar 3) (eVar 6)) aNil))) aNil))))) (eBin gSub (eVar 4) (eC (.int 2)))))
  (sRet (eArgs gLst (aCons (eVar 2) (aCons (eBin gAdd (eBin gAdd (eSl gSl (eVar 3) oNone (oSome (eVar 6))) (eVar 7)) (eSl gSl (eVar 3) (oSome (eBin gAdd (eVar 6) (eC (.int 1)))) oNone)) aNil)))))) sNil)
  (sSeq (sIf (cCmp gEqA (eVar 4) (eC (.int 6))) (sRet (eArgs gTup (aCons (eVar 2) (aCons (eRev (eVar 3)) aNil)))) sNil)
  (sRet (eCall 2 F_L_pick [] (aCons (eVar 0) (aCons (eArgs gLst (aCons (eVar 5) (aCons (eArgs gTup (aCons (eVar 2) aNil)) (aCons (eArgs gTup (aCons (eVar 2) (aCons (eVar 3) (aCons (eC (.int 0)) aNil)))) (aCons (eArgs gLst (aCons (eVar 3) (aCons (eVar 2) aNil))) (aCons (eArgs gTup (aCons (eVar 2) (aCons (eArgs gDictT (aCons (eBin gIxA (eVar 1) (eC (.int 1))) aNil)) aNil))) (aCons (eVar 1) aNil))))))) aNil))))))))))
theorem sc__law_bent : FnScope ["_law_nest_here", "_law_form", "_law_constant", "_law_pairs_here", "_law_way", "_law_odd", "_law_at", "_law_bent_here", "_law_pair"] ["_law_nest_here", "_law_form"] (defScope s__law_bent) := ⟨rfl, rfl, rfl, by decide +kernel, rfl, by decide +kernel, by decide +kernel⟩
def F_L_bent3 : List D → M D := fun ds => G.nx (runDef 9 g_L_bent3 ds)
theorem ok__law_bent (e : HxL K mg base) : DefG P w K mg base 3 "_law_bent" s__law_bent ["_law_nest_here", "_law_form"] F_L_bent3 :=
  DefG.mk2 (k := 2) (N := ["_law_nest_here", "_law_form", "_law_constant", "_law_pairs_here", "_law_way", "_law_odd", "_law_at", "_law_bent_here", "_law_pair"]) (g := g_L_bent3) (e.c.def_ 3 (d := dd__law_bent)) (e.glo 24) sc__law_bent (fun _ _ _ _ _ _ us hl => match us, hl with | [_, _], _ => rfl) fun ca cdv A outer s H E gd hr => by
  have nd := sc__law_bent.nd
  exact (ss_cons (s_parX3 2 3 4 rfl nd (dx_val (d_ix (ix_all (roomI hr)) ix_DA (d_var 1) d_int) (dx_val (d_comp (own := [("_law_pair", 8)]) rfl nd (blkOk_by (by kernel_rfl)) (i_seq (d_ix (ix_all (roomI hr)) ix_DA (d_var 1) d_int)) (tg_name 8) (fun _ _ _ _ _ => (pg_name (i := 8) nd rfl (by first | exact Or.inl rfl | exact Or.inr rfl))) (fun _ _ _ _ _ => dts_nil) (fun _ _ _ _ _ => (d_callTy call_list_of cal_list (e.free 7) boot_list (da_cons (d_var 8) da_nil)))) (dx_val (d_callG (ok__law_peck e) gd hr (da_cons (d_var 0) (da_cons d_int da_nil))) dx_nil))))
  (ss_cons (s_set 5 nd (d_callG (ok__law_pick e) gd hr (da_cons (d_var 0) (da_cons (d_lst (da_cons d_non (da_cons d_bl (da_cons d_str (da_cons d_str (da_cons d_int (da_cons (d_tup da_nil) (da_cons (d_lst (da_cons d_int da_nil)) (da_cons d_str (da_cons d_str (da_cons d_str (da_cons d_str (da_cons d_str (da_cons d_str (da_cons (d_of dF_dict0) (da_cons (d_bin op_pow bin_pow d_int d_int) da_nil)))))))))))))))) da_nil))))
  (ss_cons (s_if (dt_cmp (op_eqA (roomE hr)) cmp_eqA (d_var 4) d_int (nomark _)) (ss_one (s_ret (d_tup (da_cons (d_var 5) (da_cons (d_var 3) da_nil))))) ss_nil)
  (ss_cons (s_if (dt_cmp (op_eqA (roomE hr)) cmp_eqA (d_var 4) d_int (nomark _)) (ss_one (s_ret (d_tup (da_cons (d_var 2) (da_cons (d_var 5) da_nil))))) ss_nil)
  (ss_cons (s_if (dw_and (dt_cmp (op_neX (roomE hr)) cmp_neX (d_var 3) (d_lst da_nil) (nomark _)) (dw_and1 (dt_cmp op_ltO (cmp_ord (f := ltI) (g := ltL)) (d_var 4) d_int (nomark _)))).pt (ss_cons (s_set 6 nd (d_callG (ok__law_peck e) gd hr (da_cons (d_var 0) (da_cons (d_callB cr_lenD cal_len (e.free 5) (bt_len) (da_cons (d_var 3) da_nil)) da_nil))))
  (ss_cons (s_set 7 nd (d_ix (ix_all (roomI hr)) ix_DA (d_lst (da_cons (d_lst (da_cons (d_lst (da_cons (d_ix (ix_all (roomI hr)) ix_DA (d_ix (ix_all (roomI hr)) ix_DA (d_var 3) (d_var 6)) d_int) (da_cons (d_var 5) da_nil))) da_nil)) (da_cons (d_lst (da_cons (d_lst (da_cons (d_var 5) (da_cons (d_ix (ix_all (roomI hr)) ix_DA (d_ix (ix_all (roomI hr)) ix_DA (d_var 3) (d_var 6)) d_int) da_nil))) da_nil)) (da_cons (d_lst (da_cons (d_bin op_addD bin_add (d_ix (ix_all (roomI hr)) ix_DA (d_var 3) (d_var 6)) (d_lst (da_cons d_int da_nil))) da_nil)) (da_cons (d_lst (da_cons (d_ix (ix_all (roomI hr)) ix_DA (d_var 3) (d_var 6)) (da_cons (d_ix (ix_all (roomI hr)) ix_DA (d_var 3) (d_var 6)) da_nil))) da_nil))))) (d_bin op_subD bin_sub (d_var 4) d_int)))
  (ss_one (s_ret (d_lst (da_cons (d_var 2) (da_cons (d_bin op_addD bin_add (d_bin op_addD bin_add (d_slice sl_D sli_D (d_var 3) do_none (do_some (d_var 6))) (d_var 7)) (d_slice sl_D sli_D (d_var 3) (do_some (d_bin op_addD bin_add (d_var 6) d_int)) do_none)) da_nil))))))) ss_nil)
  (ss_cons (s_if (dt_cmp (op_eqA (roomE hr)) cmp_eqA (d_var 4) d_int (nomark _)) (ss_one (s_ret (d_tup (da_cons (d_var 2) (da_cons (d_revL (d_var 3)) da_nil))))) ss_nil)
  (ss_one (s_ret (d_callG (ok__law_pick e) gd hr (da_cons (d_var 0) (da_cons (d_lst (da_cons (d_var 5) (da_cons (d_tup (da_cons (d_var 2) da_nil)) (da_cons (d_tup (da_cons (d_var 2) (da_cons (d_var 3) (da_cons d_int da_nil)))) (da_cons (d_lst (da_cons (d_var 3) (da_cons (d_var 2) da_nil))) (da_cons (d_tup (da_cons (d_var 2) (da_cons (d_callTy (call_dictA rfl) cal_dictA (e.free 8) boot_dict (da_cons (d_ix (ix_all (roomI hr)) ix_DA (d_var 1) d_int) da_nil)) da_nil))) (da_cons (d_var 1) da_nil))))))) da_nil)))))))))))
/-! _law_is_int -/
def g_L_is_int : Sm := (sRet (eAnd (eArgs gIsi (aCons (eVar 0) (aCons (eC (.ty "int")) aNil))) (eNot (eArgs gIsi (aCons (eVar 0) (aCons (eC (.ty "bool")) aNil))))))
theorem sc__law_is_int : FnScope ["_law_value"] ["_law_value"] (defScope s__law_is_int) := ⟨rfl, rfl, rfl, by decide +kernel, rfl, by decide +kernel, by decide +kernel⟩
def F_L_is_int : List D → M D := fun ds => G.nx (runDef 1 g_L_is_int ds)
theorem ok__law_is_int (e : HxL K mg base) : DefG P w K mg base 1 "_law_is_int" s__law_is_int ["_law_value"] F_L_is_int :=
  DefG.mk2 (k := 0) (N := ["_law_value"]) (g := g_L_is_int) (e.c.def_ 4 (d := dd__law_is_int)) (e.glo 25) sc__law_is_int (fun _ _ _ _ _ _ us hl => match us, hl with | [_], _ => rfl) fun ca cdv A outer s H E gd hr => by
  have nd := sc__law_is_int.nd
  exact (ss_one (s_ret (d_and (d_callB cr_isi cal_isi (e.free 9) (bt_isinstance) (da_cons (d_var 0) (da_cons (d_ty "int" (e.free 3) boot_int) da_nil))) (d_one (d_not (d_callB cr_isi cal_isi (e.free 9) (bt_isinstance) (da_cons (d_var 0) (da_cons (d_ty "bool" (e.free 10) boot_bool) da_nil))))))))
/-! _law_is_name -/
def g_L_is_name : Sm := (sSeq (sIf (cOr (cNot (cTru (eArgs gIsi (aCons (eVar 0) (aCons (eC (.ty "str")) aNil))))) (cOr (cNot (cChain (gCmpO ltI ltL) (gCmpO ltI ltL) (eC (.int 0)) (eArgs gLen (aCons (eVar 0) aNil)) (eC (.int 9)))) (cCmp (gInB false) (eVar 0) (eMet "str" gSplit (eC (.str "and or not all some many endless yes no")) (aCons (eC (.str " ")) aNil))))) (sRet (eC (.bl false))) sNil)
  (sSeq (sAsg (gN 1) (eC (.str "abcdefghijklmnopqrstuvwxyz")))
  (sRet (eAnd (eBin (gBl (gInB false)) (eBin gIxA (eVar 0) (eC (.int 0))) (eVar 1)) (eBin (gBl gEqA) (eComp (gN 2) (iSeq (eVar 0)) (cCmp (gInB true) (eVar 2) (eBin gAdd (eVar 1) (eC (.str "0123456789")))) (eVar 2) [2]) (eArgs gLst aNil))))))
theorem sc__law_is_name : FnScope ["_law_value", "_law_letters", "_law_sign"] ["_law_value"] (defScope s__law_is_name) := ⟨rfl, rfl, rfl, by decide +kernel, rfl, by decide +kernel, by decide +kernel⟩
def F_L_is_name : List D → M D := fun ds => G.nx (runDef 3 g_L_is_name ds)
theorem ok__law_is_name (e : HxL K mg base) : DefG P w K mg base 1 "_law_is_name" s__law_is_name ["_law_value"] F_L_is_name :=
  DefG.mk2 (k := 0) (N := ["_law_value", "_law_letters", "_law_sign"]) (g := g_L_is_name) (e.c.def_ 5 (d := dd__law_is_name)) (e.glo 26) sc__law_is_name (fun _ _ _ _ _ _ us hl => match us, hl with | [_], _ => rfl) fun ca cdv A outer s H E gd hr => by
  have nd := sc__law_is_name.nd
  exact (ss_cons (s_if (dw_or (dt_not (dt_tru (d_callB cr_isi cal_isi (e.free 9) (bt_isinstance) (da_cons (d_var 0) (da_cons (d_ty "str" (e.free 11) boot_str) da_nil))))) (dw_or (dt_not (dt_chain op_ltO op_ltO (cmp_ord (f := ltI) (g := ltL)) (cmp_ord (f := ltI) (g := ltL)) d_int (d_callB cr_lenD cal_len (e.free 5) (bt_len) (da_cons (d_var 0) da_nil)) d_int)) (dw_or1 (dt_cmp (op_inB (roomI hr)) cmp_inB (d_var 0) (d_bm F.plainAttrs_str F.slot_str_split F.type_str_split mt_split met_split d_str (da_cons d_str da_nil)) (by rfl))))).pt (ss_one (s_ret d_bl)) ss_nil)
  (ss_cons (s_set 1 nd d_str)
  (ss_one (s_ret (d_and (d_cmp (op_inB (roomI hr)) (BinB.d cmp_inB) (d_ix (ix_all (roomI hr)) ix_DA (d_var 0) d_int) (d_var 1) (by rfl)) (d_one (d_cmp (op_eqA (roomE hr)) (BinB.d cmp_eqA) (d_comp (own := [("_law_sign", 2)]) rfl nd (blkOk_by (by kernel_rfl)) (i_seq (d_var 0)) (tg_name 2) (fun _ _ _ _ _ => (pg_name (i := 2) nd rfl (by first | exact Or.inl rfl | exact Or.inr rfl))) (fun _ _ _ _ _ => (dts_one (dt_cmp (op_notInB (roomI hr)) cmp_inB (d_var 2) (d_bin op_addD bin_add (d_var 1) d_str) (by rfl)))) (fun _ _ _ _ _ => (d_var 2))) (d_lst da_nil) (nomark _))))))))
/-! _law_is_form -/
def g_L_is_form : Sm := (sSeq (sIf (cOr (cNot (cTru (eArgs gIsi (aCons (eVar 0) (aCons (eArgs gTup (aCons (eC (.ty "list")) (aCons (eC (.ty "tuple")) aNil))) aNil))))) (cOr (cCmp (gEqX true) (eArgs gLen (aCons (eVar 0) aNil)) (eC (.int 2))) (cOr (cNot (cTru (eCall 1 F_L_is_int [] (aCons (eBin gIxA (eVar 0) (eC (.int 0))) aNil)))) (cNot (cTru (eArgs gIsi (aCons (eBin gIxA (eVar 0) (eC (.int 1))) (aCons (eArgs gTup (aCons (eC (.ty "list")) (aCons (eC (.ty "tuple")) aNil))) aNil)))))))) (sRet (eC (.bl false))) sNil)
  (sSeq (sAsg (gN 1) (eC (.str "")))
  (sSeq (sFor (gN 2) (iSeq (eBin gIxA (eVar 0) (eC (.int 1)))) (sSeq (sIf (cOr (cNot (cTru (eArgs gIsi (aCons (eVar 2) (aCons (eArgs gTup (aCons (eC (.ty "list")) (aCons (eC (.ty "tuple")) aNil))) aNil))))) (cOr (cCmp (gEqX true) (eArgs gLen (aCons (eVar 2) aNil)) (eC (.int 2))) (cOr (cNot (cTru (eCall 1 F_L_is_name [] (aCons (eBin gIxA (eVar 2) (eC (.int 0))) aNil)))) (cNot (cCmp (gCmpO gtI gtL) (eBin gIxA (eVar 2) (eC (.int 0))) (eVar 1)))))) (sRet (eC (.bl false))) sNil)
  (sSeq (sIf (cOr (cNot (cTru (eCall 1 F_L_is_int [] (aCons (eBin gIxA (eVar 2) (eC (.int 1))) aNil)))) (cCmp gEqA (eBin gIxA (eVar 2) (eC (.int 1))) (eC (.int 0)))) (sRet (eC (.bl false))) sNil)
  (sAsg (gN 1) (eBin gIxA (eVar 2) (eC (.int 0)))))))
  (sRet (eC (.bl true))))))
theorem sc__law_is_form : FnScope ["_law_value", "_law_last", "_law_pair"] ["_law_value"] (defScope s__law_is_form) := ⟨rfl, rfl, rfl, by decide +kernel, rfl, by decide +kernel, by decide +kernel⟩
def F_L_is_form : List D → M D := fun ds => G.nx (runDef 3 g_L_is_form ds)
theorem ok__law_is_form (e : HxL K mg base) : DefG P w K mg base 2 "_law_is_form" s__law_is_form ["_law_value"] F_L_is_form :=
  DefG.mk2 (k := 1) (N := ["_law_value", "_law_last", "_law_pair"]) (g := g_L_is_form) (e.c.def_ 6 (d := dd__law_is_form)) (e.glo 27) sc__law_is_form (fun _ _ _ _ _ _ us hl => match us, hl with | [_], _ => rfl) fun ca cdv A outer s H E gd hr => by
  have nd := sc__law_is_form.nd
  exact (ss_cons (s_if (dw_or (dt_not (dt_tru (d_callB cr_isi cal_isi (e.free 9) (bt_isinstance) (da_cons (d_var 0) (da_cons (d_tup (da_cons (d_ty "list" (e.free 7) boot_list) (da_cons (d_ty "tuple" (e.free 4) boot_tuple) da_nil))) da_nil))))) (dw_or (dt_cmp (op_neX (roomE hr)) cmp_neX (d_callB cr_lenD cal_len (e.free 5) (bt_len) (da_cons (d_var 0) da_nil)) d_int (nomark _)) (dw_or (dt_not (dt_tru (d_callG (ok__law_is_int e) gd hr (da_cons (d_ix (ix_all (roomI hr)) ix_DA (d_var 0) d_int) da_nil)))) (dw_or1 (dt_not (dt_tru (d_callB cr_isi cal_isi (e.free 9) (bt_isinstance) (da_cons (d_ix (ix_all (roomI hr)) ix_DA (d_var 0) d_int) (da_cons (d_tup (da_cons (d_ty "list" (e.free 7) boot_list) (da_cons (d_ty "tuple" (e.free 4) boot_tuple) da_nil))) da_nil))))))))).pt (ss_one (s_ret d_bl)) ss_nil)
  (ss_cons (s_set 1 nd d_str)
  (ss_cons (s_for rfl PassesOwn.never (i_seq (d_ix (ix_all (roomI hr)) ix_DA (d_var 0) d_int)) (pg_name (i := 2) nd rfl (by first | exact Or.inl rfl | exact Or.inr rfl)) (tg_name 2) (ss_cons (s_if (dw_or (dt_not (dt_tru (d_callB cr_isi cal_isi (e.free 9) (bt_isinstance) (da_cons (d_var 2) (da_cons (d_tup (da_cons (d_ty "list" (e.free 7) boot_list) (da_cons (d_ty "tuple" (e.free 4) boot_tuple) da_nil))) da_nil))))) (dw_or (dt_cmp (op_neX (roomE hr)) cmp_neX (d_callB cr_lenD cal_len (e.free 5) (bt_len) (da_cons (d_var 2) da_nil)) d_int (nomark _)) (dw_or (dt_not (dt_tru (d_callG (ok__law_is_name e) gd hr (da_cons (d_ix (ix_all (roomI hr)) ix_DA (d_var 2) d_int) da_nil)))) (dw_or1 (dt_not (dt_cmp op_gtO (cmp_ord (f := gtI) (g := gtL)) (d_ix (ix_all (roomI hr)) ix_DA (d_var 2) d_int) (d_var 1) (nomark _))))))).pt (ss_one (s_ret d_bl)) ss_nil)
  (ss_cons (s_if (dw_or (dt_not (dt_tru (d_callG (ok__law_is_int e) gd hr (da_cons (d_ix (ix_all (roomI hr)) ix_DA (d_var 2) d_int) da_nil)))) (dw_or1 (dt_cmp (op_eqA (roomE hr)) cmp_eqA (d_ix (ix_all (roomI hr)) ix_DA (d_var 2) d_int) d_int (nomark _)))).pt (ss_one (s_ret d_bl)) ss_nil)
  (ss_one (s_set 1 nd (d_ix (ix_all (roomI hr)) ix_DA (d_var 2) d_int))))))
  (ss_one (s_ret d_bl)))))
/-! _law_listed -/
def g_L_listed (F_L_listed : List D → M D) : Sm := (sSeq (sIf (cTru (eArgs gIsi (aCons (eVar 0) (aCons (eArgs gTup (aCons (eC (.ty "list")) (aCons (eC (.ty "tuple")) aNil))) aNil)))) (sRet (eComp (gN 1) (iSeq (eVar 0)) (fun _ => pure true) (eCall 1 F_L_listed [] (aCons (eVar 1) aNil)) [1])) sNil)
  (sRet (eVar 0)))
theorem sc__law_listed : FnScope ["_law_value", "_law_part"] ["_law_value"] (defScope s__law_listed) := ⟨rfl, rfl, rfl, by decide +kernel, rfl, by decide +kernel, by decide +kernel⟩
def F_L_listed : Nat → List D → M D
  | 0 => fun _ => stuck
  | n + 1 => fun ds => G.nx (runDef 2 (g_L_listed (F_L_listed n)) ds)
theorem scc__law_listed (e : HxL K mg base) : ∀ n : Nat, DefG P w K mg base (1 + n) "_law_listed" s__law_listed ["_law_value"] (F_L_listed n)
  | 0 => DefG.stk (e.c.def_ 7 (d := dd__law_listed)) (e.glo 28) (fun _ _ _ _ _ _ us hl => match us, hl with | [_], _ => rfl)
  | n + 1 => by
    have ih := scc__law_listed e n
    exact DefG.mk2 (k := 1 + n) (N := ["_law_value", "_law_part"]) (g := g_L_listed (F_L_listed n)) (e.c.def_ 7 (d := dd__law_listed)) (e.glo 28) sc__law_listed (fun _ _ _ _ _ _ us hl => match us, hl with | [_], _ => rfl) fun ca cdv A outer s H E gd hr => by
      have nd := sc__law_listed.nd
      exact (ss_cons (s_if (dt_tru (d_callB cr_isi cal_isi (e.free 9) (bt_isinstance) (da_cons (d_var 0) (da_cons (d_tup (da_cons (d_ty "list" (e.free 7) boot_list) (da_cons (d_ty "tuple" (e.free 4) boot_tuple) da_nil))) da_nil)))) (ss_one (s_ret (d_comp (own := [("_law_part", 1)]) rfl nd (blkOk_by (by kernel_rfl)) (i_seq (d_var 0)) (tg_name 1) (fun _ _ _ _ _ => (pg_name (i := 1) nd rfl (by first | exact Or.inl rfl | exact Or.inr rfl))) (fun _ _ _ _ _ => dts_nil) (fun _ _ _ _ _ => (d_callG (ih).here gd hr (da_cons (d_var 1) da_nil) (hj := Nat.le_refl _)))))) ss_nil)
  (ss_one (s_ret (d_var 0))))
theorem ok__law_listed (e : HxL K mg base) (n : Nat) : DefG P w K mg base (1 + n) "_law_listed" s__law_listed ["_law_value"] (F_L_listed n) := (scc__law_listed e n)
/-! _law_pairs -/
def g_L_pairs : Sm := (sSeq (sOwn 1 (eArgs gLst aNil))
  (sSeq (sFor (gN 2) (iRange1 (aCons (eCall 2 F_draw [] (aCons (eVar 0) (aCons (eC (.int 6)) aNil))) aNil)) (sSeq (sAsg (gN 3) (eCall 2 F_L_pick [] (aCons (eVar 0) (aCons (eArgs gLst (aCons (eC (.str "x")) (aCons (eC (.str "y")) (aCons (eC (.str "x")) (aCons (eC (.str "a1")) (aCons (eC (.str "z2345678")) (aCons (eC (.str "andy")) (aCons (eC (.str "b")) aNil)))))))) aNil))))
  (sMut 1 "list" gAppend (aCons (eArgs gTup (aCons (eVar 3) (aCons (eCall 2 F_L_pick [] (aCons (eVar 0) (aCons (eArgs gLst (aCons (eC (.int 1)) (aCons (eUn gNeg (eC (.int 1))) (aCons (eC (.int 2)) (aCons (eC (.int 0)) (aCons (eUn gNeg (eC (.int 3))) (aCons (eBin gPow (eC (.int 10)) (eC (.int 40))) (aCons (eUn gNeg (eBin gPow (eC (.int 10)) (eC (.int 40)))) (aCons (eBin gSub (eCall 2 F_draw [] (aCons (eVar 0) (aCons (eC (.int 9)) aNil))) (eC (.int 4))) aNil))))))))) aNil))) aNil))) aNil))))
  (sFz 1 (sRet (eVar 1)))))
theorem sc__law_pairs : FnScope ["_law_nest_here", "_law_found", "_law_turn", "_law_name"] ["_law_nest_here"] (defScope s__law_pairs) := ⟨rfl, rfl, rfl, by decide +kernel, rfl, by decide +kernel, by decide +kernel⟩
def F_L_pairs : List D → M D := fun ds => G.nx (runDef 4 g_L_pairs ds)
theorem ok__law_pairs (e : HxL K mg base) : DefG P w K mg base 3 "_law_pairs" s__law_pairs ["_law_nest_here"] F_L_pairs :=
  DefG.mk2 (k := 2) (N := ["_law_nest_here", "_law_found", "_law_turn", "_law_name"]) (g := g_L_pairs) (e.c.def_ 9 (d := dd__law_pairs)) (e.glo 30) sc__law_pairs (fun _ _ _ _ _ _ us hl => match us, hl with | [_], _ => rfl) fun ca cdv A outer s H E gd hr => by
  have nd := sc__law_pairs.nd
  exact (ss_cons (s_own 1 nd (dF_lst da_nil))
  (ss_cons (s_for rfl PassesOwn.never (i_range1 (e.free 12) (da_cons (d_callG (ok__law_peck e) gd hr (da_cons (d_var 0) (da_cons d_int da_nil))) da_nil)) (pg_name (i := 2) nd rfl (by first | exact Or.inl rfl | exact Or.inr rfl)) (tg_name 2) (ss_cons (s_set 3 nd (d_callG (ok__law_pick e) gd hr (da_cons (d_var 0) (da_cons (d_lst (da_cons d_str (da_cons d_str (da_cons d_str (da_cons d_str (da_cons d_str (da_cons d_str (da_cons d_str da_nil)))))))) da_nil))))
  (ss_one (s_mut 1 F.plainAttrs_list F.slot_list_append F.type_list_append mt_append mut_append (da_cons (d_tup (da_cons (d_var 3) (da_cons (d_callG (ok__law_pick e) gd hr (da_cons (d_var 0) (da_cons (d_lst (da_cons d_int (da_cons (d_un un_neg un_negD d_int) (da_cons d_int (da_cons d_int (da_cons (d_un un_neg un_negD d_int) (da_cons (d_bin op_pow bin_pow d_int d_int) (da_cons (d_un un_neg un_negD (d_bin op_pow bin_pow d_int d_int)) (da_cons (d_bin op_subD bin_sub (d_callG (ok__law_peck e) gd hr (da_cons (d_var 0) (da_cons d_int da_nil))) d_int) da_nil))))))))) da_nil))) da_nil))) da_nil)))))
  (ss_one (s_fz 1 (s_ret (d_var 1))))))
/-! factor_in -/
def g_factor_in2 : Sm := (sRet (eMet "dict" gGet (eArgs gDictT (aCons (eBin gIxA (eVar 0) (eC (.int 1))) aNil)) (aCons (eVar 1) (aCons (eC (.int 0)) aNil))))
theorem sc_factor_in : FnScope ["form", "name"] ["form", "name"] (defScope s_factor_in) := ⟨rfl, rfl, rfl, by decide +kernel, rfl, by decide +kernel, by decide +kernel⟩
def F_factor_in2 : List D → M D := fun ds => G.nx (runDef 2 g_factor_in2 ds)
theorem ok_factor_in (e : HxL K mg base) : DefG P w K mg base 1 "factor_in" s_factor_in ["form", "name"] F_factor_in2 :=
  DefG.mk2 (k := 0) (N := ["form", "name"]) (g := g_factor_in2) (e.c.def_ 10 (d := dd_factor_in)) (e.glo 31) sc_factor_in (fun _ _ _ _ _ _ us hl => match us, hl with | [_, _], _ => rfl) fun ca cdv A outer s H E gd hr => by
  have nd := sc_factor_in.nd
  exact (ss_one (s_ret (d_bm F.plainAttrs_dict F.slot_dict_get F.type_dict_get (mt_get (roomI hr)) met_get (d_callTy (call_dictA rfl) cal_dictA (e.free 8) boot_dict (da_cons (d_ix (ix_all (roomI hr)) ix_DA (d_var 0) d_int) da_nil)) (da_cons (d_var 1) (da_cons d_int da_nil)))))
/-! fixed -/
def g_fixed (F_fixed : List D → M D) : Sm := (sSeq (sIf (cTru (eArgs gIsi (aCons (eVar 0) (aCons (eArgs gTup (aCons (eC (.ty "list")) (aCons (eC (.ty "tuple")) aNil))) aNil)))) (sRet (eArgs gTuple (aCons (eComp (gN 1) (iSeq (eVar 0)) (fun _ => pure true) (eCall 1 F_fixed [] (aCons (eVar 1) aNil)) [1]) aNil))) sNil)
  (sRet (eVar 0)))
theorem sc_fixed : FnScope ["value", "part"] ["value"] (defScope s_fixed) := ⟨rfl, rfl, rfl, by decide +kernel, rfl, by decide +kernel, by decide +kernel⟩
def F_fixed : Nat → List D → M D
  | 0 => fun _ => stuck
  | n + 1 => fun ds => G.nx (runDef 2 (g_fixed (F_fixed n)) ds)
theorem scc_fixed (e : HxL K mg base) : ∀ n : Nat, DefG P w K mg base (1 + n) "fixed" s_fixed ["value"] (F_fixed n)
  | 0 => DefG.stk (e.c.def_ 11 (d := dd_fixed)) (e.glo 32) (fun _ _ _ _ _ _ us hl => match us, hl with | [_], _ => rfl)
  | n + 1 => by
    have ih := scc_fixed e n
    exact DefG.mk2 (k := 1 + n) (N := ["value", "part"]) (g := g_fixed (F_fixed n)) (e.c.def_ 11 (d := dd_fixed)) (e.glo 32) sc_fixed (fun _ _ _ _ _ _ us hl => match us, hl with | [_], _ => rfl) fun ca cdv A outer s H E gd hr => by
      have nd := sc_fixed.nd
      exact (ss_cons (s_if (dt_tru (d_callB cr_isi cal_isi (e.free 9) (bt_isinstance) (da_cons (d_var 0) (da_cons (d_tup (da_cons (d_ty "list" (e.free 7) boot_list) (da_cons (d_ty "tuple" (e.free 4) boot_tuple) da_nil))) da_nil)))) (ss_one (s_ret (d_callTy call_tupN cal_tuple (e.free 4) boot_tuple (da_cons (d_comp (own := [("part", 1)]) rfl nd (blkOk_by (by kernel_rfl)) (i_seq (d_var 0)) (tg_name 1) (fun _ _ _ _ _ => (pg_name (i := 1) nd rfl (by first | exact Or.inl rfl | exact Or.inr rfl))) (fun _ _ _ _ _ => dts_nil) (fun _ _ _ _ _ => (d_callG (ih).here gd hr (da_cons (d_var 1) da_nil) (hj := Nat.le_refl _)))) da_nil)))) ss_nil)
  (ss_one (s_ret (d_var 0))))
theorem ok_fixed (e : HxL K mg base) (n : Nat) : DefG P w K mg base (1 + n) "fixed" s_fixed ["value"] (F_fixed n) := (scc_fixed e n)
/-! is_integer -/
theorem sc_is_integer : FnScope ["value"] ["value"] (defScope s_is_integer) := ⟨rfl, rfl, rfl, by decide +kernel, rfl, by decide +kernel, by decide +kernel⟩
theorem ok_is_integer (e : HxL K mg base) : DefG P w K mg base 1 "is_integer" s_is_integer ["value"] F_L_is_int :=
  DefG.mk2 (k := 0) (N := ["value"]) (g := g_L_is_int) (e.c.def_ 12 (d := dd_is_integer)) (e.glo 33) sc_is_integer (fun _ _ _ _ _ _ us hl => match us, hl with | [_], _ => rfl) fun ca cdv A outer s H E gd hr => by
  have nd := sc_is_integer.nd
  exact (ss_one (s_ret (d_and (d_callB cr_isi cal_isi (e.free 9) (bt_isinstance) (da_cons (d_var 0) (da_cons (d_ty "int" (e.free 3) boot_int) da_nil))) (d_one (d_not (d_callB cr_isi cal_isi (e.free 9) (bt_isinstance) (da_cons (d_var 0) (da_cons (d_ty "bool" (e.free 10) boot_bool) da_nil))))))))
/-! is_name -/
def g_is_name : Sm := (sSeq (sIf (cOr (cNot (cTru (eArgs gIsi (aCons (eVar 0) (aCons (eC (.ty "str")) aNil))))) (cOr (cNot (cChain (gCmpO leI leL) (gCmpO leI leL) (eC (.int 1)) (eArgs gLen (aCons (eVar 0) aNil)) (eC (.int 8)))) (cCmp (gInB false) (eVar 0) (eC (.tup [.str "and", .str "or", .str "not", .str "all", .str "some", .str "many", .str "endless", .str "yes", .str "no"]))))) (sRet (eC (.bl false))) sNil)
  (sRet (eAnd (eBin (gBl (gInS false)) (eBin gIxA (eVar 0) (eC (.int 0))) (eC (.str "abcdefghijklmnopqrstuvwxyz"))) (eArgs gAll (aCons (eComp (gN 1) (iSeq (eVar 0)) (fun _ => pure true) (eOr (eBin (gBl (gInS false)) (eVar 1) (eC (.str "abcdefghijklmnopqrstuvwxyz"))) (eBin (gBl (gInS false)) (eVar 1) (eC (.str "0123456789")))) [1]) aNil)))))
theorem sc_is_name : FnScope ["value", "sign"] ["value"] (defScope s_is_name) := ⟨rfl, rfl, rfl, by decide +kernel, rfl, by decide +kernel, by decide +kernel⟩
def F_is_name : List D → M D := fun ds => G.nx (runDef 2 g_is_name ds)
theorem ok_is_name (e : HxL K mg base) : DefG P w K mg base 1 "is_name" s_is_name ["value"] F_is_name :=
  DefG.mk2 (k := 0) (N := ["value", "sign"]) (g := g_is_name) (e.c.def_ 13 (d := dd_is_name)) (e.glo 34) sc_is_name (fun _ _ _ _ _ _ us hl => match us, hl with | [_], _ => rfl) fun ca cdv A outer s H E gd hr => by
  have nd := sc_is_name.nd
  exact (ss_cons (s_if (dw_or (dt_not (dt_tru (d_callB cr_isi cal_isi (e.free 9) (bt_isinstance) (da_cons (d_var 0) (da_cons (d_ty "str" (e.free 11) boot_str) da_nil))))) (dw_or (dt_not (dt_chain op_leO op_leO (cmp_ord (f := leI) (g := leL)) (cmp_ord (f := leI) (g := leL)) d_int (d_callB cr_lenD cal_len (e.free 5) (bt_len) (da_cons (d_var 0) da_nil)) (d_gInt (e.int 13)))) (dw_or1 (dt_cmp (op_inB (roomI hr)) cmp_inB (d_var 0) (d_gTup (e.glo 14) (e.tup 0) rfl) (by rfl))))).pt (ss_one (s_ret d_bl)) ss_nil)
  (ss_one (s_ret (d_and (d_cmp op_in_sign (BinB.d cmp_inS) (d_ix (ix_all (roomI hr)) ix_DA (d_var 0) d_int) (d_gStr (e.str 15)) (by rfl)) (d_one (d_callB (cr_all rfl) cal_all (e.free 17) (bt_all) (da_cons (d_comp (own := [("sign", 1)]) rfl nd (blkOk_by (by kernel_rfl)) (i_seq (d_var 0)) (tg_name 1) (fun _ _ _ _ _ => (pg_name (i := 1) nd rfl (by first | exact Or.inl rfl | exact Or.inr rfl))) (fun _ _ _ _ _ => dts_nil) (fun _ _ _ _ _ => (d_or (d_cmp op_in_sign (BinB.d cmp_inS) (d_var 1) (d_gStr (e.str 15)) (by rfl)) (d_one (d_cmp op_in_sign (BinB.d cmp_inS) (d_var 1) (d_gStr (e.str 16)) (by rfl)))))) da_nil)))))))
/-! are_pairs -/
def g_are_pairs : Sm := (sSeq (sIf (cNot (cTru (eArgs gIsi (aCons (eVar 0) (aCons (eArgs gTup (aCons (eC (.ty "list")) (aCons (eC (.ty "tuple")) aNil))) aNil))))) (sRet (eC (.bl false))) sNil)
  (sSeq (sFor (gN 1) (iSeq (eVar 0)) (sIf (cOr (cNot (cTru (eArgs gIsi (aCons (eVar 1) (aCons (eArgs gTup (aCons (eC (.ty "list")) (aCons (eC (.ty "tuple")) aNil))) aNil))))) (cOr (cCmp (gEqX true) (eArgs gLen (aCons (eVar 1) aNil)) (eC (.int 2))) (cOr (cNot (cTru (eCall 1 F_is_name [] (aCons (eBin gIxA (eVar 1) (eC (.int 0))) aNil)))) (cNot (cTru (eCall 1 F_L_is_int [] (aCons (eBin gIxA (eVar 1) (eC (.int 1))) aNil))))))) (sRet (eC (.bl false))) sNil))
  (sRet (eC (.bl true)))))
theorem sc_are_pairs : FnScope ["value", "pair"] ["value"] (defScope s_are_pairs) := ⟨rfl, rfl, rfl, by decide +kernel, rfl, by decide +kernel, by decide +kernel⟩
def F_are_pairs : List D → M D := fun ds => G.nx (runDef 2 g_are_pairs ds)
theorem ok_are_pairs (e : HxL K mg base) : DefG P w K mg base 2 "are_pairs" s_are_pairs ["value"] F_are_pairs :=
  DefG.mk2 (k := 1) (N := ["value", "pair"]) (g := g_are_pairs) (e.c.def_ 14 (d := dd_are_pairs)) (e.glo 35) sc_are_pairs (fun _ _ _ _ _ _ us hl => match us, hl with | [_], _ => rfl) fun ca cdv A outer s H E gd hr => by
  have nd := sc_are_pairs.nd
  exact (ss_cons (s_if (dt_not (dt_tru (d_callB cr_isi cal_isi (e.free 9) (bt_isinstance) (da_cons (d_var 0) (da_cons (d_tup (da_cons (d_ty "list" (e.free 7) boot_list) (da_cons (d_ty "tuple" (e.free 4) boot_tuple) da_nil))) da_nil))))) (ss_one (s_ret d_bl)) ss_nil)
  (ss_cons (s_for rfl PassesOwn.never (i_seq (d_var 0)) (pg_name (i := 1) nd rfl (by first | exact Or.inl rfl | exact Or.inr rfl)) (tg_name 1) (ss_one (s_if (dw_or (dt_not (dt_tru (d_callB cr_isi cal_isi (e.free 9) (bt_isinstance) (da_cons (d_var 1) (da_cons (d_tup (da_cons (d_ty "list" (e.free 7) boot_list) (da_cons (d_ty "tuple" (e.free 4) boot_tuple) da_nil))) da_nil))))) (dw_or (dt_cmp (op_neX (roomE hr)) cmp_neX (d_callB cr_lenD cal_len (e.free 5) (bt_len) (da_cons (d_var 1) da_nil)) d_int (nomark _)) (dw_or (dt_not (dt_tru (d_callG (ok_is_name e) gd hr (da_cons (d_ix (ix_all (roomI hr)) ix_DA (d_var 1) d_int) da_nil)))) (dw_or1 (dt_not (dt_tru (d_callG (ok_is_integer e) gd hr (da_cons (d_ix (ix_all (roomI hr)) ix_DA (d_var 1) d_int) da_nil)))))))).pt (ss_one (s_ret d_bl)) ss_nil)))
  (ss_one (s_ret d_bl))))
/-! is_form -/
def g_is_form : Sm := (sSeq (sIf (cOr (cNot (cTru (eArgs gIsi (aCons (eVar 0) (aCons (eArgs gTup (aCons (eC (.ty "list")) (aCons (eC (.ty "tuple")) aNil))) aNil))))) (cOr (cCmp (gEqX true) (eArgs gLen (aCons (eVar 0) aNil)) (eC (.int 2))) (cOr (cNot (cTru (eCall 1 F_L_is_int [] (aCons (eBin gIxA (eVar 0) (eC (.int 0))) aNil)))) (cNot (cTru (eCall 1 F_are_pairs [] (aCons (eBin gIxA (eVar 0) (eC (.int 1))) aNil))))))) (sRet (eC (.bl false))) sNil)
  (sSeq (sIf (cTru (eArgs gAny (aCons (eComp (gS [(gN 1), (gN 2)]) (iSeq (eBin gIxA (eVar 0) (eC (.int 1)))) (fun _ => pure true) (eBin (gBl gEqA) (eVar 2) (eC (.int 0))) [1, 2]) aNil))) (sRet (eC (.bl false))) sNil)
  (sRet (eArgs gAll (aCons (eComp (gS [(gN 3), (gN 4)]) (iZipM (aCons (eBin gIxA (eVar 0) (eC (.int 1))) (aCons (eSl gSl (eBin gIxA (eVar 0) (eC (.int 1))) (oSome (eC (.int 1))) oNone) aNil))) (fun _ => pure true) (eBin (gBl (gCmpO ltI ltL)) (eBin gIxA (eVar 3) (eC (.int 0))) (eBin gIxA (eVar 4) (eC (.int 0)))) [3, 4]) aNil)))))
theorem sc_is_form : FnScope ["value", "_", "factor", "one", "other"] ["value"] (defScope s_is_form) := ⟨rfl, rfl, rfl, by decide +kernel, rfl, by decide +kernel, by decide +kernel⟩
def F_is_form : List D → M D := fun ds => G.nx (runDef 5 g_is_form ds)
theorem ok_is_form (e : HxL K mg base) : DefG P w K mg base 3 "is_form" s_is_form ["value"] F_is_form :=
  DefG.mk2 (k := 2) (N := ["value", "_", "factor", "one", "other"]) (g := g_is_form) (e.c.def_ 15 (d := dd_is_form)) (e.glo 36) sc_is_form (fun _ _ _ _ _ _ us hl => match us, hl with | [_], _ => rfl) fun ca cdv A outer s H E gd hr => by
  have nd := sc_is_form.nd
  exact (ss_cons (s_if (dw_or (dt_not (dt_tru (d_callB cr_isi cal_isi (e.free 9) (bt_isinstance) (da_cons (d_var 0) (da_cons (d_tup (da_cons (d_ty "list" (e.free 7) boot_list) (da_cons (d_ty "tuple" (e.free 4) boot_tuple) da_nil))) da_nil))))) (dw_or (dt_cmp (op_neX (roomE hr)) cmp_neX (d_callB cr_lenD cal_len (e.free 5) (bt_len) (da_cons (d_var 0) da_nil)) d_int (nomark _)) (dw_or (dt_not (dt_tru (d_callG (ok_is_integer e) gd hr (da_cons (d_ix (ix_all (roomI hr)) ix_DA (d_var 0) d_int) da_nil)))) (dw_or1 (dt_not (dt_tru (d_callG (ok_are_pairs e) gd hr (da_cons (d_ix (ix_all (roomI hr)) ix_DA (d_var 0) d_int) da_nil)))))))).pt (ss_one (s_ret d_bl)) ss_nil)
  (ss_cons (s_if (dt_tru (d_callB (cr_any rfl) cal_any (e.free 18) (bt_any) (da_cons (d_comp (own := [("_", 1), ("factor", 2)]) rfl nd (blkOk_by (by kernel_rfl)) (i_seq (d_ix (ix_all (roomI hr)) ix_DA (d_var 0) d_int)) (tg_unp (tgs_cons (tg_name 1) (tgs_cons (tg_name 2) tgs_nil))) (fun _ _ _ _ _ => (pg_unp rfl (pgs_cons (pg_name (i := 1) nd rfl (by first | exact Or.inl rfl | exact Or.inr rfl)) (pgs_cons (pg_name (i := 2) nd rfl (by first | exact Or.inl rfl | exact Or.inr rfl)) pgs_nil)))) (fun _ _ _ _ _ => dts_nil) (fun _ _ _ _ _ => (d_cmp (op_eqA (roomE hr)) (BinB.d cmp_eqA) (d_var 2) d_int (nomark _)))) da_nil))) (ss_one (s_ret d_bl)) ss_nil)
  (ss_one (s_ret (d_callB (cr_all rfl) cal_all (e.free 17) (bt_all) (da_cons (d_comp (own := [("one", 3), ("other", 4)]) rfl nd (blkOk_by (by kernel_rfl)) (i_zip (e.free 19) (da_cons (d_ix (ix_all (roomI hr)) ix_DA (d_var 0) d_int) (da_cons (d_slice sl_D sli_D (d_ix (ix_all (roomI hr)) ix_DA (d_var 0) d_int) (do_some d_int) do_none) da_nil))) (tg_unp (tgs_cons (tg_name 3) (tgs_cons (tg_name 4) tgs_nil))) (fun _ _ _ _ _ => (pg_unp rfl (pgs_cons (pg_name (i := 3) nd rfl (by first | exact Or.inl rfl | exact Or.inr rfl)) (pgs_cons (pg_name (i := 4) nd rfl (by first | exact Or.inl rfl | exact Or.inr rfl)) pgs_nil)))) (fun _ _ _ _ _ => dts_nil) (fun _ _ _ _ _ => (d_cmp op_ltO (BinB.d (cmp_ord (f := ltI) (g := ltL))) (d_ix (ix_all (roomI hr)) ix_DA (d_var 3) d_int) (d_ix (ix_all (roomI hr)) ix_DA (d_var 4) d_int) (nomark _)))) da_nil))))))
/-! need_form -/
def g_need_form : Sm := (sSeq (sIf (cNot (cTru (eCall 1 F_is_form [] (aCons (eVar 0) aNil)))) sNever sNil)
  (sRet (eCall 1 (F_fixed 60) [] (aCons (eVar 0) aNil))))
theorem sc_need_form : FnScope ["value", "part"] ["value", "part"] (defScope s_need_form) := ⟨rfl, rfl, rfl, by decide +kernel, rfl, by decide +kernel, by decide +kernel⟩
def F_need_form : List D → M D := fun ds => G.nx (runDef 2 g_need_form ds)
theorem ok_need_form (e : HxL K mg base) : DefG P w K mg base 62 "need_form" s_need_form ["value", "part"] F_need_form :=
  DefG.mk2 (k := 61) (N := ["value", "part"]) (g := g_need_form) (e.c.def_ 16 (d := dd_need_form)) (e.glo 37) sc_need_form (fun _ _ _ _ _ _ us hl => match us, hl with | [_, _], _ => rfl) fun ca cdv A outer s H E gd hr => by
  have nd := sc_need_form.nd
  exact (ss_cons (s_if (dt_not (dt_tru (d_callG (ok_is_form e) gd hr (da_cons (d_var 0) da_nil)))) (ss_one s_never) ss_nil)
  (ss_one (s_ret (d_callG (ok_fixed e 60).here gd hr (da_cons (d_var 0) da_nil)))))
/-! need_name -/
def g_need_name : Sm := (sIf (cNot (cTru (eCall 1 F_is_name [] (aCons (eVar 0) aNil)))) sNever sNil)
theorem sc_need_name : FnScope ["value", "part"] ["value", "part"] (defScope s_need_name) := ⟨rfl, rfl, rfl, by decide +kernel, rfl, by decide +kernel, by decide +kernel⟩
def F_need_name : List D → M D := fun ds => G.nx (runDef 2 g_need_name ds)
theorem ok_need_name (e : HxL K mg base) : DefH P w K mg base 2 "need_name" s_need_name ["value", "part"] [.str "name"] F_need_name :=
  DefH.mk2 (k := 1) (N := ["value", "part"]) (g := g_need_name) (e.c.def_ 17 (d := dd_need_name)) (e.glo 38) sc_need_name fun ca cdv A outer s H E gd hr => by
  have nd := sc_need_name.nd
  exact (ss_one (s_if (dt_not (dt_tru (d_callG (ok_is_name e) gd hr (da_cons (d_var 0) da_nil)))) (ss_one s_never) ss_nil))
/-! factor_of -/
def g_factor_of2 : Sm := (sSeq (sAsg (gN 2) (eCall 2 F_need_form [] (aCons (eVar 0) (aCons (eC (.str "form")) aNil))))
  (sSeq (sExpr (eCall 2 F_need_name [] (aCons (eVar 1) (aCons (eC (.str "name")) aNil))))
  (sRet (eCall 2 F_factor_in2 [] (aCons (eVar 2) (aCons (eVar 1) aNil))))))
theorem sc_factor_of : FnScope ["form", "name", "told"] ["form", "name"] (defScope s_factor_of) := ⟨rfl, rfl, rfl, by decide +kernel, rfl, by decide +kernel, by decide +kernel⟩
def F_factor_of2 : List D → M D := fun ds => G.nx (runDef 3 g_factor_of2 ds)
theorem ok_factor_of (e : HxL K mg base) : DefG P w K mg base 63 "factor_of" s_factor_of ["form", "name"] F_factor_of2 :=
  DefG.mk2 (k := 62) (N := ["form", "name", "told"]) (g := g_factor_of2) (e.c.def_ 18 (d := dd_factor_of)) (e.glo 39) sc_factor_of (fun _ _ _ _ _ _ us hl => match us, hl with | [_, _], _ => rfl) fun ca cdv A outer s H E gd hr => by
  have nd := sc_factor_of.nd
  exact (ss_cons (s_set 2 nd (d_callG (ok_need_form e) gd hr (da_cons (d_var 0) (da_cons d_str da_nil))))
  (ss_cons (s_expr (d_callH 2 1 [] (ok_need_name e).here gd hr (da_cons (d_var 1) (da_cons d_str da_nil)) (fun _ _ _ _ _ _ _ us its h1 h2 => match us, its, h1, h2 with | [_, _], [_], _, _ => ⟨_, rfl, rfl⟩)))
  (ss_one (s_ret (d_callG (ok_factor_in e) gd hr (da_cons (d_var 2) (da_cons (d_var 1) da_nil)))))))
/-! joined -/
def g_joined : Sm := (sSeq (sOwn 2 eDict0)
  (sSeq (sFor (gS [(gN 3), (gN 4)]) (iSeq (eVar 1)) (sPut 2 gPutK (eBin gAdd (eBor 2 (eMet "dict" gGet (eVar 2) (aCons (eVar 3) (aCons (eC (.int 0)) aNil)))) (eVar 4)) (eVar 3)))
  (sFz 2 (sRet (eArgs gTup (aCons (eVar 0) (aCons (eArgs gTuple (aCons (eComp (gN 3) (iSeq (eArgs gSortA (aCons (eVar 2) aNil))) (cCmp (gEqX true) (eBin gIxA (eVar 2) (eVar 3)) (eC (.int 0))) (eArgs gTup (aCons (eVar 3) (aCons (eBin gIxA (eVar 2) (eVar 3)) aNil))) [3]) aNil)) aNil)))))))
theorem sc_joined : FnScope ["constant", "pairs", "found", "name", "factor"] ["constant", "pairs"] (defScope s_joined) := ⟨rfl, rfl, rfl, by decide +kernel, rfl, by decide +kernel, by decide +kernel⟩
def F_joined : List D → M D := fun ds => G.nx (runDef 5 g_joined ds)
theorem ok_joined (e : HxL K mg base) : DefG P w K mg base 1 "joined" s_joined ["constant", "pairs"] F_joined :=
  DefG.mk2 (k := 0) (N := ["constant", "pairs", "found", "name", "factor"]) (g := g_joined) (e.c.def_ 19 (d := dd_joined)) (e.glo 40) sc_joined (fun _ _ _ _ _ _ us hl => match us, hl with | [_, _], _ => rfl) fun ca cdv A outer s H E gd hr => by
  have nd := sc_joined.nd
  exact (ss_cons (s_own 2 nd dF_dict0)
  (ss_cons (s_for rfl PassesOwn.never (i_seq (d_var 1)) (pg_unp rfl (pgs_cons (pg_name (i := 3) nd rfl (by first | exact Or.inl rfl | exact Or.inr rfl)) (pgs_cons (pg_name (i := 4) nd rfl (by first | exact Or.inl rfl | exact Or.inr rfl)) pgs_nil))) (tg_unp (tgs_cons (tg_name 3) (tgs_cons (tg_name 4) tgs_nil))) (ss_one (s_put 2 (set_dict (roomI hr)) put_dict (d_bin op_addD bin_add (d_bor 2 (d_bm F.plainAttrs_dict F.slot_dict_get F.type_dict_get (mt_get (roomI hr)) met_get (d_var 2) (da_cons (d_var 3) (da_cons d_int da_nil)))) (d_var 4)) (d_var 3))))
  (ss_one (s_fz 2 (s_ret (d_tup (da_cons (d_var 0) (da_cons (d_callTy call_tupN cal_tuple (e.free 4) boot_tuple (da_cons (d_comp (own := [("name", 3)]) rfl nd (blkOk_by (by kernel_rfl)) (i_seq (d_callB (CallR.or (cr_sortD e.y (roomU hr)) (cr_sortK e.y (roomU hr) rfl)) cal_sortA (e.free 0) (bt_sorted) (da_cons (d_var 2) da_nil))) (tg_name 3) (fun _ _ _ _ _ => (pg_name (i := 3) nd rfl (by first | exact Or.inl rfl | exact Or.inr rfl))) (fun _ _ _ _ _ => (dts_one (dt_cmp (op_neX (roomE hr)) cmp_neX (d_ix (ix_all (roomI hr)) ix_DA (d_var 2) (d_var 3)) d_int (nomark _)))) (fun _ _ _ _ _ => (d_tup (da_cons (d_var 3) (da_cons (d_ix (ix_all (roomI hr)) ix_DA (d_var 2) (d_var 3)) da_nil))))) da_nil)) da_nil))))))))
/-! is_within -/
def g_is_within : Sm := (sSeq (sIf (cNot (cTru (eCall 1 F_L_is_int [] (aCons (eVar 0) aNil)))) (sRet (eC (.bl false))) sNil)
  (sRet (eAnd (eOr (eBin (gBl (gIsN false)) (eVar 1) (eC .non)) (eBin (gBl (gCmpI geI)) (eVar 0) (eVar 1))) (eOr (eBin (gBl (gIsN false)) (eVar 2) (eC .non)) (eBin (gBl (gCmpO leI leL)) (eVar 0) (eVar 2))))))
theorem sc_is_within : FnScope ["value", "least", "most"] ["value", "least", "most"] (defScope s_is_within) := ⟨rfl, rfl, rfl, by decide +kernel, rfl, by decide +kernel, by decide +kernel⟩
def F_is_within : List D → M D := fun ds => G.nx (runDef 3 g_is_within ds)
theorem ok_is_within (e : HxL K mg base) : DefG P w K mg base 2 "is_within" s_is_within ["value", "least", "most"] F_is_within :=
  DefG.mk2 (k := 1) (N := ["value", "least", "most"]) (g := g_is_within) (e.c.def_ 20 (d := dd_is_within)) (e.glo 41) sc_is_within (fun _ _ _ _ _ _ us hl => match us, hl with | [_, _, _], _ => rfl) fun ca cdv A outer s H E gd hr => by
  have nd := sc_is_within.nd
  exact (ss_cons (s_if (dt_not (dt_tru (d_callG (ok_is_integer e) gd hr (da_cons (d_var 0) da_nil)))) (ss_one (s_ret d_bl)) ss_nil)
  (ss_one (s_ret (d_and (d_or (d_cmp op_isN (BinB.d cmp_isN) (d_var 1) d_non (nomark _)) (d_one (d_cmp op_ge (BinB.d (cmp_int (f := geI))) (d_var 0) (d_var 1) (nomark _)))) (d_one (d_or (d_cmp op_isN (BinB.d cmp_isN) (d_var 2) d_non (nomark _)) (d_one (d_cmp op_leO (BinB.d (cmp_ord (f := leI) (g := leL))) (d_var 0) (d_var 2) (nomark _)))))))))
/-! need_number -/
def g_need_number : Sm := (sIf (cNot (cTru (eCall 3 F_is_within [] (aCons (eVar 0) (aCons (eVar 2) (aCons (eVar 3) aNil)))))) sNever sNil)
theorem sc_need_number : FnScope ["value", "part", "least", "most"] ["value", "part", "least", "most"] (defScope s_need_number) := ⟨rfl, rfl, rfl, by decide +kernel, rfl, by decide +kernel, by decide +kernel⟩
def F_need_number : List D → M D := fun ds => G.nx (runDef 4 g_need_number ds)
theorem ok_need_number (e : HxL K mg base) : DefH P w K mg base 3 "need_number" s_need_number ["value", "part", "least", "most"] [.non, .non] F_need_number :=
  DefH.mk2 (k := 2) (N := ["value", "part", "least", "most"]) (g := g_need_number) (e.c.def_ 21 (d := dd_need_number)) (e.glo 42) sc_need_number fun ca cdv A outer s H E gd hr => by
  have nd := sc_need_number.nd
  exact (ss_one (s_if (dt_not (dt_tru (d_callG (ok_is_within e) gd hr (da_cons (d_var 0) (da_cons (d_var 2) (da_cons (d_var 3) da_nil)))))) (ss_one s_never) ss_nil))
/-! form_of -/
def g_form_of : Sm := (sSeq (sExpr (eCall 4 F_need_number [] (aCons (eVar 0) (aCons (eC (.str "constant")) (aCons (eC .non) (aCons (eC .non) aNil))))))
  (sSeq (sIf (cNot (cTru (eCall 1 F_are_pairs [] (aCons (eVar 1) aNil)))) sNever sNil)
  (sRet (eCall 2 F_joined [] (aCons (eVar 0) (aCons (eVar 1) aNil))))))
theorem sc_form_of : FnScope ["constant", "pairs"] ["constant", "pairs"] (defScope s_form_of) := ⟨rfl, rfl, rfl, by decide +kernel, rfl, by decide +kernel, by decide +kernel⟩
def F_form_of : List D → M D := fun ds => G.nx (runDef 2 g_form_of ds)
theorem ok_form_of (e : HxL K mg base) : DefG P w K mg base 4 "form_of" s_form_of ["constant", "pairs"] F_form_of :=
  DefG.mk2 (k := 3) (N := ["constant", "pairs"]) (g := g_form_of) (e.c.def_ 22 (d := dd_form_of)) (e.glo 43) sc_form_of (fun _ _ _ _ _ _ us hl => match us, hl with | [_, _], _ => rfl) fun ca cdv A outer s H E gd hr => by
  have nd := sc_form_of.nd
  exact (ss_cons (s_expr (d_callH 4 2 [] (ok_need_number e).here gd hr (da_cons (d_var 0) (da_cons d_str (da_cons d_non (da_cons d_non da_nil)))) (fun _ _ _ _ _ _ _ us its h1 h2 => match us, its, h1, h2 with | [_, _, _, _], [_, _], _, _ => ⟨_, rfl, rfl⟩)))
  (ss_cons (s_if (dt_not (dt_tru (d_callG (ok_are_pairs e) gd hr (da_cons (d_var 1) da_nil)))) (ss_one s_never) ss_nil)
  (ss_one (s_ret (d_callG (ok_joined e) gd hr (da_cons (d_var 0) (da_cons (d_var 1) da_nil)))))))
/-! names_in -/
def g_names_in : Sm := (sRet (eArgs gTuple (aCons (eComp (gS [(gN 1), (gN 2)]) (iSeq (eBin gIxA (eCall 2 F_need_form [] (aCons (eVar 0) (aCons (eC (.str "form")) aNil))) (eC (.int 1)))) (fun _ => pure true) (eVar 1) [1, 2]) aNil)))
theorem sc_names_in : FnScope ["form", "name", "_"] ["form"] (defScope s_names_in) := ⟨rfl, rfl, rfl, by decide +kernel, rfl, by decide +kernel, by decide +kernel⟩
def F_names_in : List D → M D := fun ds => G.nx (runDef 3 g_names_in ds)
theorem ok_names_in (e : HxL K mg base) : DefG P w K mg base 63 "names_in" s_names_in ["form"] F_names_in :=
  DefG.mk2 (k := 62) (N := ["form", "name", "_"]) (g := g_names_in) (e.c.def_ 23 (d := dd_names_in)) (e.glo 44) sc_names_in (fun _ _ _ _ _ _ us hl => match us, hl with | [_], _ => rfl) fun ca cdv A outer s H E gd hr => by
  have nd := sc_names_in.nd
  exact (ss_one (s_ret (d_callTy call_tupN cal_tuple (e.free 4) boot_tuple (da_cons (d_comp (own := [("name", 1), ("_", 2)]) rfl nd (blkOk_by (by kernel_rfl)) (i_seq (d_ix (ix_all (roomI hr)) ix_DA (d_callG (ok_need_form e) gd hr (da_cons (d_var 0) (da_cons d_str da_nil))) d_int)) (tg_unp (tgs_cons (tg_name 1) (tgs_cons (tg_name 2) tgs_nil))) (fun _ _ _ _ _ => (pg_unp rfl (pgs_cons (pg_name (i := 1) nd rfl (by first | exact Or.inl rfl | exact Or.inr rfl)) (pgs_cons (pg_name (i := 2) nd rfl (by first | exact Or.inl rfl | exact Or.inr rfl)) pgs_nil)))) (fun _ _ _ _ _ => dts_nil) (fun _ _ _ _ _ => (d_var 1))) da_nil))))
/-! law -/
def g_law : Sm := (sSeq (sFor (gN 2) (iRange1 (aCons (eIf (cCmp (gEqX true) (eVar 0) (eArgs gLst aNil)) (eC (.int 6)) (eC (.int 2))) aNil)) (sSeq (sPar 3 4 (aCons (eCall 2 F_L_pick [] (aCons (eVar 1) (aCons (eArgs gLst (aCons (eC (.int 0)) (aCons (eUn gNeg (eC (.int 7))) (aCons (eBin gPow (eC (.int 10)) (eC (.int 30))) (aCons (eBin gSub (eCall 2 F_draw [] (aCons (eVar 1) (aCons (eC (.int 99)) aNil))) (eC (.int 49))) aNil))))) aNil))) (aCons (eCall 1 F_L_pairs [] (aCons (eVar 1) aNil)) aNil)))
  (sSeq (sAsg (gN 5) (eIf (cCmp gEqA (eCall 2 F_draw [] (aCons (eVar 1) (aCons (eC (.int 2)) aNil))) (eC (.int 0))) (eCall 1 (F_L_listed 60) [] (aCons (eVar 4) aNil)) (eArgs gTuple (aCons (eVar 4) aNil))))
  (sSeq (sPar 6 7 (aCons (eArgs gRepr (aCons (eVar 5) aNil)) (aCons (eCall 2 F_L_added [] (aCons (eVar 3) (aCons (eVar 4) aNil))) aNil)))
  (sSeq (sIf (cOr (cCmp (gEqX true) (eArgs gRepr (aCons (eCall 2 F_form_of [] (aCons (eVar 3) (aCons (eVar 5) aNil))) aNil)) (eArgs gRepr (aCons (eVar 7) aNil))) (cOr (cCmp (gEqX true) (eArgs gRepr (aCons (eCallK 2 0 2 [1, 0] F_form_of aNil (aCons (eVar 5) (aCons (eVar 3) aNil))) aNil)) (eArgs gRepr (aCons (eVar 7) aNil))) (cCmp (gEqX true) (eArgs gRepr (aCons (eVar 5) aNil)) (eVar 6)))) (sRet (eC (.bl false))) sNil)
  (sSeq (sIf (cOr (cCmp (gEqX true) (eArgs gRepr (aCons (eCall 1 F_names_in [] (aCons (eCall 1 (F_L_listed 60) [] (aCons (eVar 7) aNil)) aNil)) aNil)) (eArgs gRepr (aCons (eArgs gTuple (aCons (eComp (gS [(gN 8), (gN 12)]) (iSeq (eBin gIxA (eVar 7) (eC (.int 1)))) (fun _ => pure true) (eVar 8) [8, 12]) aNil)) aNil))) (cCmp (gEqX true) (eCallK 1 0 1 [0] F_names_in aNil (aCons (eVar 7) aNil)) (eCall 1 F_names_in [] (aCons (eVar 7) aNil)))) (sRet (eC (.bl false))) sNil)
  (sSeq (sAsg (gN 8) (eCall 2 F_L_pick [] (aCons (eVar 1) (aCons (eArgs gLst (aCons (eC (.str "x")) (aCons (eC (.str "y")) (aCons (eC (.str "a1")) (aCons (eC (.str "q")) aNil))))) aNil))))
  (sSeq (sAsg (gN 9) (eBin gMul (eArgs gLst (aCons (eArgs gSum (aCons (eComp (gS [(gN 13), (gN 12)]) (iSeq (eVar 4)) (cCmp gEqA (eVar 13) (eVar 8)) (eVar 12) [13, 12]) aNil)) aNil)) (eC (.int 2))))
  (sSeq (sIf (cCmp (gEqX true) (eArgs gRepr (aCons (eArgs gLst (aCons (eCall 2 F_factor_of2 [] (aCons (eVar 7) (aCons (eVar 8) aNil))) (aCons (eCallK 2 0 2 [1, 0] F_factor_of2 aNil (aCons (eVar 8) (aCons (eVar 7) aNil))) aNil))) aNil)) (eArgs gRepr (aCons (eVar 9) aNil))) (sRet (eC (.bl false))) sNil)
  (sFor (gN 10) (iRange1 (aCons (eC (.int 3)) aNil)) (sSeq (sAsg (gN 11) (eCall 2 F_L_bent3 [] (aCons (eVar 1) (aCons (eVar 7) aNil))))
  (sIf (cOr (cCmp (gEqX true) (eArgs gRepr (aCons (eCall 1 F_is_form [] (aCons (eVar 11) aNil)) aNil)) (eArgs gRepr (aCons (eCall 1 F_L_is_form [] (aCons (eVar 11) aNil)) aNil))) (cCmp (gEqX true) (eArgs gRepr (aCons (eCallK 1 0 1 [0] F_is_form aNil (aCons (eVar 11) aNil)) aNil)) (eArgs gRepr (aCons (eCall 1 F_is_form [] (aCons (eVar 11) aNil)) aNil)))) (sRet (eC (.bl false))) sNil))))))))))))
  (sRet (eAnd (eBin (gBl gEqA) (eCall 2 F_form_of [] (aCons (eC (.int 0)) (aCons (eArgs gLst aNil) aNil))) (eArgs gTup (aCons (eC (.int 0)) (aCons (eArgs gTup aNil) aNil)))) (eBin (gBl (gIsB false)) (eCall 1 F_is_form [] (aCons (eArgs gTup (aCons (eC (.int 0)) (aCons (eArgs gTup aNil) aNil))) aNil)) (eC (.bl true))))))
theorem sc_law : FnScope ["_law_script", "_law_nest_here", "_law_turn", "_law_constant", "_law_pairs_here", "_law_handed", "_law_kept", "_law_due", "_law_name", "_law_factors", "_law_lap", "_law_value", "_law_factor", "_law_each"] ["_law_script"] (defScope s_law) := ⟨rfl, rfl, rfl, by decide +kernel, rfl, by decide +kernel, by decide +kernel⟩
def lawQ_k := 64
theorem body_law (e : HxL K mg base) {f : Addr} {cdv : Value} {A : Around} {outer : List Env} {s : Shared} {H : Hp} {E : XK} (gd : A.guards = some []) (hr : Room 63 (A.deeper (envOfC "law" (defScope s_law) s.heap.objs.size f cdv))) (ca : Dr) :
    PSs (cxOf CX0 P w K mg base ["_law_script", "_law_nest_here", "_law_turn", "_law_constant", "_law_pairs_here", "_law_handed", "_law_kept", "_law_due", "_law_name", "_law_factors", "_law_lap", "_law_value", "_law_factor", "_law_each"] "law" (defScope s_law) f cdv A outer s H E).nox ((defBody s_law).drop 1) (tS K ca E0 g_law) := by
  have nd := sc_law.nd
  exact (ss_cons (s_for rfl PassesOwn.never (i_range1 (e.free 12) (da_cons (d_if (dt_cmp (op_neX (roomE hr)) cmp_neX (d_var 0) (d_lst da_nil) (nomark _)) d_int d_int) da_nil)) (pg_name (i := 2) nd rfl (by first | exact Or.inl rfl | exact Or.inr rfl)) (tg_name 2) (ss_cons (s_par 3 4 rfl nd (da_cons (d_callG (ok__law_pick e) gd hr (da_cons (d_var 1) (da_cons (d_lst (da_cons d_int (da_cons (d_un un_neg un_negD d_int) (da_cons (d_bin op_pow bin_pow d_int d_int) (da_cons (d_bin op_subD bin_sub (d_callG (ok__law_peck e) gd hr (da_cons (d_var 1) (da_cons d_int da_nil))) d_int) da_nil))))) da_nil))) (da_cons (d_callG (ok__law_pairs e) gd hr (da_cons (d_var 1) da_nil)) da_nil)))
  (ss_cons (s_set 5 nd (d_if (dt_cmp (op_eqA (roomE hr)) cmp_eqA (d_callG (ok__law_peck e) gd hr (da_cons (d_var 1) (da_cons d_int da_nil))) d_int (nomark _)) (d_callG (ok__law_listed e 60).here gd hr (da_cons (d_var 4) da_nil)) (d_callTy call_tupN cal_tuple (e.free 4) boot_tuple (da_cons (d_var 4) da_nil))))
  (ss_cons (s_par 6 7 rfl nd (da_cons (d_callB (cr_repr e.y gd (roomU hr)) cal_repr (e.free 20) (bt_repr) (da_cons (d_var 5) da_nil)) (da_cons (d_callG (ok__law_added e) gd hr (da_cons (d_var 3) (da_cons (d_var 4) da_nil))) da_nil)))
  (ss_cons (s_if (dw_or (dt_cmp (op_neX (roomE hr)) cmp_neX (d_callB (cr_repr e.y gd (roomU hr)) cal_repr (e.free 20) (bt_repr) (da_cons (d_callG (ok_form_of e) gd hr (da_cons (d_var 3) (da_cons (d_var 5) da_nil))) da_nil)) (d_callB (cr_repr e.y gd (roomU hr)) cal_repr (e.free 20) (bt_repr) (da_cons (d_var 7) da_nil)) (nomark _)) (dw_or (dt_cmp (op_neX (roomE hr)) cmp_neX (d_callB (cr_repr e.y gd (roomU hr)) cal_repr (e.free 20) (bt_repr) (da_cons (d_callK0G (kn := ["pairs", "constant"]) [1, 0] (ok_form_of e) gd hr (fun _ _ _ _ _ _ us ws h1 h2 => match us, ws, h1, h2 with | [], [_, _], _, _ => rfl) (dk_cons (d_var 5) (dk_cons (d_var 3) dk_nil))) da_nil)) (d_callB (cr_repr e.y gd (roomU hr)) cal_repr (e.free 20) (bt_repr) (da_cons (d_var 7) da_nil)) (nomark _)) (dw_or1 (dt_cmp (op_neX (roomE hr)) cmp_neX (d_callB (cr_repr e.y gd (roomU hr)) cal_repr (e.free 20) (bt_repr) (da_cons (d_var 5) da_nil)) (d_var 6) (nomark _))))).pt (ss_one (s_ret d_bl)) ss_nil)
  (ss_cons (s_if (dw_or (dt_cmp (op_neX (roomE hr)) cmp_neX (d_callB (cr_repr e.y gd (roomU hr)) cal_repr (e.free 20) (bt_repr) (da_cons (d_callG (ok_names_in e) gd hr (da_cons (d_callG (ok__law_listed e 60).here gd hr (da_cons (d_var 7) da_nil)) da_nil)) da_nil)) (d_callB (cr_repr e.y gd (roomU hr)) cal_repr (e.free 20) (bt_repr) (da_cons (d_callTy call_tupN cal_tuple (e.free 4) boot_tuple (da_cons (d_comp (own := [("_law_name", 8), ("_law_factor", 12)]) rfl nd (blkOk_by (by kernel_rfl)) (i_seq (d_ix (ix_all (roomI hr)) ix_DA (d_var 7) d_int)) (tg_unp (tgs_cons (tg_name 8) (tgs_cons (tg_name 12) tgs_nil))) (fun _ _ _ _ _ => (pg_unp rfl (pgs_cons (pg_name (i := 8) nd rfl (by first | exact Or.inl rfl | exact Or.inr rfl)) (pgs_cons (pg_name (i := 12) nd rfl (by first | exact Or.inl rfl | exact Or.inr rfl)) pgs_nil)))) (fun _ _ _ _ _ => dts_nil) (fun _ _ _ _ _ => (d_var 8))) da_nil)) da_nil)) (nomark _)) (dw_or1 (dt_cmp (op_neX (roomE hr)) cmp_neX (d_callK0G (kn := ["form"]) [0] (ok_names_in e) gd hr (fun _ _ _ _ _ _ us ws h1 h2 => match us, ws, h1, h2 with | [], [_], _, _ => rfl) (dk_cons (d_var 7) dk_nil)) (d_callG (ok_names_in e) gd hr (da_cons (d_var 7) da_nil)) (nomark _)))).pt (ss_one (s_ret d_bl)) ss_nil)
  (ss_cons (s_set 8 nd (d_callG (ok__law_pick e) gd hr (da_cons (d_var 1) (da_cons (d_lst (da_cons d_str (da_cons d_str (da_cons d_str (da_cons d_str da_nil))))) da_nil))))
  (ss_cons (s_set 9 nd (d_bin op_mulD bin_mul (d_lst (da_cons (d_callB (cr_sum rfl) cal_sum (e.free 2) (bt_sum) (da_cons (d_comp (own := [("_law_each", 13), ("_law_factor", 12)]) rfl nd (blkOk_by (by kernel_rfl)) (i_seq (d_var 4)) (tg_unp (tgs_cons (tg_name 13) (tgs_cons (tg_name 12) tgs_nil))) (fun _ _ _ _ _ => (pg_unp rfl (pgs_cons (pg_name (i := 13) nd rfl (by first | exact Or.inl rfl | exact Or.inr rfl)) (pgs_cons (pg_name (i := 12) nd rfl (by first | exact Or.inl rfl | exact Or.inr rfl)) pgs_nil)))) (fun _ _ _ _ _ => (dts_one (dt_cmp (op_eqA (roomE hr)) cmp_eqA (d_var 13) (d_var 8) (nomark _)))) (fun _ _ _ _ _ => (d_var 12))) da_nil)) da_nil)) d_int))
  (ss_cons (s_if (dt_cmp (op_neX (roomE hr)) cmp_neX (d_callB (cr_repr e.y gd (roomU hr)) cal_repr (e.free 20) (bt_repr) (da_cons (d_lst (da_cons (d_callG (ok_factor_of e) gd hr (da_cons (d_var 7) (da_cons (d_var 8) da_nil))) (da_cons (d_callK0G (kn := ["name", "form"]) [1, 0] (ok_factor_of e) gd hr (fun _ _ _ _ _ _ us ws h1 h2 => match us, ws, h1, h2 with | [], [_, _], _, _ => rfl) (dk_cons (d_var 8) (dk_cons (d_var 7) dk_nil))) da_nil))) da_nil)) (d_callB (cr_repr e.y gd (roomU hr)) cal_repr (e.free 20) (bt_repr) (da_cons (d_var 9) da_nil)) (nomark _)) (ss_one (s_ret d_bl)) ss_nil)
  (ss_one (s_for rfl PassesOwn.never (i_range1 (e.free 12) (da_cons d_int da_nil)) (pg_name (i := 10) nd rfl (by first | exact Or.inl rfl | exact Or.inr rfl)) (tg_name 10) (ss_cons (s_set 11 nd (d_callG (ok__law_bent e) gd hr (da_cons (d_var 1) (da_cons (d_var 7) da_nil))))
  (ss_one (s_if (dw_or (dt_cmp (op_neX (roomE hr)) cmp_neX (d_callB (cr_repr e.y gd (roomU hr)) cal_repr (e.free 20) (bt_repr) (da_cons (d_callG (ok_is_form e) gd hr (da_cons (d_var 11) da_nil)) da_nil)) (d_callB (cr_repr e.y gd (roomU hr)) cal_repr (e.free 20) (bt_repr) (da_cons (d_callG (ok__law_is_form e) gd hr (da_cons (d_var 11) da_nil)) da_nil)) (nomark _)) (dw_or1 (dt_cmp (op_neX (roomE hr)) cmp_neX (d_callB (cr_repr e.y gd (roomU hr)) cal_repr (e.free 20) (bt_repr) (da_cons (d_callK0G (kn := ["value"]) [0] (ok_is_form e) gd hr (fun _ _ _ _ _ _ us ws h1 h2 => match us, ws, h1, h2 with | [], [_], _, _ => rfl) (dk_cons (d_var 11) dk_nil)) da_nil)) (d_callB (cr_repr e.y gd (roomU hr)) cal_repr (e.free 20) (bt_repr) (da_cons (d_callG (ok_is_form e) gd hr (da_cons (d_var 11) da_nil)) da_nil)) (nomark _)))).pt (ss_one (s_ret d_bl)) ss_nil))))))))))))))
  (ss_one (s_ret (d_and (d_cmp (op_eqA (roomE hr)) (BinB.d cmp_eqA) (d_callG (ok_form_of e) gd hr (da_cons d_int (da_cons (d_lst da_nil) da_nil))) (d_tup (da_cons d_int (da_cons (d_tup da_nil) da_nil))) (nomark _)) (d_one (d_cmp op_is_bl (BinB.d cmp_isB) (d_callG (ok_is_form e) gd hr (da_cons (d_tup (da_cons d_int (da_cons (d_tup da_nil) da_nil))) da_nil)) d_bl (nomark _)))))))
/-! _law_nest, the law's end -/
theorem sc__law_nest : FnScope ["_law_script", "_law_cell"] ["_law_script"] (defScope s__law_nest) := ⟨rfl, rfl, rfl, by decide +kernel, rfl, by decide +kernel, by decide +kernel⟩
theorem ok__law_nest (e : HxL K mg base) : ∃ fd, FunD K "_law_nest" "_law_nest" (defArgs s__law_nest) (defBody s__law_nest) (defScope s__law_nest) [] [] (He.ga K "_law_nest") fd ∧ FnOk P w K mg base CX0 1 (He.ga K "_law_nest") fd ["_law_script"] (spMade K) ∧ Binds K fd ["_law_script"] [] := by
  obtain ⟨fd, F⟩ := e.c.def_ 8 (d := dd__law_nest) rfl
  have F : FunD K "_law_nest" "_law_nest" (defArgs s__law_nest) (defBody s__law_nest) (defScope s__law_nest) [] [] (He.ga K "_law_nest") fd := F
  refine ⟨fd, F, F.ok sc__law_nest (fun vs H Q E h => ?_) (fun cdv A outer s H vs Q E hr h => ?_), F.bindsN (fun _ _ _ _ _ _ us hl => match us, hl with | [_], _ => rfl)⟩
  · obtain ⟨a, ns, rfl, _⟩ := h
    rfl
  obtain ⟨a, ns, rfl, hS, q⟩ := h
  have nd := sc__law_nest.nd
  refine ⟨_, PSs.nox (pss_one (ps_ret (pe_lst (pa_cons (pe_lc (own := [("_law_cell", 1)]) rfl nd (pi_list (pe_slice sl_list (pv 0) po_none (po_some pe_int))) (blkOk_by (by kernel_rfl)) (fun _ _ _ _ _ => pg_name (i := 1) nd rfl (by first | exact Or.inl rfl | exact Or.inr rfl)) (fun _ _ _ _ _ => pts_nil)
    (fun _ _ _ _ _ => pe_callTy call_int1 rfl (e.free 3) boot_int (pa_cons (pv 1) pa_nil))) (pa_cons pe_int (pa_cons pe_int pa_nil)))))), ?_⟩
  exact made_read (X := cxOf CX0 P w K mg base ["_law_script", "_law_cell"] "_law_nest" (defScope s__law_nest) (He.ga K "_law_nest") cdv A outer s H E) (st := s__law_nest) (tt := tYes) (i := 1) hS rfl q (Nat.lt_succ_self 1)
theorem ok_law (e : HxL K mg base) (lt : LawTrue 14 g_law) : ∃ fd, FunD K "law" "law" (defArgs s_law) (defBody s_law) (defScope s_law) [] [] (He.ga K "law") fd ∧ FnG P w K mg base CX0 64 (He.ga K "law") fd ["_law_script"] (spLaw K) := by
  obtain ⟨fd, F⟩ := e.c.def_ 24 (d := dd_law) rfl
  have F : FunD K "law" "law" (defArgs s_law) (defBody s_law) (defScope s_law) [] [] (He.ga K "law") fd := F
  obtain ⟨fdH, FH, okH, bH⟩ := ok__law_nest (P := P) (w := w) e
  have nd := sc_law.nd
  refine ⟨fd, F, FunD.okG (k := 63) F sc_law (fun vs H Q E h => ?_) (fun cdv A outer s H vs Q E gd hr h => ⟨_, PSs.nox (pss_cons (ps_set (i := 1) nd rfl (by first | exact Or.inl rfl | exact Or.inr rfl) (pe_call okH (hr.mono (by decide)) rfl (e.glo 29) FH.kp bH .nil L2.pass0 (pa_cons (pv 0) pa_nil))) (ss_any (body_law e gd hr))), law_read (by decide) lt h⟩)⟩
  obtain ⟨a, ns, rfl, _⟩ := h
  rfl
end
abbrev R0 : PySem.W.OpenRow := PySem.W.OpenLaw.row PySem.Challenge.rw_claimduel_k04_forms_made_and_judged
def moreL (K : PySem.W.Frag) : Bool := tupL.all fun p => tupFact K p.1 p.2
abbrev hkL : PySem.W.Hook := hookX 4 faL fnL moreL
def obL (s : PySem.W.SharedT) : (Bool × Bool) × He.AlD := obsX 4 faL fnL moreL s
theorem obL_eq (s : PySem.W.SharedT) : obL s = hkL.obs s.abs := obsX_eq s
def looseL : List Str := (["DuelError", "BadNumber", "BadName", "BadForm", "LETTERS", "DIGITS", "LONGEST", "WORDS", "is_integer", "is_within", "is_name", "need_number", "need_name", "fixed", "are_pairs", "is_form", "need_form", "joined", "factor_in", "form_of", "names_in", "factor_of", "_law_nest", "_law_peck", "_law_pick", "_law_is_int", "_law_is_name", "_law_is_form", "_law_added", "_law_listed"] : List Str) ++ (["_law_pairs", "_law_bent"] : List Str)
theorem runL (w : World) : HandSHeadRun.RunEq R0 (PySem.W.view R0.prog [37]) hkL obL 4000 looseL w := by
  intro os
  kernel_rfl
end G
open PySem PySem.W PySem.Calls PyProof.Rows
theorem G.holds_of (lt : G.LawTrue 14 G.g_law) : PySem.Challenge.rw_claimduel_k04_forms_made_and_judged.Holds := by
  w_on; o_law
  refine HandSHeadRun.head_any (r := G.R0) (q := view G.R0.prog [37]) (H := G.hkL) (ob := G.obL) (M := 4000) (loose := G.looseL) (d := HandSHeadRun.topDef G.R0.prog 37) (kwd := []) G.obL_eq
    (by kernel_rfl) (fun s => by kernel_rfl) G.runL (by kernel_rfl) (by kernel_rfl) (by kernel_rfl) (by rfl) (by first | assumption | decide +kernel) (by decide +kernel) ⟨rfl, rfl, rfl, rfl, rfl, by decide +kernel⟩ ?hw ?hc
  case hw => w_witness2
  case hc =>
    refine G.law_walk (l := PySem.Challenge.rw_claimduel_k04_forms_made_and_judged) (k := 64) (x := "_law_script") rfl (by kernel_rfl) ⟨rfl, by decide, by decide⟩ ?F
    intro w mg fa h Y hns hmg0
    obtain ⟨sys, K, KX, more, c⟩ := Y
    have hmg : mg ("law" : PySem.Str) = some (.ref fa) := by
      have e : (HandSHeadRun.topDef G.R0.prog 37).name = ("law" : PySem.Str) := by kernel_rfl
      rw [← e]
      exact hmg0
    have hx : ∀ base : Heap, G.Sys base → G.HxL K mg base := fun base y => ⟨c, ⟨h, KX, hns⟩, y, more⟩
    have e := hmg.symm.trans (He.glo_ok KX hns (c.fact 45 (f := .glo "law") rfl))
    cases e
    obtain ⟨fd, F⟩ := c.def_ 24 (d := G.dd_law) rfl
    have F : L2.FunD K "law" "law" (L2.defArgs G.s_law) (L2.defBody G.s_law) (L2.defScope G.s_law) [] [] (He.ga K "law") fd := F
    have b := L2.FunD.bindsA (ps := ["_law_script"]) F fun _ _ _ _ _ _ us hl => match us, hl with | [_], _ => rfl
    refine ⟨K, fd, KX, sys, fun s u => b s [u] rfl, fun base _ _ y => ?_⟩
    obtain ⟨fd2, F2, k2⟩ := G.ok_law (P := (PySem.Challenge.rw_claimduel_k04_forms_made_and_judged).prog) (w := w) (hx base y) lt
    have e2 : fd2 = fd := G.funD_one F2 F
    exact e2 ▸ k2

set_option Elab.async false
set_option linter.all false
set_option maxRecDepth 100000
set_option maxHeartbeats 8000000
/-! NM1: is_integer, is_name. -/
namespace G
open PySem PySem.Spec PyProof.Rows L2
theorem eq_of_ok {α : Type} {r : R α} {a : α} {c : Churn} (h : Ok r fun d c' => d = a ∧ c' = c) : r = .ok a c := by
  obtain ⟨d, c', e, rfl, rfl⟩ := h.ex
  exact e
theorem is_int_eq {d : D} {c : Churn} (h : plainD d = true) : F_L_is_int [d] c = .ok (.bl (isIntD d)) c := by
  cases d <;> first | (exfalso; simp [plainD, tyName] at h; done) | kernel_rfl
def wordsS : List Str := ["and", "or", "not", "all", "some", "many", "endless", "yes", "no"]
def inL (a : Nat) : Bool := decide (a ∈ (("abcdefghijklmnopqrstuvwxyz" : Str)).cps.toList)
def inG (a : Nat) : Bool := decide (a ∈ (("0123456789" : Str)).cps.toList)
def headIn (p : Nat → Bool) : List Nat → Bool
  | [] => false
  | a :: _ => p a
theorem headIn_c {p : Nat → Bool} {a : Nat} {cs : List Nat} : headIn p (a :: cs) = p a := rfl
def wIn (s : Str) : Bool := decide (s ∈ wordsS)
def isNm (cs : List Nat) : Bool := decide (1 ≤ cs.length) && (decide (cs.length ≤ 8) && (!wIn (sx cs) && (headIn inL cs && cs.all fun a => inL a || inG a)))
def isStrD : D → Bool
  | .str _ => true
  | _ => false
theorem gLen_s {cs : List Nat} (h : cs.length ≤ 1000) : gLen [.str (sx cs)] = some (.int cs.length) := if_pos (Nat.le_trans (show (sx cs).length ≤ 1000 from h) (by decide))
theorem inW {neg : Bool} {s : Str} : gInB neg (.str s) (.tup [.str "and", .str "or", .str "not", .str "all", .str "some", .str "many", .str "endless", .str "yes", .str "no"]) = some (if neg then !wIn s else wIn s) := gInB_ss (ss := wordsS)
theorem isi_str {d : D} (h : plainD d = true) : gIsi [d, .ty "str"] = some (.bl (isStrD d)) := by
  cases d <;> first | (exfalso; simp [plainD, tyName] at h; done) | kernel_rfl
def isSeqD : D → Bool
  | .lst _ => true
  | .tup _ => true
  | _ => false
theorem isi_seq {d : D} (h : plainD d = true) : gIsi [d, .tup [.ty "list", .ty "tuple"]] = some (.bl (isSeqD d)) := by
  cases d <;> first | (exfalso; simp [plainD, tyName] at h; done) | kernel_rfl
theorem inS_e {neg : Bool} {a : Nat} {z : Str} : gInS neg (.str ⟨#[a]⟩) (.str z) = some (if neg then !decide (a ∈ z.cps.toList) else decide (a ∈ z.cps.toList)) := rfl
theorem inB_e {neg : Bool} {a : Nat} {z : Str} : gInB neg (.str ⟨#[a]⟩) (.str z) = some (if neg then !decide (a ∈ z.cps.toList) else decide (a ∈ z.cps.toList)) := rfl
theorem ix_head {a : Nat} {cs : List Nat} (h : (a :: cs).length ≤ 1000) : gIxA (.str (sx (a :: cs))) (.int 0) = some (.str ⟨#[a]⟩) := by
  have hl : (sx (a :: cs)).length ≤ sizeLine := Nat.le_trans (show (sx (a :: cs)).length ≤ 1000 from h) (by decide)
  have e : atI (a :: cs) (0 : Int) = some a := atI_0
  show (if (sx (a :: cs)).length ≤ sizeLine then (atI (a :: cs) (0 : Int)).map fun c => D.str ⟨#[c]⟩ else none) = _
  rw [if_pos hl, e]
  rfl
def sgP (p : Nat → Bool) : D → Bool
  | .str z => (match sign? z with | some b => p b | none => false)
  | _ => false
theorem signs_eq {p : Nat → Bool} {cs : List Nat} : (signsD (sx cs)).all (sgP p) = cs.all p := by
  unfold signsD
  rw [List.all_map]
  rfl
theorem is_name_s {cs : List Nat} {c : Churn} (hl : cs.length ≤ 1000) : F_is_name [.str (sx cs)] c = .ok (.bl (isNm cs)) c := by
  apply eq_of_ok
  show Ok (G.nx (runDef 2 g_is_name [.str (sx cs)]) c) _
  rw [ok_def]
  show Ok (g_is_name [.val (.str (sx cs)), .no] c) _
  unfold g_is_name
  simp only [ok_seq, ok_asg, ok_par, ok_ret, ok_retN, ok_sNil, ok_sIf, ok_bin, ok_un, ok_var, ok_C, ok_call, ok_callK, ok_cons, ok_nil, ok_args, ok_tru, ok_not, ok_and, ok_or, ok_eNot, ok_eAnd, ok_eOr, ok_if, ok_cmp, ok_chain, ok_ofC, ok_oNone, ok_oSome, ok_sl, ok_met, ok_rev, ok_items, ok_lenSet, ok_pairs0, ok_pairs, ok_dict, ok_iSeq, ok_rng1, ok_rng2, ok_comp, ok_comp0, ok_for, List.getElem?_cons_zero, List.getElem?_cons_succ, Option.some.injEq, Sl.val.injEq, exists_eq_left', List.nil_append, List.append_nil, List.length_cons, List.length_nil, true_and, and_true, and_self, Nat.zero_add, Nat.reduceAdd, Nat.reduceLeDiff, gAdd_i, gSub_i, gNeg_i, gBl_e, gCmpI_i, gLst_o, gTup_o, gN_e, List.set_cons_zero, List.set_cons_succ, truD_b, gIsN_n, isNonD, gLen_l, gInt_b, gInt_i, Option.map_some, Bool.false_eq_true, if_true, if_false, Bool.not_true, Bool.not_false, keyD, walkD, ok_sOwn, ok_sFz, ok_cBor, ok_eBor, ok_sPut, ok_xNil, ok_xVal, ok_xOwn, ok_zip, ok_enum, ok_star, ok_sortItems, ok_dict0, ok_ixO, ok_parX, ok_parX3, gIxA_l, gIxA_t, gEqA_i, gEqA_s, atI_0, atI_1, atI_2, atI_3, gCmpO_i, intO, seqOf, isFlat, isi_str (show plainD (.str (sx cs)) = true from rfl), isStrD, gLen_s hl]
  cases cs with
  | nil =>
    simp only [leI, List.length_nil, ok_seq, ok_asg, ok_par, ok_ret, ok_retN, ok_sNil, ok_sIf, ok_bin, ok_un, ok_var, ok_C, ok_call, ok_callK, ok_cons, ok_nil, ok_args, ok_tru, ok_not, ok_and, ok_or, ok_eNot, ok_eAnd, ok_eOr, ok_if, ok_cmp, ok_chain, ok_ofC, ok_oNone, ok_oSome, ok_sl, ok_met, ok_rev, ok_items, ok_lenSet, ok_pairs0, ok_pairs, ok_dict, ok_iSeq, ok_rng1, ok_rng2, ok_comp, ok_comp0, ok_for, List.getElem?_cons_zero, List.getElem?_cons_succ, Option.some.injEq, Sl.val.injEq, exists_eq_left', List.nil_append, List.append_nil, List.length_cons, List.length_nil, true_and, and_true, and_self, Nat.zero_add, Nat.reduceAdd, Nat.reduceLeDiff, gAdd_i, gSub_i, gNeg_i, gBl_e, gCmpI_i, gLst_o, gTup_o, gN_e, List.set_cons_zero, List.set_cons_succ, truD_b, gIsN_n, isNonD, gLen_l, gInt_b, gInt_i, Option.map_some, Bool.false_eq_true, if_true, if_false, Bool.not_true, Bool.not_false, keyD, walkD, ok_sOwn, ok_sFz, ok_cBor, ok_eBor, ok_sPut, ok_xNil, ok_xVal, ok_xOwn, ok_zip, ok_enum, ok_star, ok_sortItems, ok_dict0, ok_ixO, ok_parX, ok_parX3, gIxA_l, gIxA_t, gEqA_i, gEqA_s, atI_0, atI_1, atI_2, atI_3, gCmpO_i, intO, seqOf, isFlat]
    rfl
  | cons a cs =>
    have h1 : leI 1 ((a :: cs).length : Int) = true := decide_eq_true (by simp; omega)
    simp only [List.length_cons] at h1
    simp only [h1, ok_seq, ok_asg, ok_par, ok_ret, ok_retN, ok_sNil, ok_sIf, ok_bin, ok_un, ok_var, ok_C, ok_call, ok_callK, ok_cons, ok_nil, ok_args, ok_tru, ok_not, ok_and, ok_or, ok_eNot, ok_eAnd, ok_eOr, ok_if, ok_cmp, ok_chain, ok_ofC, ok_oNone, ok_oSome, ok_sl, ok_met, ok_rev, ok_items, ok_lenSet, ok_pairs0, ok_pairs, ok_dict, ok_iSeq, ok_rng1, ok_rng2, ok_comp, ok_comp0, ok_for, List.getElem?_cons_zero, List.getElem?_cons_succ, Option.some.injEq, Sl.val.injEq, exists_eq_left', List.nil_append, List.append_nil, List.length_cons, List.length_nil, true_and, and_true, and_self, Nat.zero_add, Nat.reduceAdd, Nat.reduceLeDiff, gAdd_i, gSub_i, gNeg_i, gBl_e, gCmpI_i, gLst_o, gTup_o, gN_e, List.set_cons_zero, List.set_cons_succ, truD_b, gIsN_n, isNonD, gLen_l, gInt_b, gInt_i, Option.map_some, Bool.false_eq_true, if_true, if_false, Bool.not_true, Bool.not_false, keyD, walkD, ok_sOwn, ok_sFz, ok_cBor, ok_eBor, ok_sPut, ok_xNil, ok_xVal, ok_xOwn, ok_zip, ok_enum, ok_star, ok_sortItems, ok_dict0, ok_ixO, ok_parX, ok_parX3, gIxA_l, gIxA_t, gEqA_i, gEqA_s, atI_0, atI_1, atI_2, atI_3, gCmpO_i, intO, seqOf, isFlat]
    by_cases h8 : leI ((cs.length + 1 : Nat) : Int) 8 = true
    · simp only [h8, ok_seq, ok_asg, ok_par, ok_ret, ok_retN, ok_sNil, ok_sIf, ok_bin, ok_un, ok_var, ok_C, ok_call, ok_callK, ok_cons, ok_nil, ok_args, ok_tru, ok_not, ok_and, ok_or, ok_eNot, ok_eAnd, ok_eOr, ok_if, ok_cmp, ok_chain, ok_ofC, ok_oNone, ok_oSome, ok_sl, ok_met, ok_rev, ok_items, ok_lenSet, ok_pairs0, ok_pairs, ok_dict, ok_iSeq, ok_rng1, ok_rng2, ok_comp, ok_comp0, ok_for, List.getElem?_cons_zero, List.getElem?_cons_succ, Option.some.injEq, Sl.val.injEq, exists_eq_left', List.nil_append, List.append_nil, List.length_cons, List.length_nil, true_and, and_true, and_self, Nat.zero_add, Nat.reduceAdd, Nat.reduceLeDiff, gAdd_i, gSub_i, gNeg_i, gBl_e, gCmpI_i, gLst_o, gTup_o, gN_e, List.set_cons_zero, List.set_cons_succ, truD_b, gIsN_n, isNonD, gLen_l, gInt_b, gInt_i, Option.map_some, Bool.false_eq_true, if_true, if_false, Bool.not_true, Bool.not_false, keyD, walkD, ok_sOwn, ok_sFz, ok_cBor, ok_eBor, ok_sPut, ok_xNil, ok_xVal, ok_xOwn, ok_zip, ok_enum, ok_star, ok_sortItems, ok_dict0, ok_ixO, ok_parX, ok_parX3, gIxA_l, gIxA_t, gEqA_i, gEqA_s, atI_0, atI_1, atI_2, atI_3, gCmpO_i, intO, seqOf, isFlat, inW]
      have h8' : (a :: cs).length ≤ 8 := by
        have := of_decide_eq_true h8
        simp only [List.length_cons]; omega
      cases hw : wIn (sx (a :: cs)) with
      | true =>
        simp only [ok_seq, ok_asg, ok_par, ok_ret, ok_retN, ok_sNil, ok_sIf, ok_bin, ok_un, ok_var, ok_C, ok_call, ok_callK, ok_cons, ok_nil, ok_args, ok_tru, ok_not, ok_and, ok_or, ok_eNot, ok_eAnd, ok_eOr, ok_if, ok_cmp, ok_chain, ok_ofC, ok_oNone, ok_oSome, ok_sl, ok_met, ok_rev, ok_items, ok_lenSet, ok_pairs0, ok_pairs, ok_dict, ok_iSeq, ok_rng1, ok_rng2, ok_comp, ok_comp0, ok_for, List.getElem?_cons_zero, List.getElem?_cons_succ, Option.some.injEq, Sl.val.injEq, exists_eq_left', List.nil_append, List.append_nil, List.length_cons, List.length_nil, true_and, and_true, and_self, Nat.zero_add, Nat.reduceAdd, Nat.reduceLeDiff, gAdd_i, gSub_i, gNeg_i, gBl_e, gCmpI_i, gLst_o, gTup_o, gN_e, List.set_cons_zero, List.set_cons_succ, truD_b, gIsN_n, isNonD, gLen_l, gInt_b, gInt_i, Option.map_some, Bool.false_eq_true, if_true, if_false, Bool.not_true, Bool.not_false, keyD, walkD, ok_sOwn, ok_sFz, ok_cBor, ok_eBor, ok_sPut, ok_xNil, ok_xVal, ok_xOwn, ok_zip, ok_enum, ok_star, ok_sortItems, ok_dict0, ok_ixO, ok_parX, ok_parX3, gIxA_l, gIxA_t, gEqA_i, gEqA_s, atI_0, atI_1, atI_2, atI_3, gCmpO_i, intO, seqOf, isFlat]
        have : isNm (a :: cs) = false := by unfold isNm; rw [hw]; simp
        rw [this]
      | false =>
        simp only [ok_seq, ok_asg, ok_par, ok_ret, ok_retN, ok_sNil, ok_sIf, ok_bin, ok_un, ok_var, ok_C, ok_call, ok_callK, ok_cons, ok_nil, ok_args, ok_tru, ok_not, ok_and, ok_or, ok_eNot, ok_eAnd, ok_eOr, ok_if, ok_cmp, ok_chain, ok_ofC, ok_oNone, ok_oSome, ok_sl, ok_met, ok_rev, ok_items, ok_lenSet, ok_pairs0, ok_pairs, ok_dict, ok_iSeq, ok_rng1, ok_rng2, ok_comp, ok_comp0, ok_for, List.getElem?_cons_zero, List.getElem?_cons_succ, Option.some.injEq, Sl.val.injEq, exists_eq_left', List.nil_append, List.append_nil, List.length_cons, List.length_nil, true_and, and_true, and_self, Nat.zero_add, Nat.reduceAdd, Nat.reduceLeDiff, gAdd_i, gSub_i, gNeg_i, gBl_e, gCmpI_i, gLst_o, gTup_o, gN_e, List.set_cons_zero, List.set_cons_succ, truD_b, gIsN_n, isNonD, gLen_l, gInt_b, gInt_i, Option.map_some, Bool.false_eq_true, if_true, if_false, Bool.not_true, Bool.not_false, keyD, walkD, ok_sOwn, ok_sFz, ok_cBor, ok_eBor, ok_sPut, ok_xNil, ok_xVal, ok_xOwn, ok_zip, ok_enum, ok_star, ok_sortItems, ok_dict0, ok_ixO, ok_parX, ok_parX3, gIxA_l, gIxA_t, gEqA_i, gEqA_s, atI_0, atI_1, atI_2, atI_3, gCmpO_i, intO, seqOf, isFlat, ix_head hl, inS_e]
        cases ha : inL a with
        | false =>
          have ha' : decide (a ∈ (("abcdefghijklmnopqrstuvwxyz" : Str)).cps.toList) = false := ha
          simp only [ha', ok_seq, ok_asg, ok_par, ok_ret, ok_retN, ok_sNil, ok_sIf, ok_bin, ok_un, ok_var, ok_C, ok_call, ok_callK, ok_cons, ok_nil, ok_args, ok_tru, ok_not, ok_and, ok_or, ok_eNot, ok_eAnd, ok_eOr, ok_if, ok_cmp, ok_chain, ok_ofC, ok_oNone, ok_oSome, ok_sl, ok_met, ok_rev, ok_items, ok_lenSet, ok_pairs0, ok_pairs, ok_dict, ok_iSeq, ok_rng1, ok_rng2, ok_comp, ok_comp0, ok_for, List.getElem?_cons_zero, List.getElem?_cons_succ, Option.some.injEq, Sl.val.injEq, exists_eq_left', List.nil_append, List.append_nil, List.length_cons, List.length_nil, true_and, and_true, and_self, Nat.zero_add, Nat.reduceAdd, Nat.reduceLeDiff, gAdd_i, gSub_i, gNeg_i, gBl_e, gCmpI_i, gLst_o, gTup_o, gN_e, List.set_cons_zero, List.set_cons_succ, truD_b, gIsN_n, isNonD, gLen_l, gInt_b, gInt_i, Option.map_some, Bool.false_eq_true, if_true, if_false, Bool.not_true, Bool.not_false, keyD, walkD, ok_sOwn, ok_sFz, ok_cBor, ok_eBor, ok_sPut, ok_xNil, ok_xVal, ok_xOwn, ok_zip, ok_enum, ok_star, ok_sortItems, ok_dict0, ok_ixO, ok_parX, ok_parX3, gIxA_l, gIxA_t, gEqA_i, gEqA_s, atI_0, atI_1, atI_2, atI_3, gCmpO_i, intO, seqOf, isFlat]
          have : isNm (a :: cs) = false := by unfold isNm; rw [headIn_c, ha]; simp
          rw [this]
        | true =>
          have ha' : decide (a ∈ (("abcdefghijklmnopqrstuvwxyz" : Str)).cps.toList) = true := ha
          simp only [ha', ok_seq, ok_asg, ok_par, ok_ret, ok_retN, ok_sNil, ok_sIf, ok_bin, ok_un, ok_var, ok_C, ok_call, ok_callK, ok_cons, ok_nil, ok_args, ok_tru, ok_not, ok_and, ok_or, ok_eNot, ok_eAnd, ok_eOr, ok_if, ok_cmp, ok_chain, ok_ofC, ok_oNone, ok_oSome, ok_sl, ok_met, ok_rev, ok_items, ok_lenSet, ok_pairs0, ok_pairs, ok_dict, ok_iSeq, ok_rng1, ok_rng2, ok_comp, ok_comp0, ok_for, List.getElem?_cons_zero, List.getElem?_cons_succ, Option.some.injEq, Sl.val.injEq, exists_eq_left', List.nil_append, List.append_nil, List.length_cons, List.length_nil, true_and, and_true, and_self, Nat.zero_add, Nat.reduceAdd, Nat.reduceLeDiff, gAdd_i, gSub_i, gNeg_i, gBl_e, gCmpI_i, gLst_o, gTup_o, gN_e, List.set_cons_zero, List.set_cons_succ, truD_b, gIsN_n, isNonD, gLen_l, gInt_b, gInt_i, Option.map_some, Bool.false_eq_true, if_true, if_false, Bool.not_true, Bool.not_false, keyD, walkD, ok_sOwn, ok_sFz, ok_cBor, ok_eBor, ok_sPut, ok_xNil, ok_xVal, ok_xOwn, ok_zip, ok_enum, ok_star, ok_sortItems, ok_dict0, ok_ixO, ok_parX, ok_parX3, gIxA_l, gIxA_t, gEqA_i, gEqA_s, atI_0, atI_1, atI_2, atI_3, gCmpO_i, intO, seqOf, isFlat]
          refine ⟨?_, ?_⟩
          · have : (signsD (sx (a :: cs))).length ≤ 1000 := by unfold signsD; simpa using hl
            exact Nat.le_trans this (by decide)
          · refine comp_map (fun d => .bl (sgP (fun a => inL a || inG a) d)) (fun d hd c => ⟨[.val (.str (sx (a :: cs))), .val d], rfl, rfl, ?_⟩) ?_
            · unfold signsD at hd
              obtain ⟨b, _, rfl⟩ := List.mem_map.mp hd
              apply eq_of_ok
              simp only [ok_seq, ok_asg, ok_par, ok_ret, ok_retN, ok_sNil, ok_sIf, ok_bin, ok_un, ok_var, ok_C, ok_call, ok_callK, ok_cons, ok_nil, ok_args, ok_tru, ok_not, ok_and, ok_or, ok_eNot, ok_eAnd, ok_eOr, ok_if, ok_cmp, ok_chain, ok_ofC, ok_oNone, ok_oSome, ok_sl, ok_met, ok_rev, ok_items, ok_lenSet, ok_pairs0, ok_pairs, ok_dict, ok_iSeq, ok_rng1, ok_rng2, ok_comp, ok_comp0, ok_for, List.getElem?_cons_zero, List.getElem?_cons_succ, Option.some.injEq, Sl.val.injEq, exists_eq_left', List.nil_append, List.append_nil, List.length_cons, List.length_nil, true_and, and_true, and_self, Nat.zero_add, Nat.reduceAdd, Nat.reduceLeDiff, gAdd_i, gSub_i, gNeg_i, gBl_e, gCmpI_i, gLst_o, gTup_o, gN_e, List.set_cons_zero, List.set_cons_succ, truD_b, gIsN_n, isNonD, gLen_l, gInt_b, gInt_i, Option.map_some, Bool.false_eq_true, if_true, if_false, Bool.not_true, Bool.not_false, keyD, walkD, ok_sOwn, ok_sFz, ok_cBor, ok_eBor, ok_sPut, ok_xNil, ok_xVal, ok_xOwn, ok_zip, ok_enum, ok_star, ok_sortItems, ok_dict0, ok_ixO, ok_parX, ok_parX3, gIxA_l, gIxA_t, gEqA_i, gEqA_s, atI_0, atI_1, atI_2, atI_3, gCmpO_i, intO, seqOf, isFlat, inS_e]
              cases hb : inL b with
              | true =>
                have hb' : decide (b ∈ (("abcdefghijklmnopqrstuvwxyz" : Str)).cps.toList) = true := hb
                simp only [hb', ok_seq, ok_asg, ok_par, ok_ret, ok_retN, ok_sNil, ok_sIf, ok_bin, ok_un, ok_var, ok_C, ok_call, ok_callK, ok_cons, ok_nil, ok_args, ok_tru, ok_not, ok_and, ok_or, ok_eNot, ok_eAnd, ok_eOr, ok_if, ok_cmp, ok_chain, ok_ofC, ok_oNone, ok_oSome, ok_sl, ok_met, ok_rev, ok_items, ok_lenSet, ok_pairs0, ok_pairs, ok_dict, ok_iSeq, ok_rng1, ok_rng2, ok_comp, ok_comp0, ok_for, List.getElem?_cons_zero, List.getElem?_cons_succ, Option.some.injEq, Sl.val.injEq, exists_eq_left', List.nil_append, List.append_nil, List.length_cons, List.length_nil, true_and, and_true, and_self, Nat.zero_add, Nat.reduceAdd, Nat.reduceLeDiff, gAdd_i, gSub_i, gNeg_i, gBl_e, gCmpI_i, gLst_o, gTup_o, gN_e, List.set_cons_zero, List.set_cons_succ, truD_b, gIsN_n, isNonD, gLen_l, gInt_b, gInt_i, Option.map_some, Bool.false_eq_true, if_true, if_false, Bool.not_true, Bool.not_false, keyD, walkD, ok_sOwn, ok_sFz, ok_cBor, ok_eBor, ok_sPut, ok_xNil, ok_xVal, ok_xOwn, ok_zip, ok_enum, ok_star, ok_sortItems, ok_dict0, ok_ixO, ok_parX, ok_parX3, gIxA_l, gIxA_t, gEqA_i, gEqA_s, atI_0, atI_1, atI_2, atI_3, gCmpO_i, intO, seqOf, isFlat]
                show D.bl true = D.bl (inL b || inG b)
                rw [hb]; try rfl
              | false =>
                have hb' : decide (b ∈ (("abcdefghijklmnopqrstuvwxyz" : Str)).cps.toList) = false := hb
                simp only [hb', ok_seq, ok_asg, ok_par, ok_ret, ok_retN, ok_sNil, ok_sIf, ok_bin, ok_un, ok_var, ok_C, ok_call, ok_callK, ok_cons, ok_nil, ok_args, ok_tru, ok_not, ok_and, ok_or, ok_eNot, ok_eAnd, ok_eOr, ok_if, ok_cmp, ok_chain, ok_ofC, ok_oNone, ok_oSome, ok_sl, ok_met, ok_rev, ok_items, ok_lenSet, ok_pairs0, ok_pairs, ok_dict, ok_iSeq, ok_rng1, ok_rng2, ok_comp, ok_comp0, ok_for, List.getElem?_cons_zero, List.getElem?_cons_succ, Option.some.injEq, Sl.val.injEq, exists_eq_left', List.nil_append, List.append_nil, List.length_cons, List.length_nil, true_and, and_true, and_self, Nat.zero_add, Nat.reduceAdd, Nat.reduceLeDiff, gAdd_i, gSub_i, gNeg_i, gBl_e, gCmpI_i, gLst_o, gTup_o, gN_e, List.set_cons_zero, List.set_cons_succ, truD_b, gIsN_n, isNonD, gLen_l, gInt_b, gInt_i, Option.map_some, Bool.false_eq_true, if_true, if_false, Bool.not_true, Bool.not_false, keyD, walkD, ok_sOwn, ok_sFz, ok_cBor, ok_eBor, ok_sPut, ok_xNil, ok_xVal, ok_xOwn, ok_zip, ok_enum, ok_star, ok_sortItems, ok_dict0, ok_ixO, ok_parX, ok_parX3, gIxA_l, gIxA_t, gEqA_i, gEqA_s, atI_0, atI_1, atI_2, atI_3, gCmpO_i, intO, seqOf, isFlat]
                show D.bl (inG b) = D.bl (inL b || inG b)
                rw [hb]; try rfl
            · refine ⟨_, gAll_map _, ?_⟩
              rw [signs_eq]
              have : isNm (a :: cs) = (a :: cs).all (fun a => inL a || inG a) := by
                unfold isNm
                rw [headIn_c, hw, ha, decide_eq_true h8', decide_eq_true (show 1 ≤ (a :: cs).length by simp)]
                rfl
              rw [this]
              exact ⟨rfl, rfl⟩
    · simp only [h8, ok_seq, ok_asg, ok_par, ok_ret, ok_retN, ok_sNil, ok_sIf, ok_bin, ok_un, ok_var, ok_C, ok_call, ok_callK, ok_cons, ok_nil, ok_args, ok_tru, ok_not, ok_and, ok_or, ok_eNot, ok_eAnd, ok_eOr, ok_if, ok_cmp, ok_chain, ok_ofC, ok_oNone, ok_oSome, ok_sl, ok_met, ok_rev, ok_items, ok_lenSet, ok_pairs0, ok_pairs, ok_dict, ok_iSeq, ok_rng1, ok_rng2, ok_comp, ok_comp0, ok_for, List.getElem?_cons_zero, List.getElem?_cons_succ, Option.some.injEq, Sl.val.injEq, exists_eq_left', List.nil_append, List.append_nil, List.length_cons, List.length_nil, true_and, and_true, and_self, Nat.zero_add, Nat.reduceAdd, Nat.reduceLeDiff, gAdd_i, gSub_i, gNeg_i, gBl_e, gCmpI_i, gLst_o, gTup_o, gN_e, List.set_cons_zero, List.set_cons_succ, truD_b, gIsN_n, isNonD, gLen_l, gInt_b, gInt_i, Option.map_some, Bool.false_eq_true, if_true, if_false, Bool.not_true, Bool.not_false, keyD, walkD, ok_sOwn, ok_sFz, ok_cBor, ok_eBor, ok_sPut, ok_xNil, ok_xVal, ok_xOwn, ok_zip, ok_enum, ok_star, ok_sortItems, ok_dict0, ok_ixO, ok_parX, ok_parX3, gIxA_l, gIxA_t, gEqA_i, gEqA_s, atI_0, atI_1, atI_2, atI_3, gCmpO_i, intO, seqOf, isFlat]
      have : isNm (a :: cs) = false := by
        have h : ¬ (a :: cs).length ≤ 8 := fun z => h8 (decide_eq_true (by simp only [List.length_cons] at z; omega))
        unfold isNm
        rw [decide_eq_false h]
        simp
      rw [this]
def nameD : D → Bool
  | .str s => isNm s.cps.toList
  | _ => false
/-- texts that are not too long -/
def shortD : D → Bool
  | .str s => decide (s.cps.size ≤ 1000)
  | _ => true
theorem is_name_eq {d : D} {c : Churn} (h : plainD d = true) (hs : shortD d = true) : F_is_name [d] c = .ok (.bl (nameD d)) c := by
  by_cases h2 : isStrD d = true
  · cases d with
    | str s => exact is_name_s (cs := s.cps.toList) (of_decide_eq_true hs)
    | _ => cases h2
  · have e : nameD d = false := by cases d <;> first | rfl | exact absurd rfl h2
    rw [e]
    apply eq_of_ok
    show Ok (G.nx (runDef 2 g_is_name [d]) c) _
    rw [ok_def]
    show Ok (g_is_name [.val d, .no] c) _
    unfold g_is_name
    have h3 : isStrD d = false := by simpa using h2
    simp only [ok_seq, ok_asg, ok_par, ok_ret, ok_retN, ok_sNil, ok_sIf, ok_bin, ok_un, ok_var, ok_C, ok_call, ok_callK, ok_cons, ok_nil, ok_args, ok_tru, ok_not, ok_and, ok_or, ok_eNot, ok_eAnd, ok_eOr, ok_if, ok_cmp, ok_chain, ok_ofC, ok_oNone, ok_oSome, ok_sl, ok_met, ok_rev, ok_items, ok_lenSet, ok_pairs0, ok_pairs, ok_dict, ok_iSeq, ok_rng1, ok_rng2, ok_comp, ok_comp0, ok_for, List.getElem?_cons_zero, List.getElem?_cons_succ, Option.some.injEq, Sl.val.injEq, exists_eq_left', List.nil_append, List.append_nil, List.length_cons, List.length_nil, true_and, and_true, and_self, Nat.zero_add, Nat.reduceAdd, Nat.reduceLeDiff, gAdd_i, gSub_i, gNeg_i, gBl_e, gCmpI_i, gLst_o, gTup_o, gN_e, List.set_cons_zero, List.set_cons_succ, truD_b, gIsN_n, isNonD, gLen_l, gInt_b, gInt_i, Option.map_some, Bool.false_eq_true, if_true, if_false, Bool.not_true, Bool.not_false, keyD, walkD, ok_sOwn, ok_sFz, ok_cBor, ok_eBor, ok_sPut, ok_xNil, ok_xVal, ok_xOwn, ok_zip, ok_enum, ok_star, ok_sortItems, ok_dict0, ok_ixO, ok_parX, ok_parX3, gIxA_l, gIxA_t, gEqA_i, gEqA_s, atI_0, atI_1, atI_2, atI_3, gCmpO_i, intO, seqOf, isFlat, isi_str h, h3]
end G

set_option Elab.async false
set_option linter.all false
set_option maxRecDepth 100000
set_option maxHeartbeats 8000000
/-! NM2: the law's own is_name. -/
namespace G
open PySem PySem.Spec PyProof.Rows L2
theorem split_words : gSplit (.str "and or not all some many endless yes no") [.str " "] = some (.lst (strsD wordsS)) := by kernel_rfl
theorem lets_add : gAdd (.str "abcdefghijklmnopqrstuvwxyz") (.str "0123456789") = some (.str "abcdefghijklmnopqrstuvwxyz0123456789") := by kernel_rfl
theorem l36_mem {a : Nat} : decide (a ∈ (("abcdefghijklmnopqrstuvwxyz0123456789" : Str)).cps.toList) = (inL a || inG a) := by
  have e : (("abcdefghijklmnopqrstuvwxyz0123456789" : Str)).cps.toList = (("abcdefghijklmnopqrstuvwxyz" : Str)).cps.toList ++ (("0123456789" : Str)).cps.toList := by decide +kernel
  rw [e]
  unfold inL inG
  rw [← Bool.decide_or]
  congr 1
  exact propext List.mem_append
theorem tyD_s {s : Str} : tyD "str" (.str s) = true := rfl
theorem filter_all {α : Type} {p : α → Bool} {xs : List α} : (xs.filter fun x => !p x).isEmpty = xs.all p := by
  induction xs with
  | nil => rfl
  | cons x xs ih =>
    cases h : p x with
    | true => rw [List.filter_cons_of_neg (by simp [h]), ih]; simp [h]
    | false => rw [List.filter_cons_of_pos (by simp [h])]; simp [h]
theorem L_is_name_s {cs : List Nat} {c : Churn} (hl : cs.length ≤ 1000) : F_L_is_name [.str (sx cs)] c = .ok (.bl (isNm cs)) c := by
  apply eq_of_ok
  show Ok (G.nx (runDef 3 g_L_is_name [.str (sx cs)]) c) _
  rw [ok_def]
  show Ok (g_L_is_name [.val (.str (sx cs)), .no, .no] c) _
  unfold g_L_is_name
  simp only [ok_seq, ok_asg, ok_par, ok_ret, ok_retN, ok_sNil, ok_sIf, ok_bin, ok_un, ok_var, ok_C, ok_call, ok_callK, ok_cons, ok_nil, ok_args, ok_tru, ok_not, ok_and, ok_or, ok_eNot, ok_eAnd, ok_eOr, ok_if, ok_cmp, ok_chain, ok_ofC, ok_oNone, ok_oSome, ok_sl, ok_met, ok_rev, ok_items, ok_lenSet, ok_pairs0, ok_pairs, ok_dict, ok_iSeq, ok_rng1, ok_rng2, ok_comp, ok_comp0, ok_for, List.getElem?_cons_zero, List.getElem?_cons_succ, Option.some.injEq, Sl.val.injEq, exists_eq_left', List.nil_append, List.append_nil, List.length_cons, List.length_nil, true_and, and_true, and_self, Nat.zero_add, Nat.reduceAdd, Nat.reduceLeDiff, gAdd_i, gSub_i, gNeg_i, gBl_e, gCmpI_i, gLst_o, gTup_o, gN_e, List.set_cons_zero, List.set_cons_succ, truD_b, gIsN_n, isNonD, gLen_l, gInt_b, gInt_i, Option.map_some, Bool.false_eq_true, if_true, if_false, Bool.not_true, Bool.not_false, keyD, walkD, ok_sOwn, ok_sFz, ok_cBor, ok_eBor, ok_sPut, ok_xNil, ok_xVal, ok_xOwn, ok_zip, ok_enum, ok_star, ok_sortItems, ok_dict0, ok_ixO, ok_parX, ok_parX3, gIxA_l, gIxA_t, gEqA_i, gEqA_s, atI_0, atI_1, atI_2, atI_3, gCmpO_i, intO, seqOf, isFlat, isi_str (show plainD (.str (sx cs)) = true from rfl), isStrD, gLen_s hl, tyD_s, split_words]
  cases cs with
  | nil =>
    simp only [ltI, List.length_nil, ok_seq, ok_asg, ok_par, ok_ret, ok_retN, ok_sNil, ok_sIf, ok_bin, ok_un, ok_var, ok_C, ok_call, ok_callK, ok_cons, ok_nil, ok_args, ok_tru, ok_not, ok_and, ok_or, ok_eNot, ok_eAnd, ok_eOr, ok_if, ok_cmp, ok_chain, ok_ofC, ok_oNone, ok_oSome, ok_sl, ok_met, ok_rev, ok_items, ok_lenSet, ok_pairs0, ok_pairs, ok_dict, ok_iSeq, ok_rng1, ok_rng2, ok_comp, ok_comp0, ok_for, List.getElem?_cons_zero, List.getElem?_cons_succ, Option.some.injEq, Sl.val.injEq, exists_eq_left', List.nil_append, List.append_nil, List.length_cons, List.length_nil, true_and, and_true, and_self, Nat.zero_add, Nat.reduceAdd, Nat.reduceLeDiff, gAdd_i, gSub_i, gNeg_i, gBl_e, gCmpI_i, gLst_o, gTup_o, gN_e, List.set_cons_zero, List.set_cons_succ, truD_b, gIsN_n, isNonD, gLen_l, gInt_b, gInt_i, Option.map_some, Bool.false_eq_true, if_true, if_false, Bool.not_true, Bool.not_false, keyD, walkD, ok_sOwn, ok_sFz, ok_cBor, ok_eBor, ok_sPut, ok_xNil, ok_xVal, ok_xOwn, ok_zip, ok_enum, ok_star, ok_sortItems, ok_dict0, ok_ixO, ok_parX, ok_parX3, gIxA_l, gIxA_t, gEqA_i, gEqA_s, atI_0, atI_1, atI_2, atI_3, gCmpO_i, intO, seqOf, isFlat]
    try rfl
  | cons a cs =>
    have h1 : ltI 0 ((a :: cs).length : Int) = true := decide_eq_true (by simp)
    simp only [List.length_cons] at h1
    simp only [h1, ok_seq, ok_asg, ok_par, ok_ret, ok_retN, ok_sNil, ok_sIf, ok_bin, ok_un, ok_var, ok_C, ok_call, ok_callK, ok_cons, ok_nil, ok_args, ok_tru, ok_not, ok_and, ok_or, ok_eNot, ok_eAnd, ok_eOr, ok_if, ok_cmp, ok_chain, ok_ofC, ok_oNone, ok_oSome, ok_sl, ok_met, ok_rev, ok_items, ok_lenSet, ok_pairs0, ok_pairs, ok_dict, ok_iSeq, ok_rng1, ok_rng2, ok_comp, ok_comp0, ok_for, List.getElem?_cons_zero, List.getElem?_cons_succ, Option.some.injEq, Sl.val.injEq, exists_eq_left', List.nil_append, List.append_nil, List.length_cons, List.length_nil, true_and, and_true, and_self, Nat.zero_add, Nat.reduceAdd, Nat.reduceLeDiff, gAdd_i, gSub_i, gNeg_i, gBl_e, gCmpI_i, gLst_o, gTup_o, gN_e, List.set_cons_zero, List.set_cons_succ, truD_b, gIsN_n, isNonD, gLen_l, gInt_b, gInt_i, Option.map_some, Bool.false_eq_true, if_true, if_false, Bool.not_true, Bool.not_false, keyD, walkD, ok_sOwn, ok_sFz, ok_cBor, ok_eBor, ok_sPut, ok_xNil, ok_xVal, ok_xOwn, ok_zip, ok_enum, ok_star, ok_sortItems, ok_dict0, ok_ixO, ok_parX, ok_parX3, gIxA_l, gIxA_t, gEqA_i, gEqA_s, atI_0, atI_1, atI_2, atI_3, gCmpO_i, intO, seqOf, isFlat]
    by_cases h8 : ltI ((cs.length + 1 : Nat) : Int) 9 = true
    · simp only [h8, ok_seq, ok_asg, ok_par, ok_ret, ok_retN, ok_sNil, ok_sIf, ok_bin, ok_un, ok_var, ok_C, ok_call, ok_callK, ok_cons, ok_nil, ok_args, ok_tru, ok_not, ok_and, ok_or, ok_eNot, ok_eAnd, ok_eOr, ok_if, ok_cmp, ok_chain, ok_ofC, ok_oNone, ok_oSome, ok_sl, ok_met, ok_rev, ok_items, ok_lenSet, ok_pairs0, ok_pairs, ok_dict, ok_iSeq, ok_rng1, ok_rng2, ok_comp, ok_comp0, ok_for, List.getElem?_cons_zero, List.getElem?_cons_succ, Option.some.injEq, Sl.val.injEq, exists_eq_left', List.nil_append, List.append_nil, List.length_cons, List.length_nil, true_and, and_true, and_self, Nat.zero_add, Nat.reduceAdd, Nat.reduceLeDiff, gAdd_i, gSub_i, gNeg_i, gBl_e, gCmpI_i, gLst_o, gTup_o, gN_e, List.set_cons_zero, List.set_cons_succ, truD_b, gIsN_n, isNonD, gLen_l, gInt_b, gInt_i, Option.map_some, Bool.false_eq_true, if_true, if_false, Bool.not_true, Bool.not_false, keyD, walkD, ok_sOwn, ok_sFz, ok_cBor, ok_eBor, ok_sPut, ok_xNil, ok_xVal, ok_xOwn, ok_zip, ok_enum, ok_star, ok_sortItems, ok_dict0, ok_ixO, ok_parX, ok_parX3, gIxA_l, gIxA_t, gEqA_i, gEqA_s, atI_0, atI_1, atI_2, atI_3, gCmpO_i, intO, seqOf, isFlat, gInB_sL]
      have h8' : (a :: cs).length ≤ 8 := by
        have := of_decide_eq_true h8
        simp only [List.length_cons]; omega
      cases hw : wIn (sx (a :: cs)) with
      | true =>
        have hw' : decide (sx (a :: cs) ∈ wordsS) = true := hw
        simp only [hw', ok_seq, ok_asg, ok_par, ok_ret, ok_retN, ok_sNil, ok_sIf, ok_bin, ok_un, ok_var, ok_C, ok_call, ok_callK, ok_cons, ok_nil, ok_args, ok_tru, ok_not, ok_and, ok_or, ok_eNot, ok_eAnd, ok_eOr, ok_if, ok_cmp, ok_chain, ok_ofC, ok_oNone, ok_oSome, ok_sl, ok_met, ok_rev, ok_items, ok_lenSet, ok_pairs0, ok_pairs, ok_dict, ok_iSeq, ok_rng1, ok_rng2, ok_comp, ok_comp0, ok_for, List.getElem?_cons_zero, List.getElem?_cons_succ, Option.some.injEq, Sl.val.injEq, exists_eq_left', List.nil_append, List.append_nil, List.length_cons, List.length_nil, true_and, and_true, and_self, Nat.zero_add, Nat.reduceAdd, Nat.reduceLeDiff, gAdd_i, gSub_i, gNeg_i, gBl_e, gCmpI_i, gLst_o, gTup_o, gN_e, List.set_cons_zero, List.set_cons_succ, truD_b, gIsN_n, isNonD, gLen_l, gInt_b, gInt_i, Option.map_some, Bool.false_eq_true, if_true, if_false, Bool.not_true, Bool.not_false, keyD, walkD, ok_sOwn, ok_sFz, ok_cBor, ok_eBor, ok_sPut, ok_xNil, ok_xVal, ok_xOwn, ok_zip, ok_enum, ok_star, ok_sortItems, ok_dict0, ok_ixO, ok_parX, ok_parX3, gIxA_l, gIxA_t, gEqA_i, gEqA_s, atI_0, atI_1, atI_2, atI_3, gCmpO_i, intO, seqOf, isFlat]
        have : isNm (a :: cs) = false := by unfold isNm; rw [hw]; simp
        rw [this]
      | false =>
        have hw' : decide (sx (a :: cs) ∈ wordsS) = false := hw
        simp only [hw', ok_seq, ok_asg, ok_par, ok_ret, ok_retN, ok_sNil, ok_sIf, ok_bin, ok_un, ok_var, ok_C, ok_call, ok_callK, ok_cons, ok_nil, ok_args, ok_tru, ok_not, ok_and, ok_or, ok_eNot, ok_eAnd, ok_eOr, ok_if, ok_cmp, ok_chain, ok_ofC, ok_oNone, ok_oSome, ok_sl, ok_met, ok_rev, ok_items, ok_lenSet, ok_pairs0, ok_pairs, ok_dict, ok_iSeq, ok_rng1, ok_rng2, ok_comp, ok_comp0, ok_for, List.getElem?_cons_zero, List.getElem?_cons_succ, Option.some.injEq, Sl.val.injEq, exists_eq_left', List.nil_append, List.append_nil, List.length_cons, List.length_nil, true_and, and_true, and_self, Nat.zero_add, Nat.reduceAdd, Nat.reduceLeDiff, gAdd_i, gSub_i, gNeg_i, gBl_e, gCmpI_i, gLst_o, gTup_o, gN_e, List.set_cons_zero, List.set_cons_succ, truD_b, gIsN_n, isNonD, gLen_l, gInt_b, gInt_i, Option.map_some, Bool.false_eq_true, if_true, if_false, Bool.not_true, Bool.not_false, keyD, walkD, ok_sOwn, ok_sFz, ok_cBor, ok_eBor, ok_sPut, ok_xNil, ok_xVal, ok_xOwn, ok_zip, ok_enum, ok_star, ok_sortItems, ok_dict0, ok_ixO, ok_parX, ok_parX3, gIxA_l, gIxA_t, gEqA_i, gEqA_s, atI_0, atI_1, atI_2, atI_3, gCmpO_i, intO, seqOf, isFlat, ix_head hl, inB_e]
        cases ha : inL a with
        | false =>
          have ha' : decide (a ∈ (("abcdefghijklmnopqrstuvwxyz" : Str)).cps.toList) = false := ha
          simp only [ha', ok_seq, ok_asg, ok_par, ok_ret, ok_retN, ok_sNil, ok_sIf, ok_bin, ok_un, ok_var, ok_C, ok_call, ok_callK, ok_cons, ok_nil, ok_args, ok_tru, ok_not, ok_and, ok_or, ok_eNot, ok_eAnd, ok_eOr, ok_if, ok_cmp, ok_chain, ok_ofC, ok_oNone, ok_oSome, ok_sl, ok_met, ok_rev, ok_items, ok_lenSet, ok_pairs0, ok_pairs, ok_dict, ok_iSeq, ok_rng1, ok_rng2, ok_comp, ok_comp0, ok_for, List.getElem?_cons_zero, List.getElem?_cons_succ, Option.some.injEq, Sl.val.injEq, exists_eq_left', List.nil_append, List.append_nil, List.length_cons, List.length_nil, true_and, and_true, and_self, Nat.zero_add, Nat.reduceAdd, Nat.reduceLeDiff, gAdd_i, gSub_i, gNeg_i, gBl_e, gCmpI_i, gLst_o, gTup_o, gN_e, List.set_cons_zero, List.set_cons_succ, truD_b, gIsN_n, isNonD, gLen_l, gInt_b, gInt_i, Option.map_some, Bool.false_eq_true, if_true, if_false, Bool.not_true, Bool.not_false, keyD, walkD, ok_sOwn, ok_sFz, ok_cBor, ok_eBor, ok_sPut, ok_xNil, ok_xVal, ok_xOwn, ok_zip, ok_enum, ok_star, ok_sortItems, ok_dict0, ok_ixO, ok_parX, ok_parX3, gIxA_l, gIxA_t, gEqA_i, gEqA_s, atI_0, atI_1, atI_2, atI_3, gCmpO_i, intO, seqOf, isFlat]
          have : isNm (a :: cs) = false := by unfold isNm; rw [headIn_c, ha]; simp
          rw [this]
        | true =>
          have ha' : decide (a ∈ (("abcdefghijklmnopqrstuvwxyz" : Str)).cps.toList) = true := ha
          simp only [ha', ok_seq, ok_asg, ok_par, ok_ret, ok_retN, ok_sNil, ok_sIf, ok_bin, ok_un, ok_var, ok_C, ok_call, ok_callK, ok_cons, ok_nil, ok_args, ok_tru, ok_not, ok_and, ok_or, ok_eNot, ok_eAnd, ok_eOr, ok_if, ok_cmp, ok_chain, ok_ofC, ok_oNone, ok_oSome, ok_sl, ok_met, ok_rev, ok_items, ok_lenSet, ok_pairs0, ok_pairs, ok_dict, ok_iSeq, ok_rng1, ok_rng2, ok_comp, ok_comp0, ok_for, List.getElem?_cons_zero, List.getElem?_cons_succ, Option.some.injEq, Sl.val.injEq, exists_eq_left', List.nil_append, List.append_nil, List.length_cons, List.length_nil, true_and, and_true, and_self, Nat.zero_add, Nat.reduceAdd, Nat.reduceLeDiff, gAdd_i, gSub_i, gNeg_i, gBl_e, gCmpI_i, gLst_o, gTup_o, gN_e, List.set_cons_zero, List.set_cons_succ, truD_b, gIsN_n, isNonD, gLen_l, gInt_b, gInt_i, Option.map_some, Bool.false_eq_true, if_true, if_false, Bool.not_true, Bool.not_false, keyD, walkD, ok_sOwn, ok_sFz, ok_cBor, ok_eBor, ok_sPut, ok_xNil, ok_xVal, ok_xOwn, ok_zip, ok_enum, ok_star, ok_sortItems, ok_dict0, ok_ixO, ok_parX, ok_parX3, gIxA_l, gIxA_t, gEqA_i, gEqA_s, atI_0, atI_1, atI_2, atI_3, gCmpO_i, intO, seqOf, isFlat]
          refine ⟨?_, ?_⟩
          · have : (signsD (sx (a :: cs))).length ≤ 1000 := by unfold signsD; simpa using hl
            exact Nat.le_trans this (by decide)
          · refine comp_filter (fun d => !sgP (fun a => inL a || inG a) d) (fun d => d) (fun d hd c => ⟨_, rfl, ?_, fun _ => rfl⟩) ?_
            · unfold signsD at hd
              obtain ⟨b, _, rfl⟩ := List.mem_map.mp hd
              apply eq_of_ok
              simp only [ok_seq, ok_asg, ok_par, ok_ret, ok_retN, ok_sNil, ok_sIf, ok_bin, ok_un, ok_var, ok_C, ok_call, ok_callK, ok_cons, ok_nil, ok_args, ok_tru, ok_not, ok_and, ok_or, ok_eNot, ok_eAnd, ok_eOr, ok_if, ok_cmp, ok_chain, ok_ofC, ok_oNone, ok_oSome, ok_sl, ok_met, ok_rev, ok_items, ok_lenSet, ok_pairs0, ok_pairs, ok_dict, ok_iSeq, ok_rng1, ok_rng2, ok_comp, ok_comp0, ok_for, List.getElem?_cons_zero, List.getElem?_cons_succ, Option.some.injEq, Sl.val.injEq, exists_eq_left', List.nil_append, List.append_nil, List.length_cons, List.length_nil, true_and, and_true, and_self, Nat.zero_add, Nat.reduceAdd, Nat.reduceLeDiff, gAdd_i, gSub_i, gNeg_i, gBl_e, gCmpI_i, gLst_o, gTup_o, gN_e, List.set_cons_zero, List.set_cons_succ, truD_b, gIsN_n, isNonD, gLen_l, gInt_b, gInt_i, Option.map_some, Bool.false_eq_true, if_true, if_false, Bool.not_true, Bool.not_false, keyD, walkD, ok_sOwn, ok_sFz, ok_cBor, ok_eBor, ok_sPut, ok_xNil, ok_xVal, ok_xOwn, ok_zip, ok_enum, ok_star, ok_sortItems, ok_dict0, ok_ixO, ok_parX, ok_parX3, gIxA_l, gIxA_t, gEqA_i, gEqA_s, atI_0, atI_1, atI_2, atI_3, gCmpO_i, intO, seqOf, isFlat, wipeE, lets_add, inB_e, l36_mem]
              try rfl
            · rw [List.map_id']
              have e := filter_all (p := sgP fun a => inL a || inG a) (xs := signsD (sx (a :: cs)))
              rw [signs_eq] at e
              have : isNm (a :: cs) = (a :: cs).all (fun a => inL a || inG a) := by
                unfold isNm
                rw [headIn_c, hw, ha, decide_eq_true h8', decide_eq_true (show 1 ≤ (a :: cs).length by simp)]
                rfl
              simp only [ok_seq, ok_asg, ok_par, ok_ret, ok_retN, ok_sNil, ok_sIf, ok_bin, ok_un, ok_var, ok_C, ok_call, ok_callK, ok_cons, ok_nil, ok_args, ok_tru, ok_not, ok_and, ok_or, ok_eNot, ok_eAnd, ok_eOr, ok_if, ok_cmp, ok_chain, ok_ofC, ok_oNone, ok_oSome, ok_sl, ok_met, ok_rev, ok_items, ok_lenSet, ok_pairs0, ok_pairs, ok_dict, ok_iSeq, ok_rng1, ok_rng2, ok_comp, ok_comp0, ok_for, List.getElem?_cons_zero, List.getElem?_cons_succ, Option.some.injEq, Sl.val.injEq, exists_eq_left', List.nil_append, List.append_nil, List.length_cons, List.length_nil, true_and, and_true, and_self, Nat.zero_add, Nat.reduceAdd, Nat.reduceLeDiff, gAdd_i, gSub_i, gNeg_i, gBl_e, gCmpI_i, gLst_o, gTup_o, gN_e, List.set_cons_zero, List.set_cons_succ, truD_b, gIsN_n, isNonD, gLen_l, gInt_b, gInt_i, Option.map_some, Bool.false_eq_true, if_true, if_false, Bool.not_true, Bool.not_false, keyD, walkD, ok_sOwn, ok_sFz, ok_cBor, ok_eBor, ok_sPut, ok_xNil, ok_xVal, ok_xOwn, ok_zip, ok_enum, ok_star, ok_sortItems, ok_dict0, ok_ixO, ok_parX, ok_parX3, gIxA_l, gIxA_t, gEqA_i, gEqA_s, atI_0, atI_1, atI_2, atI_3, gCmpO_i, intO, seqOf, isFlat, gEqA_nil]
              rw [this, ← e]
    · simp only [h8, ok_seq, ok_asg, ok_par, ok_ret, ok_retN, ok_sNil, ok_sIf, ok_bin, ok_un, ok_var, ok_C, ok_call, ok_callK, ok_cons, ok_nil, ok_args, ok_tru, ok_not, ok_and, ok_or, ok_eNot, ok_eAnd, ok_eOr, ok_if, ok_cmp, ok_chain, ok_ofC, ok_oNone, ok_oSome, ok_sl, ok_met, ok_rev, ok_items, ok_lenSet, ok_pairs0, ok_pairs, ok_dict, ok_iSeq, ok_rng1, ok_rng2, ok_comp, ok_comp0, ok_for, List.getElem?_cons_zero, List.getElem?_cons_succ, Option.some.injEq, Sl.val.injEq, exists_eq_left', List.nil_append, List.append_nil, List.length_cons, List.length_nil, true_and, and_true, and_self, Nat.zero_add, Nat.reduceAdd, Nat.reduceLeDiff, gAdd_i, gSub_i, gNeg_i, gBl_e, gCmpI_i, gLst_o, gTup_o, gN_e, List.set_cons_zero, List.set_cons_succ, truD_b, gIsN_n, isNonD, gLen_l, gInt_b, gInt_i, Option.map_some, Bool.false_eq_true, if_true, if_false, Bool.not_true, Bool.not_false, keyD, walkD, ok_sOwn, ok_sFz, ok_cBor, ok_eBor, ok_sPut, ok_xNil, ok_xVal, ok_xOwn, ok_zip, ok_enum, ok_star, ok_sortItems, ok_dict0, ok_ixO, ok_parX, ok_parX3, gIxA_l, gIxA_t, gEqA_i, gEqA_s, atI_0, atI_1, atI_2, atI_3, gCmpO_i, intO, seqOf, isFlat]
      have : isNm (a :: cs) = false := by
        have h : ¬ (a :: cs).length ≤ 8 := fun z => h8 (decide_eq_true (by simp only [List.length_cons] at z; omega))
        unfold isNm
        rw [decide_eq_false h]
        simp
      rw [this]
theorem L_is_name_eq {d : D} {c : Churn} (h : plainD d = true) (hs : shortD d = true) : F_L_is_name [d] c = .ok (.bl (nameD d)) c := by
  by_cases h2 : isStrD d = true
  · cases d with
    | str s => exact L_is_name_s (cs := s.cps.toList) (of_decide_eq_true hs)
    | _ => cases h2
  · have e : nameD d = false := by cases d <;> first | rfl | exact absurd rfl h2
    rw [e]
    apply eq_of_ok
    show Ok (G.nx (runDef 3 g_L_is_name [d]) c) _
    rw [ok_def]
    show Ok (g_L_is_name [.val d, .no, .no] c) _
    unfold g_L_is_name
    have h3 : isStrD d = false := by simpa using h2
    simp only [ok_seq, ok_asg, ok_par, ok_ret, ok_retN, ok_sNil, ok_sIf, ok_bin, ok_un, ok_var, ok_C, ok_call, ok_callK, ok_cons, ok_nil, ok_args, ok_tru, ok_not, ok_and, ok_or, ok_eNot, ok_eAnd, ok_eOr, ok_if, ok_cmp, ok_chain, ok_ofC, ok_oNone, ok_oSome, ok_sl, ok_met, ok_rev, ok_items, ok_lenSet, ok_pairs0, ok_pairs, ok_dict, ok_iSeq, ok_rng1, ok_rng2, ok_comp, ok_comp0, ok_for, List.getElem?_cons_zero, List.getElem?_cons_succ, Option.some.injEq, Sl.val.injEq, exists_eq_left', List.nil_append, List.append_nil, List.length_cons, List.length_nil, true_and, and_true, and_self, Nat.zero_add, Nat.reduceAdd, Nat.reduceLeDiff, gAdd_i, gSub_i, gNeg_i, gBl_e, gCmpI_i, gLst_o, gTup_o, gN_e, List.set_cons_zero, List.set_cons_succ, truD_b, gIsN_n, isNonD, gLen_l, gInt_b, gInt_i, Option.map_some, Bool.false_eq_true, if_true, if_false, Bool.not_true, Bool.not_false, keyD, walkD, ok_sOwn, ok_sFz, ok_cBor, ok_eBor, ok_sPut, ok_xNil, ok_xVal, ok_xOwn, ok_zip, ok_enum, ok_star, ok_sortItems, ok_dict0, ok_ixO, ok_parX, ok_parX3, gIxA_l, gIxA_t, gEqA_i, gEqA_s, atI_0, atI_1, atI_2, atI_3, gCmpO_i, intO, seqOf, isFlat, isi_str h, h3]
end G

set_option Elab.async false
set_option linter.all false
set_option maxRecDepth 100000
set_option maxHeartbeats 8000000
/-! NM3: pairs and forms, as the program judges them. -/
namespace G
open PySem PySem.Spec PyProof.Rows L2
mutual
/-- plain, its texts short, its lists not too long, at all places -/
def nice : D → Bool
  | .non => true
  | .bl _ => true
  | .int _ => true
  | .str s => decide (s.cps.size ≤ 1000)
  | .lst xs => decide (xs.length ≤ 1000000) && niceA xs
  | .tup xs => decide (xs.length ≤ 1000000) && niceA xs
  | .dic _ vs => decide (vs.length ≤ 1000000) && niceA vs
  | _ => false
def niceA : List D → Bool
  | [] => true
  | d :: ds => nice d && niceA ds
end
theorem niceA_mem : ∀ {ds : List D}, niceA ds = true → ∀ d ∈ ds, nice d = true
  | [], _, d, h => by cases h
  | e :: ds, n, d, h => by
    simp only [niceA, Bool.and_eq_true] at n
    rcases List.mem_cons.mp h with z | z
    · exact z ▸ n.1
    · exact niceA_mem n.2 d z
theorem nice_plain {d : D} (h : nice d = true) : plainD d = true := by
  cases d <;> first | rfl | (simp [nice] at h; done)
theorem nice_short {d : D} (h : nice d = true) : shortD d = true := by
  cases d <;> first | rfl | (simpa [nice, shortD] using h) | (simp [nice] at h; done)
def itemsOf : D → List D
  | .lst xs => xs
  | .tup xs => xs
  | _ => []
theorem nice_items {d : D} (h : nice d = true) : (itemsOf d).length ≤ 1000000 ∧ ∀ x ∈ itemsOf d, nice x = true := by
  cases d with
  | lst xs => simp only [nice, Bool.and_eq_true, decide_eq_true_eq] at h; exact ⟨h.1, niceA_mem h.2⟩
  | tup xs => simp only [nice, Bool.and_eq_true, decide_eq_true_eq] at h; exact ⟨h.1, niceA_mem h.2⟩
  | _ => exact ⟨Nat.zero_le _, fun x hx => by cases hx⟩
theorem seq_len {d : D} (h : isSeqD d = true) : gLen [d] = some (.int (itemsOf d).length) := by
  cases d <;> first | rfl | cases h
theorem seq_ix {d k : D} (h : isSeqD d = true) : gIxA d k = (match k with | .int i => atI (itemsOf d) i | _ => none) := by
  cases d <;> first | (cases h; done) | (cases k <;> rfl)
theorem seq_walk {d : D} (h : isSeqD d = true) : walkD d = some (itemsOf d) := by
  cases d <;> first | rfl | cases h
theorem eqX_in {neg : Bool} {i j : Int} : gEqX neg (.int i) (.int j) = some (if neg then !(i == j) else (i == j)) := by kernel_rfl
theorem len_is {n k : Nat} : (((n : Nat) : Int) == ((k : Nat) : Int)) = decide (n = k) := by
  by_cases h : n = k
  · subst h; simp
  · have : ¬ ((n : Int) = (k : Int)) := fun z => h (Int.ofNat.inj z)
    rw [decide_eq_false h]
    simpa using this
/-- a pair of a name and a number -/
def pairB (p : D) : Bool := isSeqD p && match itemsOf p with
  | [a, b] => nameD a && isIntD b
  | _ => false
theorem two_of {α : Type} {xs : List α} (h : xs.length = 2) : ∃ a b, xs = [a, b] := by
  match xs, h with
  | [a, b], _ => exact ⟨a, b, rfl⟩
/-- a loop that looks at each item and hands back False at the first bad one -/
theorem for_all {t : Tg} {s : Sm} {c : Churn} (good : D → Bool) (S : Ev → Prop) : ∀ {ds : List D} {ρ : Ev} {kp : Ev × Ctl → Churn → Prop},
    (∀ d ∈ ds, ∀ ρ, S ρ → ∃ ρ1, t d ρ = some ρ1 ∧ Ok (s ρ1 c) fun p c1 => c1 = c ∧ (good d = true → p.2 = .nx ∧ S p.1) ∧ (good d = false → p.2 = .ret (.bl false))) → S ρ → (ds.all good = true → ∀ ρ, S ρ → kp (ρ, .nx) c) → (ds.all good = false → ∀ ρ, kp (ρ, .ret (.bl false)) c) → Ok (forM' t s ds ρ c) kp
  | [], ρ, kp, _, i, q, _ => q rfl ρ i
  | d :: ds, ρ, kp, hs, i, q, q2 => by
    rw [ok_forS]
    obtain ⟨ρ1, e1, h⟩ := hs d (List.mem_cons_self ..) ρ i
    refine ⟨ρ1, e1, h.mono fun p c1 ⟨ec, h1, h2⟩ => ?_⟩
    obtain ⟨ρ2, ctl⟩ := p
    subst ec
    cases hg : good d with
    | true =>
      obtain ⟨e2, i2⟩ := h1 hg
      cases e2
      refine for_all good S (fun d hd => hs d (List.mem_cons_of_mem _ hd)) i2 (fun ha => q ?_) fun ha => q2 ?_
      · rw [List.all_cons, hg, ha]; rfl
      · rw [List.all_cons, hg, ha]; rfl
    | false =>
      cases h2 hg
      exact q2 (by rw [List.all_cons, hg]; rfl) _
theorem are_pairs_eq {d : D} {c : Churn} (h : nice d = true) : F_are_pairs [d] c = .ok (.bl (isSeqD d && (itemsOf d).all pairB)) c := by
  apply eq_of_ok
  show Ok (G.nx (runDef 2 g_are_pairs [d]) c) _
  rw [ok_def]
  show Ok (g_are_pairs [.val d, .no] c) _
  unfold g_are_pairs
  simp only [ok_seq, ok_asg, ok_par, ok_ret, ok_retN, ok_sNil, ok_sIf, ok_bin, ok_un, ok_var, ok_C, ok_call, ok_callK, ok_cons, ok_nil, ok_args, ok_tru, ok_not, ok_and, ok_or, ok_eNot, ok_eAnd, ok_eOr, ok_if, ok_cmp, ok_chain, ok_ofC, ok_oNone, ok_oSome, ok_sl, ok_met, ok_rev, ok_items, ok_lenSet, ok_pairs0, ok_pairs, ok_dict, ok_iSeq, ok_rng1, ok_rng2, ok_comp, ok_comp0, ok_for, List.getElem?_cons_zero, List.getElem?_cons_succ, Option.some.injEq, Sl.val.injEq, exists_eq_left', List.nil_append, List.append_nil, List.length_cons, List.length_nil, true_and, and_true, and_self, Nat.zero_add, Nat.reduceAdd, Nat.reduceLeDiff, gAdd_i, gSub_i, gNeg_i, gBl_e, gCmpI_i, gLst_o, gTup_o, gN_e, List.set_cons_zero, List.set_cons_succ, truD_b, gIsN_n, isNonD, gLen_l, gInt_b, gInt_i, Option.map_some, Bool.false_eq_true, if_true, if_false, Bool.not_true, Bool.not_false, keyD, walkD, ok_sOwn, ok_sFz, ok_cBor, ok_eBor, ok_sPut, ok_xNil, ok_xVal, ok_xOwn, ok_zip, ok_enum, ok_star, ok_sortItems, ok_dict0, ok_ixO, ok_parX, ok_parX3, gIxA_l, gIxA_t, gEqA_i, gEqA_s, atI_0, atI_1, atI_2, atI_3, gCmpO_i, intO, seqOf, isFlat, isi_seq (nice_plain h)]
  cases hs : isSeqD d with
  | false => simp only [ok_seq, ok_asg, ok_par, ok_ret, ok_retN, ok_sNil, ok_sIf, ok_bin, ok_un, ok_var, ok_C, ok_call, ok_callK, ok_cons, ok_nil, ok_args, ok_tru, ok_not, ok_and, ok_or, ok_eNot, ok_eAnd, ok_eOr, ok_if, ok_cmp, ok_chain, ok_ofC, ok_oNone, ok_oSome, ok_sl, ok_met, ok_rev, ok_items, ok_lenSet, ok_pairs0, ok_pairs, ok_dict, ok_iSeq, ok_rng1, ok_rng2, ok_comp, ok_comp0, ok_for, List.getElem?_cons_zero, List.getElem?_cons_succ, Option.some.injEq, Sl.val.injEq, exists_eq_left', List.nil_append, List.append_nil, List.length_cons, List.length_nil, true_and, and_true, and_self, Nat.zero_add, Nat.reduceAdd, Nat.reduceLeDiff, gAdd_i, gSub_i, gNeg_i, gBl_e, gCmpI_i, gLst_o, gTup_o, gN_e, List.set_cons_zero, List.set_cons_succ, truD_b, gIsN_n, isNonD, gLen_l, gInt_b, gInt_i, Option.map_some, Bool.false_eq_true, if_true, if_false, Bool.not_true, Bool.not_false, keyD, walkD, ok_sOwn, ok_sFz, ok_cBor, ok_eBor, ok_sPut, ok_xNil, ok_xVal, ok_xOwn, ok_zip, ok_enum, ok_star, ok_sortItems, ok_dict0, ok_ixO, ok_parX, ok_parX3, gIxA_l, gIxA_t, gEqA_i, gEqA_s, atI_0, atI_1, atI_2, atI_3, gCmpO_i, intO, seqOf, isFlat, Bool.false_and]
  | true =>
    simp only [ok_seq, ok_asg, ok_par, ok_ret, ok_retN, ok_sNil, ok_sIf, ok_bin, ok_un, ok_var, ok_C, ok_call, ok_callK, ok_cons, ok_nil, ok_args, ok_tru, ok_not, ok_and, ok_or, ok_eNot, ok_eAnd, ok_eOr, ok_if, ok_cmp, ok_chain, ok_ofC, ok_oNone, ok_oSome, ok_sl, ok_met, ok_rev, ok_items, ok_lenSet, ok_pairs0, ok_pairs, ok_dict, ok_iSeq, ok_rng1, ok_rng2, ok_comp, ok_comp0, ok_for, List.getElem?_cons_zero, List.getElem?_cons_succ, Option.some.injEq, Sl.val.injEq, exists_eq_left', List.nil_append, List.append_nil, List.length_cons, List.length_nil, true_and, and_true, and_self, Nat.zero_add, Nat.reduceAdd, Nat.reduceLeDiff, gAdd_i, gSub_i, gNeg_i, gBl_e, gCmpI_i, gLst_o, gTup_o, gN_e, List.set_cons_zero, List.set_cons_succ, truD_b, gIsN_n, isNonD, gLen_l, gInt_b, gInt_i, Option.map_some, Bool.false_eq_true, if_true, if_false, Bool.not_true, Bool.not_false, keyD, walkD, ok_sOwn, ok_sFz, ok_cBor, ok_eBor, ok_sPut, ok_xNil, ok_xVal, ok_xOwn, ok_zip, ok_enum, ok_star, ok_sortItems, ok_dict0, ok_ixO, ok_parX, ok_parX3, gIxA_l, gIxA_t, gEqA_i, gEqA_s, atI_0, atI_1, atI_2, atI_3, gCmpO_i, intO, seqOf, isFlat, Bool.true_and, seq_walk hs]
    obtain ⟨_, hi⟩ := nice_items h
    refine ⟨_, seq_walk hs, ?_⟩
    refine for_all pairB (fun ρ => ∃ s, ρ = [.val d, s]) (fun x hx ρ ⟨s, e⟩ => ?_) ⟨_, rfl⟩ (fun ha ρ hp => ?_) fun ha ρ => ?_
    · subst e
      refine ⟨[.val d, .val x], rfl, ?_⟩
      have nx := hi x hx
      obtain ⟨_, hy⟩ := nice_items nx
      simp only [ok_seq, ok_asg, ok_par, ok_ret, ok_retN, ok_sNil, ok_sIf, ok_bin, ok_un, ok_var, ok_C, ok_call, ok_callK, ok_cons, ok_nil, ok_args, ok_tru, ok_not, ok_and, ok_or, ok_eNot, ok_eAnd, ok_eOr, ok_if, ok_cmp, ok_chain, ok_ofC, ok_oNone, ok_oSome, ok_sl, ok_met, ok_rev, ok_items, ok_lenSet, ok_pairs0, ok_pairs, ok_dict, ok_iSeq, ok_rng1, ok_rng2, ok_comp, ok_comp0, ok_for, List.getElem?_cons_zero, List.getElem?_cons_succ, Option.some.injEq, Sl.val.injEq, exists_eq_left', List.nil_append, List.append_nil, List.length_cons, List.length_nil, true_and, and_true, and_self, Nat.zero_add, Nat.reduceAdd, Nat.reduceLeDiff, gAdd_i, gSub_i, gNeg_i, gBl_e, gCmpI_i, gLst_o, gTup_o, gN_e, List.set_cons_zero, List.set_cons_succ, truD_b, gIsN_n, isNonD, gLen_l, gInt_b, gInt_i, Option.map_some, Bool.false_eq_true, if_true, if_false, Bool.not_true, Bool.not_false, keyD, walkD, ok_sOwn, ok_sFz, ok_cBor, ok_eBor, ok_sPut, ok_xNil, ok_xVal, ok_xOwn, ok_zip, ok_enum, ok_star, ok_sortItems, ok_dict0, ok_ixO, ok_parX, ok_parX3, gIxA_l, gIxA_t, gEqA_i, gEqA_s, atI_0, atI_1, atI_2, atI_3, gCmpO_i, intO, seqOf, isFlat, isi_seq (nice_plain nx)]
      cases hq : isSeqD x with
      | false =>
        simp only [ok_seq, ok_asg, ok_par, ok_ret, ok_retN, ok_sNil, ok_sIf, ok_bin, ok_un, ok_var, ok_C, ok_call, ok_callK, ok_cons, ok_nil, ok_args, ok_tru, ok_not, ok_and, ok_or, ok_eNot, ok_eAnd, ok_eOr, ok_if, ok_cmp, ok_chain, ok_ofC, ok_oNone, ok_oSome, ok_sl, ok_met, ok_rev, ok_items, ok_lenSet, ok_pairs0, ok_pairs, ok_dict, ok_iSeq, ok_rng1, ok_rng2, ok_comp, ok_comp0, ok_for, List.getElem?_cons_zero, List.getElem?_cons_succ, Option.some.injEq, Sl.val.injEq, exists_eq_left', List.nil_append, List.append_nil, List.length_cons, List.length_nil, true_and, and_true, and_self, Nat.zero_add, Nat.reduceAdd, Nat.reduceLeDiff, gAdd_i, gSub_i, gNeg_i, gBl_e, gCmpI_i, gLst_o, gTup_o, gN_e, List.set_cons_zero, List.set_cons_succ, truD_b, gIsN_n, isNonD, gLen_l, gInt_b, gInt_i, Option.map_some, Bool.false_eq_true, if_true, if_false, Bool.not_true, Bool.not_false, keyD, walkD, ok_sOwn, ok_sFz, ok_cBor, ok_eBor, ok_sPut, ok_xNil, ok_xVal, ok_xOwn, ok_zip, ok_enum, ok_star, ok_sortItems, ok_dict0, ok_ixO, ok_parX, ok_parX3, gIxA_l, gIxA_t, gEqA_i, gEqA_s, atI_0, atI_1, atI_2, atI_3, gCmpO_i, intO, seqOf, isFlat]
        exact ⟨fun z => by simp [pairB, hq] at z, fun _ => trivial⟩
      | true =>
        simp only [ok_seq, ok_asg, ok_par, ok_ret, ok_retN, ok_sNil, ok_sIf, ok_bin, ok_un, ok_var, ok_C, ok_call, ok_callK, ok_cons, ok_nil, ok_args, ok_tru, ok_not, ok_and, ok_or, ok_eNot, ok_eAnd, ok_eOr, ok_if, ok_cmp, ok_chain, ok_ofC, ok_oNone, ok_oSome, ok_sl, ok_met, ok_rev, ok_items, ok_lenSet, ok_pairs0, ok_pairs, ok_dict, ok_iSeq, ok_rng1, ok_rng2, ok_comp, ok_comp0, ok_for, List.getElem?_cons_zero, List.getElem?_cons_succ, Option.some.injEq, Sl.val.injEq, exists_eq_left', List.nil_append, List.append_nil, List.length_cons, List.length_nil, true_and, and_true, and_self, Nat.zero_add, Nat.reduceAdd, Nat.reduceLeDiff, gAdd_i, gSub_i, gNeg_i, gBl_e, gCmpI_i, gLst_o, gTup_o, gN_e, List.set_cons_zero, List.set_cons_succ, truD_b, gIsN_n, isNonD, gLen_l, gInt_b, gInt_i, Option.map_some, Bool.false_eq_true, if_true, if_false, Bool.not_true, Bool.not_false, keyD, walkD, ok_sOwn, ok_sFz, ok_cBor, ok_eBor, ok_sPut, ok_xNil, ok_xVal, ok_xOwn, ok_zip, ok_enum, ok_star, ok_sortItems, ok_dict0, ok_ixO, ok_parX, ok_parX3, gIxA_l, gIxA_t, gEqA_i, gEqA_s, atI_0, atI_1, atI_2, atI_3, gCmpO_i, intO, seqOf, isFlat, seq_len hq, eqX_in]
        by_cases hl : (itemsOf x).length = 2
        · obtain ⟨a, b, e⟩ := two_of hl
          have na : nice a = true := hy a (by rw [e]; simp)
          have nb : nice b = true := hy b (by rw [e]; simp)
          have e2 : (((itemsOf x).length : Int) == 2) = true := by rw [e]; rfl
          simp only [e2, ok_seq, ok_asg, ok_par, ok_ret, ok_retN, ok_sNil, ok_sIf, ok_bin, ok_un, ok_var, ok_C, ok_call, ok_callK, ok_cons, ok_nil, ok_args, ok_tru, ok_not, ok_and, ok_or, ok_eNot, ok_eAnd, ok_eOr, ok_if, ok_cmp, ok_chain, ok_ofC, ok_oNone, ok_oSome, ok_sl, ok_met, ok_rev, ok_items, ok_lenSet, ok_pairs0, ok_pairs, ok_dict, ok_iSeq, ok_rng1, ok_rng2, ok_comp, ok_comp0, ok_for, List.getElem?_cons_zero, List.getElem?_cons_succ, Option.some.injEq, Sl.val.injEq, exists_eq_left', List.nil_append, List.append_nil, List.length_cons, List.length_nil, true_and, and_true, and_self, Nat.zero_add, Nat.reduceAdd, Nat.reduceLeDiff, gAdd_i, gSub_i, gNeg_i, gBl_e, gCmpI_i, gLst_o, gTup_o, gN_e, List.set_cons_zero, List.set_cons_succ, truD_b, gIsN_n, isNonD, gLen_l, gInt_b, gInt_i, Option.map_some, Bool.false_eq_true, if_true, if_false, Bool.not_true, Bool.not_false, keyD, walkD, ok_sOwn, ok_sFz, ok_cBor, ok_eBor, ok_sPut, ok_xNil, ok_xVal, ok_xOwn, ok_zip, ok_enum, ok_star, ok_sortItems, ok_dict0, ok_ixO, ok_parX, ok_parX3, gIxA_l, gIxA_t, gEqA_i, gEqA_s, atI_0, atI_1, atI_2, atI_3, gCmpO_i, intO, seqOf, isFlat, seq_ix hq, e, is_name_eq (nice_plain na) (nice_short na), ok_ok]
          have ep : pairB x = (nameD a && isIntD b) := by unfold pairB; rw [hq, e]; rfl
          rw [ep]
          cases hn : nameD a with
          | false =>
            simp only [ok_seq, ok_asg, ok_par, ok_ret, ok_retN, ok_sNil, ok_sIf, ok_bin, ok_un, ok_var, ok_C, ok_call, ok_callK, ok_cons, ok_nil, ok_args, ok_tru, ok_not, ok_and, ok_or, ok_eNot, ok_eAnd, ok_eOr, ok_if, ok_cmp, ok_chain, ok_ofC, ok_oNone, ok_oSome, ok_sl, ok_met, ok_rev, ok_items, ok_lenSet, ok_pairs0, ok_pairs, ok_dict, ok_iSeq, ok_rng1, ok_rng2, ok_comp, ok_comp0, ok_for, List.getElem?_cons_zero, List.getElem?_cons_succ, Option.some.injEq, Sl.val.injEq, exists_eq_left', List.nil_append, List.append_nil, List.length_cons, List.length_nil, true_and, and_true, and_self, Nat.zero_add, Nat.reduceAdd, Nat.reduceLeDiff, gAdd_i, gSub_i, gNeg_i, gBl_e, gCmpI_i, gLst_o, gTup_o, gN_e, List.set_cons_zero, List.set_cons_succ, truD_b, gIsN_n, isNonD, gLen_l, gInt_b, gInt_i, Option.map_some, Bool.false_eq_true, if_true, if_false, Bool.not_true, Bool.not_false, keyD, walkD, ok_sOwn, ok_sFz, ok_cBor, ok_eBor, ok_sPut, ok_xNil, ok_xVal, ok_xOwn, ok_zip, ok_enum, ok_star, ok_sortItems, ok_dict0, ok_ixO, ok_parX, ok_parX3, gIxA_l, gIxA_t, gEqA_i, gEqA_s, atI_0, atI_1, atI_2, atI_3, gCmpO_i, intO, seqOf, isFlat, Bool.false_and]
            exact ⟨fun z => (by cases z), fun _ => trivial⟩
          | true =>
            simp only [ok_seq, ok_asg, ok_par, ok_ret, ok_retN, ok_sNil, ok_sIf, ok_bin, ok_un, ok_var, ok_C, ok_call, ok_callK, ok_cons, ok_nil, ok_args, ok_tru, ok_not, ok_and, ok_or, ok_eNot, ok_eAnd, ok_eOr, ok_if, ok_cmp, ok_chain, ok_ofC, ok_oNone, ok_oSome, ok_sl, ok_met, ok_rev, ok_items, ok_lenSet, ok_pairs0, ok_pairs, ok_dict, ok_iSeq, ok_rng1, ok_rng2, ok_comp, ok_comp0, ok_for, List.getElem?_cons_zero, List.getElem?_cons_succ, Option.some.injEq, Sl.val.injEq, exists_eq_left', List.nil_append, List.append_nil, List.length_cons, List.length_nil, true_and, and_true, and_self, Nat.zero_add, Nat.reduceAdd, Nat.reduceLeDiff, gAdd_i, gSub_i, gNeg_i, gBl_e, gCmpI_i, gLst_o, gTup_o, gN_e, List.set_cons_zero, List.set_cons_succ, truD_b, gIsN_n, isNonD, gLen_l, gInt_b, gInt_i, Option.map_some, Bool.false_eq_true, if_true, if_false, Bool.not_true, Bool.not_false, keyD, walkD, ok_sOwn, ok_sFz, ok_cBor, ok_eBor, ok_sPut, ok_xNil, ok_xVal, ok_xOwn, ok_zip, ok_enum, ok_star, ok_sortItems, ok_dict0, ok_ixO, ok_parX, ok_parX3, gIxA_l, gIxA_t, gEqA_i, gEqA_s, atI_0, atI_1, atI_2, atI_3, gCmpO_i, intO, seqOf, isFlat, is_int_eq (nice_plain nb), ok_ok, Bool.true_and]
            cases hb : isIntD b with
            | false => simp only [ok_seq, ok_asg, ok_par, ok_ret, ok_retN, ok_sNil, ok_sIf, ok_bin, ok_un, ok_var, ok_C, ok_call, ok_callK, ok_cons, ok_nil, ok_args, ok_tru, ok_not, ok_and, ok_or, ok_eNot, ok_eAnd, ok_eOr, ok_if, ok_cmp, ok_chain, ok_ofC, ok_oNone, ok_oSome, ok_sl, ok_met, ok_rev, ok_items, ok_lenSet, ok_pairs0, ok_pairs, ok_dict, ok_iSeq, ok_rng1, ok_rng2, ok_comp, ok_comp0, ok_for, List.getElem?_cons_zero, List.getElem?_cons_succ, Option.some.injEq, Sl.val.injEq, exists_eq_left', List.nil_append, List.append_nil, List.length_cons, List.length_nil, true_and, and_true, and_self, Nat.zero_add, Nat.reduceAdd, Nat.reduceLeDiff, gAdd_i, gSub_i, gNeg_i, gBl_e, gCmpI_i, gLst_o, gTup_o, gN_e, List.set_cons_zero, List.set_cons_succ, truD_b, gIsN_n, isNonD, gLen_l, gInt_b, gInt_i, Option.map_some, Bool.false_eq_true, if_true, if_false, Bool.not_true, Bool.not_false, keyD, walkD, ok_sOwn, ok_sFz, ok_cBor, ok_eBor, ok_sPut, ok_xNil, ok_xVal, ok_xOwn, ok_zip, ok_enum, ok_star, ok_sortItems, ok_dict0, ok_ixO, ok_parX, ok_parX3, gIxA_l, gIxA_t, gEqA_i, gEqA_s, atI_0, atI_1, atI_2, atI_3, gCmpO_i, intO, seqOf, isFlat]; exact ⟨fun z => (by cases z), fun _ => trivial⟩
            | true => simp only [ok_seq, ok_asg, ok_par, ok_ret, ok_retN, ok_sNil, ok_sIf, ok_bin, ok_un, ok_var, ok_C, ok_call, ok_callK, ok_cons, ok_nil, ok_args, ok_tru, ok_not, ok_and, ok_or, ok_eNot, ok_eAnd, ok_eOr, ok_if, ok_cmp, ok_chain, ok_ofC, ok_oNone, ok_oSome, ok_sl, ok_met, ok_rev, ok_items, ok_lenSet, ok_pairs0, ok_pairs, ok_dict, ok_iSeq, ok_rng1, ok_rng2, ok_comp, ok_comp0, ok_for, List.getElem?_cons_zero, List.getElem?_cons_succ, Option.some.injEq, Sl.val.injEq, exists_eq_left', List.nil_append, List.append_nil, List.length_cons, List.length_nil, true_and, and_true, and_self, Nat.zero_add, Nat.reduceAdd, Nat.reduceLeDiff, gAdd_i, gSub_i, gNeg_i, gBl_e, gCmpI_i, gLst_o, gTup_o, gN_e, List.set_cons_zero, List.set_cons_succ, truD_b, gIsN_n, isNonD, gLen_l, gInt_b, gInt_i, Option.map_some, Bool.false_eq_true, if_true, if_false, Bool.not_true, Bool.not_false, keyD, walkD, ok_sOwn, ok_sFz, ok_cBor, ok_eBor, ok_sPut, ok_xNil, ok_xVal, ok_xOwn, ok_zip, ok_enum, ok_star, ok_sortItems, ok_dict0, ok_ixO, ok_parX, ok_parX3, gIxA_l, gIxA_t, gEqA_i, gEqA_s, atI_0, atI_1, atI_2, atI_3, gCmpO_i, intO, seqOf, isFlat]; exact ⟨fun _ => ⟨_, rfl⟩, fun z => (by cases z)⟩
        · have e2 : (((itemsOf x).length : Int) == 2) = false := by
            have := len_is (n := (itemsOf x).length) (k := 2)
            rw [decide_eq_false hl] at this
            exact this
          simp only [e2, ok_seq, ok_asg, ok_par, ok_ret, ok_retN, ok_sNil, ok_sIf, ok_bin, ok_un, ok_var, ok_C, ok_call, ok_callK, ok_cons, ok_nil, ok_args, ok_tru, ok_not, ok_and, ok_or, ok_eNot, ok_eAnd, ok_eOr, ok_if, ok_cmp, ok_chain, ok_ofC, ok_oNone, ok_oSome, ok_sl, ok_met, ok_rev, ok_items, ok_lenSet, ok_pairs0, ok_pairs, ok_dict, ok_iSeq, ok_rng1, ok_rng2, ok_comp, ok_comp0, ok_for, List.getElem?_cons_zero, List.getElem?_cons_succ, Option.some.injEq, Sl.val.injEq, exists_eq_left', List.nil_append, List.append_nil, List.length_cons, List.length_nil, true_and, and_true, and_self, Nat.zero_add, Nat.reduceAdd, Nat.reduceLeDiff, gAdd_i, gSub_i, gNeg_i, gBl_e, gCmpI_i, gLst_o, gTup_o, gN_e, List.set_cons_zero, List.set_cons_succ, truD_b, gIsN_n, isNonD, gLen_l, gInt_b, gInt_i, Option.map_some, Bool.false_eq_true, if_true, if_false, Bool.not_true, Bool.not_false, keyD, walkD, ok_sOwn, ok_sFz, ok_cBor, ok_eBor, ok_sPut, ok_xNil, ok_xVal, ok_xOwn, ok_zip, ok_enum, ok_star, ok_sortItems, ok_dict0, ok_ixO, ok_parX, ok_parX3, gIxA_l, gIxA_t, gEqA_i, gEqA_s, atI_0, atI_1, atI_2, atI_3, gCmpO_i, intO, seqOf, isFlat]
          refine ⟨fun z => ?_, fun _ => trivial⟩
          unfold pairB at z
          rw [hq] at z
          simp only [Bool.true_and] at z
          split at z
          · rename_i a b e
            rw [e] at hl
            exact absurd rfl hl
          · cases z
    · obtain ⟨s, e⟩ := hp
      rw [ha]
      simp only [ok_seq, ok_asg, ok_par, ok_ret, ok_retN, ok_sNil, ok_sIf, ok_bin, ok_un, ok_var, ok_C, ok_call, ok_callK, ok_cons, ok_nil, ok_args, ok_tru, ok_not, ok_and, ok_or, ok_eNot, ok_eAnd, ok_eOr, ok_if, ok_cmp, ok_chain, ok_ofC, ok_oNone, ok_oSome, ok_sl, ok_met, ok_rev, ok_items, ok_lenSet, ok_pairs0, ok_pairs, ok_dict, ok_iSeq, ok_rng1, ok_rng2, ok_comp, ok_comp0, ok_for, List.getElem?_cons_zero, List.getElem?_cons_succ, Option.some.injEq, Sl.val.injEq, exists_eq_left', List.nil_append, List.append_nil, List.length_cons, List.length_nil, true_and, and_true, and_self, Nat.zero_add, Nat.reduceAdd, Nat.reduceLeDiff, gAdd_i, gSub_i, gNeg_i, gBl_e, gCmpI_i, gLst_o, gTup_o, gN_e, List.set_cons_zero, List.set_cons_succ, truD_b, gIsN_n, isNonD, gLen_l, gInt_b, gInt_i, Option.map_some, Bool.false_eq_true, if_true, if_false, Bool.not_true, Bool.not_false, keyD, walkD, ok_sOwn, ok_sFz, ok_cBor, ok_eBor, ok_sPut, ok_xNil, ok_xVal, ok_xOwn, ok_zip, ok_enum, ok_star, ok_sortItems, ok_dict0, ok_ixO, ok_parX, ok_parX3, gIxA_l, gIxA_t, gEqA_i, gEqA_s, atI_0, atI_1, atI_2, atI_3, gCmpO_i, intO, seqOf, isFlat]
    · rw [ha]
      exact ⟨rfl, rfl⟩
end G

set_option Elab.async false
set_option linter.all false
set_option maxRecDepth 100000
set_option maxHeartbeats 8000000
/-! NM4: forms. -/
namespace G
open PySem PySem.Spec PyProof.Rows L2
theorem name_str {d : D} (h : nameD d = true) : ∃ s, d = .str s ∧ isNm s.cps.toList = true := by
  cases d <;> first | (cases h; done) | exact ⟨_, rfl, h⟩
theorem int_shape {d : D} (h : isIntD d = true) : ∃ i, d = .int i := by
  cases d <;> first | (cases h; done) | exact ⟨_, rfl⟩
theorem pair_shape {x : D} (h : pairB x = true) : ∃ s i, (x = .lst [.str s, .int i] ∨ x = .tup [.str s, .int i]) ∧ isNm s.cps.toList = true := by
  unfold pairB at h
  obtain ⟨h1, h2⟩ := Bool.and_eq_true_iff.mp h
  split at h2
  · rename_i a b e
    obtain ⟨h3, h4⟩ := Bool.and_eq_true_iff.mp h2
    obtain ⟨s, rfl, hn⟩ := name_str h3
    obtain ⟨i, rfl⟩ := int_shape h4
    refine ⟨s, i, ?_, hn⟩
    cases x with
    | lst xs => cases e; exact .inl rfl
    | tup xs => cases e; exact .inr rfl
    | _ => cases h1
  · cases h2
def cpsOf (p : D) : List Nat := match itemsOf p with
  | .str s :: _ => s.cps.toList
  | _ => []
def nzB (p : D) : Bool := match itemsOf p with
  | [_, .int i] => !(i == 0)
  | _ => true
def ascR : List D → Bool
  | x :: y :: r => ltL (cpsOf x) (cpsOf y) && ascR (y :: r)
  | _ => true
def formB (d : D) : Bool := isSeqD d && match itemsOf d with
  | [k, ps] => isIntD k && ((isSeqD ps && (itemsOf ps).all pairB) && ((itemsOf ps).all nzB && ascR (itemsOf ps)))
  | _ => false
def ltP (d : D) : Bool := match d with
  | .tup [a, b] => ltL (cpsOf a) (cpsOf b)
  | _ => false
theorem zip_asc : ∀ qs : List D, (zipL qs (qs.drop 1)).all ltP = ascR qs
  | [] => rfl
  | [x] => rfl
  | x :: y :: r => by
    have ih := zip_asc (y :: r)
    have e : zipL (x :: y :: r) ((x :: y :: r).drop 1) = .tup [x, y] :: zipL (y :: r) ((y :: r).drop 1) := rfl
    rw [e, List.all_cons, ih]
    rfl
def tailD : D → D
  | .lst xs => .lst (xs.drop 1)
  | .tup xs => .tup (xs.drop 1)
  | d => d
theorem cut_tail {xs : List D} : cutD xs (some 1) none = xs.drop 1 := by
  show (xs.drop (HT.sIx xs.length 0 (some ((1 : Nat) : Int)))).take (HT.sIx xs.length xs.length none - HT.sIx xs.length 0 (some ((1 : Nat) : Int))) = _
  rw [HT.sIx_none, HT.sIx_nat]
  cases xs with
  | nil => rfl
  | cons a l =>
    have e : min 1 (a :: l).length = 1 := by simp
    rw [e, List.take_of_length_le (by simp)]
theorem sl_tail {d : D} (h : isSeqD d = true) : gSl d (some 1) none = some (tailD d) := by
  cases d with
  | lst xs => show some (D.lst (cutD xs (some 1) none)) = _; rw [cut_tail]; rfl
  | tup xs => show some (D.tup (cutD xs (some 1) none)) = _; rw [cut_tail]; rfl
  | _ => cases h
theorem zip_tail {d : D} (h : isSeqD d = true) : zipD [d, tailD d] = some (zipL (itemsOf d) ((itemsOf d).drop 1)) := by
  cases d <;> first | rfl | cases h
theorem gAny_map {p : D → Bool} (ds : List D) : gAny [.lst (ds.map fun d => .bl (p d))] = some (.bl (ds.any p)) := by
  show (blA (ds.map fun d => .bl (p d))).map (fun bs => D.bl (bs.any id)) = _
  rw [blA_map]
  simp [List.any_map, Function.comp_def]
theorem not_any {p : D → Bool} {ds : List D} : ds.any (fun d => !p d) = !ds.all p := by
  induction ds with
  | nil => rfl
  | cons d ds ih => rw [List.any_cons, List.all_cons, ih]; cases p d <;> rfl
theorem size_line {n : Nat} (h : n ≤ 1000000) : n ≤ sizeLine := Nat.le_trans h (by decide)
theorem e20 : (((2 : Nat) : Int) == 2) = true := by decide
theorem is_form_eq {d : D} {c : Churn} (h : nice d = true) : F_is_form [d] c = .ok (.bl (formB d)) c := by
  apply eq_of_ok
  show Ok (G.nx (runDef 5 g_is_form [d]) c) _
  rw [ok_def]
  show Ok (g_is_form [.val d, .no, .no, .no, .no] c) _
  unfold g_is_form
  simp only [ok_seq, ok_asg, ok_par, ok_ret, ok_retN, ok_sNil, ok_sIf, ok_bin, ok_un, ok_var, ok_C, ok_call, ok_callK, ok_cons, ok_nil, ok_args, ok_tru, ok_not, ok_and, ok_or, ok_eNot, ok_eAnd, ok_eOr, ok_if, ok_cmp, ok_chain, ok_ofC, ok_oNone, ok_oSome, ok_sl, ok_met, ok_rev, ok_items, ok_lenSet, ok_pairs0, ok_pairs, ok_dict, ok_iSeq, ok_rng1, ok_rng2, ok_comp, ok_comp0, ok_for, List.getElem?_cons_zero, List.getElem?_cons_succ, Option.some.injEq, Sl.val.injEq, exists_eq_left', List.nil_append, List.append_nil, List.length_cons, List.length_nil, true_and, and_true, and_self, Nat.zero_add, Nat.reduceAdd, Nat.reduceLeDiff, gAdd_i, gSub_i, gNeg_i, gBl_e, gCmpI_i, gLst_o, gTup_o, gN_e, List.set_cons_zero, List.set_cons_succ, truD_b, gIsN_n, isNonD, gLen_l, gInt_b, gInt_i, Option.map_some, Bool.false_eq_true, if_true, if_false, Bool.not_true, Bool.not_false, keyD, walkD, ok_sOwn, ok_sFz, ok_cBor, ok_eBor, ok_sPut, ok_xNil, ok_xVal, ok_xOwn, ok_zip, ok_enum, ok_star, ok_sortItems, ok_dict0, ok_ixO, ok_parX, ok_parX3, gIxA_l, gIxA_t, gEqA_i, gEqA_s, atI_0, atI_1, atI_2, atI_3, gCmpO_i, intO, seqOf, isFlat, isi_seq (nice_plain h)]
  obtain ⟨_, hi⟩ := nice_items h
  cases hs : isSeqD d with
  | false =>
    have e : formB d = false := by unfold formB; rw [hs]; rfl
    simp only [ok_seq, ok_asg, ok_par, ok_ret, ok_retN, ok_sNil, ok_sIf, ok_bin, ok_un, ok_var, ok_C, ok_call, ok_callK, ok_cons, ok_nil, ok_args, ok_tru, ok_not, ok_and, ok_or, ok_eNot, ok_eAnd, ok_eOr, ok_if, ok_cmp, ok_chain, ok_ofC, ok_oNone, ok_oSome, ok_sl, ok_met, ok_rev, ok_items, ok_lenSet, ok_pairs0, ok_pairs, ok_dict, ok_iSeq, ok_rng1, ok_rng2, ok_comp, ok_comp0, ok_for, List.getElem?_cons_zero, List.getElem?_cons_succ, Option.some.injEq, Sl.val.injEq, exists_eq_left', List.nil_append, List.append_nil, List.length_cons, List.length_nil, true_and, and_true, and_self, Nat.zero_add, Nat.reduceAdd, Nat.reduceLeDiff, gAdd_i, gSub_i, gNeg_i, gBl_e, gCmpI_i, gLst_o, gTup_o, gN_e, List.set_cons_zero, List.set_cons_succ, truD_b, gIsN_n, isNonD, gLen_l, gInt_b, gInt_i, Option.map_some, Bool.false_eq_true, if_true, if_false, Bool.not_true, Bool.not_false, keyD, walkD, ok_sOwn, ok_sFz, ok_cBor, ok_eBor, ok_sPut, ok_xNil, ok_xVal, ok_xOwn, ok_zip, ok_enum, ok_star, ok_sortItems, ok_dict0, ok_ixO, ok_parX, ok_parX3, gIxA_l, gIxA_t, gEqA_i, gEqA_s, atI_0, atI_1, atI_2, atI_3, gCmpO_i, intO, seqOf, isFlat, e]
  | true =>
    simp only [ok_seq, ok_asg, ok_par, ok_ret, ok_retN, ok_sNil, ok_sIf, ok_bin, ok_un, ok_var, ok_C, ok_call, ok_callK, ok_cons, ok_nil, ok_args, ok_tru, ok_not, ok_and, ok_or, ok_eNot, ok_eAnd, ok_eOr, ok_if, ok_cmp, ok_chain, ok_ofC, ok_oNone, ok_oSome, ok_sl, ok_met, ok_rev, ok_items, ok_lenSet, ok_pairs0, ok_pairs, ok_dict, ok_iSeq, ok_rng1, ok_rng2, ok_comp, ok_comp0, ok_for, List.getElem?_cons_zero, List.getElem?_cons_succ, Option.some.injEq, Sl.val.injEq, exists_eq_left', List.nil_append, List.append_nil, List.length_cons, List.length_nil, true_and, and_true, and_self, Nat.zero_add, Nat.reduceAdd, Nat.reduceLeDiff, gAdd_i, gSub_i, gNeg_i, gBl_e, gCmpI_i, gLst_o, gTup_o, gN_e, List.set_cons_zero, List.set_cons_succ, truD_b, gIsN_n, isNonD, gLen_l, gInt_b, gInt_i, Option.map_some, Bool.false_eq_true, if_true, if_false, Bool.not_true, Bool.not_false, keyD, walkD, ok_sOwn, ok_sFz, ok_cBor, ok_eBor, ok_sPut, ok_xNil, ok_xVal, ok_xOwn, ok_zip, ok_enum, ok_star, ok_sortItems, ok_dict0, ok_ixO, ok_parX, ok_parX3, gIxA_l, gIxA_t, gEqA_i, gEqA_s, atI_0, atI_1, atI_2, atI_3, gCmpO_i, intO, seqOf, isFlat, seq_len hs, eqX_in]
    by_cases hl : (itemsOf d).length = 2
    · obtain ⟨k, ps, e⟩ := two_of hl
      have nk : nice k = true := hi k (by rw [e]; simp)
      have np : nice ps = true := hi ps (by rw [e]; simp)
      have e2 : (((itemsOf d).length : Int) == 2) = true := by rw [e]; rfl
      have ef : formB d = (isIntD k && ((isSeqD ps && (itemsOf ps).all pairB) && ((itemsOf ps).all nzB && ascR (itemsOf ps)))) := by unfold formB; rw [hs, e]; rfl
      rw [ef]
      simp only [e2, e20, ok_seq, ok_asg, ok_par, ok_ret, ok_retN, ok_sNil, ok_sIf, ok_bin, ok_un, ok_var, ok_C, ok_call, ok_callK, ok_cons, ok_nil, ok_args, ok_tru, ok_not, ok_and, ok_or, ok_eNot, ok_eAnd, ok_eOr, ok_if, ok_cmp, ok_chain, ok_ofC, ok_oNone, ok_oSome, ok_sl, ok_met, ok_rev, ok_items, ok_lenSet, ok_pairs0, ok_pairs, ok_dict, ok_iSeq, ok_rng1, ok_rng2, ok_comp, ok_comp0, ok_for, List.getElem?_cons_zero, List.getElem?_cons_succ, Option.some.injEq, Sl.val.injEq, exists_eq_left', List.nil_append, List.append_nil, List.length_cons, List.length_nil, true_and, and_true, and_self, Nat.zero_add, Nat.reduceAdd, Nat.reduceLeDiff, gAdd_i, gSub_i, gNeg_i, gBl_e, gCmpI_i, gLst_o, gTup_o, gN_e, List.set_cons_zero, List.set_cons_succ, truD_b, gIsN_n, isNonD, gLen_l, gInt_b, gInt_i, Option.map_some, Bool.false_eq_true, if_true, if_false, Bool.not_true, Bool.not_false, keyD, walkD, ok_sOwn, ok_sFz, ok_cBor, ok_eBor, ok_sPut, ok_xNil, ok_xVal, ok_xOwn, ok_zip, ok_enum, ok_star, ok_sortItems, ok_dict0, ok_ixO, ok_parX, ok_parX3, gIxA_l, gIxA_t, gEqA_i, gEqA_s, atI_0, atI_1, atI_2, atI_3, gCmpO_i, intO, seqOf, isFlat, seq_ix hs, e, is_int_eq (nice_plain nk), are_pairs_eq np, ok_ok]
      cases hk : isIntD k with
      | false => simp only [ok_seq, ok_asg, ok_par, ok_ret, ok_retN, ok_sNil, ok_sIf, ok_bin, ok_un, ok_var, ok_C, ok_call, ok_callK, ok_cons, ok_nil, ok_args, ok_tru, ok_not, ok_and, ok_or, ok_eNot, ok_eAnd, ok_eOr, ok_if, ok_cmp, ok_chain, ok_ofC, ok_oNone, ok_oSome, ok_sl, ok_met, ok_rev, ok_items, ok_lenSet, ok_pairs0, ok_pairs, ok_dict, ok_iSeq, ok_rng1, ok_rng2, ok_comp, ok_comp0, ok_for, List.getElem?_cons_zero, List.getElem?_cons_succ, Option.some.injEq, Sl.val.injEq, exists_eq_left', List.nil_append, List.append_nil, List.length_cons, List.length_nil, true_and, and_true, and_self, Nat.zero_add, Nat.reduceAdd, Nat.reduceLeDiff, gAdd_i, gSub_i, gNeg_i, gBl_e, gCmpI_i, gLst_o, gTup_o, gN_e, List.set_cons_zero, List.set_cons_succ, truD_b, gIsN_n, isNonD, gLen_l, gInt_b, gInt_i, Option.map_some, Bool.false_eq_true, if_true, if_false, Bool.not_true, Bool.not_false, keyD, walkD, ok_sOwn, ok_sFz, ok_cBor, ok_eBor, ok_sPut, ok_xNil, ok_xVal, ok_xOwn, ok_zip, ok_enum, ok_star, ok_sortItems, ok_dict0, ok_ixO, ok_parX, ok_parX3, gIxA_l, gIxA_t, gEqA_i, gEqA_s, atI_0, atI_1, atI_2, atI_3, gCmpO_i, intO, seqOf, isFlat, Bool.false_and]
      | true =>
        simp only [ok_seq, ok_asg, ok_par, ok_ret, ok_retN, ok_sNil, ok_sIf, ok_bin, ok_un, ok_var, ok_C, ok_call, ok_callK, ok_cons, ok_nil, ok_args, ok_tru, ok_not, ok_and, ok_or, ok_eNot, ok_eAnd, ok_eOr, ok_if, ok_cmp, ok_chain, ok_ofC, ok_oNone, ok_oSome, ok_sl, ok_met, ok_rev, ok_items, ok_lenSet, ok_pairs0, ok_pairs, ok_dict, ok_iSeq, ok_rng1, ok_rng2, ok_comp, ok_comp0, ok_for, List.getElem?_cons_zero, List.getElem?_cons_succ, Option.some.injEq, Sl.val.injEq, exists_eq_left', List.nil_append, List.append_nil, List.length_cons, List.length_nil, true_and, and_true, and_self, Nat.zero_add, Nat.reduceAdd, Nat.reduceLeDiff, gAdd_i, gSub_i, gNeg_i, gBl_e, gCmpI_i, gLst_o, gTup_o, gN_e, List.set_cons_zero, List.set_cons_succ, truD_b, gIsN_n, isNonD, gLen_l, gInt_b, gInt_i, Option.map_some, Bool.false_eq_true, if_true, if_false, Bool.not_true, Bool.not_false, keyD, walkD, ok_sOwn, ok_sFz, ok_cBor, ok_eBor, ok_sPut, ok_xNil, ok_xVal, ok_xOwn, ok_zip, ok_enum, ok_star, ok_sortItems, ok_dict0, ok_ixO, ok_parX, ok_parX3, gIxA_l, gIxA_t, gEqA_i, gEqA_s, atI_0, atI_1, atI_2, atI_3, gCmpO_i, intO, seqOf, isFlat, Bool.true_and]
        cases hp : (isSeqD ps && (itemsOf ps).all pairB) with
        | false => simp only [ok_seq, ok_asg, ok_par, ok_ret, ok_retN, ok_sNil, ok_sIf, ok_bin, ok_un, ok_var, ok_C, ok_call, ok_callK, ok_cons, ok_nil, ok_args, ok_tru, ok_not, ok_and, ok_or, ok_eNot, ok_eAnd, ok_eOr, ok_if, ok_cmp, ok_chain, ok_ofC, ok_oNone, ok_oSome, ok_sl, ok_met, ok_rev, ok_items, ok_lenSet, ok_pairs0, ok_pairs, ok_dict, ok_iSeq, ok_rng1, ok_rng2, ok_comp, ok_comp0, ok_for, List.getElem?_cons_zero, List.getElem?_cons_succ, Option.some.injEq, Sl.val.injEq, exists_eq_left', List.nil_append, List.append_nil, List.length_cons, List.length_nil, true_and, and_true, and_self, Nat.zero_add, Nat.reduceAdd, Nat.reduceLeDiff, gAdd_i, gSub_i, gNeg_i, gBl_e, gCmpI_i, gLst_o, gTup_o, gN_e, List.set_cons_zero, List.set_cons_succ, truD_b, gIsN_n, isNonD, gLen_l, gInt_b, gInt_i, Option.map_some, Bool.false_eq_true, if_true, if_false, Bool.not_true, Bool.not_false, keyD, walkD, ok_sOwn, ok_sFz, ok_cBor, ok_eBor, ok_sPut, ok_xNil, ok_xVal, ok_xOwn, ok_zip, ok_enum, ok_star, ok_sortItems, ok_dict0, ok_ixO, ok_parX, ok_parX3, gIxA_l, gIxA_t, gEqA_i, gEqA_s, atI_0, atI_1, atI_2, atI_3, gCmpO_i, intO, seqOf, isFlat, Bool.false_and]
        | true =>
          obtain ⟨hq, ha⟩ := Bool.and_eq_true_iff.mp hp
          obtain ⟨hlp, _⟩ := nice_items np
          have hall := List.all_eq_true.mp ha
          simp only [ok_seq, ok_asg, ok_par, ok_ret, ok_retN, ok_sNil, ok_sIf, ok_bin, ok_un, ok_var, ok_C, ok_call, ok_callK, ok_cons, ok_nil, ok_args, ok_tru, ok_not, ok_and, ok_or, ok_eNot, ok_eAnd, ok_eOr, ok_if, ok_cmp, ok_chain, ok_ofC, ok_oNone, ok_oSome, ok_sl, ok_met, ok_rev, ok_items, ok_lenSet, ok_pairs0, ok_pairs, ok_dict, ok_iSeq, ok_rng1, ok_rng2, ok_comp, ok_comp0, ok_for, List.getElem?_cons_zero, List.getElem?_cons_succ, Option.some.injEq, Sl.val.injEq, exists_eq_left', List.nil_append, List.append_nil, List.length_cons, List.length_nil, true_and, and_true, and_self, Nat.zero_add, Nat.reduceAdd, Nat.reduceLeDiff, gAdd_i, gSub_i, gNeg_i, gBl_e, gCmpI_i, gLst_o, gTup_o, gN_e, List.set_cons_zero, List.set_cons_succ, truD_b, gIsN_n, isNonD, gLen_l, gInt_b, gInt_i, Option.map_some, Bool.false_eq_true, if_true, if_false, Bool.not_true, Bool.not_false, keyD, walkD, ok_sOwn, ok_sFz, ok_cBor, ok_eBor, ok_sPut, ok_xNil, ok_xVal, ok_xOwn, ok_zip, ok_enum, ok_star, ok_sortItems, ok_dict0, ok_ixO, ok_parX, ok_parX3, gIxA_l, gIxA_t, gEqA_i, gEqA_s, atI_0, atI_1, atI_2, atI_3, gCmpO_i, intO, seqOf, isFlat, Bool.true_and, seq_walk hq]
          refine ⟨_, seq_walk hq, size_line hlp, ?_⟩
          refine comp_map (fun x => .bl (!nzB x)) (fun x hx c => ?_) ?_
          · obtain ⟨s, i, hx2, _⟩ := pair_shape (hall x hx)
            rcases hx2 with rfl | rfl
            · refine ⟨_, rfl, rfl, ?_⟩
              apply eq_of_ok
              simp only [ok_seq, ok_asg, ok_par, ok_ret, ok_retN, ok_sNil, ok_sIf, ok_bin, ok_un, ok_var, ok_C, ok_call, ok_callK, ok_cons, ok_nil, ok_args, ok_tru, ok_not, ok_and, ok_or, ok_eNot, ok_eAnd, ok_eOr, ok_if, ok_cmp, ok_chain, ok_ofC, ok_oNone, ok_oSome, ok_sl, ok_met, ok_rev, ok_items, ok_lenSet, ok_pairs0, ok_pairs, ok_dict, ok_iSeq, ok_rng1, ok_rng2, ok_comp, ok_comp0, ok_for, List.getElem?_cons_zero, List.getElem?_cons_succ, Option.some.injEq, Sl.val.injEq, exists_eq_left', List.nil_append, List.append_nil, List.length_cons, List.length_nil, true_and, and_true, and_self, Nat.zero_add, Nat.reduceAdd, Nat.reduceLeDiff, gAdd_i, gSub_i, gNeg_i, gBl_e, gCmpI_i, gLst_o, gTup_o, gN_e, List.set_cons_zero, List.set_cons_succ, truD_b, gIsN_n, isNonD, gLen_l, gInt_b, gInt_i, Option.map_some, Bool.false_eq_true, if_true, if_false, Bool.not_true, Bool.not_false, keyD, walkD, ok_sOwn, ok_sFz, ok_cBor, ok_eBor, ok_sPut, ok_xNil, ok_xVal, ok_xOwn, ok_zip, ok_enum, ok_star, ok_sortItems, ok_dict0, ok_ixO, ok_parX, ok_parX3, gIxA_l, gIxA_t, gEqA_i, gEqA_s, atI_0, atI_1, atI_2, atI_3, gCmpO_i, intO, seqOf, isFlat, wipeE, nzB, itemsOf, Bool.not_not]
            · refine ⟨_, rfl, rfl, ?_⟩
              apply eq_of_ok
              simp only [ok_seq, ok_asg, ok_par, ok_ret, ok_retN, ok_sNil, ok_sIf, ok_bin, ok_un, ok_var, ok_C, ok_call, ok_callK, ok_cons, ok_nil, ok_args, ok_tru, ok_not, ok_and, ok_or, ok_eNot, ok_eAnd, ok_eOr, ok_if, ok_cmp, ok_chain, ok_ofC, ok_oNone, ok_oSome, ok_sl, ok_met, ok_rev, ok_items, ok_lenSet, ok_pairs0, ok_pairs, ok_dict, ok_iSeq, ok_rng1, ok_rng2, ok_comp, ok_comp0, ok_for, List.getElem?_cons_zero, List.getElem?_cons_succ, Option.some.injEq, Sl.val.injEq, exists_eq_left', List.nil_append, List.append_nil, List.length_cons, List.length_nil, true_and, and_true, and_self, Nat.zero_add, Nat.reduceAdd, Nat.reduceLeDiff, gAdd_i, gSub_i, gNeg_i, gBl_e, gCmpI_i, gLst_o, gTup_o, gN_e, List.set_cons_zero, List.set_cons_succ, truD_b, gIsN_n, isNonD, gLen_l, gInt_b, gInt_i, Option.map_some, Bool.false_eq_true, if_true, if_false, Bool.not_true, Bool.not_false, keyD, walkD, ok_sOwn, ok_sFz, ok_cBor, ok_eBor, ok_sPut, ok_xNil, ok_xVal, ok_xOwn, ok_zip, ok_enum, ok_star, ok_sortItems, ok_dict0, ok_ixO, ok_parX, ok_parX3, gIxA_l, gIxA_t, gEqA_i, gEqA_s, atI_0, atI_1, atI_2, atI_3, gCmpO_i, intO, seqOf, isFlat, wipeE, nzB, itemsOf, Bool.not_not]
          · refine ⟨_, gAny_map _, ?_⟩
            rw [not_any]
            cases hz : (itemsOf ps).all nzB with
            | false => simp only [ok_seq, ok_asg, ok_par, ok_ret, ok_retN, ok_sNil, ok_sIf, ok_bin, ok_un, ok_var, ok_C, ok_call, ok_callK, ok_cons, ok_nil, ok_args, ok_tru, ok_not, ok_and, ok_or, ok_eNot, ok_eAnd, ok_eOr, ok_if, ok_cmp, ok_chain, ok_ofC, ok_oNone, ok_oSome, ok_sl, ok_met, ok_rev, ok_items, ok_lenSet, ok_pairs0, ok_pairs, ok_dict, ok_iSeq, ok_rng1, ok_rng2, ok_comp, ok_comp0, ok_for, List.getElem?_cons_zero, List.getElem?_cons_succ, Option.some.injEq, Sl.val.injEq, exists_eq_left', List.nil_append, List.append_nil, List.length_cons, List.length_nil, true_and, and_true, and_self, Nat.zero_add, Nat.reduceAdd, Nat.reduceLeDiff, gAdd_i, gSub_i, gNeg_i, gBl_e, gCmpI_i, gLst_o, gTup_o, gN_e, List.set_cons_zero, List.set_cons_succ, truD_b, gIsN_n, isNonD, gLen_l, gInt_b, gInt_i, Option.map_some, Bool.false_eq_true, if_true, if_false, Bool.not_true, Bool.not_false, keyD, walkD, ok_sOwn, ok_sFz, ok_cBor, ok_eBor, ok_sPut, ok_xNil, ok_xVal, ok_xOwn, ok_zip, ok_enum, ok_star, ok_sortItems, ok_dict0, ok_ixO, ok_parX, ok_parX3, gIxA_l, gIxA_t, gEqA_i, gEqA_s, atI_0, atI_1, atI_2, atI_3, gCmpO_i, intO, seqOf, isFlat, Bool.false_and]
            | true =>
              simp only [ok_seq, ok_asg, ok_par, ok_ret, ok_retN, ok_sNil, ok_sIf, ok_bin, ok_un, ok_var, ok_C, ok_call, ok_callK, ok_cons, ok_nil, ok_args, ok_tru, ok_not, ok_and, ok_or, ok_eNot, ok_eAnd, ok_eOr, ok_if, ok_cmp, ok_chain, ok_ofC, ok_oNone, ok_oSome, ok_sl, ok_met, ok_rev, ok_items, ok_lenSet, ok_pairs0, ok_pairs, ok_dict, ok_iSeq, ok_rng1, ok_rng2, ok_comp, ok_comp0, ok_for, List.getElem?_cons_zero, List.getElem?_cons_succ, Option.some.injEq, Sl.val.injEq, exists_eq_left', List.nil_append, List.append_nil, List.length_cons, List.length_nil, true_and, and_true, and_self, Nat.zero_add, Nat.reduceAdd, Nat.reduceLeDiff, gAdd_i, gSub_i, gNeg_i, gBl_e, gCmpI_i, gLst_o, gTup_o, gN_e, List.set_cons_zero, List.set_cons_succ, truD_b, gIsN_n, isNonD, gLen_l, gInt_b, gInt_i, Option.map_some, Bool.false_eq_true, if_true, if_false, Bool.not_true, Bool.not_false, keyD, walkD, ok_sOwn, ok_sFz, ok_cBor, ok_eBor, ok_sPut, ok_xNil, ok_xVal, ok_xOwn, ok_zip, ok_enum, ok_star, ok_sortItems, ok_dict0, ok_ixO, ok_parX, ok_parX3, gIxA_l, gIxA_t, gEqA_i, gEqA_s, atI_0, atI_1, atI_2, atI_3, gCmpO_i, intO, seqOf, isFlat, Bool.true_and, sl_tail hq, zip_tail hq]
              refine ⟨?_, ?_⟩
              · rw [zipL_len]; exact Nat.le_trans (Nat.min_le_left _ _) (size_line hlp)
              refine comp_map (fun x => .bl (ltP x)) (fun x hx c => ?_) ?_
              · obtain ⟨i, hi2⟩ := List.getElem?_of_mem hx
                obtain ⟨u, v, h1, h2, rfl⟩ := zipL_get hi2
                have mu : u ∈ itemsOf ps := List.mem_of_getElem? h1
                have mv : v ∈ itemsOf ps := List.mem_of_mem_drop (List.mem_of_getElem? h2)
                obtain ⟨s, i, hu, _⟩ := pair_shape (hall u mu)
                obtain ⟨s2, i2, hv, _⟩ := pair_shape (hall v mv)
                refine ⟨_, rfl, rfl, ?_⟩
                apply eq_of_ok
                rcases hu with rfl | rfl <;> rcases hv with rfl | rfl <;> (simp only [ok_seq, ok_asg, ok_par, ok_ret, ok_retN, ok_sNil, ok_sIf, ok_bin, ok_un, ok_var, ok_C, ok_call, ok_callK, ok_cons, ok_nil, ok_args, ok_tru, ok_not, ok_and, ok_or, ok_eNot, ok_eAnd, ok_eOr, ok_if, ok_cmp, ok_chain, ok_ofC, ok_oNone, ok_oSome, ok_sl, ok_met, ok_rev, ok_items, ok_lenSet, ok_pairs0, ok_pairs, ok_dict, ok_iSeq, ok_rng1, ok_rng2, ok_comp, ok_comp0, ok_for, List.getElem?_cons_zero, List.getElem?_cons_succ, Option.some.injEq, Sl.val.injEq, exists_eq_left', List.nil_append, List.append_nil, List.length_cons, List.length_nil, true_and, and_true, and_self, Nat.zero_add, Nat.reduceAdd, Nat.reduceLeDiff, gAdd_i, gSub_i, gNeg_i, gBl_e, gCmpI_i, gLst_o, gTup_o, gN_e, List.set_cons_zero, List.set_cons_succ, truD_b, gIsN_n, isNonD, gLen_l, gInt_b, gInt_i, Option.map_some, Bool.false_eq_true, if_true, if_false, Bool.not_true, Bool.not_false, keyD, walkD, ok_sOwn, ok_sFz, ok_cBor, ok_eBor, ok_sPut, ok_xNil, ok_xVal, ok_xOwn, ok_zip, ok_enum, ok_star, ok_sortItems, ok_dict0, ok_ixO, ok_parX, ok_parX3, gIxA_l, gIxA_t, gEqA_i, gEqA_s, atI_0, atI_1, atI_2, atI_3, gCmpO_i, intO, seqOf, isFlat, wipeE, gCmpO_s, ltP, cpsOf, itemsOf])
              · refine ⟨_, gAll_map _, ?_⟩
                rw [zip_asc]
                exact ⟨rfl, rfl⟩
    · have e2 : (((itemsOf d).length : Int) == 2) = false := by
        have := len_is (n := (itemsOf d).length) (k := 2)
        rw [decide_eq_false hl] at this
        exact this
      have ef : formB d = false := by
        unfold formB
        rw [hs]
        split
        · rename_i a b e
          rw [e] at hl; exact absurd rfl hl
        · rfl
      simp only [e2, ok_seq, ok_asg, ok_par, ok_ret, ok_retN, ok_sNil, ok_sIf, ok_bin, ok_un, ok_var, ok_C, ok_call, ok_callK, ok_cons, ok_nil, ok_args, ok_tru, ok_not, ok_and, ok_or, ok_eNot, ok_eAnd, ok_eOr, ok_if, ok_cmp, ok_chain, ok_ofC, ok_oNone, ok_oSome, ok_sl, ok_met, ok_rev, ok_items, ok_lenSet, ok_pairs0, ok_pairs, ok_dict, ok_iSeq, ok_rng1, ok_rng2, ok_comp, ok_comp0, ok_for, List.getElem?_cons_zero, List.getElem?_cons_succ, Option.some.injEq, Sl.val.injEq, exists_eq_left', List.nil_append, List.append_nil, List.length_cons, List.length_nil, true_and, and_true, and_self, Nat.zero_add, Nat.reduceAdd, Nat.reduceLeDiff, gAdd_i, gSub_i, gNeg_i, gBl_e, gCmpI_i, gLst_o, gTup_o, gN_e, List.set_cons_zero, List.set_cons_succ, truD_b, gIsN_n, isNonD, gLen_l, gInt_b, gInt_i, Option.map_some, Bool.false_eq_true, if_true, if_false, Bool.not_true, Bool.not_false, keyD, walkD, ok_sOwn, ok_sFz, ok_cBor, ok_eBor, ok_sPut, ok_xNil, ok_xVal, ok_xOwn, ok_zip, ok_enum, ok_star, ok_sortItems, ok_dict0, ok_ixO, ok_parX, ok_parX3, gIxA_l, gIxA_t, gEqA_i, gEqA_s, atI_0, atI_1, atI_2, atI_3, gCmpO_i, intO, seqOf, isFlat, ef]
end G

set_option Elab.async false
set_option linter.all false
set_option maxRecDepth 100000
set_option maxHeartbeats 8000000
/-! NM5: forms, as the law judges them. -/
namespace G
open PySem PySem.Spec PyProof.Rows L2
def ascL (last : List Nat) : List D → Bool
  | [] => true
  | x :: r => (pairB x && gtL (cpsOf x) last) && (nzB x && ascL (cpsOf x) r)
theorem ascL_eq : ∀ (qs : List D) (x : D), pairB x = true → (ascL (cpsOf x) qs = (qs.all pairB && (qs.all nzB && ascR (x :: qs))))
  | [], x, _ => rfl
  | y :: r, x, hx => by
    have e : ascR (x :: y :: r) = (ltL (cpsOf x) (cpsOf y) && ascR (y :: r)) := rfl
    show ((pairB y && gtL (cpsOf y) (cpsOf x)) && (nzB y && ascL (cpsOf y) r)) = _
    rw [e, List.all_cons, List.all_cons]
    have e2 : gtL (cpsOf y) (cpsOf x) = ltL (cpsOf x) (cpsOf y) := rfl
    rw [e2]
    cases hy : pairB y with
    | false => simp
    | true =>
      rw [ascL_eq r y hy]
      cases nzB y <;> cases ltL (cpsOf x) (cpsOf y) <;> cases r.all pairB <;> cases r.all nzB <;> cases ascR (y :: r) <;> rfl
theorem name_pos {cs : List Nat} (h : isNm cs = true) : gtL cs [] = true := by
  cases cs with
  | nil => cases h
  | cons a cs => exact decide_eq_true (List.nil_lt_cons _ _)
theorem ascL_0 (qs : List D) : ascL [] qs = (qs.all pairB && (qs.all nzB && ascR qs)) := by
  cases qs with
  | nil => rfl
  | cons y r =>
    show ((pairB y && gtL (cpsOf y) []) && (nzB y && ascL (cpsOf y) r)) = _
    rw [List.all_cons, List.all_cons]
    cases hy : pairB y with
    | false => simp
    | true =>
      have hp : gtL (cpsOf y) [] = true := by
        obtain ⟨s, i, h1, h2⟩ := pair_shape hy
        have : cpsOf y = s.cps.toList := by rcases h1 with rfl | rfl <;> rfl
        rw [this]
        exact name_pos h2
      rw [ascL_eq r y hy, hp]
      cases nzB y <;> cases r.all pairB <;> cases r.all nzB <;> cases ascR (y :: r) <;> rfl
/-- the loop with the last name -/
theorem for_asc {t : Tg} {s : Sm} {c : Churn} {mk : D → Sl → Ev} (good : List Nat → D → Bool) (nxt : D → List Nat) (run : List Nat → List D → Bool) (h0 : ∀ l, run l [] = true) (h1 : ∀ l x r, run l (x :: r) = (good l x && run (nxt x) r)) : ∀ {ds : List D} {last : List Nat} {s0 : Sl} {kp : Ev × Ctl → Churn → Prop},
    (∀ d ∈ ds, ∀ last s0, ∃ ρ1, t d (mk (.str (sx last)) s0) = some ρ1 ∧ Ok (s ρ1 c) fun p c1 => c1 = c ∧ (good last d = true → p.2 = .nx ∧ ∃ s1, p.1 = mk (.str (sx (nxt d))) s1) ∧ (good last d = false → p.2 = .ret (.bl false))) →
    (run last ds = true → ∀ l s1, kp (mk (.str (sx l)) s1, .nx) c) → (run last ds = false → ∀ ρ, kp (ρ, .ret (.bl false)) c) → Ok (forM' t s ds (mk (.str (sx last)) s0) c) kp
  | [], last, s0, kp, _, q, _ => q (h0 last) last s0
  | d :: ds, last, s0, kp, hs, q, q2 => by
    rw [ok_forS]
    obtain ⟨ρ1, e1, h⟩ := hs d (List.mem_cons_self ..) last s0
    refine ⟨ρ1, e1, h.mono fun p c1 ⟨ec, g1, g2⟩ => ?_⟩
    obtain ⟨ρ2, ctl⟩ := p
    subst ec
    rw [h1] at q q2
    cases hg : good last d with
    | true =>
      obtain ⟨e2, s1, e3⟩ := g1 hg
      cases e2
      cases e3
      rw [hg, Bool.true_and] at q q2
      exact for_asc good nxt run h0 h1 (fun d hd => hs d (List.mem_cons_of_mem _ hd)) q q2
    | false =>
      cases g2 hg
      rw [hg] at q2
      exact q2 rfl _
theorem L_is_form_eq {d : D} {c : Churn} (h : nice d = true) : F_L_is_form [d] c = .ok (.bl (formB d)) c := by
  apply eq_of_ok
  show Ok (G.nx (runDef 3 g_L_is_form [d]) c) _
  rw [ok_def]
  show Ok (g_L_is_form [.val d, .no, .no] c) _
  unfold g_L_is_form
  simp only [ok_seq, ok_asg, ok_par, ok_ret, ok_retN, ok_sNil, ok_sIf, ok_bin, ok_un, ok_var, ok_C, ok_call, ok_callK, ok_cons, ok_nil, ok_args, ok_tru, ok_not, ok_and, ok_or, ok_eNot, ok_eAnd, ok_eOr, ok_if, ok_cmp, ok_chain, ok_ofC, ok_oNone, ok_oSome, ok_sl, ok_met, ok_rev, ok_items, ok_lenSet, ok_pairs0, ok_pairs, ok_dict, ok_iSeq, ok_rng1, ok_rng2, ok_comp, ok_comp0, ok_for, List.getElem?_cons_zero, List.getElem?_cons_succ, Option.some.injEq, Sl.val.injEq, exists_eq_left', List.nil_append, List.append_nil, List.length_cons, List.length_nil, true_and, and_true, and_self, Nat.zero_add, Nat.reduceAdd, Nat.reduceLeDiff, gAdd_i, gSub_i, gNeg_i, gBl_e, gCmpI_i, gLst_o, gTup_o, gN_e, List.set_cons_zero, List.set_cons_succ, truD_b, gIsN_n, isNonD, gLen_l, gInt_b, gInt_i, Option.map_some, Bool.false_eq_true, if_true, if_false, Bool.not_true, Bool.not_false, keyD, walkD, ok_sOwn, ok_sFz, ok_cBor, ok_eBor, ok_sPut, ok_xNil, ok_xVal, ok_xOwn, ok_zip, ok_enum, ok_star, ok_sortItems, ok_dict0, ok_ixO, ok_parX, ok_parX3, gIxA_l, gIxA_t, gEqA_i, gEqA_s, atI_0, atI_1, atI_2, atI_3, gCmpO_i, intO, seqOf, isFlat, isi_seq (nice_plain h)]
  obtain ⟨_, hi⟩ := nice_items h
  cases hs : isSeqD d with
  | false =>
    have e : formB d = false := by unfold formB; rw [hs]; rfl
    simp only [ok_seq, ok_asg, ok_par, ok_ret, ok_retN, ok_sNil, ok_sIf, ok_bin, ok_un, ok_var, ok_C, ok_call, ok_callK, ok_cons, ok_nil, ok_args, ok_tru, ok_not, ok_and, ok_or, ok_eNot, ok_eAnd, ok_eOr, ok_if, ok_cmp, ok_chain, ok_ofC, ok_oNone, ok_oSome, ok_sl, ok_met, ok_rev, ok_items, ok_lenSet, ok_pairs0, ok_pairs, ok_dict, ok_iSeq, ok_rng1, ok_rng2, ok_comp, ok_comp0, ok_for, List.getElem?_cons_zero, List.getElem?_cons_succ, Option.some.injEq, Sl.val.injEq, exists_eq_left', List.nil_append, List.append_nil, List.length_cons, List.length_nil, true_and, and_true, and_self, Nat.zero_add, Nat.reduceAdd, Nat.reduceLeDiff, gAdd_i, gSub_i, gNeg_i, gBl_e, gCmpI_i, gLst_o, gTup_o, gN_e, List.set_cons_zero, List.set_cons_succ, truD_b, gIsN_n, isNonD, gLen_l, gInt_b, gInt_i, Option.map_some, Bool.false_eq_true, if_true, if_false, Bool.not_true, Bool.not_false, keyD, walkD, ok_sOwn, ok_sFz, ok_cBor, ok_eBor, ok_sPut, ok_xNil, ok_xVal, ok_xOwn, ok_zip, ok_enum, ok_star, ok_sortItems, ok_dict0, ok_ixO, ok_parX, ok_parX3, gIxA_l, gIxA_t, gEqA_i, gEqA_s, atI_0, atI_1, atI_2, atI_3, gCmpO_i, intO, seqOf, isFlat, e]
  | true =>
    simp only [ok_seq, ok_asg, ok_par, ok_ret, ok_retN, ok_sNil, ok_sIf, ok_bin, ok_un, ok_var, ok_C, ok_call, ok_callK, ok_cons, ok_nil, ok_args, ok_tru, ok_not, ok_and, ok_or, ok_eNot, ok_eAnd, ok_eOr, ok_if, ok_cmp, ok_chain, ok_ofC, ok_oNone, ok_oSome, ok_sl, ok_met, ok_rev, ok_items, ok_lenSet, ok_pairs0, ok_pairs, ok_dict, ok_iSeq, ok_rng1, ok_rng2, ok_comp, ok_comp0, ok_for, List.getElem?_cons_zero, List.getElem?_cons_succ, Option.some.injEq, Sl.val.injEq, exists_eq_left', List.nil_append, List.append_nil, List.length_cons, List.length_nil, true_and, and_true, and_self, Nat.zero_add, Nat.reduceAdd, Nat.reduceLeDiff, gAdd_i, gSub_i, gNeg_i, gBl_e, gCmpI_i, gLst_o, gTup_o, gN_e, List.set_cons_zero, List.set_cons_succ, truD_b, gIsN_n, isNonD, gLen_l, gInt_b, gInt_i, Option.map_some, Bool.false_eq_true, if_true, if_false, Bool.not_true, Bool.not_false, keyD, walkD, ok_sOwn, ok_sFz, ok_cBor, ok_eBor, ok_sPut, ok_xNil, ok_xVal, ok_xOwn, ok_zip, ok_enum, ok_star, ok_sortItems, ok_dict0, ok_ixO, ok_parX, ok_parX3, gIxA_l, gIxA_t, gEqA_i, gEqA_s, atI_0, atI_1, atI_2, atI_3, gCmpO_i, intO, seqOf, isFlat, seq_len hs, eqX_in]
    by_cases hl : (itemsOf d).length = 2
    · obtain ⟨k, ps, e⟩ := two_of hl
      have nk : nice k = true := hi k (by rw [e]; simp)
      have np : nice ps = true := hi ps (by rw [e]; simp)
      have e2 : (((itemsOf d).length : Int) == 2) = true := by rw [e]; rfl
      have ef : formB d = (isIntD k && ((isSeqD ps && (itemsOf ps).all pairB) && ((itemsOf ps).all nzB && ascR (itemsOf ps)))) := by unfold formB; rw [hs, e]; rfl
      rw [ef]
      simp only [e2, e20, ok_seq, ok_asg, ok_par, ok_ret, ok_retN, ok_sNil, ok_sIf, ok_bin, ok_un, ok_var, ok_C, ok_call, ok_callK, ok_cons, ok_nil, ok_args, ok_tru, ok_not, ok_and, ok_or, ok_eNot, ok_eAnd, ok_eOr, ok_if, ok_cmp, ok_chain, ok_ofC, ok_oNone, ok_oSome, ok_sl, ok_met, ok_rev, ok_items, ok_lenSet, ok_pairs0, ok_pairs, ok_dict, ok_iSeq, ok_rng1, ok_rng2, ok_comp, ok_comp0, ok_for, List.getElem?_cons_zero, List.getElem?_cons_succ, Option.some.injEq, Sl.val.injEq, exists_eq_left', List.nil_append, List.append_nil, List.length_cons, List.length_nil, true_and, and_true, and_self, Nat.zero_add, Nat.reduceAdd, Nat.reduceLeDiff, gAdd_i, gSub_i, gNeg_i, gBl_e, gCmpI_i, gLst_o, gTup_o, gN_e, List.set_cons_zero, List.set_cons_succ, truD_b, gIsN_n, isNonD, gLen_l, gInt_b, gInt_i, Option.map_some, Bool.false_eq_true, if_true, if_false, Bool.not_true, Bool.not_false, keyD, walkD, ok_sOwn, ok_sFz, ok_cBor, ok_eBor, ok_sPut, ok_xNil, ok_xVal, ok_xOwn, ok_zip, ok_enum, ok_star, ok_sortItems, ok_dict0, ok_ixO, ok_parX, ok_parX3, gIxA_l, gIxA_t, gEqA_i, gEqA_s, atI_0, atI_1, atI_2, atI_3, gCmpO_i, intO, seqOf, isFlat, seq_ix hs, e, is_int_eq (nice_plain nk), isi_seq (nice_plain np), ok_ok]
      cases hk : isIntD k with
      | false => simp only [ok_seq, ok_asg, ok_par, ok_ret, ok_retN, ok_sNil, ok_sIf, ok_bin, ok_un, ok_var, ok_C, ok_call, ok_callK, ok_cons, ok_nil, ok_args, ok_tru, ok_not, ok_and, ok_or, ok_eNot, ok_eAnd, ok_eOr, ok_if, ok_cmp, ok_chain, ok_ofC, ok_oNone, ok_oSome, ok_sl, ok_met, ok_rev, ok_items, ok_lenSet, ok_pairs0, ok_pairs, ok_dict, ok_iSeq, ok_rng1, ok_rng2, ok_comp, ok_comp0, ok_for, List.getElem?_cons_zero, List.getElem?_cons_succ, Option.some.injEq, Sl.val.injEq, exists_eq_left', List.nil_append, List.append_nil, List.length_cons, List.length_nil, true_and, and_true, and_self, Nat.zero_add, Nat.reduceAdd, Nat.reduceLeDiff, gAdd_i, gSub_i, gNeg_i, gBl_e, gCmpI_i, gLst_o, gTup_o, gN_e, List.set_cons_zero, List.set_cons_succ, truD_b, gIsN_n, isNonD, gLen_l, gInt_b, gInt_i, Option.map_some, Bool.false_eq_true, if_true, if_false, Bool.not_true, Bool.not_false, keyD, walkD, ok_sOwn, ok_sFz, ok_cBor, ok_eBor, ok_sPut, ok_xNil, ok_xVal, ok_xOwn, ok_zip, ok_enum, ok_star, ok_sortItems, ok_dict0, ok_ixO, ok_parX, ok_parX3, gIxA_l, gIxA_t, gEqA_i, gEqA_s, atI_0, atI_1, atI_2, atI_3, gCmpO_i, intO, seqOf, isFlat, Bool.false_and]
      | true =>
        simp only [ok_seq, ok_asg, ok_par, ok_ret, ok_retN, ok_sNil, ok_sIf, ok_bin, ok_un, ok_var, ok_C, ok_call, ok_callK, ok_cons, ok_nil, ok_args, ok_tru, ok_not, ok_and, ok_or, ok_eNot, ok_eAnd, ok_eOr, ok_if, ok_cmp, ok_chain, ok_ofC, ok_oNone, ok_oSome, ok_sl, ok_met, ok_rev, ok_items, ok_lenSet, ok_pairs0, ok_pairs, ok_dict, ok_iSeq, ok_rng1, ok_rng2, ok_comp, ok_comp0, ok_for, List.getElem?_cons_zero, List.getElem?_cons_succ, Option.some.injEq, Sl.val.injEq, exists_eq_left', List.nil_append, List.append_nil, List.length_cons, List.length_nil, true_and, and_true, and_self, Nat.zero_add, Nat.reduceAdd, Nat.reduceLeDiff, gAdd_i, gSub_i, gNeg_i, gBl_e, gCmpI_i, gLst_o, gTup_o, gN_e, List.set_cons_zero, List.set_cons_succ, truD_b, gIsN_n, isNonD, gLen_l, gInt_b, gInt_i, Option.map_some, Bool.false_eq_true, if_true, if_false, Bool.not_true, Bool.not_false, keyD, walkD, ok_sOwn, ok_sFz, ok_cBor, ok_eBor, ok_sPut, ok_xNil, ok_xVal, ok_xOwn, ok_zip, ok_enum, ok_star, ok_sortItems, ok_dict0, ok_ixO, ok_parX, ok_parX3, gIxA_l, gIxA_t, gEqA_i, gEqA_s, atI_0, atI_1, atI_2, atI_3, gCmpO_i, intO, seqOf, isFlat, Bool.true_and]
        cases hq : isSeqD ps with
        | false => simp only [ok_seq, ok_asg, ok_par, ok_ret, ok_retN, ok_sNil, ok_sIf, ok_bin, ok_un, ok_var, ok_C, ok_call, ok_callK, ok_cons, ok_nil, ok_args, ok_tru, ok_not, ok_and, ok_or, ok_eNot, ok_eAnd, ok_eOr, ok_if, ok_cmp, ok_chain, ok_ofC, ok_oNone, ok_oSome, ok_sl, ok_met, ok_rev, ok_items, ok_lenSet, ok_pairs0, ok_pairs, ok_dict, ok_iSeq, ok_rng1, ok_rng2, ok_comp, ok_comp0, ok_for, List.getElem?_cons_zero, List.getElem?_cons_succ, Option.some.injEq, Sl.val.injEq, exists_eq_left', List.nil_append, List.append_nil, List.length_cons, List.length_nil, true_and, and_true, and_self, Nat.zero_add, Nat.reduceAdd, Nat.reduceLeDiff, gAdd_i, gSub_i, gNeg_i, gBl_e, gCmpI_i, gLst_o, gTup_o, gN_e, List.set_cons_zero, List.set_cons_succ, truD_b, gIsN_n, isNonD, gLen_l, gInt_b, gInt_i, Option.map_some, Bool.false_eq_true, if_true, if_false, Bool.not_true, Bool.not_false, keyD, walkD, ok_sOwn, ok_sFz, ok_cBor, ok_eBor, ok_sPut, ok_xNil, ok_xVal, ok_xOwn, ok_zip, ok_enum, ok_star, ok_sortItems, ok_dict0, ok_ixO, ok_parX, ok_parX3, gIxA_l, gIxA_t, gEqA_i, gEqA_s, atI_0, atI_1, atI_2, atI_3, gCmpO_i, intO, seqOf, isFlat, Bool.false_and]
        | true =>
          obtain ⟨hlp, hj⟩ := nice_items np
          simp only [ok_seq, ok_asg, ok_par, ok_ret, ok_retN, ok_sNil, ok_sIf, ok_bin, ok_un, ok_var, ok_C, ok_call, ok_callK, ok_cons, ok_nil, ok_args, ok_tru, ok_not, ok_and, ok_or, ok_eNot, ok_eAnd, ok_eOr, ok_if, ok_cmp, ok_chain, ok_ofC, ok_oNone, ok_oSome, ok_sl, ok_met, ok_rev, ok_items, ok_lenSet, ok_pairs0, ok_pairs, ok_dict, ok_iSeq, ok_rng1, ok_rng2, ok_comp, ok_comp0, ok_for, List.getElem?_cons_zero, List.getElem?_cons_succ, Option.some.injEq, Sl.val.injEq, exists_eq_left', List.nil_append, List.append_nil, List.length_cons, List.length_nil, true_and, and_true, and_self, Nat.zero_add, Nat.reduceAdd, Nat.reduceLeDiff, gAdd_i, gSub_i, gNeg_i, gBl_e, gCmpI_i, gLst_o, gTup_o, gN_e, List.set_cons_zero, List.set_cons_succ, truD_b, gIsN_n, isNonD, gLen_l, gInt_b, gInt_i, Option.map_some, Bool.false_eq_true, if_true, if_false, Bool.not_true, Bool.not_false, keyD, walkD, ok_sOwn, ok_sFz, ok_cBor, ok_eBor, ok_sPut, ok_xNil, ok_xVal, ok_xOwn, ok_zip, ok_enum, ok_star, ok_sortItems, ok_dict0, ok_ixO, ok_parX, ok_parX3, gIxA_l, gIxA_t, gEqA_i, gEqA_s, atI_0, atI_1, atI_2, atI_3, gCmpO_i, intO, seqOf, isFlat, Bool.true_and, seq_walk hq]
          rw [show ((itemsOf ps).all pairB && ((itemsOf ps).all nzB && ascR (itemsOf ps))) = ascL [] (itemsOf ps) from (ascL_0 _).symm]
          refine ⟨_, seq_walk hq, ?_⟩
          refine for_asc (mk := fun l s => [.val d, .val l, s]) (fun l x => (pairB x && gtL (cpsOf x) l) && nzB x) cpsOf ascL (fun _ => rfl) (fun l x r => by show _ = _; rw [Bool.and_assoc]; rfl) (fun x hx last s0 => ?_) (fun ha l s1 => ?_) fun ha ρ => ?_
          · refine ⟨[.val d, .val (.str (sx last)), .val x], rfl, ?_⟩
            have nx := hj x hx
            obtain ⟨_, hy⟩ := nice_items nx
            simp only [ok_seq, ok_asg, ok_par, ok_ret, ok_retN, ok_sNil, ok_sIf, ok_bin, ok_un, ok_var, ok_C, ok_call, ok_callK, ok_cons, ok_nil, ok_args, ok_tru, ok_not, ok_and, ok_or, ok_eNot, ok_eAnd, ok_eOr, ok_if, ok_cmp, ok_chain, ok_ofC, ok_oNone, ok_oSome, ok_sl, ok_met, ok_rev, ok_items, ok_lenSet, ok_pairs0, ok_pairs, ok_dict, ok_iSeq, ok_rng1, ok_rng2, ok_comp, ok_comp0, ok_for, List.getElem?_cons_zero, List.getElem?_cons_succ, Option.some.injEq, Sl.val.injEq, exists_eq_left', List.nil_append, List.append_nil, List.length_cons, List.length_nil, true_and, and_true, and_self, Nat.zero_add, Nat.reduceAdd, Nat.reduceLeDiff, gAdd_i, gSub_i, gNeg_i, gBl_e, gCmpI_i, gLst_o, gTup_o, gN_e, List.set_cons_zero, List.set_cons_succ, truD_b, gIsN_n, isNonD, gLen_l, gInt_b, gInt_i, Option.map_some, Bool.false_eq_true, if_true, if_false, Bool.not_true, Bool.not_false, keyD, walkD, ok_sOwn, ok_sFz, ok_cBor, ok_eBor, ok_sPut, ok_xNil, ok_xVal, ok_xOwn, ok_zip, ok_enum, ok_star, ok_sortItems, ok_dict0, ok_ixO, ok_parX, ok_parX3, gIxA_l, gIxA_t, gEqA_i, gEqA_s, atI_0, atI_1, atI_2, atI_3, gCmpO_i, intO, seqOf, isFlat, isi_seq (nice_plain nx)]
            cases hq2 : isSeqD x with
            | false =>
              simp only [ok_seq, ok_asg, ok_par, ok_ret, ok_retN, ok_sNil, ok_sIf, ok_bin, ok_un, ok_var, ok_C, ok_call, ok_callK, ok_cons, ok_nil, ok_args, ok_tru, ok_not, ok_and, ok_or, ok_eNot, ok_eAnd, ok_eOr, ok_if, ok_cmp, ok_chain, ok_ofC, ok_oNone, ok_oSome, ok_sl, ok_met, ok_rev, ok_items, ok_lenSet, ok_pairs0, ok_pairs, ok_dict, ok_iSeq, ok_rng1, ok_rng2, ok_comp, ok_comp0, ok_for, List.getElem?_cons_zero, List.getElem?_cons_succ, Option.some.injEq, Sl.val.injEq, exists_eq_left', List.nil_append, List.append_nil, List.length_cons, List.length_nil, true_and, and_true, and_self, Nat.zero_add, Nat.reduceAdd, Nat.reduceLeDiff, gAdd_i, gSub_i, gNeg_i, gBl_e, gCmpI_i, gLst_o, gTup_o, gN_e, List.set_cons_zero, List.set_cons_succ, truD_b, gIsN_n, isNonD, gLen_l, gInt_b, gInt_i, Option.map_some, Bool.false_eq_true, if_true, if_false, Bool.not_true, Bool.not_false, keyD, walkD, ok_sOwn, ok_sFz, ok_cBor, ok_eBor, ok_sPut, ok_xNil, ok_xVal, ok_xOwn, ok_zip, ok_enum, ok_star, ok_sortItems, ok_dict0, ok_ixO, ok_parX, ok_parX3, gIxA_l, gIxA_t, gEqA_i, gEqA_s, atI_0, atI_1, atI_2, atI_3, gCmpO_i, intO, seqOf, isFlat]
              exact ⟨fun z => by simp [pairB, hq2] at z, fun _ => trivial⟩
            | true =>
              simp only [ok_seq, ok_asg, ok_par, ok_ret, ok_retN, ok_sNil, ok_sIf, ok_bin, ok_un, ok_var, ok_C, ok_call, ok_callK, ok_cons, ok_nil, ok_args, ok_tru, ok_not, ok_and, ok_or, ok_eNot, ok_eAnd, ok_eOr, ok_if, ok_cmp, ok_chain, ok_ofC, ok_oNone, ok_oSome, ok_sl, ok_met, ok_rev, ok_items, ok_lenSet, ok_pairs0, ok_pairs, ok_dict, ok_iSeq, ok_rng1, ok_rng2, ok_comp, ok_comp0, ok_for, List.getElem?_cons_zero, List.getElem?_cons_succ, Option.some.injEq, Sl.val.injEq, exists_eq_left', List.nil_append, List.append_nil, List.length_cons, List.length_nil, true_and, and_true, and_self, Nat.zero_add, Nat.reduceAdd, Nat.reduceLeDiff, gAdd_i, gSub_i, gNeg_i, gBl_e, gCmpI_i, gLst_o, gTup_o, gN_e, List.set_cons_zero, List.set_cons_succ, truD_b, gIsN_n, isNonD, gLen_l, gInt_b, gInt_i, Option.map_some, Bool.false_eq_true, if_true, if_false, Bool.not_true, Bool.not_false, keyD, walkD, ok_sOwn, ok_sFz, ok_cBor, ok_eBor, ok_sPut, ok_xNil, ok_xVal, ok_xOwn, ok_zip, ok_enum, ok_star, ok_sortItems, ok_dict0, ok_ixO, ok_parX, ok_parX3, gIxA_l, gIxA_t, gEqA_i, gEqA_s, atI_0, atI_1, atI_2, atI_3, gCmpO_i, intO, seqOf, isFlat, seq_len hq2, eqX_in]
              by_cases hl2 : (itemsOf x).length = 2
              · obtain ⟨a, b, e3⟩ := two_of hl2
                have na : nice a = true := hy a (by rw [e3]; simp)
                have nb : nice b = true := hy b (by rw [e3]; simp)
                have e4 : (((itemsOf x).length : Int) == 2) = true := by rw [e3]; rfl
                simp only [e4, e20, ok_seq, ok_asg, ok_par, ok_ret, ok_retN, ok_sNil, ok_sIf, ok_bin, ok_un, ok_var, ok_C, ok_call, ok_callK, ok_cons, ok_nil, ok_args, ok_tru, ok_not, ok_and, ok_or, ok_eNot, ok_eAnd, ok_eOr, ok_if, ok_cmp, ok_chain, ok_ofC, ok_oNone, ok_oSome, ok_sl, ok_met, ok_rev, ok_items, ok_lenSet, ok_pairs0, ok_pairs, ok_dict, ok_iSeq, ok_rng1, ok_rng2, ok_comp, ok_comp0, ok_for, List.getElem?_cons_zero, List.getElem?_cons_succ, Option.some.injEq, Sl.val.injEq, exists_eq_left', List.nil_append, List.append_nil, List.length_cons, List.length_nil, true_and, and_true, and_self, Nat.zero_add, Nat.reduceAdd, Nat.reduceLeDiff, gAdd_i, gSub_i, gNeg_i, gBl_e, gCmpI_i, gLst_o, gTup_o, gN_e, List.set_cons_zero, List.set_cons_succ, truD_b, gIsN_n, isNonD, gLen_l, gInt_b, gInt_i, Option.map_some, Bool.false_eq_true, if_true, if_false, Bool.not_true, Bool.not_false, keyD, walkD, ok_sOwn, ok_sFz, ok_cBor, ok_eBor, ok_sPut, ok_xNil, ok_xVal, ok_xOwn, ok_zip, ok_enum, ok_star, ok_sortItems, ok_dict0, ok_ixO, ok_parX, ok_parX3, gIxA_l, gIxA_t, gEqA_i, gEqA_s, atI_0, atI_1, atI_2, atI_3, gCmpO_i, intO, seqOf, isFlat, seq_ix hq2, e3, L_is_name_eq (nice_plain na) (nice_short na), ok_ok]
                have ep : pairB x = (nameD a && isIntD b) := by unfold pairB; rw [hq2, e3]; rfl
                rw [ep]
                cases hn : nameD a with
                | false =>
                  simp only [ok_seq, ok_asg, ok_par, ok_ret, ok_retN, ok_sNil, ok_sIf, ok_bin, ok_un, ok_var, ok_C, ok_call, ok_callK, ok_cons, ok_nil, ok_args, ok_tru, ok_not, ok_and, ok_or, ok_eNot, ok_eAnd, ok_eOr, ok_if, ok_cmp, ok_chain, ok_ofC, ok_oNone, ok_oSome, ok_sl, ok_met, ok_rev, ok_items, ok_lenSet, ok_pairs0, ok_pairs, ok_dict, ok_iSeq, ok_rng1, ok_rng2, ok_comp, ok_comp0, ok_for, List.getElem?_cons_zero, List.getElem?_cons_succ, Option.some.injEq, Sl.val.injEq, exists_eq_left', List.nil_append, List.append_nil, List.length_cons, List.length_nil, true_and, and_true, and_self, Nat.zero_add, Nat.reduceAdd, Nat.reduceLeDiff, gAdd_i, gSub_i, gNeg_i, gBl_e, gCmpI_i, gLst_o, gTup_o, gN_e, List.set_cons_zero, List.set_cons_succ, truD_b, gIsN_n, isNonD, gLen_l, gInt_b, gInt_i, Option.map_some, Bool.false_eq_true, if_true, if_false, Bool.not_true, Bool.not_false, keyD, walkD, ok_sOwn, ok_sFz, ok_cBor, ok_eBor, ok_sPut, ok_xNil, ok_xVal, ok_xOwn, ok_zip, ok_enum, ok_star, ok_sortItems, ok_dict0, ok_ixO, ok_parX, ok_parX3, gIxA_l, gIxA_t, gEqA_i, gEqA_s, atI_0, atI_1, atI_2, atI_3, gCmpO_i, intO, seqOf, isFlat, Bool.false_and]
                  exact ⟨fun z => (by cases z), fun _ => trivial⟩
                | true =>
                  obtain ⟨s, rfl, _⟩ := name_str hn
                  have ec : cpsOf x = s.cps.toList := by unfold cpsOf; rw [e3]
                  rw [ec]
                  simp only [ok_seq, ok_asg, ok_par, ok_ret, ok_retN, ok_sNil, ok_sIf, ok_bin, ok_un, ok_var, ok_C, ok_call, ok_callK, ok_cons, ok_nil, ok_args, ok_tru, ok_not, ok_and, ok_or, ok_eNot, ok_eAnd, ok_eOr, ok_if, ok_cmp, ok_chain, ok_ofC, ok_oNone, ok_oSome, ok_sl, ok_met, ok_rev, ok_items, ok_lenSet, ok_pairs0, ok_pairs, ok_dict, ok_iSeq, ok_rng1, ok_rng2, ok_comp, ok_comp0, ok_for, List.getElem?_cons_zero, List.getElem?_cons_succ, Option.some.injEq, Sl.val.injEq, exists_eq_left', List.nil_append, List.append_nil, List.length_cons, List.length_nil, true_and, and_true, and_self, Nat.zero_add, Nat.reduceAdd, Nat.reduceLeDiff, gAdd_i, gSub_i, gNeg_i, gBl_e, gCmpI_i, gLst_o, gTup_o, gN_e, List.set_cons_zero, List.set_cons_succ, truD_b, gIsN_n, isNonD, gLen_l, gInt_b, gInt_i, Option.map_some, Bool.false_eq_true, if_true, if_false, Bool.not_true, Bool.not_false, keyD, walkD, ok_sOwn, ok_sFz, ok_cBor, ok_eBor, ok_sPut, ok_xNil, ok_xVal, ok_xOwn, ok_zip, ok_enum, ok_star, ok_sortItems, ok_dict0, ok_ixO, ok_parX, ok_parX3, gIxA_l, gIxA_t, gEqA_i, gEqA_s, atI_0, atI_1, atI_2, atI_3, gCmpO_i, intO, seqOf, isFlat, gCmpO_s, Bool.true_and]
                  cases hg : gtL s.cps.toList last with
                  | false =>
                    simp only [ok_seq, ok_asg, ok_par, ok_ret, ok_retN, ok_sNil, ok_sIf, ok_bin, ok_un, ok_var, ok_C, ok_call, ok_callK, ok_cons, ok_nil, ok_args, ok_tru, ok_not, ok_and, ok_or, ok_eNot, ok_eAnd, ok_eOr, ok_if, ok_cmp, ok_chain, ok_ofC, ok_oNone, ok_oSome, ok_sl, ok_met, ok_rev, ok_items, ok_lenSet, ok_pairs0, ok_pairs, ok_dict, ok_iSeq, ok_rng1, ok_rng2, ok_comp, ok_comp0, ok_for, List.getElem?_cons_zero, List.getElem?_cons_succ, Option.some.injEq, Sl.val.injEq, exists_eq_left', List.nil_append, List.append_nil, List.length_cons, List.length_nil, true_and, and_true, and_self, Nat.zero_add, Nat.reduceAdd, Nat.reduceLeDiff, gAdd_i, gSub_i, gNeg_i, gBl_e, gCmpI_i, gLst_o, gTup_o, gN_e, List.set_cons_zero, List.set_cons_succ, truD_b, gIsN_n, isNonD, gLen_l, gInt_b, gInt_i, Option.map_some, Bool.false_eq_true, if_true, if_false, Bool.not_true, Bool.not_false, keyD, walkD, ok_sOwn, ok_sFz, ok_cBor, ok_eBor, ok_sPut, ok_xNil, ok_xVal, ok_xOwn, ok_zip, ok_enum, ok_star, ok_sortItems, ok_dict0, ok_ixO, ok_parX, ok_parX3, gIxA_l, gIxA_t, gEqA_i, gEqA_s, atI_0, atI_1, atI_2, atI_3, gCmpO_i, intO, seqOf, isFlat, Bool.and_false, Bool.false_and]
                    exact ⟨fun z => (by cases z), fun _ => trivial⟩
                  | true =>
                    simp only [ok_seq, ok_asg, ok_par, ok_ret, ok_retN, ok_sNil, ok_sIf, ok_bin, ok_un, ok_var, ok_C, ok_call, ok_callK, ok_cons, ok_nil, ok_args, ok_tru, ok_not, ok_and, ok_or, ok_eNot, ok_eAnd, ok_eOr, ok_if, ok_cmp, ok_chain, ok_ofC, ok_oNone, ok_oSome, ok_sl, ok_met, ok_rev, ok_items, ok_lenSet, ok_pairs0, ok_pairs, ok_dict, ok_iSeq, ok_rng1, ok_rng2, ok_comp, ok_comp0, ok_for, List.getElem?_cons_zero, List.getElem?_cons_succ, Option.some.injEq, Sl.val.injEq, exists_eq_left', List.nil_append, List.append_nil, List.length_cons, List.length_nil, true_and, and_true, and_self, Nat.zero_add, Nat.reduceAdd, Nat.reduceLeDiff, gAdd_i, gSub_i, gNeg_i, gBl_e, gCmpI_i, gLst_o, gTup_o, gN_e, List.set_cons_zero, List.set_cons_succ, truD_b, gIsN_n, isNonD, gLen_l, gInt_b, gInt_i, Option.map_some, Bool.false_eq_true, if_true, if_false, Bool.not_true, Bool.not_false, keyD, walkD, ok_sOwn, ok_sFz, ok_cBor, ok_eBor, ok_sPut, ok_xNil, ok_xVal, ok_xOwn, ok_zip, ok_enum, ok_star, ok_sortItems, ok_dict0, ok_ixO, ok_parX, ok_parX3, gIxA_l, gIxA_t, gEqA_i, gEqA_s, atI_0, atI_1, atI_2, atI_3, gCmpO_i, intO, seqOf, isFlat, is_int_eq (nice_plain nb), ok_ok, Bool.and_true]
                    cases hb : isIntD b with
                    | false => simp only [ok_seq, ok_asg, ok_par, ok_ret, ok_retN, ok_sNil, ok_sIf, ok_bin, ok_un, ok_var, ok_C, ok_call, ok_callK, ok_cons, ok_nil, ok_args, ok_tru, ok_not, ok_and, ok_or, ok_eNot, ok_eAnd, ok_eOr, ok_if, ok_cmp, ok_chain, ok_ofC, ok_oNone, ok_oSome, ok_sl, ok_met, ok_rev, ok_items, ok_lenSet, ok_pairs0, ok_pairs, ok_dict, ok_iSeq, ok_rng1, ok_rng2, ok_comp, ok_comp0, ok_for, List.getElem?_cons_zero, List.getElem?_cons_succ, Option.some.injEq, Sl.val.injEq, exists_eq_left', List.nil_append, List.append_nil, List.length_cons, List.length_nil, true_and, and_true, and_self, Nat.zero_add, Nat.reduceAdd, Nat.reduceLeDiff, gAdd_i, gSub_i, gNeg_i, gBl_e, gCmpI_i, gLst_o, gTup_o, gN_e, List.set_cons_zero, List.set_cons_succ, truD_b, gIsN_n, isNonD, gLen_l, gInt_b, gInt_i, Option.map_some, Bool.false_eq_true, if_true, if_false, Bool.not_true, Bool.not_false, keyD, walkD, ok_sOwn, ok_sFz, ok_cBor, ok_eBor, ok_sPut, ok_xNil, ok_xVal, ok_xOwn, ok_zip, ok_enum, ok_star, ok_sortItems, ok_dict0, ok_ixO, ok_parX, ok_parX3, gIxA_l, gIxA_t, gEqA_i, gEqA_s, atI_0, atI_1, atI_2, atI_3, gCmpO_i, intO, seqOf, isFlat, Bool.false_and]; exact ⟨fun z => (by cases z), fun _ => trivial⟩
                    | true =>
                      obtain ⟨i, rfl⟩ := int_shape hb
                      have en : nzB x = !(i == 0) := by unfold nzB; rw [e3]
                      rw [en]
                      simp only [ok_seq, ok_asg, ok_par, ok_ret, ok_retN, ok_sNil, ok_sIf, ok_bin, ok_un, ok_var, ok_C, ok_call, ok_callK, ok_cons, ok_nil, ok_args, ok_tru, ok_not, ok_and, ok_or, ok_eNot, ok_eAnd, ok_eOr, ok_if, ok_cmp, ok_chain, ok_ofC, ok_oNone, ok_oSome, ok_sl, ok_met, ok_rev, ok_items, ok_lenSet, ok_pairs0, ok_pairs, ok_dict, ok_iSeq, ok_rng1, ok_rng2, ok_comp, ok_comp0, ok_for, List.getElem?_cons_zero, List.getElem?_cons_succ, Option.some.injEq, Sl.val.injEq, exists_eq_left', List.nil_append, List.append_nil, List.length_cons, List.length_nil, true_and, and_true, and_self, Nat.zero_add, Nat.reduceAdd, Nat.reduceLeDiff, gAdd_i, gSub_i, gNeg_i, gBl_e, gCmpI_i, gLst_o, gTup_o, gN_e, List.set_cons_zero, List.set_cons_succ, truD_b, gIsN_n, isNonD, gLen_l, gInt_b, gInt_i, Option.map_some, Bool.false_eq_true, if_true, if_false, Bool.not_true, Bool.not_false, keyD, walkD, ok_sOwn, ok_sFz, ok_cBor, ok_eBor, ok_sPut, ok_xNil, ok_xVal, ok_xOwn, ok_zip, ok_enum, ok_star, ok_sortItems, ok_dict0, ok_ixO, ok_parX, ok_parX3, gIxA_l, gIxA_t, gEqA_i, gEqA_s, atI_0, atI_1, atI_2, atI_3, gCmpO_i, intO, seqOf, isFlat, Bool.true_and]
                      cases hz : (i == 0) with
                      | true => simp only [ok_seq, ok_asg, ok_par, ok_ret, ok_retN, ok_sNil, ok_sIf, ok_bin, ok_un, ok_var, ok_C, ok_call, ok_callK, ok_cons, ok_nil, ok_args, ok_tru, ok_not, ok_and, ok_or, ok_eNot, ok_eAnd, ok_eOr, ok_if, ok_cmp, ok_chain, ok_ofC, ok_oNone, ok_oSome, ok_sl, ok_met, ok_rev, ok_items, ok_lenSet, ok_pairs0, ok_pairs, ok_dict, ok_iSeq, ok_rng1, ok_rng2, ok_comp, ok_comp0, ok_for, List.getElem?_cons_zero, List.getElem?_cons_succ, Option.some.injEq, Sl.val.injEq, exists_eq_left', List.nil_append, List.append_nil, List.length_cons, List.length_nil, true_and, and_true, and_self, Nat.zero_add, Nat.reduceAdd, Nat.reduceLeDiff, gAdd_i, gSub_i, gNeg_i, gBl_e, gCmpI_i, gLst_o, gTup_o, gN_e, List.set_cons_zero, List.set_cons_succ, truD_b, gIsN_n, isNonD, gLen_l, gInt_b, gInt_i, Option.map_some, Bool.false_eq_true, if_true, if_false, Bool.not_true, Bool.not_false, keyD, walkD, ok_sOwn, ok_sFz, ok_cBor, ok_eBor, ok_sPut, ok_xNil, ok_xVal, ok_xOwn, ok_zip, ok_enum, ok_star, ok_sortItems, ok_dict0, ok_ixO, ok_parX, ok_parX3, gIxA_l, gIxA_t, gEqA_i, gEqA_s, atI_0, atI_1, atI_2, atI_3, gCmpO_i, intO, seqOf, isFlat]; exact ⟨fun z => (by cases z), fun _ => trivial⟩
                      | false => simp only [ok_seq, ok_asg, ok_par, ok_ret, ok_retN, ok_sNil, ok_sIf, ok_bin, ok_un, ok_var, ok_C, ok_call, ok_callK, ok_cons, ok_nil, ok_args, ok_tru, ok_not, ok_and, ok_or, ok_eNot, ok_eAnd, ok_eOr, ok_if, ok_cmp, ok_chain, ok_ofC, ok_oNone, ok_oSome, ok_sl, ok_met, ok_rev, ok_items, ok_lenSet, ok_pairs0, ok_pairs, ok_dict, ok_iSeq, ok_rng1, ok_rng2, ok_comp, ok_comp0, ok_for, List.getElem?_cons_zero, List.getElem?_cons_succ, Option.some.injEq, Sl.val.injEq, exists_eq_left', List.nil_append, List.append_nil, List.length_cons, List.length_nil, true_and, and_true, and_self, Nat.zero_add, Nat.reduceAdd, Nat.reduceLeDiff, gAdd_i, gSub_i, gNeg_i, gBl_e, gCmpI_i, gLst_o, gTup_o, gN_e, List.set_cons_zero, List.set_cons_succ, truD_b, gIsN_n, isNonD, gLen_l, gInt_b, gInt_i, Option.map_some, Bool.false_eq_true, if_true, if_false, Bool.not_true, Bool.not_false, keyD, walkD, ok_sOwn, ok_sFz, ok_cBor, ok_eBor, ok_sPut, ok_xNil, ok_xVal, ok_xOwn, ok_zip, ok_enum, ok_star, ok_sortItems, ok_dict0, ok_ixO, ok_parX, ok_parX3, gIxA_l, gIxA_t, gEqA_i, gEqA_s, atI_0, atI_1, atI_2, atI_3, gCmpO_i, intO, seqOf, isFlat]; exact ⟨fun _ => ⟨_, rfl⟩, fun z => (by cases z)⟩
              · have e4 : (((itemsOf x).length : Int) == 2) = false := by
                  have := len_is (n := (itemsOf x).length) (k := 2)
                  rw [decide_eq_false hl2] at this
                  exact this
                simp only [e4, ok_seq, ok_asg, ok_par, ok_ret, ok_retN, ok_sNil, ok_sIf, ok_bin, ok_un, ok_var, ok_C, ok_call, ok_callK, ok_cons, ok_nil, ok_args, ok_tru, ok_not, ok_and, ok_or, ok_eNot, ok_eAnd, ok_eOr, ok_if, ok_cmp, ok_chain, ok_ofC, ok_oNone, ok_oSome, ok_sl, ok_met, ok_rev, ok_items, ok_lenSet, ok_pairs0, ok_pairs, ok_dict, ok_iSeq, ok_rng1, ok_rng2, ok_comp, ok_comp0, ok_for, List.getElem?_cons_zero, List.getElem?_cons_succ, Option.some.injEq, Sl.val.injEq, exists_eq_left', List.nil_append, List.append_nil, List.length_cons, List.length_nil, true_and, and_true, and_self, Nat.zero_add, Nat.reduceAdd, Nat.reduceLeDiff, gAdd_i, gSub_i, gNeg_i, gBl_e, gCmpI_i, gLst_o, gTup_o, gN_e, List.set_cons_zero, List.set_cons_succ, truD_b, gIsN_n, isNonD, gLen_l, gInt_b, gInt_i, Option.map_some, Bool.false_eq_true, if_true, if_false, Bool.not_true, Bool.not_false, keyD, walkD, ok_sOwn, ok_sFz, ok_cBor, ok_eBor, ok_sPut, ok_xNil, ok_xVal, ok_xOwn, ok_zip, ok_enum, ok_star, ok_sortItems, ok_dict0, ok_ixO, ok_parX, ok_parX3, gIxA_l, gIxA_t, gEqA_i, gEqA_s, atI_0, atI_1, atI_2, atI_3, gCmpO_i, intO, seqOf, isFlat]
                refine ⟨fun z => ?_, fun _ => trivial⟩
                have z : pairB x = true := (Bool.and_eq_true_iff.mp (Bool.and_eq_true_iff.mp z).1).1
                unfold pairB at z
                rw [hq2] at z
                simp only [Bool.true_and] at z
                split at z
                · rename_i a b e
                  rw [e] at hl2
                  exact absurd rfl hl2
                · cases z
          · have ha : ascL [] (itemsOf ps) = true := ha
            rw [ha]
            simp only [ok_seq, ok_asg, ok_par, ok_ret, ok_retN, ok_sNil, ok_sIf, ok_bin, ok_un, ok_var, ok_C, ok_call, ok_callK, ok_cons, ok_nil, ok_args, ok_tru, ok_not, ok_and, ok_or, ok_eNot, ok_eAnd, ok_eOr, ok_if, ok_cmp, ok_chain, ok_ofC, ok_oNone, ok_oSome, ok_sl, ok_met, ok_rev, ok_items, ok_lenSet, ok_pairs0, ok_pairs, ok_dict, ok_iSeq, ok_rng1, ok_rng2, ok_comp, ok_comp0, ok_for, List.getElem?_cons_zero, List.getElem?_cons_succ, Option.some.injEq, Sl.val.injEq, exists_eq_left', List.nil_append, List.append_nil, List.length_cons, List.length_nil, true_and, and_true, and_self, Nat.zero_add, Nat.reduceAdd, Nat.reduceLeDiff, gAdd_i, gSub_i, gNeg_i, gBl_e, gCmpI_i, gLst_o, gTup_o, gN_e, List.set_cons_zero, List.set_cons_succ, truD_b, gIsN_n, isNonD, gLen_l, gInt_b, gInt_i, Option.map_some, Bool.false_eq_true, if_true, if_false, Bool.not_true, Bool.not_false, keyD, walkD, ok_sOwn, ok_sFz, ok_cBor, ok_eBor, ok_sPut, ok_xNil, ok_xVal, ok_xOwn, ok_zip, ok_enum, ok_star, ok_sortItems, ok_dict0, ok_ixO, ok_parX, ok_parX3, gIxA_l, gIxA_t, gEqA_i, gEqA_s, atI_0, atI_1, atI_2, atI_3, gCmpO_i, intO, seqOf, isFlat]
          · have ha : ascL [] (itemsOf ps) = false := ha
            rw [ha]
            exact ⟨rfl, rfl⟩
    · have e2 : (((itemsOf d).length : Int) == 2) = false := by
        have := len_is (n := (itemsOf d).length) (k := 2)
        rw [decide_eq_false hl] at this
        exact this
      have ef : formB d = false := by
        unfold formB
        rw [hs]
        split
        · rename_i a b e
          rw [e] at hl; exact absurd rfl hl
        · rfl
      simp only [e2, ok_seq, ok_asg, ok_par, ok_ret, ok_retN, ok_sNil, ok_sIf, ok_bin, ok_un, ok_var, ok_C, ok_call, ok_callK, ok_cons, ok_nil, ok_args, ok_tru, ok_not, ok_and, ok_or, ok_eNot, ok_eAnd, ok_eOr, ok_if, ok_cmp, ok_chain, ok_ofC, ok_oNone, ok_oSome, ok_sl, ok_met, ok_rev, ok_items, ok_lenSet, ok_pairs0, ok_pairs, ok_dict, ok_iSeq, ok_rng1, ok_rng2, ok_comp, ok_comp0, ok_for, List.getElem?_cons_zero, List.getElem?_cons_succ, Option.some.injEq, Sl.val.injEq, exists_eq_left', List.nil_append, List.append_nil, List.length_cons, List.length_nil, true_and, and_true, and_self, Nat.zero_add, Nat.reduceAdd, Nat.reduceLeDiff, gAdd_i, gSub_i, gNeg_i, gBl_e, gCmpI_i, gLst_o, gTup_o, gN_e, List.set_cons_zero, List.set_cons_succ, truD_b, gIsN_n, isNonD, gLen_l, gInt_b, gInt_i, Option.map_some, Bool.false_eq_true, if_true, if_false, Bool.not_true, Bool.not_false, keyD, walkD, ok_sOwn, ok_sFz, ok_cBor, ok_eBor, ok_sPut, ok_xNil, ok_xVal, ok_xOwn, ok_zip, ok_enum, ok_star, ok_sortItems, ok_dict0, ok_ixO, ok_parX, ok_parX3, gIxA_l, gIxA_t, gEqA_i, gEqA_s, atI_0, atI_1, atI_2, atI_3, gCmpO_i, intO, seqOf, isFlat, ef]
end G

set_option Elab.async false
set_option linter.all false
set_option maxRecDepth 100000
set_option maxHeartbeats 8000000
/-! NF1: trees with short leaves (claims apart): ok_ifS, heights, fit, repr, lists for tuples, picks. -/
namespace G
open PySem PySem.Spec PyProof.Rows L2
theorem ok_ifS {b : Ev → M Bool} {s t : Sm} {ρ : Ev} {c : Churn} {kp : Ev × Ctl → Churn → Prop} (x : Bool) (h : Ok (b ρ c) fun y c1 => y = x ∧ c1 = c)
    (h1 : x = true → Ok (s ρ c) fun p c1 => ∃ d, p.2 = .ret d ∧ kp (p.1, .ret d) c1) (h2 : x = false → Ok (t ρ c) kp) : Ok (sSeq (sIf b s sNil) t ρ c) kp := by
  rw [ok_seq, ok_sIf]
  refine h.mono fun y c1 ⟨e1, e2⟩ => ?_
  subst e1 e2
  cases y with
  | true =>
    refine (h1 rfl).mono fun p c1 ⟨d, e1, e2⟩ => ?_
    obtain ⟨ρ1, ctl⟩ := p
    cases e1
    exact e2
  | false =>
    rw [if_neg Bool.false_ne_true, ok_sNil]
    exact h2 rfl
theorem hgtA_mem : ∀ {ds : List D} {d : D}, d ∈ ds → hgt d ≤ hgtA ds
  | [], d, h => by cases h
  | e :: ds, d, h => by
    have e1 : hgtA (e :: ds) = max (hgt e) (hgtA ds) := by rw [hgtA]
    rcases List.mem_cons.mp h with z | z
    · subst z; omega
    · have := hgtA_mem z; omega
theorem hgt_item {v x : D} (h : x ∈ itemsOf v) : hgt x < hgt v := by
  cases v with
  | lst xs => have := hgtA_mem (show x ∈ xs from h); rw [hgt.eq_1]; omega
  | tup xs => have := hgtA_mem (show x ∈ xs from h); rw [hgt.eq_2]; omega
  | _ => cases h
theorem nice_in {v x : D} (n : nice v = true) (h : x ∈ itemsOf v) : nice x = true := (nice_items n).2 x h
theorem one_ofL {α : Type} {xs : List α} (h : xs.length = 1) : ∃ a, xs = [a] := by
  match xs, h with
  | [a], _ => exact ⟨a, rfl⟩
theorem three_of {α : Type} {xs : List α} (h : xs.length = 3) : ∃ a b c, xs = [a, b, c] := by
  match xs, h with
  | [a, b, c], _ => exact ⟨a, b, c, rfl⟩
theorem len_no {n k : Nat} (h : ¬ n = k) : ((n : Int) == (k : Int)) = false := by rw [len_is, decide_eq_false h]
theorem len_yes {n k : Nat} (h : n = k) : ((n : Int) == (k : Int)) = true := by rw [len_is, decide_eq_true h]
theorem len_0 {n : Nat} : (((n + 1 : Nat) : Int) == 1) = decide (n = 0) := by
  by_cases h : n = 0
  · rw [decide_eq_true h]; subst h; rfl
  · rw [decide_eq_false h]; exact len_no (k := 1) (by omega)
def fitS (x : Str) : Bool := (x.cps.toList.all fun c => decide (c < 16 ^ 8)) && decide (x.cps.size ≤ 20)
mutual
/-- short at its leaves, no keys -/
def fit : D → Bool
  | .non => true
  | .bl _ => true
  | .int i => sizI i
  | .str x => fitS x
  | .lst xs => fitA xs
  | .tup xs => fitA xs
  | .dic ks vs => ks.isEmpty && vs.isEmpty
  | _ => false
def fitA : List D → Bool
  | [] => true
  | d :: ds => fit d && fitA ds
end
theorem cntA_len : ∀ ds : List D, ds.length ≤ cntA ds
  | [] => Nat.zero_le _
  | d :: ds => by
    have ih := cntA_len ds
    have h1 : 1 ≤ cnt d := by cases d <;> simp [cnt] <;> omega
    rw [List.length_cons, cntA]; omega
theorem fitS_size {x : Str} (h : fitS x = true) : x.cps.size ≤ 20 := of_decide_eq_true (Bool.and_eq_true_iff.mp h).2
mutual
theorem fit_tame : ∀ {d : D}, fit d = true → tame d = true
  | .non, _ => by simp only [tame]
  | .bl _, _ => by simp only [tame]
  | .int i, h => by simpa only [tame, fit] using h
  | .str x, h => by
    simp only [fit] at h
    simp only [tame, sizS, (Bool.and_eq_true_iff.mp h).1, Bool.true_and]
    exact decide_eq_true (Nat.le_trans (fitS_size h) (by decide))
  | .lst xs, h => by simp only [fit] at h; simp only [tame]; exact fit_tameA h
  | .tup xs, h => by simp only [fit] at h; simp only [tame]; exact fit_tameA h
  | .dic ks vs, h => by
    simp only [fit, Bool.and_eq_true, List.isEmpty_iff] at h
    obtain ⟨rfl, rfl⟩ := h
    simp [tame, tameA]
  | .obj _, h => by simp [fit] at h
  | .ty _, h => by simp [fit] at h
  | .chn, h => by simp [fit] at h
  | .scr _, h => by simp [fit] at h
theorem fit_tameA : ∀ {ds : List D}, fitA ds = true → tameA ds = true
  | [], _ => by simp only [tameA]
  | d :: ds, h => by
    simp only [fitA, Bool.and_eq_true] at h
    simp only [tameA, fit_tame h.1, fit_tameA h.2, Bool.and_self]
end
mutual
theorem fit_nice : ∀ {d : D}, fit d = true → cnt d ≤ 1000000 → nice d = true
  | .non, _, _ => by simp only [nice]
  | .bl _, _, _ => by simp only [nice]
  | .int i, h, _ => by simp only [nice]
  | .str x, h, _ => by
    simp only [fit] at h
    simp only [nice]
    exact decide_eq_true (Nat.le_trans (fitS_size h) (by decide))
  | .lst xs, h, hc => by
    simp only [fit] at h
    simp only [cnt] at hc
    have := cntA_len xs
    simp only [nice, fit_niceA h (by omega), Bool.and_true]
    exact decide_eq_true (by omega)
  | .tup xs, h, hc => by
    simp only [fit] at h
    simp only [cnt] at hc
    have := cntA_len xs
    simp only [nice, fit_niceA h (by omega), Bool.and_true]
    exact decide_eq_true (by omega)
  | .dic ks vs, h, _ => by
    simp only [fit, Bool.and_eq_true, List.isEmpty_iff] at h
    obtain ⟨rfl, rfl⟩ := h
    simp [nice, niceA]
  | .obj _, h, _ => by simp [fit] at h
  | .ty _, h, _ => by simp [fit] at h
  | .chn, h, _ => by simp [fit] at h
  | .scr _, h, _ => by simp [fit] at h
theorem fit_niceA : ∀ {ds : List D}, fitA ds = true → cntA ds ≤ 1000000 → niceA ds = true
  | [], _, _ => by simp only [niceA]
  | d :: ds, h, hc => by
    simp only [fitA, Bool.and_eq_true] at h
    simp only [cntA] at hc
    simp only [niceA, fit_nice h.1 (by omega), fit_niceA h.2 (by omega), Bool.and_self]
end
mutual
theorem fit_bulk : ∀ {d : D} {p : PyData}, fit d = true → toPyR d = some p → p.bulk + 1 ≤ 22 * cnt d
  | .non, p, _, e => by simp only [toPyR] at e; cases e; simp [PyData.bulk, cnt]
  | .bl _, p, _, e => by simp only [toPyR] at e; cases e; simp [PyData.bulk, cnt]
  | .int i, p, h, e => by simp only [toPyR] at e; cases e; simp [PyData.bulk, cnt]
  | .str x, p, h, e => by
    simp only [toPyR] at e; cases e
    simp only [fit] at h
    have := fitS_size h
    simp only [PyData.bulk, cnt]; omega
  | .lst xs, p, h, e => by
    simp only [fit] at h
    simp only [toPyR] at e
    cases hp : toPyRA xs with
    | none => rw [hp] at e; cases e
    | some ps =>
      rw [hp] at e; cases e
      have := fitA_bulk h hp
      simp only [PyData.bulk, cnt]; omega
  | .tup xs, p, h, e => by
    simp only [fit] at h
    simp only [toPyR] at e
    cases hp : toPyRA xs with
    | none => rw [hp] at e; cases e
    | some ps =>
      rw [hp] at e; cases e
      have := fitA_bulk h hp
      simp only [PyData.bulk, cnt]; omega
  | .dic ks vs, p, h, e => by
    simp only [fit, Bool.and_eq_true, List.isEmpty_iff] at h
    obtain ⟨rfl, rfl⟩ := h
    simp only [toPyR, toPyRA, Option.map_some] at e
    cases e
    simp [PyData.bulk, PyData.bulkKv, cnt, cntA]
  | .obj _, p, h, _ => by simp [fit] at h
  | .ty _, p, h, _ => by simp [fit] at h
  | .chn, p, h, _ => by simp [fit] at h
  | .scr _, p, h, _ => by simp [fit] at h
theorem fitA_bulk : ∀ {ds : List D} {ps : List PyData}, fitA ds = true → toPyRA ds = some ps → PyData.bulkAll ps ≤ 22 * cntA ds
  | [], ps, _, e => by simp only [toPyRA] at e; cases e; simp [PyData.bulkAll]
  | d :: ds, ps, h, e => by
    simp only [fitA, Bool.and_eq_true] at h
    simp only [toPyRA] at e
    cases h1 : toPyR d with
    | none => rw [h1] at e; cases e
    | some p =>
      cases h2 : toPyRA ds with
      | none => rw [h1, h2] at e; cases e
      | some qs =>
        rw [h1, h2] at e; cases e
        have a := fit_bulk h.1 h1
        have b := fitA_bulk h.2 h2
        simp only [PyData.bulkAll, cntA]; omega
end
theorem gRepr_f {d : D} (t : fit d = true) (hc : cnt d ≤ 10000) (hh : hgt d ≤ 60) : gRepr [d] = some (.str (shw d)) := by
  obtain ⟨p, e, f⟩ := fine_of (fit_tame t)
  have hs := PyData.shown_le_bulk 61 (by decide) p f.leaf
  have w := fit_bulk t e
  have dp := f.dep
  have k : okShow p = true := by
    unfold okShow
    rw [f.show_, decide_eq_true (show p.shown.length ≤ sizeLine from ?_), decide_eq_true (show p.depth ≤ 64 by omega)]
    · rfl
    · have : sizeLine = 16777216 := by decide
      omega
  show (toPyR d).bind (fun p => if okShow p = true then some (D.str p.shown) else none) = _
  unfold shw
  rw [e]
  show (if okShow p = true then some (D.str p.shown) else none) = some (D.str p.shown)
  rw [if_pos k]
/-- a fit tree of some size -/
structure Fit (B H : Nat) (d : D) : Prop where
  f : fit d = true
  c : cnt d ≤ B
  h : hgt d ≤ H
theorem Fit.up {B B2 H H2 : Nat} {d : D} (x : Fit B H d) (h1 : B ≤ B2) (h2 : H ≤ H2) : Fit B2 H2 d := ⟨x.f, Nat.le_trans x.c h1, Nat.le_trans x.h h2⟩
theorem fitA_iff : ∀ {ds : List D}, fitA ds = true ↔ ∀ d ∈ ds, fit d = true
  | [] => by simp [fitA]
  | d :: ds => by simp [fitA, fitA_iff (ds := ds)]
theorem hgtA_le {H : Nat} : ∀ {ds : List D}, (∀ d ∈ ds, hgt d ≤ H) → hgtA ds ≤ H
  | [], _ => by simp [hgtA]
  | d :: ds, h => by
    have h1 := h d (by simp)
    have h2 := hgtA_le fun x hx => h x (List.mem_cons_of_mem _ hx)
    rw [hgtA]; omega
theorem fit_lst {xs : List D} : fit (.lst xs) = fitA xs := by simp only [fit]
theorem fit_tup {xs : List D} : fit (.tup xs) = fitA xs := by simp only [fit]
/-- lists for tuples -/
def listP : Nat → D → D
  | 0 => id
  | m + 1 => fun v => if isSeqD v then .lst ((itemsOf v).map (listP m)) else v
theorem listed_all : ∀ (m n : Nat) (v : D) (c : Churn), hgt v < m → m ≤ n → nice v = true → F_L_listed n [v] c = .ok (listP m v) c
  | 0, n, v, c, h, _, _ => by omega
  | m + 1, n, v, c, h, hn, nv => by
    obtain ⟨k, rfl⟩ : ∃ k, n = k + 1 := ⟨n - 1, by omega⟩
    have W := listed_all m
    apply eq_of_ok
    show Ok (G.nx (runDef 2 (g_L_listed (F_L_listed k)) [v]) c) _
    rw [ok_def]
    show Ok (g_L_listed (F_L_listed k) [.val v, .no] c) _
    unfold g_L_listed
    have el : listP (m + 1) v = if isSeqD v then .lst ((itemsOf v).map (listP m)) else v := rfl
    rw [el]
    refine ok_ifS (isSeqD v) ?_ (fun hs => ?_) fun hs => ?_
    · simp only [ok_seq, ok_asg, ok_par, ok_ret, ok_retN, ok_sNil, ok_sIf, ok_bin, ok_un, ok_var, ok_C, ok_call, ok_callK, ok_cons, ok_nil, ok_args, ok_tru, ok_not, ok_and, ok_or, ok_eNot, ok_eAnd, ok_eOr, ok_if, ok_cmp, ok_chain, ok_ofC, ok_oNone, ok_oSome, ok_sl, ok_met, ok_rev, ok_items, ok_lenSet, ok_pairs0, ok_pairs, ok_dict, ok_iSeq, ok_rng1, ok_rng2, ok_comp, ok_comp0, ok_for, List.getElem?_cons_zero, List.getElem?_cons_succ, Option.some.injEq, Sl.val.injEq, exists_eq_left', List.nil_append, List.append_nil, List.length_cons, List.length_nil, true_and, and_true, and_self, Nat.zero_add, Nat.reduceAdd, Nat.reduceLeDiff, gAdd_i, gSub_i, gNeg_i, gBl_e, gCmpI_i, gLst_o, gTup_o, gN_e, List.set_cons_zero, List.set_cons_succ, truD_b, gIsN_n, isNonD, gLen_l, gInt_b, gInt_i, Option.map_some, Bool.false_eq_true, if_true, if_false, Bool.not_true, Bool.not_false, keyD, walkD, ok_sOwn, ok_sFz, ok_cBor, ok_eBor, ok_sPut, ok_xNil, ok_xVal, ok_xOwn, ok_zip, ok_enum, ok_star, ok_sortItems, ok_dict0, ok_ixO, ok_parX, ok_parX3, gIxA_l, gIxA_t, gEqA_i, gEqA_s, atI_0, atI_1, atI_2, atI_3, gCmpO_i, intO, seqOf, isFlat, isi_seq (nice_plain nv)]
    · simp only [ok_seq, ok_asg, ok_par, ok_ret, ok_retN, ok_sNil, ok_sIf, ok_bin, ok_un, ok_var, ok_C, ok_call, ok_callK, ok_cons, ok_nil, ok_args, ok_tru, ok_not, ok_and, ok_or, ok_eNot, ok_eAnd, ok_eOr, ok_if, ok_cmp, ok_chain, ok_ofC, ok_oNone, ok_oSome, ok_sl, ok_met, ok_rev, ok_items, ok_lenSet, ok_pairs0, ok_pairs, ok_dict, ok_iSeq, ok_rng1, ok_rng2, ok_comp, ok_comp0, ok_for, List.getElem?_cons_zero, List.getElem?_cons_succ, Option.some.injEq, Sl.val.injEq, exists_eq_left', List.nil_append, List.append_nil, List.length_cons, List.length_nil, true_and, and_true, and_self, Nat.zero_add, Nat.reduceAdd, Nat.reduceLeDiff, gAdd_i, gSub_i, gNeg_i, gBl_e, gCmpI_i, gLst_o, gTup_o, gN_e, List.set_cons_zero, List.set_cons_succ, truD_b, gIsN_n, isNonD, gLen_l, gInt_b, gInt_i, Option.map_some, Bool.false_eq_true, if_true, if_false, Bool.not_true, Bool.not_false, keyD, walkD, ok_sOwn, ok_sFz, ok_cBor, ok_eBor, ok_sPut, ok_xNil, ok_xVal, ok_xOwn, ok_zip, ok_enum, ok_star, ok_sortItems, ok_dict0, ok_ixO, ok_parX, ok_parX3, gIxA_l, gIxA_t, gEqA_i, gEqA_s, atI_0, atI_1, atI_2, atI_3, gCmpO_i, intO, seqOf, isFlat, Ctl.ret.injEq, hs]
      refine ⟨_, seq_walk hs, size_line (nice_items nv).1, ?_⟩
      refine comp_map (listP m) (fun x hx c => ⟨_, rfl, rfl, ?_⟩) ⟨rfl, rfl⟩
      apply eq_of_ok
      have := hgt_item hx
      simp only [ok_seq, ok_asg, ok_par, ok_ret, ok_retN, ok_sNil, ok_sIf, ok_bin, ok_un, ok_var, ok_C, ok_call, ok_callK, ok_cons, ok_nil, ok_args, ok_tru, ok_not, ok_and, ok_or, ok_eNot, ok_eAnd, ok_eOr, ok_if, ok_cmp, ok_chain, ok_ofC, ok_oNone, ok_oSome, ok_sl, ok_met, ok_rev, ok_items, ok_lenSet, ok_pairs0, ok_pairs, ok_dict, ok_iSeq, ok_rng1, ok_rng2, ok_comp, ok_comp0, ok_for, List.getElem?_cons_zero, List.getElem?_cons_succ, Option.some.injEq, Sl.val.injEq, exists_eq_left', List.nil_append, List.append_nil, List.length_cons, List.length_nil, true_and, and_true, and_self, Nat.zero_add, Nat.reduceAdd, Nat.reduceLeDiff, gAdd_i, gSub_i, gNeg_i, gBl_e, gCmpI_i, gLst_o, gTup_o, gN_e, List.set_cons_zero, List.set_cons_succ, truD_b, gIsN_n, isNonD, gLen_l, gInt_b, gInt_i, Option.map_some, Bool.false_eq_true, if_true, if_false, Bool.not_true, Bool.not_false, keyD, walkD, ok_sOwn, ok_sFz, ok_cBor, ok_eBor, ok_sPut, ok_xNil, ok_xVal, ok_xOwn, ok_zip, ok_enum, ok_star, ok_sortItems, ok_dict0, ok_ixO, ok_parX, ok_parX3, gIxA_l, gIxA_t, gEqA_i, gEqA_s, atI_0, atI_1, atI_2, atI_3, gCmpO_i, intO, seqOf, isFlat, wipeE, W k x _ (by omega) (by omega) (nice_in nv hx), ok_ok]
    · simp only [ok_seq, ok_asg, ok_par, ok_ret, ok_retN, ok_sNil, ok_sIf, ok_bin, ok_un, ok_var, ok_C, ok_call, ok_callK, ok_cons, ok_nil, ok_args, ok_tru, ok_not, ok_and, ok_or, ok_eNot, ok_eAnd, ok_eOr, ok_if, ok_cmp, ok_chain, ok_ofC, ok_oNone, ok_oSome, ok_sl, ok_met, ok_rev, ok_items, ok_lenSet, ok_pairs0, ok_pairs, ok_dict, ok_iSeq, ok_rng1, ok_rng2, ok_comp, ok_comp0, ok_for, List.getElem?_cons_zero, List.getElem?_cons_succ, Option.some.injEq, Sl.val.injEq, exists_eq_left', List.nil_append, List.append_nil, List.length_cons, List.length_nil, true_and, and_true, and_self, Nat.zero_add, Nat.reduceAdd, Nat.reduceLeDiff, gAdd_i, gSub_i, gNeg_i, gBl_e, gCmpI_i, gLst_o, gTup_o, gN_e, List.set_cons_zero, List.set_cons_succ, truD_b, gIsN_n, isNonD, gLen_l, gInt_b, gInt_i, Option.map_some, Bool.false_eq_true, if_true, if_false, Bool.not_true, Bool.not_false, keyD, walkD, ok_sOwn, ok_sFz, ok_cBor, ok_eBor, ok_sPut, ok_xNil, ok_xVal, ok_xOwn, ok_zip, ok_enum, ok_star, ok_sortItems, ok_dict0, ok_ixO, ok_parX, ok_parX3, gIxA_l, gIxA_t, gEqA_i, gEqA_s, atI_0, atI_1, atI_2, atI_3, gCmpO_i, intO, seqOf, isFlat, hs]
theorem map_fit {f : D → D} : ∀ {xs : List D}, (∀ x ∈ xs, fit x = true → fit (f x) = true ∧ cnt (f x) = cnt x ∧ hgt (f x) = hgt x) → fitA xs = true → fitA (xs.map f) = true ∧ cntA (xs.map f) = cntA xs ∧ hgtA (xs.map f) = hgtA xs
  | [], _, _ => ⟨rfl, rfl, rfl⟩
  | x :: xs, h, hf => by
    simp only [fitA, Bool.and_eq_true] at hf
    obtain ⟨a, b, c⟩ := h x (by simp) hf.1
    obtain ⟨a2, b2, c2⟩ := map_fit (fun y hy => h y (List.mem_cons_of_mem _ hy)) hf.2
    simp only [List.map_cons, fitA, cntA, hgtA, a, a2, b, b2, c, c2, Bool.and_self, and_self]
theorem listed_fit : ∀ (m : Nat) (v : D), fit v = true → fit (listP m v) = true ∧ cnt (listP m v) = cnt v ∧ hgt (listP m v) = hgt v
  | 0, v, h => ⟨h, rfl, rfl⟩
  | m + 1, v, h => by
    have ih := listed_fit m
    have el : listP (m + 1) v = if isSeqD v then .lst ((itemsOf v).map (listP m)) else v := rfl
    rw [el]
    cases v with
    | lst xs =>
      rw [fit_lst] at h
      obtain ⟨a, b, c⟩ := map_fit (fun x _ hx => ih x hx) h
      show fit (.lst (xs.map (listP m))) = true ∧ cnt (.lst (xs.map (listP m))) = _ ∧ hgt (.lst (xs.map (listP m))) = _
      simp only [fit, cnt, hgt, a, b, c, and_self]
    | tup xs =>
      rw [fit_tup] at h
      obtain ⟨a, b, c⟩ := map_fit (fun x _ hx => ih x hx) h
      show fit (.lst (xs.map (listP m))) = true ∧ cnt (.lst (xs.map (listP m))) = _ ∧ hgt (.lst (xs.map (listP m))) = _
      simp only [fit, cnt, hgt, a, b, c, and_self]
    | _ => exact ⟨h, rfl, rfl⟩
theorem draw_ok {n : Nat} {c : Churn} {j : Int} {k : D → Churn → Prop} (g : Good n c) (hn : n + 1 ≤ 2 ^ 20) (hj : 1 ≤ j) (hj2 : j ≤ 2 ^ 62) (q : ∀ r c', 0 ≤ r → r < j → Good (n + 1) c' → k (.int r) c') : Ok (F_draw [.chn, .int j] c) k :=
  draw1 (by decide) (by decide) (by decide) (by decide) (by decide) (by decide) (by decide) g hn hj hj2 q
theorem pick_ok {n : Nat} {c : Churn} {xs : List D} {k : D → Churn → Prop} (g : Good n c) (hn : n + 1 ≤ 2 ^ 20) (h1 : 1 ≤ xs.length) (h2 : xs.length ≤ 2 ^ 62) (q : ∀ x ∈ xs, ∀ c', Good (n + 1) c' → k x c') : Ok (F_L_pick [.chn, .lst xs] c) k := by
  show Ok (G.nx (runDef 2 g_L_pick [.chn, .lst xs]) c) k
  rw [ok_def]
  show Ok (g_L_pick [.val .chn, .val (.lst xs)] c) _
  unfold g_L_pick
  simp only [ok_seq, ok_asg, ok_par, ok_ret, ok_retN, ok_sNil, ok_sIf, ok_bin, ok_un, ok_var, ok_C, ok_call, ok_callK, ok_cons, ok_nil, ok_args, ok_tru, ok_not, ok_and, ok_or, ok_eNot, ok_eAnd, ok_eOr, ok_if, ok_cmp, ok_chain, ok_ofC, ok_oNone, ok_oSome, ok_sl, ok_met, ok_rev, ok_items, ok_lenSet, ok_pairs0, ok_pairs, ok_dict, ok_iSeq, ok_rng1, ok_rng2, ok_comp, ok_comp0, ok_for, List.getElem?_cons_zero, List.getElem?_cons_succ, Option.some.injEq, Sl.val.injEq, exists_eq_left', List.nil_append, List.append_nil, List.length_cons, List.length_nil, true_and, and_true, and_self, Nat.zero_add, Nat.reduceAdd, Nat.reduceLeDiff, gAdd_i, gSub_i, gNeg_i, gBl_e, gCmpI_i, gLst_o, gTup_o, gN_e, List.set_cons_zero, List.set_cons_succ, truD_b, gIsN_n, isNonD, gLen_l, gInt_b, gInt_i, Option.map_some, Bool.false_eq_true, if_true, if_false, Bool.not_true, Bool.not_false, keyD, walkD, ok_sOwn, ok_sFz, ok_cBor, ok_eBor, ok_sPut, ok_xNil, ok_xVal, ok_xOwn, ok_zip, ok_enum, ok_star, ok_sortItems, ok_dict0, ok_ixO, ok_parX, ok_parX3, gIxA_l, gIxA_t, gEqA_i, gEqA_s, atI_0, atI_1, atI_2, atI_3, gCmpO_i, intO, seqOf, isFlat]
  refine draw_ok g hn (by omega) (by omega) fun r c' h0 h1 g' => ?_
  obtain ⟨x, hx, e⟩ := atI_mem h0 h1
  exact ⟨x, e, q x hx c' g'⟩
theorem sizI_of0 {i : Int} (h : i.natAbs < 10 ^ 60) : sizI i = true := decide_eq_true h
def leafF (x : D) : Prop := fit x = true ∧ cnt x = 1 ∧ hgt x = 0
theorem leaf_s {s : Str} (h : fitS s = true) : leafF (.str s) := ⟨by simpa only [fit] using h, by simp only [cnt], by simp only [hgt]⟩
theorem leaf_i {i : Int} (h : i.natAbs < 10 ^ 60) : leafF (.int i) := ⟨by simpa only [fit] using sizI_of0 h, by simp only [cnt], by simp only [hgt]⟩
theorem fit_all {B H : Nat} : ∀ {ds : List D}, (∀ d ∈ ds, Fit B H d) → fitA ds = true ∧ cntA ds ≤ B * ds.length ∧ hgtA ds ≤ H
  | [], _ => ⟨rfl, by simp [cntA], by simp [hgtA]⟩
  | d :: ds, h => by
    have f := h d (by simp)
    obtain ⟨a, b, c⟩ := fit_all fun x hx => h x (List.mem_cons_of_mem _ hx)
    refine ⟨by simp only [fitA, f.f, a, Bool.and_self], ?_, ?_⟩
    · rw [cntA, List.length_cons, Nat.mul_succ]; have := f.c; omega
    · rw [hgtA]; have := f.h; omega
theorem sizI_of {i : Int} (h : i.natAbs < 10 ^ 60) : sizI i = true := decide_eq_true h
end G

set_option Elab.async false
set_option linter.all false
set_option maxRecDepth 100000
set_option maxHeartbeats 8000000
/-! NJ1: factors added up by name: plain facts. -/
namespace G
open PySem PySem.Spec PyProof.Rows L2
abbrev NI := Str × Int
def kP (p : NI) : Key := .inr p.1
def vP (p : NI) : D := .int p.2
def dctP (ps : List NI) : D := .dic (ps.map kP) (ps.map vP)
def getP : List NI → Str → Int
  | [], _ => 0
  | p :: r, n => if p.1 = n then p.2 else getP r n
def addP (n : Str) (i : Int) : List NI → List NI
  | [] => [(n, i)]
  | p :: r => if p.1 = n then (p.1, p.2 + i) :: r else p :: addP n i r
theorem put_addP (n : Str) (i : Int) : ∀ ps : List NI, putD (ps.map kP) (ps.map vP) (.inr n) (.int (getP ps n + i)) = ((addP n i ps).map kP, (addP n i ps).map vP)
  | [] => by
    show putD [] [] (.inr n) (.int (0 + i)) = ([.inr n], [.int i])
    rw [Int.zero_add]; rfl
  | p :: r => by
    show putD (kP p :: r.map kP) (vP p :: r.map vP) (.inr n) (.int (getP (p :: r) n + i)) = _
    unfold putD getP addP
    by_cases h : p.1 = n
    · rw [if_pos h, if_pos h, if_pos (show kP p = .inr n from congrArg Sum.inr h)]; rfl
    · rw [if_neg h, if_neg h, if_neg (show ¬ kP p = .inr n from fun z => h (Sum.inr.inj z)), put_addP n i r]; rfl
theorem look_getP (n : Str) : ∀ ps : List NI, lookD (ps.map kP) (ps.map vP) (.inr n) = if n ∈ ps.map (·.1) then some (.int (getP ps n)) else none
  | [] => rfl
  | p :: r => by
    show (if kP p = .inr n then some (vP p) else lookD (r.map kP) (r.map vP) (.inr n)) = _
    unfold getP
    by_cases h : p.1 = n
    · rw [if_pos (show kP p = .inr n from congrArg Sum.inr h), if_pos h, if_pos (by simp [h])]; rfl
    · rw [if_neg (show ¬ kP p = .inr n from fun z => h (Sum.inr.inj z)), if_neg h, look_getP n r]
      have e : (n ∈ (p :: r).map (·.1)) ↔ n ∈ r.map (·.1) := by
        rw [List.map_cons, List.mem_cons]
        exact ⟨fun z => z.resolve_left fun e => h e.symm, .inr⟩
      by_cases m : n ∈ r.map (·.1)
      · rw [if_pos m, if_pos (e.mpr m)]
      · rw [if_neg m, if_neg fun z => m (e.mp z)]
theorem getP_no {n : Str} : ∀ {ps : List NI}, n ∉ ps.map (·.1) → getP ps n = 0
  | [], _ => rfl
  | p :: r, h => by
    rw [List.map_cons, List.mem_cons, not_or] at h
    unfold getP
    rw [if_neg fun e => h.1 e.symm, getP_no h.2]
theorem gGet_P {n : Str} {ps : List NI} : gGet (dctP ps) [.str n, .int 0] = some (.int (getP ps n)) := by
  show some ((lookD (ps.map kP) (ps.map vP) (.inr n)).getD (.int 0)) = _
  rw [look_getP]
  by_cases h : n ∈ ps.map (·.1)
  · rw [if_pos h]; rfl
  · rw [if_neg h, getP_no h]; rfl
theorem gIx_P {n : Str} {ps : List NI} (h : n ∈ ps.map (·.1)) : gIxA (dctP ps) (.str n) = some (.int (getP ps n)) := by
  show lookD (ps.map kP) (ps.map vP) (.inr n) = _
  rw [look_getP, if_pos h]
theorem get_addP (m n : Str) (i : Int) : ∀ ps : List NI, getP (addP m i ps) n = getP ps n + if m = n then i else 0
  | [] => by
    show (if m = n then i else 0) = 0 + _
    rw [Int.zero_add]
  | p :: r => by
    unfold addP
    by_cases h : p.1 = m
    · rw [if_pos h]
      show (if p.1 = n then p.2 + i else getP r n) = (if p.1 = n then p.2 else getP r n) + _
      subst h
      by_cases z : p.1 = n
      · simp only [if_pos z]
      · simp only [if_neg z, Int.add_zero]
    · rw [if_neg h]
      show (if p.1 = n then p.2 else getP (addP m i r) n) = (if p.1 = n then p.2 else getP r n) + _
      by_cases z : p.1 = n
      · rw [if_pos z, if_pos z, if_neg fun e => h (z.trans e.symm), Int.add_zero]
      · rw [if_neg z, if_neg z, get_addP m n i r]
theorem mem_k {n : Str} {ps : List NI} : (.inr n : Key) ∈ ps.map kP ↔ n ∈ ps.map (·.1) := by
  simp [kP, List.mem_map]
theorem key_stepP {n : Str} {i : Int} : ∀ ps : List NI, (addP n i ps).map kP = stepK (ps.map kP) (.inr n)
  | [] => rfl
  | p :: r => by
    have ih := key_stepP (n := n) (i := i) r
    have e : hasK ((p :: r).map kP) (.inr n) = (decide (kP p = .inr n) || hasK (r.map kP) (.inr n)) := rfl
    unfold addP
    unfold stepK at ih ⊢
    rw [e]
    by_cases h : p.1 = n
    · have hk : kP p = .inr n := congrArg Sum.inr h
      rw [if_pos h, decide_eq_true hk, Bool.true_or, if_pos rfl]; rfl
    · have hk : ¬ kP p = .inr n := fun z => h (Sum.inr.inj z)
      rw [if_neg h, decide_eq_false hk, Bool.false_or, List.map_cons, ih]
      by_cases m : hasK (r.map kP) (.inr n) = true
      · rw [if_pos m, if_pos m]; rfl
      · rw [if_neg m, if_neg m]; rfl
/-- all pairs added up -/
def sumP (acc : List NI) : List NI → List NI
  | [] => acc
  | p :: r => sumP (addP p.1 p.2 acc) r
theorem key_sumP : ∀ (qs acc : List NI), (sumP acc qs).map kP = metK (acc.map kP) (qs.map kP)
  | [], acc => rfl
  | p :: r, acc => by
    show (sumP (addP p.1 p.2 acc) r).map kP = metK (stepK (acc.map kP) (.inr p.1)) (r.map kP)
    rw [key_sumP r, key_stepP]
/-- the sum of a name's factors -/
def totP (n : Str) (qs : List NI) : Int := ((qs.filter fun p => decide (p.1 = n)).map (·.2)).sum
theorem get_sumP (n : Str) : ∀ (qs acc : List NI), getP (sumP acc qs) n = getP acc n + totP n qs
  | [], acc => (Int.add_zero _).symm
  | p :: r, acc => by
    show getP (sumP (addP p.1 p.2 acc) r) n = _
    rw [get_sumP n r, get_addP]
    unfold totP
    by_cases h : p.1 = n
    · rw [if_pos h, List.filter_cons_of_pos (by simpa using h), List.map_cons, List.sum_cons]; omega
    · rw [if_neg h, List.filter_cons_of_neg (by simpa using h)]; omega
theorem sum_tot {n : Str} {qs : List NI} : getP (sumP [] qs) n = totP n qs := by
  rw [get_sumP]; exact Int.zero_add _
end G

set_option Elab.async false
set_option linter.all false
set_option maxRecDepth 100000
set_option maxHeartbeats 8000000
/-! NJ2: pairs added up, by the program and by the law. -/
namespace G
open PySem PySem.Spec PyProof.Rows L2
theorem sort1 (ss : List Str) (h : ss.length ≤ 1000) : sortOk (ss.map D.str) = true := by
  have a1 : ∀ p q : Str, PySem.W.alike (encD (.str p)) (encD (.str q)) = true := fun p q => by kernel_rfl
  have a2 : ∀ p : Str, (toPy (.str p)).isSome = true := fun p => by kernel_rfl
  have a3 : ∀ p : Str, decide ((encD (.str p)).depth ≤ 64) = true := fun p => by kernel_rfl
  have a4 : ∀ p : Str, othB (encD (.str p)) = true := fun p => by kernel_rfl
  unfold sortOk
  simp only [List.all_map, Function.comp_def, a1, a2, a3, a4, Bool.and_self, List.length_map, show (ss.all fun _ => true) = true from by simp, Bool.true_and, Bool.or_true]
  exact decide_eq_true (Nat.le_trans h (by decide))
/-- pairs of a name and a number, as lists or as tuples -/
def IsP (d : D) (p : NI) : Prop := d = .tup [.str p.1, .int p.2] ∨ d = .lst [.str p.1, .int p.2]
def nzT (qs : List NI) : D → Bool
  | .str n => !(totP n qs == 0)
  | _ => false
def rowT (qs : List NI) : D → D
  | .str n => .tup [.str n, .int (totP n qs)]
  | d => d
/-- the names, ascending -/
def ascP (qs : List NI) : List D := sortD (setL (qs.map kP))
def rowsP (qs : List NI) : List D := ((ascP qs).filter (nzT qs)).map (rowT qs)
theorem metK_le0 (ks : List Key) : (metK [] ks).length ≤ ks.length := by have := metK_le ks []; simpa using this
theorem met_inr : ∀ (qs : List NI) (acc : List Str), ∃ ss : List Str, metK (acc.map Sum.inr) (qs.map kP) = ss.map Sum.inr ∧ ∀ s ∈ ss, s ∈ acc ∨ s ∈ qs.map (·.1)
  | [], acc => ⟨acc, rfl, fun s h => .inl h⟩
  | p :: r, acc => by
    have e : stepK (acc.map Sum.inr) (kP p) = (if hasK (acc.map Sum.inr) (kP p) = true then acc else acc ++ [p.1]).map Sum.inr := by
      unfold stepK
      by_cases m : hasK (acc.map Sum.inr) (kP p) = true
      · rw [if_pos m, if_pos m]
      · rw [if_neg m, if_neg m, List.map_append]; rfl
    obtain ⟨ss, h1, h2⟩ := met_inr r (if hasK (acc.map Sum.inr) (kP p) = true then acc else acc ++ [p.1])
    refine ⟨ss, ?_, fun s hs => ?_⟩
    · show metK (stepK (acc.map Sum.inr) (kP p)) (r.map kP) = _
      rw [e, h1]
    · rcases h2 s hs with z | z
      · split at z
        · exact .inl z
        · rcases List.mem_append.mp z with y | y
          · exact .inl y
          · exact .inr (by rw [List.mem_singleton.mp y]; simp)
      · exact .inr (by rw [List.map_cons]; exact List.mem_cons_of_mem _ z)
theorem set_strs (qs : List NI) : ∃ ss : List Str, setL (qs.map kP) = ss.map D.str ∧ metK [] (qs.map kP) = ss.map Sum.inr ∧ ss.length ≤ qs.length ∧ ∀ s ∈ ss, s ∈ qs.map (·.1) := by
  obtain ⟨ss, h1, h2⟩ := met_inr qs []
  have h1 : metK [] (qs.map kP) = ss.map Sum.inr := h1
  refine ⟨ss, ?_, h1, ?_, fun s hs => (h2 s hs).resolve_left (by simp)⟩
  · unfold setL
    rw [h1, List.map_map]; rfl
  · have := metK_le0 (qs.map kP)
    rw [h1, List.length_map, List.length_map] at this
    exact this
theorem asc_mem {qs : List NI} {d : D} (h : d ∈ ascP qs) : ∃ n, d = .str n ∧ n ∈ qs.map (·.1) := by
  have h : d ∈ setL (qs.map kP) := List.mem_mergeSort.mp h
  obtain ⟨ss, e, _, _, m⟩ := set_strs qs
  rw [e] at h
  obtain ⟨s, hs, rfl⟩ := List.mem_map.mp h
  exact ⟨s, rfl, m s hs⟩
theorem asc_len (qs : List NI) : (ascP qs).length ≤ qs.length := by
  obtain ⟨ss, e, _, l, _⟩ := set_strs qs
  unfold ascP sortD
  rw [List.length_mergeSort, e, List.length_map]; exact l
theorem key_all (qs : List NI) : (sumP [] qs).map kP = metK [] (qs.map kP) := key_sumP qs []
theorem mem_sumP {qs : List NI} {n : Str} (h : D.str n ∈ ascP qs) : n ∈ (sumP [] qs).map (·.1) := by
  have h : D.str n ∈ setL (qs.map kP) := List.mem_mergeSort.mp h
  obtain ⟨ss, e, e2, _, _⟩ := set_strs qs
  rw [e] at h
  obtain ⟨s, hs, z⟩ := List.mem_map.mp h
  cases z
  have : (.inr n : Key) ∈ (sumP [] qs).map kP := by
    rw [key_all, e2]
    exact List.mem_map.mpr ⟨n, hs, rfl⟩
  exact mem_k.mp this
end G

set_option Elab.async false
set_option linter.all false
set_option maxRecDepth 100000
set_option maxHeartbeats 8000000
/-! NJ3: pairs added up: the walk of both. -/
namespace G
open PySem PySem.Spec PyProof.Rows L2
/-- a loop that changes one thing and draws nothing -/
theorem for_foldP {t : Tg} {s : Sm} {c : Churn} {B Z : Type} (mk : B → Z → Ev) (g : B → D → B) (I : Nat → B → Prop) (N : Nat) (hI : ∀ n b d, n + 1 ≤ N → I n b → I (n + 1) (g b d)) : ∀ {ds : List D} {n : Nat} {b : B} {z : Z} {kp : Ev × Ctl → Churn → Prop},
    (∀ d ∈ ds, ∀ n b z, n + 1 ≤ N → I n b → ∃ ρ1, t d (mk b z) = some ρ1 ∧ Ok (s ρ1 c) fun p c1 => p.2 = .nx ∧ c = c1 ∧ ∃ z1, p.1 = mk (g b d) z1) → I n b → n + ds.length ≤ N → (∀ z, kp (mk (ds.foldl g b) z, .nx) c) → Ok (forM' t s ds (mk b z) c) kp
  | [], n, b, z, kp, _, _, _, q => q z
  | d :: ds, n, b, z, kp, hs, i, hn, q => by
    rw [ok_forS]
    rw [List.length_cons] at hn
    obtain ⟨ρ1, e1, h⟩ := hs d (List.mem_cons_self ..) n b z (by omega) i
    refine ⟨ρ1, e1, h.mono fun p c1 ⟨e2, ec, z1, e3⟩ => ?_⟩
    obtain ⟨ρ2, ctl⟩ := p
    cases e2
    cases e3
    subst ec
    exact for_foldP mk g I N hI (n := n + 1) (fun d hd => hs d (List.mem_cons_of_mem _ hd)) (hI n b d (by omega) i) (by omega) q
theorem ok_sortSet {fa : Ev → M D} {ρ : Ev} {c : Churn} {k : D → Churn → Prop} : Ok (eSortSet fa ρ c) k = Ok (fa ρ c) fun x c1 => ∃ z, gSortSet x = some z ∧ k z c1 := by
  unfold eSortSet; simp only [ok_bind, ok_lift]
theorem sum_fold (f : D → NI) : ∀ (ds : List D) (acc : List NI), sumP acc (ds.map f) = ds.foldl (fun a d => addP (f d).1 (f d).2 a) acc
  | [], acc => rfl
  | d :: ds, acc => sum_fold f ds _
theorem len_addP (n : Str) (i : Int) : ∀ ps : List NI, (addP n i ps).length ≤ ps.length + 1
  | [] => Nat.le_refl _
  | p :: r => by
    have := len_addP n i r
    unfold addP
    split
    · simp
    · simp only [List.length_cons]; omega
theorem app_fold (p : D → Bool) (h : D → D) : ∀ (ds acc : List D), ds.foldl (fun a d => a ++ (if p d then [h d] else [])) acc = acc ++ (ds.filter p).map h
  | [], acc => by simp
  | d :: ds, acc => by
    rw [List.foldl_cons, app_fold p h ds]
    cases e : p d with
    | true => rw [List.filter_cons_of_pos e]; simp
    | false => rw [List.filter_cons_of_neg (by simp [e])]; simp
theorem keys_strs (f : D → NI) : ∀ ds : List D, keysA (ds.map fun d => .str (f d).1) = some ((ds.map f).map kP)
  | [] => rfl
  | d :: ds => by
    show (keyD (.str (f d).1)).bind (fun k => (keysA (ds.map fun d => .str (f d).1)).map (k :: ·)) = _
    rw [keys_strs f ds]; rfl
theorem strsK_inr : ∀ ss : List Str, strsK (ss.map Sum.inr) = some ss
  | [] => rfl
  | s :: ss => by
    show (strsK (ss.map Sum.inr)).map (s :: ·) = _
    rw [strsK_inr ss]; rfl
theorem sortSet_P (f : D → NI) {ds : List D} (hl : ds.length ≤ 1000) : gSortSet (.lst (ds.map fun d => .str (f d).1)) = some (.lst (ascP (ds.map f))) := by
  show (keysA (ds.map fun d => .str (f d).1)).bind (fun ks => if ks.length ≤ 4000 ∧ sortOk (setL ks) = true ∧ oneKind (metK [] ks) = true then some (D.lst (sortD (setL ks))) else none) = _
  rw [keys_strs, Option.bind_some]
  obtain ⟨ss, e1, e2, l, _⟩ := set_strs (ds.map f)
  have l2 : ss.length ≤ 1000 := by rw [List.length_map] at l; omega
  rw [if_pos]
  · rfl
  · refine ⟨by simp; omega, by rw [e1]; exact sort1 ss l2, ?_⟩
    unfold oneKind
    rw [e2, strsK_inr]; rfl
theorem asc_dict {qs : List NI} (hl : qs.length ≤ 1000) : gSortA [dctP (sumP [] qs)] = some (.lst (ascP qs)) := by
  obtain ⟨ss, e1, e2, l, _⟩ := set_strs qs
  show (if sortOk (((sumP [] qs).map kP).map dKey) = true then some (D.lst (sortD (((sumP [] qs).map kP).map dKey))) else none) = _
  have e : ((sumP [] qs).map kP).map dKey = setL (qs.map kP) := by rw [key_all]; rfl
  rw [e, if_pos (by rw [e1]; exact sort1 ss (by omega))]; rfl
theorem gs34 {d : D} {p : NI} {a b c e g : Sl} (h : IsP d p) : gS [gN 3, gN 4] d [a, b, c, e, g] = some [a, b, c, .val (.str p.1), .val (.int p.2)] := by
  rcases h with rfl | rfl <;> rfl
theorem gs56 {d : D} {p : NI} {a b c e g i j : Sl} (h : IsP d p) : gS [gN 5, gN 6] d [a, b, c, e, g, i, j] = some [a, b, c, e, g, .val (.str p.1), .val (.int p.2)] := by
  rcases h with rfl | rfl <;> rfl
theorem joined_eq {k : Int} {v : D} {ds : List D} {f : D → NI} {c : Churn} (hw : walkD v = some ds) (hf : ∀ d ∈ ds, IsP d (f d)) (hl : ds.length ≤ 1000) :
    F_joined [.int k, v] c = .ok (.tup [.int k, .tup (rowsP (ds.map f))]) c := by
  apply eq_of_ok
  show Ok (G.nx (runDef 5 g_joined [.int k, v]) c) _
  rw [ok_def]
  show Ok (g_joined [.val (.int k), .val v, .no, .no, .no] c) _
  unfold g_joined
  refine ok_step (fun ρ c1 => ρ = [.val (.int k), .val v, .own (dctP []), .no, .no] ∧ c = c1) ?_ fun ρ c1 hm => ?_
  · simp only [ok_seq, ok_asg, ok_par, ok_ret, ok_retN, ok_sNil, ok_sIf, ok_bin, ok_un, ok_var, ok_C, ok_call, ok_callK, ok_cons, ok_nil, ok_args, ok_tru, ok_not, ok_and, ok_or, ok_eNot, ok_eAnd, ok_eOr, ok_if, ok_cmp, ok_chain, ok_ofC, ok_oNone, ok_oSome, ok_sl, ok_met, ok_rev, ok_items, ok_lenSet, ok_pairs0, ok_pairs, ok_dict, ok_iSeq, ok_rng1, ok_rng2, ok_comp, ok_comp0, ok_for, List.getElem?_cons_zero, List.getElem?_cons_succ, Option.some.injEq, Sl.val.injEq, exists_eq_left', List.nil_append, List.append_nil, List.length_cons, List.length_nil, true_and, and_true, and_self, Nat.zero_add, Nat.reduceAdd, Nat.reduceLeDiff, gAdd_i, gSub_i, gNeg_i, gBl_e, gCmpI_i, gLst_o, gTup_o, gN_e, List.set_cons_zero, List.set_cons_succ, truD_b, gIsN_n, isNonD, gLen_l, gInt_b, gInt_i, Option.map_some, Bool.false_eq_true, if_true, if_false, Bool.not_true, Bool.not_false, keyD, walkD, ok_sOwn, ok_sFz, ok_cBor, ok_eBor, ok_sPut, ok_xNil, ok_xVal, ok_xOwn, ok_zip, ok_enum, ok_star, ok_sortItems, ok_dict0, ok_ixO, ok_parX, ok_parX3, gIxA_l, gIxA_t, gEqA_i, gEqA_s, atI_0, atI_1, atI_2, atI_3, gCmpO_i, intO, seqOf, isFlat]; rfl
  obtain ⟨rfl, rfl⟩ := hm
  refine ok_step (fun ρ c1 => ∃ z : Sl × Sl, ρ = [.val (.int k), .val v, .own (dctP (sumP [] (ds.map f))), z.1, z.2] ∧ c = c1) ?_ fun ρ c1 hm => ?_
  · simp only [ok_seq, ok_asg, ok_par, ok_ret, ok_retN, ok_sNil, ok_sIf, ok_bin, ok_un, ok_var, ok_C, ok_call, ok_callK, ok_cons, ok_nil, ok_args, ok_tru, ok_not, ok_and, ok_or, ok_eNot, ok_eAnd, ok_eOr, ok_if, ok_cmp, ok_chain, ok_ofC, ok_oNone, ok_oSome, ok_sl, ok_met, ok_rev, ok_items, ok_lenSet, ok_pairs0, ok_pairs, ok_dict, ok_iSeq, ok_rng1, ok_rng2, ok_comp, ok_comp0, ok_for, List.getElem?_cons_zero, List.getElem?_cons_succ, Option.some.injEq, Sl.val.injEq, exists_eq_left', List.nil_append, List.append_nil, List.length_cons, List.length_nil, true_and, and_true, and_self, Nat.zero_add, Nat.reduceAdd, Nat.reduceLeDiff, gAdd_i, gSub_i, gNeg_i, gBl_e, gCmpI_i, gLst_o, gTup_o, gN_e, List.set_cons_zero, List.set_cons_succ, truD_b, gIsN_n, isNonD, gLen_l, gInt_b, gInt_i, Option.map_some, Bool.false_eq_true, if_true, if_false, Bool.not_true, Bool.not_false, keyD, walkD, ok_sOwn, ok_sFz, ok_cBor, ok_eBor, ok_sPut, ok_xNil, ok_xVal, ok_xOwn, ok_zip, ok_enum, ok_star, ok_sortItems, ok_dict0, ok_ixO, ok_parX, ok_parX3, gIxA_l, gIxA_t, gEqA_i, gEqA_s, atI_0, atI_1, atI_2, atI_3, gCmpO_i, intO, seqOf, isFlat]
    refine ⟨ds, hw, ?_⟩
    refine for_foldP (mk := fun (b : List NI) (z : Sl × Sl) => [.val (.int k), .val v, .own (dctP b), z.1, z.2]) (fun a d => addP (f d).1 (f d).2 a) (fun n b => b.length ≤ n) 1000 (fun n b d _ h => Nat.le_trans (len_addP _ _ _) (Nat.succ_le_succ h)) (n := 0) (z := (.no, .no)) (fun d hd n b z hn hb => ?_) (Nat.zero_le _) (by omega) fun z => ?_
    · refine ⟨[.val (.int k), .val v, .own (dctP b), .val (.str (f d).1), .val (.int (f d).2)], ?_, ?_⟩
      · exact gs34 (hf d hd)
      · have fz : frzE 2 [.val (.int k), .val v, .own (dctP b), .val (.str (f d).1), .val (.int (f d).2)] = [.val (.int k), .val v, .val (dctP b), .val (.str (f d).1), .val (.int (f d).2)] := rfl
        have ty : tyD "dict" (dctP b) = true := rfl
        have put : gPutK (dctP b) (.str (f d).1) (.int (getP b (f d).1 + (f d).2)) = some (dctP (addP (f d).1 (f d).2 b)) := by
          show (if (b.map kP).length < sizeLine then some (D.dic (putD (b.map kP) (b.map vP) (.inr (f d).1) (.int (getP b (f d).1 + (f d).2))).1 (putD (b.map kP) (b.map vP) (.inr (f d).1) (.int (getP b (f d).1 + (f d).2))).2) else none) = _
          rw [if_pos (show _ < sizeLine by rw [List.length_map]; have : sizeLine = 16777216 := by decide
                                           omega), put_addP]; rfl
        simp only [ok_seq, ok_asg, ok_par, ok_ret, ok_retN, ok_sNil, ok_sIf, ok_bin, ok_un, ok_var, ok_C, ok_call, ok_callK, ok_cons, ok_nil, ok_args, ok_tru, ok_not, ok_and, ok_or, ok_eNot, ok_eAnd, ok_eOr, ok_if, ok_cmp, ok_chain, ok_ofC, ok_oNone, ok_oSome, ok_sl, ok_met, ok_rev, ok_items, ok_lenSet, ok_pairs0, ok_pairs, ok_dict, ok_iSeq, ok_rng1, ok_rng2, ok_comp, ok_comp0, ok_for, List.getElem?_cons_zero, List.getElem?_cons_succ, Option.some.injEq, Sl.val.injEq, exists_eq_left', List.nil_append, List.append_nil, List.length_cons, List.length_nil, true_and, and_true, and_self, Nat.zero_add, Nat.reduceAdd, Nat.reduceLeDiff, gAdd_i, gSub_i, gNeg_i, gBl_e, gCmpI_i, gLst_o, gTup_o, gN_e, List.set_cons_zero, List.set_cons_succ, truD_b, gIsN_n, isNonD, gLen_l, gInt_b, gInt_i, Option.map_some, Bool.false_eq_true, if_true, if_false, Bool.not_true, Bool.not_false, keyD, walkD, ok_sOwn, ok_sFz, ok_cBor, ok_eBor, ok_sPut, ok_xNil, ok_xVal, ok_xOwn, ok_zip, ok_enum, ok_star, ok_sortItems, ok_dict0, ok_ixO, ok_parX, ok_parX3, gIxA_l, gIxA_t, gEqA_i, gEqA_s, atI_0, atI_1, atI_2, atI_3, gCmpO_i, intO, seqOf, isFlat, fz, ok_met, ty, gGet_P, put, Sl.own.injEq]
        exact ⟨(.val (.str (f d).1), .val (.int (f d).2)), rfl⟩
    · exact ⟨rfl, z, by rw [sum_fold], rfl⟩
  obtain ⟨z, rfl, rfl⟩ := hm
  have fz : frzE 2 [.val (.int k), .val v, .own (dctP (sumP [] (ds.map f))), z.1, z.2] = [.val (.int k), .val v, .val (dctP (sumP [] (ds.map f))), z.1, z.2] := rfl
  have hq : (ds.map f).length ≤ 1000 := by rw [List.length_map]; exact hl
  have ge : ∀ n, D.str n ∈ ascP (ds.map f) → gIxA (dctP (sumP [] (ds.map f))) (.str n) = some (.int (totP n (ds.map f))) := fun n hn => by rw [gIx_P (mem_sumP hn), sum_tot]
  simp only [ok_seq, ok_asg, ok_par, ok_ret, ok_retN, ok_sNil, ok_sIf, ok_bin, ok_un, ok_var, ok_C, ok_call, ok_callK, ok_cons, ok_nil, ok_args, ok_tru, ok_not, ok_and, ok_or, ok_eNot, ok_eAnd, ok_eOr, ok_if, ok_cmp, ok_chain, ok_ofC, ok_oNone, ok_oSome, ok_sl, ok_met, ok_rev, ok_items, ok_lenSet, ok_pairs0, ok_pairs, ok_dict, ok_iSeq, ok_rng1, ok_rng2, ok_comp, ok_comp0, ok_for, List.getElem?_cons_zero, List.getElem?_cons_succ, Option.some.injEq, Sl.val.injEq, exists_eq_left', List.nil_append, List.append_nil, List.length_cons, List.length_nil, true_and, and_true, and_self, Nat.zero_add, Nat.reduceAdd, Nat.reduceLeDiff, gAdd_i, gSub_i, gNeg_i, gBl_e, gCmpI_i, gLst_o, gTup_o, gN_e, List.set_cons_zero, List.set_cons_succ, truD_b, gIsN_n, isNonD, gLen_l, gInt_b, gInt_i, Option.map_some, Bool.false_eq_true, if_true, if_false, Bool.not_true, Bool.not_false, keyD, walkD, ok_sOwn, ok_sFz, ok_cBor, ok_eBor, ok_sPut, ok_xNil, ok_xVal, ok_xOwn, ok_zip, ok_enum, ok_star, ok_sortItems, ok_dict0, ok_ixO, ok_parX, ok_parX3, gIxA_l, gIxA_t, gEqA_i, gEqA_s, atI_0, atI_1, atI_2, atI_3, gCmpO_i, intO, seqOf, isFlat, fz, asc_dict hq]
  refine ⟨size_line (by have := asc_len (ds.map f); omega), ?_⟩
  refine comp_filter (nzT (ds.map f)) (rowT (ds.map f)) (fun d hd c => ?_) ?_
  · obtain ⟨n, rfl, _⟩ := asc_mem hd
    refine ⟨_, rfl, ?_, fun _ => ?_⟩
    · apply eq_of_ok
      simp only [ok_seq, ok_asg, ok_par, ok_ret, ok_retN, ok_sNil, ok_sIf, ok_bin, ok_un, ok_var, ok_C, ok_call, ok_callK, ok_cons, ok_nil, ok_args, ok_tru, ok_not, ok_and, ok_or, ok_eNot, ok_eAnd, ok_eOr, ok_if, ok_cmp, ok_chain, ok_ofC, ok_oNone, ok_oSome, ok_sl, ok_met, ok_rev, ok_items, ok_lenSet, ok_pairs0, ok_pairs, ok_dict, ok_iSeq, ok_rng1, ok_rng2, ok_comp, ok_comp0, ok_for, List.getElem?_cons_zero, List.getElem?_cons_succ, Option.some.injEq, Sl.val.injEq, exists_eq_left', List.nil_append, List.append_nil, List.length_cons, List.length_nil, true_and, and_true, and_self, Nat.zero_add, Nat.reduceAdd, Nat.reduceLeDiff, gAdd_i, gSub_i, gNeg_i, gBl_e, gCmpI_i, gLst_o, gTup_o, gN_e, List.set_cons_zero, List.set_cons_succ, truD_b, gIsN_n, isNonD, gLen_l, gInt_b, gInt_i, Option.map_some, Bool.false_eq_true, if_true, if_false, Bool.not_true, Bool.not_false, keyD, walkD, ok_sOwn, ok_sFz, ok_cBor, ok_eBor, ok_sPut, ok_xNil, ok_xVal, ok_xOwn, ok_zip, ok_enum, ok_star, ok_sortItems, ok_dict0, ok_ixO, ok_parX, ok_parX3, gIxA_l, gIxA_t, gEqA_i, gEqA_s, atI_0, atI_1, atI_2, atI_3, gCmpO_i, intO, seqOf, isFlat, wipeE, ge n hd, eqX_in, nzT]
    · apply eq_of_ok
      simp only [ok_seq, ok_asg, ok_par, ok_ret, ok_retN, ok_sNil, ok_sIf, ok_bin, ok_un, ok_var, ok_C, ok_call, ok_callK, ok_cons, ok_nil, ok_args, ok_tru, ok_not, ok_and, ok_or, ok_eNot, ok_eAnd, ok_eOr, ok_if, ok_cmp, ok_chain, ok_ofC, ok_oNone, ok_oSome, ok_sl, ok_met, ok_rev, ok_items, ok_lenSet, ok_pairs0, ok_pairs, ok_dict, ok_iSeq, ok_rng1, ok_rng2, ok_comp, ok_comp0, ok_for, List.getElem?_cons_zero, List.getElem?_cons_succ, Option.some.injEq, Sl.val.injEq, exists_eq_left', List.nil_append, List.append_nil, List.length_cons, List.length_nil, true_and, and_true, and_self, Nat.zero_add, Nat.reduceAdd, Nat.reduceLeDiff, gAdd_i, gSub_i, gNeg_i, gBl_e, gCmpI_i, gLst_o, gTup_o, gN_e, List.set_cons_zero, List.set_cons_succ, truD_b, gIsN_n, isNonD, gLen_l, gInt_b, gInt_i, Option.map_some, Bool.false_eq_true, if_true, if_false, Bool.not_true, Bool.not_false, keyD, walkD, ok_sOwn, ok_sFz, ok_cBor, ok_eBor, ok_sPut, ok_xNil, ok_xVal, ok_xOwn, ok_zip, ok_enum, ok_star, ok_sortItems, ok_dict0, ok_ixO, ok_parX, ok_parX3, gIxA_l, gIxA_t, gEqA_i, gEqA_s, atI_0, atI_1, atI_2, atI_3, gCmpO_i, intO, seqOf, isFlat, wipeE, ge n hd, rowT]
  · have e2 : gTuple [.lst (((ascP (ds.map f)).filter (nzT (ds.map f))).map (rowT (ds.map f)))] = some (.tup (rowsP (ds.map f))) := rfl
    simp only [ok_seq, ok_asg, ok_par, ok_ret, ok_retN, ok_sNil, ok_sIf, ok_bin, ok_un, ok_var, ok_C, ok_call, ok_callK, ok_cons, ok_nil, ok_args, ok_tru, ok_not, ok_and, ok_or, ok_eNot, ok_eAnd, ok_eOr, ok_if, ok_cmp, ok_chain, ok_ofC, ok_oNone, ok_oSome, ok_sl, ok_met, ok_rev, ok_items, ok_lenSet, ok_pairs0, ok_pairs, ok_dict, ok_iSeq, ok_rng1, ok_rng2, ok_comp, ok_comp0, ok_for, List.getElem?_cons_zero, List.getElem?_cons_succ, Option.some.injEq, Sl.val.injEq, exists_eq_left', List.nil_append, List.append_nil, List.length_cons, List.length_nil, true_and, and_true, and_self, Nat.zero_add, Nat.reduceAdd, Nat.reduceLeDiff, gAdd_i, gSub_i, gNeg_i, gBl_e, gCmpI_i, gLst_o, gTup_o, gN_e, List.set_cons_zero, List.set_cons_succ, truD_b, gIsN_n, isNonD, gLen_l, gInt_b, gInt_i, Option.map_some, Bool.false_eq_true, if_true, if_false, Bool.not_true, Bool.not_false, keyD, walkD, ok_sOwn, ok_sFz, ok_cBor, ok_eBor, ok_sPut, ok_xNil, ok_xVal, ok_xOwn, ok_zip, ok_enum, ok_star, ok_sortItems, ok_dict0, ok_ixO, ok_parX, ok_parX3, gIxA_l, gIxA_t, gEqA_i, gEqA_s, atI_0, atI_1, atI_2, atI_3, gCmpO_i, intO, seqOf, isFlat, e2]
theorem sum_P (f : D → NI) (ds : List D) (n : Str) : gSum [.lst ((ds.filter fun d => decide ((f d).1 = n)).map fun d => .int (f d).2)] = some (.int (totP n (ds.map f))) := by
  have im : ∀ es : List D, intA (es.map fun d => .int (f d).2) = some (es.map fun d => (f d).2) := fun es => by
    induction es with
    | nil => rfl
    | cons d es ih =>
      show (intA (es.map fun d => .int (f d).2)).map ((f d).2 :: ·) = _
      rw [ih]; rfl
  show (intA _).map (fun ns => D.int ns.sum) = _
  rw [im]
  unfold totP
  rw [List.filter_map, List.map_map]; rfl
theorem added_eq {k : Int} {ds : List D} {f : D → NI} {c : Churn} (hf : ∀ d ∈ ds, IsP d (f d)) (hl : ds.length ≤ 900) :
    F_L_added [.int k, .lst ds] c = .ok (.tup [.int k, .tup (rowsP (ds.map f))]) c := by
  apply eq_of_ok
  show Ok (G.nx (runDef 7 g_L_added [.int k, .lst ds]) c) _
  rw [ok_def]
  show Ok (g_L_added [.val (.int k), .val (.lst ds), .no, .no, .no, .no, .no] c) _
  unfold g_L_added
  have hls : ds.length ≤ sizeLine := size_line (by omega)
  refine ok_step (fun ρ c1 => ρ = [.val (.int k), .val (.lst ds), .val (.lst []), .no, .no, .no, .no] ∧ c = c1) ?_ fun ρ c1 hm => ?_
  · simp only [ok_seq, ok_asg, ok_par, ok_ret, ok_retN, ok_sNil, ok_sIf, ok_bin, ok_un, ok_var, ok_C, ok_call, ok_callK, ok_cons, ok_nil, ok_args, ok_tru, ok_not, ok_and, ok_or, ok_eNot, ok_eAnd, ok_eOr, ok_if, ok_cmp, ok_chain, ok_ofC, ok_oNone, ok_oSome, ok_sl, ok_met, ok_rev, ok_items, ok_lenSet, ok_pairs0, ok_pairs, ok_dict, ok_iSeq, ok_rng1, ok_rng2, ok_comp, ok_comp0, ok_for, List.getElem?_cons_zero, List.getElem?_cons_succ, Option.some.injEq, Sl.val.injEq, exists_eq_left', List.nil_append, List.append_nil, List.length_cons, List.length_nil, true_and, and_true, and_self, Nat.zero_add, Nat.reduceAdd, Nat.reduceLeDiff, gAdd_i, gSub_i, gNeg_i, gBl_e, gCmpI_i, gLst_o, gTup_o, gN_e, List.set_cons_zero, List.set_cons_succ, truD_b, gIsN_n, isNonD, gLen_l, gInt_b, gInt_i, Option.map_some, Bool.false_eq_true, if_true, if_false, Bool.not_true, Bool.not_false, keyD, walkD, ok_sOwn, ok_sFz, ok_cBor, ok_eBor, ok_sPut, ok_xNil, ok_xVal, ok_xOwn, ok_zip, ok_enum, ok_star, ok_sortItems, ok_dict0, ok_ixO, ok_parX, ok_parX3, gIxA_l, gIxA_t, gEqA_i, gEqA_s, atI_0, atI_1, atI_2, atI_3, gCmpO_i, intO, seqOf, isFlat]
  obtain ⟨rfl, rfl⟩ := hm
  refine ok_step (fun ρ c1 => ∃ z : Sl × Sl, ρ = [.val (.int k), .val (.lst ds), .val (.lst (rowsP (ds.map f))), z.1, z.2, .no, .no] ∧ c = c1) ?_ fun ρ c1 hm => ?_
  · simp only [ok_seq, ok_asg, ok_par, ok_ret, ok_retN, ok_sNil, ok_sIf, ok_bin, ok_un, ok_var, ok_C, ok_call, ok_callK, ok_cons, ok_nil, ok_args, ok_tru, ok_not, ok_and, ok_or, ok_eNot, ok_eAnd, ok_eOr, ok_if, ok_cmp, ok_chain, ok_ofC, ok_oNone, ok_oSome, ok_sl, ok_met, ok_rev, ok_items, ok_lenSet, ok_pairs0, ok_pairs, ok_dict, ok_iSeq, ok_rng1, ok_rng2, ok_comp, ok_comp0, ok_for, List.getElem?_cons_zero, List.getElem?_cons_succ, Option.some.injEq, Sl.val.injEq, exists_eq_left', List.nil_append, List.append_nil, List.length_cons, List.length_nil, true_and, and_true, and_self, Nat.zero_add, Nat.reduceAdd, Nat.reduceLeDiff, gAdd_i, gSub_i, gNeg_i, gBl_e, gCmpI_i, gLst_o, gTup_o, gN_e, List.set_cons_zero, List.set_cons_succ, truD_b, gIsN_n, isNonD, gLen_l, gInt_b, gInt_i, Option.map_some, Bool.false_eq_true, if_true, if_false, Bool.not_true, Bool.not_false, keyD, walkD, ok_sOwn, ok_sFz, ok_cBor, ok_eBor, ok_sPut, ok_xNil, ok_xVal, ok_xOwn, ok_zip, ok_enum, ok_star, ok_sortItems, ok_dict0, ok_ixO, ok_parX, ok_parX3, gIxA_l, gIxA_t, gEqA_i, gEqA_s, atI_0, atI_1, atI_2, atI_3, gCmpO_i, intO, seqOf, isFlat, ok_sortSet]
    refine ⟨hls, ?_⟩
    refine comp_map (fun d => .str (f d).1) (fun d hd c => ?_) ?_
    · refine ⟨[.val (.int k), .val (.lst ds), .val (.lst []), .no, .no, .val (.str (f d).1), .val (.int (f d).2)], ?_, rfl, ?_⟩
      · exact gs56 (hf d hd)
      · rfl
    simp only [sortSet_P f (show ds.length ≤ 1000 by omega), ok_seq, ok_asg, ok_par, ok_ret, ok_retN, ok_sNil, ok_sIf, ok_bin, ok_un, ok_var, ok_C, ok_call, ok_callK, ok_cons, ok_nil, ok_args, ok_tru, ok_not, ok_and, ok_or, ok_eNot, ok_eAnd, ok_eOr, ok_if, ok_cmp, ok_chain, ok_ofC, ok_oNone, ok_oSome, ok_sl, ok_met, ok_rev, ok_items, ok_lenSet, ok_pairs0, ok_pairs, ok_dict, ok_iSeq, ok_rng1, ok_rng2, ok_comp, ok_comp0, ok_for, List.getElem?_cons_zero, List.getElem?_cons_succ, Option.some.injEq, Sl.val.injEq, exists_eq_left', List.nil_append, List.append_nil, List.length_cons, List.length_nil, true_and, and_true, and_self, Nat.zero_add, Nat.reduceAdd, Nat.reduceLeDiff, gAdd_i, gSub_i, gNeg_i, gBl_e, gCmpI_i, gLst_o, gTup_o, gN_e, List.set_cons_zero, List.set_cons_succ, truD_b, gIsN_n, isNonD, gLen_l, gInt_b, gInt_i, Option.map_some, Bool.false_eq_true, if_true, if_false, Bool.not_true, Bool.not_false, keyD, walkD, ok_sOwn, ok_sFz, ok_cBor, ok_eBor, ok_sPut, ok_xNil, ok_xVal, ok_xOwn, ok_zip, ok_enum, ok_star, ok_sortItems, ok_dict0, ok_ixO, ok_parX, ok_parX3, gIxA_l, gIxA_t, gEqA_i, gEqA_s, atI_0, atI_1, atI_2, atI_3, gCmpO_i, intO, seqOf, isFlat]
    refine for_foldP (mk := fun (b : List D) (z : Sl × Sl) => [.val (.int k), .val (.lst ds), .val (.lst b), z.1, z.2, .no, .no]) (fun a d => a ++ (if nzT (ds.map f) d then [rowT (ds.map f) d] else [])) (fun n b => b.length ≤ n) 900 (fun n b d _ h => by split <;> simp <;> omega) (n := 0) (z := (.no, .no)) (fun d hd n b z hn hb => ?_) (Nat.zero_le _) (by have := asc_len (ds.map f); rw [List.length_map] at this; omega) fun z => ?_
    · obtain ⟨s, rfl, _⟩ := asc_mem hd
      refine ⟨[.val (.int k), .val (.lst ds), .val (.lst b), .val (.str s), z.2, .no, .no], rfl, ?_⟩
      refine ok_step (fun ρ c1 => ρ = [.val (.int k), .val (.lst ds), .val (.lst b), .val (.str s), .val (.int (totP s (ds.map f))), .no, .no] ∧ c = c1) ?_ fun ρ c1 hm => ?_
      · simp only [ok_seq, ok_asg, ok_par, ok_ret, ok_retN, ok_sNil, ok_sIf, ok_bin, ok_un, ok_var, ok_C, ok_call, ok_callK, ok_cons, ok_nil, ok_args, ok_tru, ok_not, ok_and, ok_or, ok_eNot, ok_eAnd, ok_eOr, ok_if, ok_cmp, ok_chain, ok_ofC, ok_oNone, ok_oSome, ok_sl, ok_met, ok_rev, ok_items, ok_lenSet, ok_pairs0, ok_pairs, ok_dict, ok_iSeq, ok_rng1, ok_rng2, ok_comp, ok_comp0, ok_for, List.getElem?_cons_zero, List.getElem?_cons_succ, Option.some.injEq, Sl.val.injEq, exists_eq_left', List.nil_append, List.append_nil, List.length_cons, List.length_nil, true_and, and_true, and_self, Nat.zero_add, Nat.reduceAdd, Nat.reduceLeDiff, gAdd_i, gSub_i, gNeg_i, gBl_e, gCmpI_i, gLst_o, gTup_o, gN_e, List.set_cons_zero, List.set_cons_succ, truD_b, gIsN_n, isNonD, gLen_l, gInt_b, gInt_i, Option.map_some, Bool.false_eq_true, if_true, if_false, Bool.not_true, Bool.not_false, keyD, walkD, ok_sOwn, ok_sFz, ok_cBor, ok_eBor, ok_sPut, ok_xNil, ok_xVal, ok_xOwn, ok_zip, ok_enum, ok_star, ok_sortItems, ok_dict0, ok_ixO, ok_parX, ok_parX3, gIxA_l, gIxA_t, gEqA_i, gEqA_s, atI_0, atI_1, atI_2, atI_3, gCmpO_i, intO, seqOf, isFlat]
        refine ⟨hls, ?_⟩
        refine comp_filter (fun d => decide ((f d).1 = s)) (fun d => .int (f d).2) (fun d hd c => ?_) ?_
        · refine ⟨[.val (.int k), .val (.lst ds), .val (.lst b), .val (.str s), z.2, .val (.str (f d).1), .val (.int (f d).2)], ?_, ?_, fun _ => rfl⟩
          · exact gs56 (hf d hd)
          · apply eq_of_ok
            simp only [ok_seq, ok_asg, ok_par, ok_ret, ok_retN, ok_sNil, ok_sIf, ok_bin, ok_un, ok_var, ok_C, ok_call, ok_callK, ok_cons, ok_nil, ok_args, ok_tru, ok_not, ok_and, ok_or, ok_eNot, ok_eAnd, ok_eOr, ok_if, ok_cmp, ok_chain, ok_ofC, ok_oNone, ok_oSome, ok_sl, ok_met, ok_rev, ok_items, ok_lenSet, ok_pairs0, ok_pairs, ok_dict, ok_iSeq, ok_rng1, ok_rng2, ok_comp, ok_comp0, ok_for, List.getElem?_cons_zero, List.getElem?_cons_succ, Option.some.injEq, Sl.val.injEq, exists_eq_left', List.nil_append, List.append_nil, List.length_cons, List.length_nil, true_and, and_true, and_self, Nat.zero_add, Nat.reduceAdd, Nat.reduceLeDiff, gAdd_i, gSub_i, gNeg_i, gBl_e, gCmpI_i, gLst_o, gTup_o, gN_e, List.set_cons_zero, List.set_cons_succ, truD_b, gIsN_n, isNonD, gLen_l, gInt_b, gInt_i, Option.map_some, Bool.false_eq_true, if_true, if_false, Bool.not_true, Bool.not_false, keyD, walkD, ok_sOwn, ok_sFz, ok_cBor, ok_eBor, ok_sPut, ok_xNil, ok_xVal, ok_xOwn, ok_zip, ok_enum, ok_star, ok_sortItems, ok_dict0, ok_ixO, ok_parX, ok_parX3, gIxA_l, gIxA_t, gEqA_i, gEqA_s, atI_0, atI_1, atI_2, atI_3, gCmpO_i, intO, seqOf, isFlat]
        · exact ⟨_, sum_P f ds s, rfl, rfl⟩
      obtain ⟨rfl, rfl⟩ := hm
      simp only [ok_seq, ok_asg, ok_par, ok_ret, ok_retN, ok_sNil, ok_sIf, ok_bin, ok_un, ok_var, ok_C, ok_call, ok_callK, ok_cons, ok_nil, ok_args, ok_tru, ok_not, ok_and, ok_or, ok_eNot, ok_eAnd, ok_eOr, ok_if, ok_cmp, ok_chain, ok_ofC, ok_oNone, ok_oSome, ok_sl, ok_met, ok_rev, ok_items, ok_lenSet, ok_pairs0, ok_pairs, ok_dict, ok_iSeq, ok_rng1, ok_rng2, ok_comp, ok_comp0, ok_for, List.getElem?_cons_zero, List.getElem?_cons_succ, Option.some.injEq, Sl.val.injEq, exists_eq_left', List.nil_append, List.append_nil, List.length_cons, List.length_nil, true_and, and_true, and_self, Nat.zero_add, Nat.reduceAdd, Nat.reduceLeDiff, gAdd_i, gSub_i, gNeg_i, gBl_e, gCmpI_i, gLst_o, gTup_o, gN_e, List.set_cons_zero, List.set_cons_succ, truD_b, gIsN_n, isNonD, gLen_l, gInt_b, gInt_i, Option.map_some, Bool.false_eq_true, if_true, if_false, Bool.not_true, Bool.not_false, keyD, walkD, ok_sOwn, ok_sFz, ok_cBor, ok_eBor, ok_sPut, ok_xNil, ok_xVal, ok_xOwn, ok_zip, ok_enum, ok_star, ok_sortItems, ok_dict0, ok_ixO, ok_parX, ok_parX3, gIxA_l, gIxA_t, gEqA_i, gEqA_s, atI_0, atI_1, atI_2, atI_3, gCmpO_i, intO, seqOf, isFlat, eqX_in]
      cases ht : (totP s (ds.map f) == 0) with
      | true =>
        have en : nzT (ds.map f) (.str s) = false := by show (!(totP s (ds.map f) == 0)) = false; rw [ht]; rfl
        have em : gMul (.lst [.tup [.str s, .int (totP s (ds.map f))]]) (.int 0) = some (.lst []) := rfl
        have ea : gAdd (.lst b) (.lst []) = some (.lst (b ++ [])) := if_pos (Nat.le_trans (show _ ≤ 1000 from by simp; omega) (by decide))
        simp only [ok_seq, ok_asg, ok_par, ok_ret, ok_retN, ok_sNil, ok_sIf, ok_bin, ok_un, ok_var, ok_C, ok_call, ok_callK, ok_cons, ok_nil, ok_args, ok_tru, ok_not, ok_and, ok_or, ok_eNot, ok_eAnd, ok_eOr, ok_if, ok_cmp, ok_chain, ok_ofC, ok_oNone, ok_oSome, ok_sl, ok_met, ok_rev, ok_items, ok_lenSet, ok_pairs0, ok_pairs, ok_dict, ok_iSeq, ok_rng1, ok_rng2, ok_comp, ok_comp0, ok_for, List.getElem?_cons_zero, List.getElem?_cons_succ, Option.some.injEq, Sl.val.injEq, exists_eq_left', List.nil_append, List.append_nil, List.length_cons, List.length_nil, true_and, and_true, and_self, Nat.zero_add, Nat.reduceAdd, Nat.reduceLeDiff, gAdd_i, gSub_i, gNeg_i, gBl_e, gCmpI_i, gLst_o, gTup_o, gN_e, List.set_cons_zero, List.set_cons_succ, truD_b, gIsN_n, isNonD, gLen_l, gInt_b, gInt_i, Option.map_some, Bool.false_eq_true, if_true, if_false, Bool.not_true, Bool.not_false, keyD, walkD, ok_sOwn, ok_sFz, ok_cBor, ok_eBor, ok_sPut, ok_xNil, ok_xVal, ok_xOwn, ok_zip, ok_enum, ok_star, ok_sortItems, ok_dict0, ok_ixO, ok_parX, ok_parX3, gIxA_l, gIxA_t, gEqA_i, gEqA_s, atI_0, atI_1, atI_2, atI_3, gCmpO_i, intO, seqOf, isFlat, em, ea, en]
        exact ⟨(_, _), rfl⟩
      | false =>
        have en : nzT (ds.map f) (.str s) = true := by show (!(totP s (ds.map f) == 0)) = true; rw [ht]; rfl
        have em : gMul (.lst [.tup [.str s, .int (totP s (ds.map f))]]) (.int 1) = some (.lst [.tup [.str s, .int (totP s (ds.map f))]]) := rfl
        have ea : gAdd (.lst b) (.lst [.tup [.str s, .int (totP s (ds.map f))]]) = some (.lst (b ++ [.tup [.str s, .int (totP s (ds.map f))]])) := if_pos (Nat.le_trans (show _ ≤ 1000 from by simp; omega) (by decide))
        simp only [ok_seq, ok_asg, ok_par, ok_ret, ok_retN, ok_sNil, ok_sIf, ok_bin, ok_un, ok_var, ok_C, ok_call, ok_callK, ok_cons, ok_nil, ok_args, ok_tru, ok_not, ok_and, ok_or, ok_eNot, ok_eAnd, ok_eOr, ok_if, ok_cmp, ok_chain, ok_ofC, ok_oNone, ok_oSome, ok_sl, ok_met, ok_rev, ok_items, ok_lenSet, ok_pairs0, ok_pairs, ok_dict, ok_iSeq, ok_rng1, ok_rng2, ok_comp, ok_comp0, ok_for, List.getElem?_cons_zero, List.getElem?_cons_succ, Option.some.injEq, Sl.val.injEq, exists_eq_left', List.nil_append, List.append_nil, List.length_cons, List.length_nil, true_and, and_true, and_self, Nat.zero_add, Nat.reduceAdd, Nat.reduceLeDiff, gAdd_i, gSub_i, gNeg_i, gBl_e, gCmpI_i, gLst_o, gTup_o, gN_e, List.set_cons_zero, List.set_cons_succ, truD_b, gIsN_n, isNonD, gLen_l, gInt_b, gInt_i, Option.map_some, Bool.false_eq_true, if_true, if_false, Bool.not_true, Bool.not_false, keyD, walkD, ok_sOwn, ok_sFz, ok_cBor, ok_eBor, ok_sPut, ok_xNil, ok_xVal, ok_xOwn, ok_zip, ok_enum, ok_star, ok_sortItems, ok_dict0, ok_ixO, ok_parX, ok_parX3, gIxA_l, gIxA_t, gEqA_i, gEqA_s, atI_0, atI_1, atI_2, atI_3, gCmpO_i, intO, seqOf, isFlat, em, ea, en]
        exact ⟨(_, _), rfl⟩
    · exact ⟨rfl, z, by rw [app_fold]; rfl, rfl⟩
  obtain ⟨z, rfl, rfl⟩ := hm
  have e2 : gTuple [.lst (rowsP (ds.map f))] = some (.tup (rowsP (ds.map f))) := rfl
  simp only [ok_seq, ok_asg, ok_par, ok_ret, ok_retN, ok_sNil, ok_sIf, ok_bin, ok_un, ok_var, ok_C, ok_call, ok_callK, ok_cons, ok_nil, ok_args, ok_tru, ok_not, ok_and, ok_or, ok_eNot, ok_eAnd, ok_eOr, ok_if, ok_cmp, ok_chain, ok_ofC, ok_oNone, ok_oSome, ok_sl, ok_met, ok_rev, ok_items, ok_lenSet, ok_pairs0, ok_pairs, ok_dict, ok_iSeq, ok_rng1, ok_rng2, ok_comp, ok_comp0, ok_for, List.getElem?_cons_zero, List.getElem?_cons_succ, Option.some.injEq, Sl.val.injEq, exists_eq_left', List.nil_append, List.append_nil, List.length_cons, List.length_nil, true_and, and_true, and_self, Nat.zero_add, Nat.reduceAdd, Nat.reduceLeDiff, gAdd_i, gSub_i, gNeg_i, gBl_e, gCmpI_i, gLst_o, gTup_o, gN_e, List.set_cons_zero, List.set_cons_succ, truD_b, gIsN_n, isNonD, gLen_l, gInt_b, gInt_i, Option.map_some, Bool.false_eq_true, if_true, if_false, Bool.not_true, Bool.not_false, keyD, walkD, ok_sOwn, ok_sFz, ok_cBor, ok_eBor, ok_sPut, ok_xNil, ok_xVal, ok_xOwn, ok_zip, ok_enum, ok_star, ok_sortItems, ok_dict0, ok_ixO, ok_parX, ok_parX3, gIxA_l, gIxA_t, gEqA_i, gEqA_s, atI_0, atI_1, atI_2, atI_3, gCmpO_i, intO, seqOf, isFlat, e2]
end G

set_option Elab.async false
set_option linter.all false
set_option maxRecDepth 100000
set_option maxHeartbeats 8000000
/-! NJ4: the form of pairs is a form. -/
namespace G
open PySem PySem.Spec PyProof.Rows L2
theorem asc_strict (qs : List NI) : ∃ ts : List Str, ascP qs = ts.map D.str ∧ ts.Pairwise (fun a b => a.cps.toList < b.cps.toList) ∧ ∀ s ∈ ts, s ∈ qs.map (·.1) := by
  obtain ⟨ss, e1, e2, l, m⟩ := set_strs qs
  have nd : ss.Nodup := by
    have h := metK_nodup (qs.map kP) [] List.nodup_nil
    rw [e2] at h
    rw [List.nodup_iff_pairwise_ne, List.pairwise_map] at h
    rw [List.nodup_iff_pairwise_ne]
    exact h.imp fun z e => z (congrArg Sum.inr e)
  refine ⟨ss.mergeSort fun a b => decide (a.cps.toList ≤ b.cps.toList), ?_, ?_, fun s hs => m s (List.mem_mergeSort.mp hs)⟩
  · unfold ascP
    rw [e1]; exact sortD_str ss
  · have tr : ∀ a b c : Str, decide (a.cps.toList ≤ b.cps.toList) = true → decide (b.cps.toList ≤ c.cps.toList) = true → decide (a.cps.toList ≤ c.cps.toList) = true := fun a b c h1 h2 =>
      decide_eq_true (List.le_trans (of_decide_eq_true h1) (of_decide_eq_true h2))
    have to : ∀ a b : Str, (decide (a.cps.toList ≤ b.cps.toList) || decide (b.cps.toList ≤ a.cps.toList)) = true := fun a b => by
      rcases List.le_total a.cps.toList b.cps.toList with z | z
      · rw [decide_eq_true z]; rfl
      · rw [decide_eq_true z, Bool.or_true]
    have h1 := List.pairwise_mergeSort tr to ss
    have h2 : (ss.mergeSort fun a b => decide (a.cps.toList ≤ b.cps.toList)).Pairwise (· ≠ ·) := by
      rw [← List.nodup_iff_pairwise_ne]
      exact (List.mergeSort_perm ss _).nodup_iff.mpr nd
    refine (h1.and h2).imp fun ⟨a, b⟩ => ?_
    have a := of_decide_eq_true a
    refine Decidable.byContradiction fun z => b (str_ext (List.le_antisymm a (List.not_lt.mp z)))
theorem isp_cps {d : D} {p : NI} (h : IsP d p) : cpsOf d = p.1.cps.toList := by rcases h with rfl | rfl <;> rfl
theorem asc_R (f : D → NI) : ∀ {R : List D}, (∀ d ∈ R, IsP d (f d)) → (R.map f).Pairwise (fun a b => a.1.cps.toList < b.1.cps.toList) → ascR R = true
  | [], _, _ => rfl
  | [_], _, _ => rfl
  | x :: y :: r, h, p => by
    have e : ascR (x :: y :: r) = (ltL (cpsOf x) (cpsOf y) && ascR (y :: r)) := rfl
    rw [e, isp_cps (h x (by simp)), isp_cps (h y (by simp))]
    rw [List.map_cons] at p
    obtain ⟨p1, p2⟩ := List.pairwise_cons.mp p
    rw [asc_R f (fun d hd => h d (List.mem_cons_of_mem _ hd)) p2, Bool.and_true]
    exact decide_eq_true (p1 (f y) (by simp))
theorem form_of {v w : D} {k : Int} {R : List D} (f : D → NI) (hv : isSeqD v = true) (iv : itemsOf v = [.int k, w]) (hw : isSeqD w = true) (iw : itemsOf w = R) (h : ∀ d ∈ R, IsP d (f d) ∧ isNm (f d).1.cps.toList = true ∧ (f d).2 ≠ 0)
    (p : (R.map f).Pairwise (fun a b => a.1.cps.toList < b.1.cps.toList)) : formB v = true := by
  unfold formB
  rw [hv, iv]
  show (isIntD (.int k) && ((isSeqD w && (itemsOf w).all pairB) && ((itemsOf w).all nzB && ascR (itemsOf w)))) = true
  rw [hw, iw, asc_R f (fun d hd => (h d hd).1) p]
  have h1 : R.all pairB = true := List.all_eq_true.mpr fun d hd => by
    obtain ⟨a, b, _⟩ := h d hd
    rcases a with e | e <;> (rw [e]; show (isNm (f d).1.cps.toList && true) = true; rw [b]; rfl)
  have h2 : R.all nzB = true := List.all_eq_true.mpr fun d hd => by
    obtain ⟨a, _, c⟩ := h d hd
    rcases a with e | e <;> (rw [e]; show (!((f d).2 == 0)) = true; simpa using c)
  rw [h1, h2]; rfl
/-- a row as a pair -/
def pairOf (d : D) : NI := match itemsOf d with
  | [.str n, .int t] => (n, t)
  | _ => ("", 0)
theorem rows_are {qs : List NI} : ∀ d ∈ rowsP qs, ∃ n, n ∈ qs.map (·.1) ∧ d = .tup [.str n, .int (totP n qs)] ∧ totP n qs ≠ 0 := fun d hd => by
  obtain ⟨x, hx, rfl⟩ := List.mem_map.mp hd
  obtain ⟨h1, h2⟩ := List.mem_filter.mp hx
  obtain ⟨n, rfl, hn⟩ := asc_mem h1
  refine ⟨n, hn, rfl, fun z => ?_⟩
  have h2 : (!(totP n qs == 0)) = true := h2
  rw [z] at h2; cases h2
theorem rows_asc (qs : List NI) : ((rowsP qs).map pairOf).Pairwise (fun a b => a.1.cps.toList < b.1.cps.toList) := by
  obtain ⟨ts, e, p, _⟩ := asc_strict qs
  unfold rowsP
  rw [e, List.map_map, List.pairwise_map]
  have h : (ts.map D.str).Pairwise (fun a b => (pairOf (rowT qs a)).1.cps.toList < (pairOf (rowT qs b)).1.cps.toList) := by
    rw [List.pairwise_map]
    exact p
  exact h.filter _
theorem due_form {qs : List NI} {k : Int} (hn : ∀ q ∈ qs, isNm q.1.cps.toList = true) : formB (.tup [.int k, .tup (rowsP qs)]) = true := by
  refine form_of pairOf (w := .tup (rowsP qs)) (k := k) rfl rfl rfl rfl (fun d hd => ?_) (rows_asc qs)
  obtain ⟨n, hm, rfl, ht⟩ := rows_are d hd
  obtain ⟨q, hq, rfl⟩ := List.mem_map.mp hm
  exact ⟨.inl rfl, hn q hq, ht⟩
end G

set_option Elab.async false
set_option linter.all false
set_option maxRecDepth 100000
set_option maxHeartbeats 8000000
/-! NK1: tuples all the way; names of a form, a factor in it. -/
namespace G
open PySem PySem.Spec PyProof.Rows L2
def tupP : Nat → D → D
  | 0 => id
  | m + 1 => fun v => if isSeqD v then .tup ((itemsOf v).map (tupP m)) else v
theorem fixed_all : ∀ (m n : Nat) (v : D) (c : Churn), hgt v < m → m ≤ n → nice v = true → F_fixed n [v] c = .ok (tupP m v) c
  | 0, n, v, c, h, _, _ => by omega
  | m + 1, n, v, c, h, hn, nv => by
    obtain ⟨k, rfl⟩ : ∃ k, n = k + 1 := ⟨n - 1, by omega⟩
    have W := fixed_all m
    apply eq_of_ok
    show Ok (G.nx (runDef 2 (g_fixed (F_fixed k)) [v]) c) _
    rw [ok_def]
    show Ok (g_fixed (F_fixed k) [.val v, .no] c) _
    unfold g_fixed
    have el : tupP (m + 1) v = if isSeqD v then .tup ((itemsOf v).map (tupP m)) else v := rfl
    rw [el]
    refine ok_ifS (isSeqD v) ?_ (fun hs => ?_) fun hs => ?_
    · simp only [ok_seq, ok_asg, ok_par, ok_ret, ok_retN, ok_sNil, ok_sIf, ok_bin, ok_un, ok_var, ok_C, ok_call, ok_callK, ok_cons, ok_nil, ok_args, ok_tru, ok_not, ok_and, ok_or, ok_eNot, ok_eAnd, ok_eOr, ok_if, ok_cmp, ok_chain, ok_ofC, ok_oNone, ok_oSome, ok_sl, ok_met, ok_rev, ok_items, ok_lenSet, ok_pairs0, ok_pairs, ok_dict, ok_iSeq, ok_rng1, ok_rng2, ok_comp, ok_comp0, ok_for, List.getElem?_cons_zero, List.getElem?_cons_succ, Option.some.injEq, Sl.val.injEq, exists_eq_left', List.nil_append, List.append_nil, List.length_cons, List.length_nil, true_and, and_true, and_self, Nat.zero_add, Nat.reduceAdd, Nat.reduceLeDiff, gAdd_i, gSub_i, gNeg_i, gBl_e, gCmpI_i, gLst_o, gTup_o, gN_e, List.set_cons_zero, List.set_cons_succ, truD_b, gIsN_n, isNonD, gLen_l, gInt_b, gInt_i, Option.map_some, Bool.false_eq_true, if_true, if_false, Bool.not_true, Bool.not_false, keyD, walkD, ok_sOwn, ok_sFz, ok_cBor, ok_eBor, ok_sPut, ok_xNil, ok_xVal, ok_xOwn, ok_zip, ok_enum, ok_star, ok_sortItems, ok_dict0, ok_ixO, ok_parX, ok_parX3, gIxA_l, gIxA_t, gEqA_i, gEqA_s, atI_0, atI_1, atI_2, atI_3, gCmpO_i, intO, seqOf, isFlat, isi_seq (nice_plain nv)]
    · simp only [ok_seq, ok_asg, ok_par, ok_ret, ok_retN, ok_sNil, ok_sIf, ok_bin, ok_un, ok_var, ok_C, ok_call, ok_callK, ok_cons, ok_nil, ok_args, ok_tru, ok_not, ok_and, ok_or, ok_eNot, ok_eAnd, ok_eOr, ok_if, ok_cmp, ok_chain, ok_ofC, ok_oNone, ok_oSome, ok_sl, ok_met, ok_rev, ok_items, ok_lenSet, ok_pairs0, ok_pairs, ok_dict, ok_iSeq, ok_rng1, ok_rng2, ok_comp, ok_comp0, ok_for, List.getElem?_cons_zero, List.getElem?_cons_succ, Option.some.injEq, Sl.val.injEq, exists_eq_left', List.nil_append, List.append_nil, List.length_cons, List.length_nil, true_and, and_true, and_self, Nat.zero_add, Nat.reduceAdd, Nat.reduceLeDiff, gAdd_i, gSub_i, gNeg_i, gBl_e, gCmpI_i, gLst_o, gTup_o, gN_e, List.set_cons_zero, List.set_cons_succ, truD_b, gIsN_n, isNonD, gLen_l, gInt_b, gInt_i, Option.map_some, Bool.false_eq_true, if_true, if_false, Bool.not_true, Bool.not_false, keyD, walkD, ok_sOwn, ok_sFz, ok_cBor, ok_eBor, ok_sPut, ok_xNil, ok_xVal, ok_xOwn, ok_zip, ok_enum, ok_star, ok_sortItems, ok_dict0, ok_ixO, ok_parX, ok_parX3, gIxA_l, gIxA_t, gEqA_i, gEqA_s, atI_0, atI_1, atI_2, atI_3, gCmpO_i, intO, seqOf, isFlat, Ctl.ret.injEq, hs]
      refine ⟨_, seq_walk hs, size_line (nice_items nv).1, ?_⟩
      refine comp_map (tupP m) (fun x hx c => ⟨_, rfl, rfl, ?_⟩) ⟨_, rfl, rfl, rfl⟩
      apply eq_of_ok
      have := hgt_item hx
      simp only [ok_seq, ok_asg, ok_par, ok_ret, ok_retN, ok_sNil, ok_sIf, ok_bin, ok_un, ok_var, ok_C, ok_call, ok_callK, ok_cons, ok_nil, ok_args, ok_tru, ok_not, ok_and, ok_or, ok_eNot, ok_eAnd, ok_eOr, ok_if, ok_cmp, ok_chain, ok_ofC, ok_oNone, ok_oSome, ok_sl, ok_met, ok_rev, ok_items, ok_lenSet, ok_pairs0, ok_pairs, ok_dict, ok_iSeq, ok_rng1, ok_rng2, ok_comp, ok_comp0, ok_for, List.getElem?_cons_zero, List.getElem?_cons_succ, Option.some.injEq, Sl.val.injEq, exists_eq_left', List.nil_append, List.append_nil, List.length_cons, List.length_nil, true_and, and_true, and_self, Nat.zero_add, Nat.reduceAdd, Nat.reduceLeDiff, gAdd_i, gSub_i, gNeg_i, gBl_e, gCmpI_i, gLst_o, gTup_o, gN_e, List.set_cons_zero, List.set_cons_succ, truD_b, gIsN_n, isNonD, gLen_l, gInt_b, gInt_i, Option.map_some, Bool.false_eq_true, if_true, if_false, Bool.not_true, Bool.not_false, keyD, walkD, ok_sOwn, ok_sFz, ok_cBor, ok_eBor, ok_sPut, ok_xNil, ok_xVal, ok_xOwn, ok_zip, ok_enum, ok_star, ok_sortItems, ok_dict0, ok_ixO, ok_parX, ok_parX3, gIxA_l, gIxA_t, gEqA_i, gEqA_s, atI_0, atI_1, atI_2, atI_3, gCmpO_i, intO, seqOf, isFlat, wipeE, W k x _ (by omega) (by omega) (nice_in nv hx), ok_ok]
    · simp only [ok_seq, ok_asg, ok_par, ok_ret, ok_retN, ok_sNil, ok_sIf, ok_bin, ok_un, ok_var, ok_C, ok_call, ok_callK, ok_cons, ok_nil, ok_args, ok_tru, ok_not, ok_and, ok_or, ok_eNot, ok_eAnd, ok_eOr, ok_if, ok_cmp, ok_chain, ok_ofC, ok_oNone, ok_oSome, ok_sl, ok_met, ok_rev, ok_items, ok_lenSet, ok_pairs0, ok_pairs, ok_dict, ok_iSeq, ok_rng1, ok_rng2, ok_comp, ok_comp0, ok_for, List.getElem?_cons_zero, List.getElem?_cons_succ, Option.some.injEq, Sl.val.injEq, exists_eq_left', List.nil_append, List.append_nil, List.length_cons, List.length_nil, true_and, and_true, and_self, Nat.zero_add, Nat.reduceAdd, Nat.reduceLeDiff, gAdd_i, gSub_i, gNeg_i, gBl_e, gCmpI_i, gLst_o, gTup_o, gN_e, List.set_cons_zero, List.set_cons_succ, truD_b, gIsN_n, isNonD, gLen_l, gInt_b, gInt_i, Option.map_some, Bool.false_eq_true, if_true, if_false, Bool.not_true, Bool.not_false, keyD, walkD, ok_sOwn, ok_sFz, ok_cBor, ok_eBor, ok_sPut, ok_xNil, ok_xVal, ok_xOwn, ok_zip, ok_enum, ok_star, ok_sortItems, ok_dict0, ok_ixO, ok_parX, ok_parX3, gIxA_l, gIxA_t, gEqA_i, gEqA_s, atI_0, atI_1, atI_2, atI_3, gCmpO_i, intO, seqOf, isFlat, hs]
theorem need_form_ok {v : D} {c : Churn} (n : nice v = true) (h : hgt v < 5) (f : formB v = true) : F_need_form [v, .str "form"] c = .ok (tupP 5 v) c := by
  apply eq_of_ok
  show Ok (G.nx (runDef 2 g_need_form [v, .str "form"]) c) _
  rw [ok_def]
  show Ok (g_need_form [.val v, .val (.str "form")] c) _
  unfold g_need_form
  have ef : ∀ c, F_fixed 60 [v] c = .ok (tupP 5 v) c := fun c => fixed_all 5 60 v c h (by decide) n
  simp only [ok_seq, ok_asg, ok_par, ok_ret, ok_retN, ok_sNil, ok_sIf, ok_bin, ok_un, ok_var, ok_C, ok_call, ok_callK, ok_cons, ok_nil, ok_args, ok_tru, ok_not, ok_and, ok_or, ok_eNot, ok_eAnd, ok_eOr, ok_if, ok_cmp, ok_chain, ok_ofC, ok_oNone, ok_oSome, ok_sl, ok_met, ok_rev, ok_items, ok_lenSet, ok_pairs0, ok_pairs, ok_dict, ok_iSeq, ok_rng1, ok_rng2, ok_comp, ok_comp0, ok_for, List.getElem?_cons_zero, List.getElem?_cons_succ, Option.some.injEq, Sl.val.injEq, exists_eq_left', List.nil_append, List.append_nil, List.length_cons, List.length_nil, true_and, and_true, and_self, Nat.zero_add, Nat.reduceAdd, Nat.reduceLeDiff, gAdd_i, gSub_i, gNeg_i, gBl_e, gCmpI_i, gLst_o, gTup_o, gN_e, List.set_cons_zero, List.set_cons_succ, truD_b, gIsN_n, isNonD, gLen_l, gInt_b, gInt_i, Option.map_some, Bool.false_eq_true, if_true, if_false, Bool.not_true, Bool.not_false, keyD, walkD, ok_sOwn, ok_sFz, ok_cBor, ok_eBor, ok_sPut, ok_xNil, ok_xVal, ok_xOwn, ok_zip, ok_enum, ok_star, ok_sortItems, ok_dict0, ok_ixO, ok_parX, ok_parX3, gIxA_l, gIxA_t, gEqA_i, gEqA_s, atI_0, atI_1, atI_2, atI_3, gCmpO_i, intO, seqOf, isFlat, is_form_eq n, f, ef, ok_ok]
def rwD (p : NI) : D := .tup [.str p.1, .int p.2]
theorem tup_form {v w : D} {k : Int} {R : List D} (f : D → NI) (hv : isSeqD v = true) (iv : itemsOf v = [.int k, w]) (hw : isSeqD w = true) (iw : itemsOf w = R) (h : ∀ d ∈ R, IsP d (f d)) : tupP 5 v = .tup [.int k, .tup ((R.map f).map rwD)] := by
  show (if isSeqD v then D.tup ((itemsOf v).map (tupP 4)) else v) = _
  rw [if_pos hv, iv]
  show D.tup [.int k, (if isSeqD w then D.tup ((itemsOf w).map (tupP 3)) else w)] = _
  rw [if_pos hw, iw, List.map_map]
  have e : R.map (tupP 3) = R.map (rwD ∘ f) := List.map_congr_left fun d hd => by
    rcases h d hd with z | z <;> (show tupP 3 d = rwD (f d); generalize f d = p at z; subst z; rfl)
  rw [e]
def nmD (d : D) : D := match itemsOf d with
  | x :: _ => x
  | _ => .non
theorem names_in_ok {v : D} {k : Int} {ps : List NI} {c : Churn} (hl : ps.length ≤ 1000) (e : ∀ c, F_need_form [v, .str "form"] c = .ok (.tup [.int k, .tup (ps.map rwD)]) c) : F_names_in [v] c = .ok (.tup (ps.map fun p => .str p.1)) c := by
  apply eq_of_ok
  show Ok (G.nx (runDef 3 g_names_in [v]) c) _
  rw [ok_def]
  show Ok (g_names_in [.val v, .no, .no] c) _
  unfold g_names_in
  have em : (ps.map rwD).map nmD = ps.map fun p => .str p.1 := by rw [List.map_map]; rfl
  simp only [ok_seq, ok_asg, ok_par, ok_ret, ok_retN, ok_sNil, ok_sIf, ok_bin, ok_un, ok_var, ok_C, ok_call, ok_callK, ok_cons, ok_nil, ok_args, ok_tru, ok_not, ok_and, ok_or, ok_eNot, ok_eAnd, ok_eOr, ok_if, ok_cmp, ok_chain, ok_ofC, ok_oNone, ok_oSome, ok_sl, ok_met, ok_rev, ok_items, ok_lenSet, ok_pairs0, ok_pairs, ok_dict, ok_iSeq, ok_rng1, ok_rng2, ok_comp, ok_comp0, ok_for, List.getElem?_cons_zero, List.getElem?_cons_succ, Option.some.injEq, Sl.val.injEq, exists_eq_left', List.nil_append, List.append_nil, List.length_cons, List.length_nil, true_and, and_true, and_self, Nat.zero_add, Nat.reduceAdd, Nat.reduceLeDiff, gAdd_i, gSub_i, gNeg_i, gBl_e, gCmpI_i, gLst_o, gTup_o, gN_e, List.set_cons_zero, List.set_cons_succ, truD_b, gIsN_n, isNonD, gLen_l, gInt_b, gInt_i, Option.map_some, Bool.false_eq_true, if_true, if_false, Bool.not_true, Bool.not_false, keyD, walkD, ok_sOwn, ok_sFz, ok_cBor, ok_eBor, ok_sPut, ok_xNil, ok_xVal, ok_xOwn, ok_zip, ok_enum, ok_star, ok_sortItems, ok_dict0, ok_ixO, ok_parX, ok_parX3, gIxA_l, gIxA_t, gEqA_i, gEqA_s, atI_0, atI_1, atI_2, atI_3, gCmpO_i, intO, seqOf, isFlat, e, ok_ok]
  refine ⟨size_line (by rw [List.length_map]; omega), ?_⟩
  refine comp_map nmD (fun x hx c => ?_) ?_
  · obtain ⟨p, _, rfl⟩ := List.mem_map.mp hx
    exact ⟨[.val v, .val (.str p.1), .val (.int p.2)], rfl, rfl, rfl⟩
  · rw [em]
    exact ⟨_, rfl, rfl, rfl⟩
/-! the dict of a form's rows -/
def setP (k : Str) (v : Int) : List NI → List NI
  | [] => [(k, v)]
  | p :: r => if p.1 = k then (p.1, v) :: r else p :: setP k v r
theorem put_setP (k : Str) (v : Int) : ∀ ps : List NI, putD (ps.map kP) (ps.map vP) (.inr k) (.int v) = ((setP k v ps).map kP, (setP k v ps).map vP)
  | [] => rfl
  | p :: r => by
    show putD (kP p :: r.map kP) (vP p :: r.map vP) (.inr k) (.int v) = _
    unfold putD setP
    by_cases h : p.1 = k
    · rw [if_pos h, if_pos (show kP p = .inr k from congrArg Sum.inr h)]; rfl
    · rw [if_neg h, if_neg (show ¬ kP p = .inr k from fun z => h (Sum.inr.inj z)), put_setP k v r]; rfl
theorem get_setP (k n : Str) (v : Int) : ∀ ps : List NI, getP (setP k v ps) n = if k = n then v else getP ps n
  | [] => rfl
  | p :: r => by
    unfold setP
    by_cases h : p.1 = k
    · rw [if_pos h]
      show (if p.1 = n then v else getP r n) = if k = n then v else (if p.1 = n then p.2 else getP r n)
      subst h
      by_cases z : p.1 = n
      · rw [if_pos z, if_pos z]
      · rw [if_neg z, if_neg z, if_neg z]
    · rw [if_neg h]
      show (if p.1 = n then p.2 else getP (setP k v r) n) = if k = n then v else (if p.1 = n then p.2 else getP r n)
      by_cases z : p.1 = n
      · rw [if_pos z, if_pos z, if_neg fun e => h (z.trans e.symm)]
      · rw [if_neg z, if_neg z, get_setP k n v r]
theorem merge_P : ∀ (ps acc : List NI), mergeD (ps.map fun p => (kP p, vP p)) (acc.map kP, acc.map vP) = ((ps.foldl (fun a p => setP p.1 p.2 a) acc).map kP, (ps.foldl (fun a p => setP p.1 p.2 a) acc).map vP)
  | [], acc => rfl
  | p :: ps, acc => by
    show mergeD (ps.map fun p => (kP p, vP p)) (putD (acc.map kP) (acc.map vP) (.inr p.1) (.int p.2)) = _
    rw [put_setP, merge_P ps]; rfl
theorem get_fold {n : Str} {t : Int} : ∀ (ps acc : List NI), (∀ p ∈ ps, p.1 = n → p.2 = t) → getP (ps.foldl (fun a p => setP p.1 p.2 a) acc) n = if n ∈ ps.map (·.1) then t else getP acc n
  | [], acc, _ => by rw [if_neg (by simp)]; rfl
  | p :: ps, acc, h => by
    show getP (ps.foldl (fun a p => setP p.1 p.2 a) (setP p.1 p.2 acc)) n = _
    rw [get_fold ps _ fun q hq => h q (List.mem_cons_of_mem _ hq), get_setP]
    by_cases m : n ∈ ps.map (·.1)
    · rw [if_pos m, if_pos (by rw [List.map_cons]; exact List.mem_cons_of_mem _ m)]
    · rw [if_neg m]
      by_cases z : p.1 = n
      · rw [if_pos z, if_pos (by rw [List.map_cons, z]; exact List.mem_cons_self), h p (by simp) z]
      · rw [if_neg z, if_neg (by rw [List.map_cons, List.mem_cons]; exact fun q => q.elim (fun q => z q.symm) m)]
theorem pairs_rw : ∀ ps : List NI, pairsD (ps.map rwD) = some (ps.map fun p => (kP p, vP p))
  | [] => rfl
  | p :: ps => by
    show (pairD (rwD p)).bind (fun q => (pairsD (ps.map rwD)).map (q :: ·)) = _
    rw [pairs_rw ps]; rfl
theorem dict_rw (ps : List NI) : gDictT [.tup (ps.map rwD)] = some (dctP (ps.foldl (fun a p => setP p.1 p.2 a) [])) := by
  show (pairsD (ps.map rwD)).map mkDic = _
  rw [pairs_rw]
  show some (D.dic (mergeD (ps.map fun p => (kP p, vP p)) (([] : List NI).map kP, ([] : List NI).map vP)).1 (mergeD (ps.map fun p => (kP p, vP p)) (([] : List NI).map kP, ([] : List NI).map vP)).2) = _
  rw [merge_P]; rfl
theorem factor_in_ok {n : Str} {k t : Int} {ps : List NI} {c : Churn} (h : ∀ p ∈ ps, p.1 = n → p.2 = t) : F_factor_in2 [.tup [.int k, .tup (ps.map rwD)], .str n] c = .ok (.int (if n ∈ ps.map (·.1) then t else 0)) c := by
  apply eq_of_ok
  show Ok (G.nx (runDef 2 g_factor_in2 [.tup [.int k, .tup (ps.map rwD)], .str n]) c) _
  rw [ok_def]
  show Ok (g_factor_in2 [.val (.tup [.int k, .tup (ps.map rwD)]), .val (.str n)] c) _
  unfold g_factor_in2
  have ty : ∀ qs, tyD "dict" (dctP qs) = true := fun _ => rfl
  simp only [ok_seq, ok_asg, ok_par, ok_ret, ok_retN, ok_sNil, ok_sIf, ok_bin, ok_un, ok_var, ok_C, ok_call, ok_callK, ok_cons, ok_nil, ok_args, ok_tru, ok_not, ok_and, ok_or, ok_eNot, ok_eAnd, ok_eOr, ok_if, ok_cmp, ok_chain, ok_ofC, ok_oNone, ok_oSome, ok_sl, ok_met, ok_rev, ok_items, ok_lenSet, ok_pairs0, ok_pairs, ok_dict, ok_iSeq, ok_rng1, ok_rng2, ok_comp, ok_comp0, ok_for, List.getElem?_cons_zero, List.getElem?_cons_succ, Option.some.injEq, Sl.val.injEq, exists_eq_left', List.nil_append, List.append_nil, List.length_cons, List.length_nil, true_and, and_true, and_self, Nat.zero_add, Nat.reduceAdd, Nat.reduceLeDiff, gAdd_i, gSub_i, gNeg_i, gBl_e, gCmpI_i, gLst_o, gTup_o, gN_e, List.set_cons_zero, List.set_cons_succ, truD_b, gIsN_n, isNonD, gLen_l, gInt_b, gInt_i, Option.map_some, Bool.false_eq_true, if_true, if_false, Bool.not_true, Bool.not_false, keyD, walkD, ok_sOwn, ok_sFz, ok_cBor, ok_eBor, ok_sPut, ok_xNil, ok_xVal, ok_xOwn, ok_zip, ok_enum, ok_star, ok_sortItems, ok_dict0, ok_ixO, ok_parX, ok_parX3, gIxA_l, gIxA_t, gEqA_i, gEqA_s, atI_0, atI_1, atI_2, atI_3, gCmpO_i, intO, seqOf, isFlat, dict_rw, ok_met, ty, gGet_P, get_fold ps [] h]
  rfl
theorem need_name_ok {s : Str} {c : Churn} (h : isNm s.cps.toList = true) (hl : s.cps.toList.length ≤ 1000) : F_need_name [.str s, .str "name"] c = .ok .non c := by
  apply eq_of_ok
  show Ok (G.nx (runDef 2 g_need_name [.str s, .str "name"]) c) _
  rw [ok_def]
  show Ok (g_need_name [.val (.str s), .val (.str "name")] c) _
  unfold g_need_name
  have e := fun c => is_name_s (cs := s.cps.toList) (c := c) hl
  have e2 : sx s.cps.toList = s := rfl
  rw [e2, h] at e
  simp only [ok_seq, ok_asg, ok_par, ok_ret, ok_retN, ok_sNil, ok_sIf, ok_bin, ok_un, ok_var, ok_C, ok_call, ok_callK, ok_cons, ok_nil, ok_args, ok_tru, ok_not, ok_and, ok_or, ok_eNot, ok_eAnd, ok_eOr, ok_if, ok_cmp, ok_chain, ok_ofC, ok_oNone, ok_oSome, ok_sl, ok_met, ok_rev, ok_items, ok_lenSet, ok_pairs0, ok_pairs, ok_dict, ok_iSeq, ok_rng1, ok_rng2, ok_comp, ok_comp0, ok_for, List.getElem?_cons_zero, List.getElem?_cons_succ, Option.some.injEq, Sl.val.injEq, exists_eq_left', List.nil_append, List.append_nil, List.length_cons, List.length_nil, true_and, and_true, and_self, Nat.zero_add, Nat.reduceAdd, Nat.reduceLeDiff, gAdd_i, gSub_i, gNeg_i, gBl_e, gCmpI_i, gLst_o, gTup_o, gN_e, List.set_cons_zero, List.set_cons_succ, truD_b, gIsN_n, isNonD, gLen_l, gInt_b, gInt_i, Option.map_some, Bool.false_eq_true, if_true, if_false, Bool.not_true, Bool.not_false, keyD, walkD, ok_sOwn, ok_sFz, ok_cBor, ok_eBor, ok_sPut, ok_xNil, ok_xVal, ok_xOwn, ok_zip, ok_enum, ok_star, ok_sortItems, ok_dict0, ok_ixO, ok_parX, ok_parX3, gIxA_l, gIxA_t, gEqA_i, gEqA_s, atI_0, atI_1, atI_2, atI_3, gCmpO_i, intO, seqOf, isFlat, e, ok_ok]
theorem factor_of_ok {v : D} {n : Str} {k t : Int} {ps : List NI} {c : Churn} (e : ∀ c, F_need_form [v, .str "form"] c = .ok (.tup [.int k, .tup (ps.map rwD)]) c) (hn : isNm n.cps.toList = true) (hl : n.cps.toList.length ≤ 1000) (h : ∀ p ∈ ps, p.1 = n → p.2 = t) :
    F_factor_of2 [v, .str n] c = .ok (.int (if n ∈ ps.map (·.1) then t else 0)) c := by
  apply eq_of_ok
  show Ok (G.nx (runDef 3 g_factor_of2 [v, .str n]) c) _
  rw [ok_def]
  show Ok (g_factor_of2 [.val v, .val (.str n), .no] c) _
  unfold g_factor_of2
  have en : ∀ c, F_need_name [.str n, .str "name"] c = .ok .non c := fun c => need_name_ok hn hl
  have ei : ∀ c, F_factor_in2 [.tup [.int k, .tup (ps.map rwD)], .str n] c = .ok (.int (if n ∈ ps.map (·.1) then t else 0)) c := fun c => factor_in_ok h
  simp only [ok_seq, ok_asg, ok_par, ok_ret, ok_retN, ok_sNil, ok_sIf, ok_bin, ok_un, ok_var, ok_C, ok_call, ok_callK, ok_cons, ok_nil, ok_args, ok_tru, ok_not, ok_and, ok_or, ok_eNot, ok_eAnd, ok_eOr, ok_if, ok_cmp, ok_chain, ok_ofC, ok_oNone, ok_oSome, ok_sl, ok_met, ok_rev, ok_items, ok_lenSet, ok_pairs0, ok_pairs, ok_dict, ok_iSeq, ok_rng1, ok_rng2, ok_comp, ok_comp0, ok_for, List.getElem?_cons_zero, List.getElem?_cons_succ, Option.some.injEq, Sl.val.injEq, exists_eq_left', List.nil_append, List.append_nil, List.length_cons, List.length_nil, true_and, and_true, and_self, Nat.zero_add, Nat.reduceAdd, Nat.reduceLeDiff, gAdd_i, gSub_i, gNeg_i, gBl_e, gCmpI_i, gLst_o, gTup_o, gN_e, List.set_cons_zero, List.set_cons_succ, truD_b, gIsN_n, isNonD, gLen_l, gInt_b, gInt_i, Option.map_some, Bool.false_eq_true, if_true, if_false, Bool.not_true, Bool.not_false, keyD, walkD, ok_sOwn, ok_sFz, ok_cBor, ok_eBor, ok_sPut, ok_xNil, ok_xVal, ok_xOwn, ok_zip, ok_enum, ok_star, ok_sortItems, ok_dict0, ok_ixO, ok_parX, ok_parX3, gIxA_l, gIxA_t, gEqA_i, gEqA_s, atI_0, atI_1, atI_2, atI_3, gCmpO_i, intO, seqOf, isFlat, e, en, ei, ok_ok, ok_expr]
/-! the rows of a sum -/
theorem not_asc {n : Str} {qs : List NI} (h : D.str n ∉ ascP qs) : totP n qs = 0 := by
  rw [← sum_tot]
  refine getP_no fun hm => h ?_
  have e := key_all qs
  have h1 : (Sum.inr n : Key) ∈ metK [] (qs.map kP) := by
    rw [← e]
    obtain ⟨p, hp, rfl⟩ := List.mem_map.mp hm
    exact List.mem_map.mpr ⟨p, hp, rfl⟩
  have h2 : D.str n ∈ setL (qs.map kP) := List.mem_map.mpr ⟨_, h1, rfl⟩
  exact (List.mergeSort_perm (setL (qs.map kP)) _).mem_iff.mpr h2
theorem rows_rw (qs : List NI) : ((rowsP qs).map pairOf).map rwD = rowsP qs := by
  rw [List.map_map]
  have e : (rowsP qs).map (rwD ∘ pairOf) = (rowsP qs).map id := List.map_congr_left fun d hd => by
    obtain ⟨n, _, rfl, _⟩ := rows_are d hd
    rfl
  rw [e, List.map_id]
theorem rows_get {n : Str} {qs : List NI} : (if n ∈ ((rowsP qs).map pairOf).map (·.1) then totP n qs else 0) = totP n qs := by
  by_cases h : n ∈ ((rowsP qs).map pairOf).map (·.1)
  · rw [if_pos h]
  · rw [if_neg h]
    refine Eq.symm (Decidable.byContradiction fun z => h ?_)
    have ha : D.str n ∈ ascP qs := Classical.byContradiction fun y => z (not_asc y)
    have hf : D.str n ∈ (ascP qs).filter (nzT qs) := List.mem_filter.mpr ⟨ha, by show (!(totP n qs == 0)) = true; simpa using z⟩
    have hr : rowT qs (.str n) ∈ rowsP qs := List.mem_map.mpr ⟨_, hf, rfl⟩
    exact List.mem_map.mpr ⟨pairOf (rowT qs (.str n)), List.mem_map.mpr ⟨_, hr, rfl⟩, rfl⟩
theorem rows_tot {n : Str} {qs : List NI} : ∀ p ∈ (rowsP qs).map pairOf, p.1 = n → p.2 = totP n qs := fun p hp e => by
  obtain ⟨d, hd, rfl⟩ := List.mem_map.mp hp
  obtain ⟨m, _, rfl, _⟩ := rows_are d hd
  have e : m = n := e
  subst e; rfl
end G

set_option Elab.async false
set_option linter.all false
set_option maxRecDepth 100000
set_option maxHeartbeats 8000000
/-! NK2: pairs drawn, forms bent. -/
namespace G
open PySem PySem.Spec PyProof.Rows L2
theorem gAdd_lst {xs ys : List D} (h : xs.length + ys.length ≤ 1000) : gAdd (.lst xs) (.lst ys) = some (.lst (xs ++ ys)) := if_pos (Nat.le_trans h (by decide))
/-- a pair as drawn -/
def pOk (p : NI) : Prop := isNm p.1.cps.toList = true ∧ fitS p.1 = true ∧ p.2.natAbs ≤ 10 ^ 40 ∧ PyData.strOk p.1 = true
theorem pairs_ok {n : Nat} {c : Churn} {k : D → Churn → Prop} (g : Good n c) (hn : n + 20 ≤ 2 ^ 20) (q : ∀ (ps : List NI) c', ps.length ≤ 5 → (∀ p ∈ ps, pOk p) → Good (n + 20) c' → k (.lst (ps.map rwD)) c') : Ok (F_L_pairs [.chn] c) k := by
  show Ok (G.nx (runDef 4 g_L_pairs [.chn]) c) k
  rw [ok_def]
  show Ok (g_L_pairs [.val .chn, .no, .no, .no] c) _
  unfold g_L_pairs
  have e40 : gPow (.int 10) (.int 40) = some (.int (10 ^ 40)) := gPow_ok (by decide) (by decide) (by decide)
  refine ok_step (fun ρ c1 => ρ = [.val .chn, .own (.lst []), .no, .no] ∧ Good n c1) ?_ fun ρ c1 hm => ?_
  · simp only [ok_seq, ok_asg, ok_par, ok_ret, ok_retN, ok_sNil, ok_sIf, ok_bin, ok_un, ok_var, ok_C, ok_call, ok_callK, ok_cons, ok_nil, ok_args, ok_tru, ok_not, ok_and, ok_or, ok_eNot, ok_eAnd, ok_eOr, ok_if, ok_cmp, ok_chain, ok_ofC, ok_oNone, ok_oSome, ok_sl, ok_met, ok_rev, ok_items, ok_lenSet, ok_pairs0, ok_pairs, ok_dict, ok_iSeq, ok_rng1, ok_rng2, ok_comp, ok_comp0, ok_for, List.getElem?_cons_zero, List.getElem?_cons_succ, Option.some.injEq, Sl.val.injEq, exists_eq_left', List.nil_append, List.append_nil, List.length_cons, List.length_nil, true_and, and_true, and_self, Nat.zero_add, Nat.reduceAdd, Nat.reduceLeDiff, gAdd_i, gSub_i, gNeg_i, gBl_e, gCmpI_i, gLst_o, gTup_o, gN_e, List.set_cons_zero, List.set_cons_succ, truD_b, gIsN_n, isNonD, gLen_l, gInt_b, gInt_i, Option.map_some, Bool.false_eq_true, if_true, if_false, Bool.not_true, Bool.not_false, keyD, walkD, ok_sOwn, ok_sFz, ok_cBor, ok_eBor, ok_sPut, ok_xNil, ok_xVal, ok_xOwn, ok_zip, ok_enum, ok_star, ok_sortItems, ok_dict0, ok_ixO, ok_parX, ok_parX3, gIxA_l, gIxA_t, gEqA_i, gEqA_s, atI_0, atI_1, atI_2, atI_3, gCmpO_i, intO, seqOf, isFlat]
    exact g
  obtain ⟨rfl, g⟩ := hm
  refine ok_step (fun ρ c2 => ∃ (ps : List NI) (s t : Sl), ρ = [.val .chn, .own (.lst (ps.map rwD)), s, t] ∧ ps.length ≤ 5 ∧ (∀ p ∈ ps, pOk p) ∧ Good (n + 20) c2) ?_ fun ρ c2 hm => ?_
  · simp only [ok_seq, ok_asg, ok_par, ok_ret, ok_retN, ok_sNil, ok_sIf, ok_bin, ok_un, ok_var, ok_C, ok_call, ok_callK, ok_cons, ok_nil, ok_args, ok_tru, ok_not, ok_and, ok_or, ok_eNot, ok_eAnd, ok_eOr, ok_if, ok_cmp, ok_chain, ok_ofC, ok_oNone, ok_oSome, ok_sl, ok_met, ok_rev, ok_items, ok_lenSet, ok_pairs0, ok_pairs, ok_dict, ok_iSeq, ok_rng1, ok_rng2, ok_comp, ok_comp0, ok_for, List.getElem?_cons_zero, List.getElem?_cons_succ, Option.some.injEq, Sl.val.injEq, exists_eq_left', List.nil_append, List.append_nil, List.length_cons, List.length_nil, true_and, and_true, and_self, Nat.zero_add, Nat.reduceAdd, Nat.reduceLeDiff, gAdd_i, gSub_i, gNeg_i, gBl_e, gCmpI_i, gLst_o, gTup_o, gN_e, List.set_cons_zero, List.set_cons_succ, truD_b, gIsN_n, isNonD, gLen_l, gInt_b, gInt_i, Option.map_some, Bool.false_eq_true, if_true, if_false, Bool.not_true, Bool.not_false, keyD, walkD, ok_sOwn, ok_sFz, ok_cBor, ok_eBor, ok_sPut, ok_xNil, ok_xVal, ok_xOwn, ok_zip, ok_enum, ok_star, ok_sortItems, ok_dict0, ok_ixO, ok_parX, ok_parX3, gIxA_l, gIxA_t, gEqA_i, gEqA_s, atI_0, atI_1, atI_2, atI_3, gCmpO_i, intO, seqOf, isFlat]
    refine draw_ok g (by omega) (by decide) (by decide) fun r c' h0 h1 g1 => ?_
    refine ⟨_, rng1_i (by omega) (by omega), ?_⟩
    have hlen : (rangeD 0 r).length = r.toNat := by
      unfold rangeD; simp
    refine for_count (B := n + 16) (fun m ρ c => ∃ (ps : List NI) (s t : Sl) (i : Nat), ρ = [.val .chn, .own (.lst (ps.map rwD)), s, t] ∧ m = n + 1 + 3 * i ∧ ps.length ≤ i ∧ (∀ p ∈ ps, pOk p) ∧ Good m c) 3 ?_ ⟨[], .no, .no, 0, rfl, rfl, Nat.le_refl 0, by simp, g1⟩ (by rw [hlen]; omega) ?_
    · rintro d hd m ρ c hm ⟨ps, s, t, i, rfl, hmi, hl, hg, g⟩
      refine ⟨[.val .chn, .own (.lst (ps.map rwD)), .val d, t], rfl, ?_⟩
      have tl : tyD "list" (.lst (ps.map rwD)) = true := rfl
      refine ok_step (fun ρ c1 => ∃ s, ρ = [.val .chn, .own (.lst (ps.map rwD)), .val d, .val (.str s)] ∧ isNm s.cps.toList = true ∧ fitS s = true ∧ PyData.strOk s = true ∧ Good (m + 1) c1) ?_ fun ρ c1 hm => ?_
      · simp only [ok_seq, ok_asg, ok_par, ok_ret, ok_retN, ok_sNil, ok_sIf, ok_bin, ok_un, ok_var, ok_C, ok_call, ok_callK, ok_cons, ok_nil, ok_args, ok_tru, ok_not, ok_and, ok_or, ok_eNot, ok_eAnd, ok_eOr, ok_if, ok_cmp, ok_chain, ok_ofC, ok_oNone, ok_oSome, ok_sl, ok_met, ok_rev, ok_items, ok_lenSet, ok_pairs0, ok_pairs, ok_dict, ok_iSeq, ok_rng1, ok_rng2, ok_comp, ok_comp0, ok_for, List.getElem?_cons_zero, List.getElem?_cons_succ, Option.some.injEq, Sl.val.injEq, exists_eq_left', List.nil_append, List.append_nil, List.length_cons, List.length_nil, true_and, and_true, and_self, Nat.zero_add, Nat.reduceAdd, Nat.reduceLeDiff, gAdd_i, gSub_i, gNeg_i, gBl_e, gCmpI_i, gLst_o, gTup_o, gN_e, List.set_cons_zero, List.set_cons_succ, truD_b, gIsN_n, isNonD, gLen_l, gInt_b, gInt_i, Option.map_some, Bool.false_eq_true, if_true, if_false, Bool.not_true, Bool.not_false, keyD, walkD, ok_sOwn, ok_sFz, ok_cBor, ok_eBor, ok_sPut, ok_xNil, ok_xVal, ok_xOwn, ok_zip, ok_enum, ok_star, ok_sortItems, ok_dict0, ok_ixO, ok_parX, ok_parX3, gIxA_l, gIxA_t, gEqA_i, gEqA_s, atI_0, atI_1, atI_2, atI_3, gCmpO_i, intO, seqOf, isFlat]
        refine pick_ok g (by omega) (by simp) (by simp) fun x hx c4 g4 => ?_
        simp only [List.mem_cons, List.not_mem_nil, or_false] at hx
        rcases hx with rfl | rfl | rfl | rfl | rfl | rfl | rfl <;> exact ⟨_, rfl, by decide +kernel, by decide +kernel, by decide +kernel, g4⟩
      obtain ⟨s, rfl, n1, n2, n3, g⟩ := hm
      simp only [ok_seq, ok_asg, ok_par, ok_ret, ok_retN, ok_sNil, ok_sIf, ok_bin, ok_un, ok_var, ok_C, ok_call, ok_callK, ok_cons, ok_nil, ok_args, ok_tru, ok_not, ok_and, ok_or, ok_eNot, ok_eAnd, ok_eOr, ok_if, ok_cmp, ok_chain, ok_ofC, ok_oNone, ok_oSome, ok_sl, ok_met, ok_rev, ok_items, ok_lenSet, ok_pairs0, ok_pairs, ok_dict, ok_iSeq, ok_rng1, ok_rng2, ok_comp, ok_comp0, ok_for, List.getElem?_cons_zero, List.getElem?_cons_succ, Option.some.injEq, Sl.val.injEq, exists_eq_left', List.nil_append, List.append_nil, List.length_cons, List.length_nil, true_and, and_true, and_self, Nat.zero_add, Nat.reduceAdd, Nat.reduceLeDiff, gAdd_i, gSub_i, gNeg_i, gBl_e, gCmpI_i, gLst_o, gTup_o, gN_e, List.set_cons_zero, List.set_cons_succ, truD_b, gIsN_n, isNonD, gLen_l, gInt_b, gInt_i, Option.map_some, Bool.false_eq_true, if_true, if_false, Bool.not_true, Bool.not_false, keyD, walkD, ok_sOwn, ok_sFz, ok_cBor, ok_eBor, ok_sPut, ok_xNil, ok_xVal, ok_xOwn, ok_zip, ok_enum, ok_star, ok_sortItems, ok_dict0, ok_ixO, ok_parX, ok_parX3, gIxA_l, gIxA_t, gEqA_i, gEqA_s, atI_0, atI_1, atI_2, atI_3, gCmpO_i, intO, seqOf, isFlat, e40, ok_sMut, Sl.own.injEq, tl]
      refine draw_ok g (by omega) (by decide) (by decide) fun r c3 h0 h1 g3 => ?_
      simp only [ok_seq, ok_asg, ok_par, ok_ret, ok_retN, ok_sNil, ok_sIf, ok_bin, ok_un, ok_var, ok_C, ok_call, ok_callK, ok_cons, ok_nil, ok_args, ok_tru, ok_not, ok_and, ok_or, ok_eNot, ok_eAnd, ok_eOr, ok_if, ok_cmp, ok_chain, ok_ofC, ok_oNone, ok_oSome, ok_sl, ok_met, ok_rev, ok_items, ok_lenSet, ok_pairs0, ok_pairs, ok_dict, ok_iSeq, ok_rng1, ok_rng2, ok_comp, ok_comp0, ok_for, List.getElem?_cons_zero, List.getElem?_cons_succ, Option.some.injEq, Sl.val.injEq, exists_eq_left', List.nil_append, List.append_nil, List.length_cons, List.length_nil, true_and, and_true, and_self, Nat.zero_add, Nat.reduceAdd, Nat.reduceLeDiff, gAdd_i, gSub_i, gNeg_i, gBl_e, gCmpI_i, gLst_o, gTup_o, gN_e, List.set_cons_zero, List.set_cons_succ, truD_b, gIsN_n, isNonD, gLen_l, gInt_b, gInt_i, Option.map_some, Bool.false_eq_true, if_true, if_false, Bool.not_true, Bool.not_false, keyD, walkD, ok_sOwn, ok_sFz, ok_cBor, ok_eBor, ok_sPut, ok_xNil, ok_xVal, ok_xOwn, ok_zip, ok_enum, ok_star, ok_sortItems, ok_dict0, ok_ixO, ok_parX, ok_parX3, gIxA_l, gIxA_t, gEqA_i, gEqA_s, atI_0, atI_1, atI_2, atI_3, gCmpO_i, intO, seqOf, isFlat, e40]
      refine pick_ok g3 (by omega) (by simp) (by simp) fun x hx c4 g4 => ?_
      have hx2 : ∃ v : Int, x = .int v ∧ v.natAbs ≤ 10 ^ 40 := by
        simp only [List.mem_cons, List.not_mem_nil, or_false] at hx
        rcases hx with rfl | rfl | rfl | rfl | rfl | rfl | rfl | rfl
        · exact ⟨_, rfl, by decide⟩
        · exact ⟨_, rfl, by decide⟩
        · exact ⟨_, rfl, by decide⟩
        · exact ⟨_, rfl, by decide⟩
        · exact ⟨_, rfl, by decide⟩
        · exact ⟨_, rfl, by decide⟩
        · exact ⟨_, rfl, by decide⟩
        · exact ⟨_, rfl, by omega⟩
      obtain ⟨v, rfl, hv⟩ := hx2
      have ea : gAppend (.lst (ps.map rwD)) [.tup [.str s, .int v]] = some (.non, .lst ((ps ++ [(s, v)]).map rwD)) := by
        have hz : (ps.map rwD).length < sizeLine := by rw [List.length_map]; have : sizeLine = 16777216 := by decide
                                                       omega
        rw [List.map_append]
        first | exact if_pos hz | rfl
      exact ⟨_, _, ea, ps ++ [(s, v)], .val d, .val (.str s), i + 1, rfl, by omega, by simp; omega, fun p hp => (List.mem_append.mp hp).elim (hg p) fun z => by
        rw [List.mem_singleton.mp z]; exact ⟨n1, n2, hv, n3⟩, g4.mono (by omega)⟩
    · rintro ρ c ⟨ps, s, t, i, rfl, hmi, hl, hg, g⟩
      rw [hlen] at hmi g
      exact ⟨rfl, ps, s, t, rfl, by omega, hg, g.mono (by omega)⟩
  obtain ⟨ps, s, t, rfl, hl, hg, g⟩ := hm
  have f : frzE 1 [.val .chn, .own (.lst (ps.map rwD)), s, t] = [.val .chn, .val (.lst (ps.map rwD)), s, t] := rfl
  simp only [ok_seq, ok_asg, ok_par, ok_ret, ok_retN, ok_sNil, ok_sIf, ok_bin, ok_un, ok_var, ok_C, ok_call, ok_callK, ok_cons, ok_nil, ok_args, ok_tru, ok_not, ok_and, ok_or, ok_eNot, ok_eAnd, ok_eOr, ok_if, ok_cmp, ok_chain, ok_ofC, ok_oNone, ok_oSome, ok_sl, ok_met, ok_rev, ok_items, ok_lenSet, ok_pairs0, ok_pairs, ok_dict, ok_iSeq, ok_rng1, ok_rng2, ok_comp, ok_comp0, ok_for, List.getElem?_cons_zero, List.getElem?_cons_succ, Option.some.injEq, Sl.val.injEq, exists_eq_left', List.nil_append, List.append_nil, List.length_cons, List.length_nil, true_and, and_true, and_self, Nat.zero_add, Nat.reduceAdd, Nat.reduceLeDiff, gAdd_i, gSub_i, gNeg_i, gBl_e, gCmpI_i, gLst_o, gTup_o, gN_e, List.set_cons_zero, List.set_cons_succ, truD_b, gIsN_n, isNonD, gLen_l, gInt_b, gInt_i, Option.map_some, Bool.false_eq_true, if_true, if_false, Bool.not_true, Bool.not_false, keyD, walkD, ok_sOwn, ok_sFz, ok_cBor, ok_eBor, ok_sPut, ok_xNil, ok_xVal, ok_xOwn, ok_zip, ok_enum, ok_star, ok_sortItems, ok_dict0, ok_ixO, ok_parX, ok_parX3, gIxA_l, gIxA_t, gEqA_i, gEqA_s, atI_0, atI_1, atI_2, atI_3, gCmpO_i, intO, seqOf, isFlat, f]
  exact q ps _ hl hg g
/-! bent forms: all that is asked of them is that they are tame -/
theorem niceA_iff : ∀ {ds : List D}, niceA ds = true ↔ ∀ d ∈ ds, nice d = true
  | [] => by simp [niceA]
  | d :: ds => by simp [niceA, niceA_iff (ds := ds)]
theorem nice_lst {xs : List D} (hl : xs.length ≤ 1000000) (h : ∀ x ∈ xs, nice x = true) : nice (.lst xs) = true := by
  simp only [nice, niceA_iff.mpr h, decide_eq_true hl, Bool.and_self]
theorem nice_tup {xs : List D} (hl : xs.length ≤ 1000000) (h : ∀ x ∈ xs, nice x = true) : nice (.tup xs) = true := by
  simp only [nice, niceA_iff.mpr h, decide_eq_true hl, Bool.and_self]
theorem cut_mem {xs : List D} {lo hi : Option Int} {x : D} (h : x ∈ cutD xs lo hi) : x ∈ xs := List.mem_of_mem_drop (List.mem_of_mem_take h)
theorem cut_len (xs : List D) (lo hi : Option Int) : (cutD xs lo hi).length ≤ xs.length := by
  unfold cutD
  rw [List.length_take, List.length_drop]; omega
def lsP (p : NI) : D := .lst [.str p.1, .int p.2]
theorem nice_lsP {p : NI} (h : p.1.cps.size ≤ 1000) : nice (lsP p) = true := by
  simp only [lsP, nice, niceA, decide_eq_true h]; rfl
theorem len_set (k : Str) (v : Int) : ∀ ps : List NI, (setP k v ps).length ≤ ps.length + 1
  | [] => Nat.le_refl _
  | p :: r => by
    have := len_set k v r
    unfold setP
    split
    · simp
    · simp only [List.length_cons]; omega
theorem len_fold : ∀ ps acc : List NI, (ps.foldl (fun a p => setP p.1 p.2 a) acc).length ≤ acc.length + ps.length
  | [], acc => Nat.le_refl _
  | p :: ps, acc => by
    have := len_fold ps (setP p.1 p.2 acc)
    have := len_set p.1 p.2 acc
    simp only [List.foldl_cons, List.length_cons]; omega
theorem nice_dct {ps : List NI} (h : ps.length ≤ 1000) : nice (dctP ps) = true := by
  show (decide ((ps.map vP).length ≤ 1000000) && niceA (ps.map vP)) = true
  rw [decide_eq_true (by rw [List.length_map]; omega), Bool.true_and]
  refine niceA_iff.mpr fun d hd => ?_
  obtain ⟨p, _, rfl⟩ := List.mem_map.mp hd
  rfl
theorem bent_ok {n : Nat} {c : Churn} {k : D → Churn → Prop} {i : Int} {ps : List NI} (g : Good n c) (hn : n + 10 ≤ 2 ^ 20) (hl : ps.length ≤ 100) (hp2 : ∀ p ∈ ps, p.1.cps.size ≤ 1000 ∧ PyData.strOk p.1 = true) (q : ∀ w c', nice w = true → Good (n + 10) c' → k w c') :
    Ok (F_L_bent3 [.chn, .tup [.int i, .tup (ps.map rwD)]] c) k := by
  show Ok (G.nx (runDef 9 g_L_bent3 [.chn, .tup [.int i, .tup (ps.map rwD)]]) c) k
  rw [ok_def]
  show Ok (g_L_bent3 [.val .chn, .val (.tup [.int i, .tup (ps.map rwD)]), .no, .no, .no, .no, .no, .no, .no] c) _
  unfold g_L_bent3
  have hp : ∀ p ∈ ps, p.1.cps.size ≤ 1000 := fun p h => (hp2 p h).1
  have e50 : gPow (.int 10) (.int 50) = some (.int (10 ^ 50)) := gPow_ok (by decide) (by decide) (by decide)
  have nl : ∀ x ∈ ps.map lsP, nice x = true := fun x hx => by
    obtain ⟨p, h, rfl⟩ := List.mem_map.mp hx
    exact nice_lsP (hp p h)
  have ll : (ps.map lsP).length ≤ 100 := by rw [List.length_map]; exact hl
  have nL : nice (.lst (ps.map lsP)) = true := nice_lst (by omega) nl
  have nF : nice (.tup [.int i, .tup (ps.map rwD)]) = true := nice_tup (by simp) fun x hx => by
    simp only [List.mem_cons, List.not_mem_nil, or_false] at hx
    rcases hx with rfl | rfl
    · rfl
    · refine nice_tup (by rw [List.length_map]; omega) fun x hx => ?_
      obtain ⟨p, h, rfl⟩ := List.mem_map.mp hx
      have := hp p h
      simp only [rwD, nice, niceA, decide_eq_true this]; rfl
  refine ok_step (fun ρ c1 => ∃ w : Int, ρ = [.val .chn, .val (.tup [.int i, .tup (ps.map rwD)]), .val (.int i), .val (.lst (ps.map lsP)), .val (.int w), .no, .no, .no, .no] ∧ 0 ≤ w ∧ w < 9 ∧ Good (n + 1) c1) ?_ fun ρ c1 hm => ?_
  · simp only [ok_seq, ok_asg, ok_par, ok_ret, ok_retN, ok_sNil, ok_sIf, ok_bin, ok_un, ok_var, ok_C, ok_call, ok_callK, ok_cons, ok_nil, ok_args, ok_tru, ok_not, ok_and, ok_or, ok_eNot, ok_eAnd, ok_eOr, ok_if, ok_cmp, ok_chain, ok_ofC, ok_oNone, ok_oSome, ok_sl, ok_met, ok_rev, ok_items, ok_lenSet, ok_pairs0, ok_pairs, ok_dict, ok_iSeq, ok_rng1, ok_rng2, ok_comp, ok_comp0, ok_for, List.getElem?_cons_zero, List.getElem?_cons_succ, Option.some.injEq, Sl.val.injEq, exists_eq_left', List.nil_append, List.append_nil, List.length_cons, List.length_nil, true_and, and_true, and_self, Nat.zero_add, Nat.reduceAdd, Nat.reduceLeDiff, gAdd_i, gSub_i, gNeg_i, gBl_e, gCmpI_i, gLst_o, gTup_o, gN_e, List.set_cons_zero, List.set_cons_succ, truD_b, gIsN_n, isNonD, gLen_l, gInt_b, gInt_i, Option.map_some, Bool.false_eq_true, if_true, if_false, Bool.not_true, Bool.not_false, keyD, walkD, ok_sOwn, ok_sFz, ok_cBor, ok_eBor, ok_sPut, ok_xNil, ok_xVal, ok_xOwn, ok_zip, ok_enum, ok_star, ok_sortItems, ok_dict0, ok_ixO, ok_parX, ok_parX3, gIxA_l, gIxA_t, gEqA_i, gEqA_s, atI_0, atI_1, atI_2, atI_3, gCmpO_i, intO, seqOf, isFlat]
    refine ⟨size_line (by rw [List.length_map]; omega), ?_⟩
    refine comp_map (fun d => .lst (itemsOf d)) (fun x hx c => ?_) ?_
    · obtain ⟨p, _, rfl⟩ := List.mem_map.mp hx
      exact ⟨_, rfl, rfl, rfl⟩
    · refine draw_ok g (by omega) (by decide) (by decide) fun w c3 h0 h1 g3 => ?_
      have em : (ps.map rwD).map (fun d => D.lst (itemsOf d)) = ps.map lsP := by rw [List.map_map]; rfl
      simp only [ok_seq, ok_asg, ok_par, ok_ret, ok_retN, ok_sNil, ok_sIf, ok_bin, ok_un, ok_var, ok_C, ok_call, ok_callK, ok_cons, ok_nil, ok_args, ok_tru, ok_not, ok_and, ok_or, ok_eNot, ok_eAnd, ok_eOr, ok_if, ok_cmp, ok_chain, ok_ofC, ok_oNone, ok_oSome, ok_sl, ok_met, ok_rev, ok_items, ok_lenSet, ok_pairs0, ok_pairs, ok_dict, ok_iSeq, ok_rng1, ok_rng2, ok_comp, ok_comp0, ok_for, List.getElem?_cons_zero, List.getElem?_cons_succ, Option.some.injEq, Sl.val.injEq, exists_eq_left', List.nil_append, List.append_nil, List.length_cons, List.length_nil, true_and, and_true, and_self, Nat.zero_add, Nat.reduceAdd, Nat.reduceLeDiff, gAdd_i, gSub_i, gNeg_i, gBl_e, gCmpI_i, gLst_o, gTup_o, gN_e, List.set_cons_zero, List.set_cons_succ, truD_b, gIsN_n, isNonD, gLen_l, gInt_b, gInt_i, Option.map_some, Bool.false_eq_true, if_true, if_false, Bool.not_true, Bool.not_false, keyD, walkD, ok_sOwn, ok_sFz, ok_cBor, ok_eBor, ok_sPut, ok_xNil, ok_xVal, ok_xOwn, ok_zip, ok_enum, ok_star, ok_sortItems, ok_dict0, ok_ixO, ok_parX, ok_parX3, gIxA_l, gIxA_t, gEqA_i, gEqA_s, atI_0, atI_1, atI_2, atI_3, gCmpO_i, intO, seqOf, isFlat, em]
      exact ⟨_, _, _, rfl, w, rfl, h0, h1, g3⟩
  obtain ⟨w, rfl, w0, w9, g⟩ := hm
  refine ok_step (fun ρ c1 => ∃ o, ρ = [.val .chn, .val (.tup [.int i, .tup (ps.map rwD)]), .val (.int i), .val (.lst (ps.map lsP)), .val (.int w), .val o, .no, .no, .no] ∧ nice o = true ∧ Good (n + 2) c1) ?_ fun ρ c1 hm => ?_
  · simp only [ok_seq, ok_asg, ok_par, ok_ret, ok_retN, ok_sNil, ok_sIf, ok_bin, ok_un, ok_var, ok_C, ok_call, ok_callK, ok_cons, ok_nil, ok_args, ok_tru, ok_not, ok_and, ok_or, ok_eNot, ok_eAnd, ok_eOr, ok_if, ok_cmp, ok_chain, ok_ofC, ok_oNone, ok_oSome, ok_sl, ok_met, ok_rev, ok_items, ok_lenSet, ok_pairs0, ok_pairs, ok_dict, ok_iSeq, ok_rng1, ok_rng2, ok_comp, ok_comp0, ok_for, List.getElem?_cons_zero, List.getElem?_cons_succ, Option.some.injEq, Sl.val.injEq, exists_eq_left', List.nil_append, List.append_nil, List.length_cons, List.length_nil, true_and, and_true, and_self, Nat.zero_add, Nat.reduceAdd, Nat.reduceLeDiff, gAdd_i, gSub_i, gNeg_i, gBl_e, gCmpI_i, gLst_o, gTup_o, gN_e, List.set_cons_zero, List.set_cons_succ, truD_b, gIsN_n, isNonD, gLen_l, gInt_b, gInt_i, Option.map_some, Bool.false_eq_true, if_true, if_false, Bool.not_true, Bool.not_false, keyD, walkD, ok_sOwn, ok_sFz, ok_cBor, ok_eBor, ok_sPut, ok_xNil, ok_xVal, ok_xOwn, ok_zip, ok_enum, ok_star, ok_sortItems, ok_dict0, ok_ixO, ok_parX, ok_parX3, gIxA_l, gIxA_t, gEqA_i, gEqA_s, atI_0, atI_1, atI_2, atI_3, gCmpO_i, intO, seqOf, isFlat, e50]
    refine pick_ok g (by omega) (by simp) (by simp) fun x hx c4 g4 => ?_
    simp only [List.mem_cons, List.not_mem_nil, or_false] at hx
    rcases hx with rfl | rfl | rfl | rfl | rfl | rfl | rfl | rfl | rfl | rfl | rfl | rfl | rfl | rfl | rfl <;> exact ⟨_, rfl, by kernel_rfl, g4⟩
  obtain ⟨o, rfl, no, g⟩ := hm
  have ni : ∀ j : Int, nice (.int j) = true := fun _ => rfl
  refine ok_ifS (w == 0) ?_ (fun hs => ?_) fun hs => ?_
  · simp only [ok_seq, ok_asg, ok_par, ok_ret, ok_retN, ok_sNil, ok_sIf, ok_bin, ok_un, ok_var, ok_C, ok_call, ok_callK, ok_cons, ok_nil, ok_args, ok_tru, ok_not, ok_and, ok_or, ok_eNot, ok_eAnd, ok_eOr, ok_if, ok_cmp, ok_chain, ok_ofC, ok_oNone, ok_oSome, ok_sl, ok_met, ok_rev, ok_items, ok_lenSet, ok_pairs0, ok_pairs, ok_dict, ok_iSeq, ok_rng1, ok_rng2, ok_comp, ok_comp0, ok_for, List.getElem?_cons_zero, List.getElem?_cons_succ, Option.some.injEq, Sl.val.injEq, exists_eq_left', List.nil_append, List.append_nil, List.length_cons, List.length_nil, true_and, and_true, and_self, Nat.zero_add, Nat.reduceAdd, Nat.reduceLeDiff, gAdd_i, gSub_i, gNeg_i, gBl_e, gCmpI_i, gLst_o, gTup_o, gN_e, List.set_cons_zero, List.set_cons_succ, truD_b, gIsN_n, isNonD, gLen_l, gInt_b, gInt_i, Option.map_some, Bool.false_eq_true, if_true, if_false, Bool.not_true, Bool.not_false, keyD, walkD, ok_sOwn, ok_sFz, ok_cBor, ok_eBor, ok_sPut, ok_xNil, ok_xVal, ok_xOwn, ok_zip, ok_enum, ok_star, ok_sortItems, ok_dict0, ok_ixO, ok_parX, ok_parX3, gIxA_l, gIxA_t, gEqA_i, gEqA_s, atI_0, atI_1, atI_2, atI_3, gCmpO_i, intO, seqOf, isFlat]
  · simp only [ok_seq, ok_asg, ok_par, ok_ret, ok_retN, ok_sNil, ok_sIf, ok_bin, ok_un, ok_var, ok_C, ok_call, ok_callK, ok_cons, ok_nil, ok_args, ok_tru, ok_not, ok_and, ok_or, ok_eNot, ok_eAnd, ok_eOr, ok_if, ok_cmp, ok_chain, ok_ofC, ok_oNone, ok_oSome, ok_sl, ok_met, ok_rev, ok_items, ok_lenSet, ok_pairs0, ok_pairs, ok_dict, ok_iSeq, ok_rng1, ok_rng2, ok_comp, ok_comp0, ok_for, List.getElem?_cons_zero, List.getElem?_cons_succ, Option.some.injEq, Sl.val.injEq, exists_eq_left', List.nil_append, List.append_nil, List.length_cons, List.length_nil, true_and, and_true, and_self, Nat.zero_add, Nat.reduceAdd, Nat.reduceLeDiff, gAdd_i, gSub_i, gNeg_i, gBl_e, gCmpI_i, gLst_o, gTup_o, gN_e, List.set_cons_zero, List.set_cons_succ, truD_b, gIsN_n, isNonD, gLen_l, gInt_b, gInt_i, Option.map_some, Bool.false_eq_true, if_true, if_false, Bool.not_true, Bool.not_false, keyD, walkD, ok_sOwn, ok_sFz, ok_cBor, ok_eBor, ok_sPut, ok_xNil, ok_xVal, ok_xOwn, ok_zip, ok_enum, ok_star, ok_sortItems, ok_dict0, ok_ixO, ok_parX, ok_parX3, gIxA_l, gIxA_t, gEqA_i, gEqA_s, atI_0, atI_1, atI_2, atI_3, gCmpO_i, intO, seqOf, isFlat, Ctl.ret.injEq]
    exact q _ _ (nice_tup (by simp) fun x hx => by
      simp only [List.mem_cons, List.not_mem_nil, or_false] at hx
      rcases hx with rfl | rfl
      · exact no
      · exact nL) (g.mono (by omega))
  refine ok_ifS (w == 1) ?_ (fun hs => ?_) fun hs => ?_
  · simp only [ok_seq, ok_asg, ok_par, ok_ret, ok_retN, ok_sNil, ok_sIf, ok_bin, ok_un, ok_var, ok_C, ok_call, ok_callK, ok_cons, ok_nil, ok_args, ok_tru, ok_not, ok_and, ok_or, ok_eNot, ok_eAnd, ok_eOr, ok_if, ok_cmp, ok_chain, ok_ofC, ok_oNone, ok_oSome, ok_sl, ok_met, ok_rev, ok_items, ok_lenSet, ok_pairs0, ok_pairs, ok_dict, ok_iSeq, ok_rng1, ok_rng2, ok_comp, ok_comp0, ok_for, List.getElem?_cons_zero, List.getElem?_cons_succ, Option.some.injEq, Sl.val.injEq, exists_eq_left', List.nil_append, List.append_nil, List.length_cons, List.length_nil, true_and, and_true, and_self, Nat.zero_add, Nat.reduceAdd, Nat.reduceLeDiff, gAdd_i, gSub_i, gNeg_i, gBl_e, gCmpI_i, gLst_o, gTup_o, gN_e, List.set_cons_zero, List.set_cons_succ, truD_b, gIsN_n, isNonD, gLen_l, gInt_b, gInt_i, Option.map_some, Bool.false_eq_true, if_true, if_false, Bool.not_true, Bool.not_false, keyD, walkD, ok_sOwn, ok_sFz, ok_cBor, ok_eBor, ok_sPut, ok_xNil, ok_xVal, ok_xOwn, ok_zip, ok_enum, ok_star, ok_sortItems, ok_dict0, ok_ixO, ok_parX, ok_parX3, gIxA_l, gIxA_t, gEqA_i, gEqA_s, atI_0, atI_1, atI_2, atI_3, gCmpO_i, intO, seqOf, isFlat]
  · simp only [ok_seq, ok_asg, ok_par, ok_ret, ok_retN, ok_sNil, ok_sIf, ok_bin, ok_un, ok_var, ok_C, ok_call, ok_callK, ok_cons, ok_nil, ok_args, ok_tru, ok_not, ok_and, ok_or, ok_eNot, ok_eAnd, ok_eOr, ok_if, ok_cmp, ok_chain, ok_ofC, ok_oNone, ok_oSome, ok_sl, ok_met, ok_rev, ok_items, ok_lenSet, ok_pairs0, ok_pairs, ok_dict, ok_iSeq, ok_rng1, ok_rng2, ok_comp, ok_comp0, ok_for, List.getElem?_cons_zero, List.getElem?_cons_succ, Option.some.injEq, Sl.val.injEq, exists_eq_left', List.nil_append, List.append_nil, List.length_cons, List.length_nil, true_and, and_true, and_self, Nat.zero_add, Nat.reduceAdd, Nat.reduceLeDiff, gAdd_i, gSub_i, gNeg_i, gBl_e, gCmpI_i, gLst_o, gTup_o, gN_e, List.set_cons_zero, List.set_cons_succ, truD_b, gIsN_n, isNonD, gLen_l, gInt_b, gInt_i, Option.map_some, Bool.false_eq_true, if_true, if_false, Bool.not_true, Bool.not_false, keyD, walkD, ok_sOwn, ok_sFz, ok_cBor, ok_eBor, ok_sPut, ok_xNil, ok_xVal, ok_xOwn, ok_zip, ok_enum, ok_star, ok_sortItems, ok_dict0, ok_ixO, ok_parX, ok_parX3, gIxA_l, gIxA_t, gEqA_i, gEqA_s, atI_0, atI_1, atI_2, atI_3, gCmpO_i, intO, seqOf, isFlat, Ctl.ret.injEq]
    exact q _ _ (nice_tup (by simp) fun x hx => by
      simp only [List.mem_cons, List.not_mem_nil, or_false] at hx
      rcases hx with rfl | rfl
      · exact ni _
      · exact no) (g.mono (by omega))
  have okL : ∀ x ∈ ps.map lsP, okD x := fun x hx => by
    obtain ⟨p, hm, rfl⟩ := List.mem_map.mp hx
    have so := (hp2 p hm).2
    exact ⟨_, rfl, by simp [PyData.canLay0, PyData.canLayAll0, so], by simp [PyData.depth, PyData.depthAll]⟩
  refine ok_ifS (!(ps.map lsP).isEmpty && ltI w 6) ?_ (fun hs => ?_) fun hs => ?_
  · simp only [ok_seq, ok_asg, ok_par, ok_ret, ok_retN, ok_sNil, ok_sIf, ok_bin, ok_un, ok_var, ok_C, ok_call, ok_callK, ok_cons, ok_nil, ok_args, ok_tru, ok_not, ok_and, ok_or, ok_eNot, ok_eAnd, ok_eOr, ok_if, ok_cmp, ok_chain, ok_ofC, ok_oNone, ok_oSome, ok_sl, ok_met, ok_rev, ok_items, ok_lenSet, ok_pairs0, ok_pairs, ok_dict, ok_iSeq, ok_rng1, ok_rng2, ok_comp, ok_comp0, ok_for, List.getElem?_cons_zero, List.getElem?_cons_succ, Option.some.injEq, Sl.val.injEq, exists_eq_left', List.nil_append, List.append_nil, List.length_cons, List.length_nil, true_and, and_true, and_self, Nat.zero_add, Nat.reduceAdd, Nat.reduceLeDiff, gAdd_i, gSub_i, gNeg_i, gBl_e, gCmpI_i, gLst_o, gTup_o, gN_e, List.set_cons_zero, List.set_cons_succ, truD_b, gIsN_n, isNonD, gLen_l, gInt_b, gInt_i, Option.map_some, Bool.false_eq_true, if_true, if_false, Bool.not_true, Bool.not_false, keyD, walkD, ok_sOwn, ok_sFz, ok_cBor, ok_eBor, ok_sPut, ok_xNil, ok_xVal, ok_xOwn, ok_zip, ok_enum, ok_star, ok_sortItems, ok_dict0, ok_ixO, ok_parX, ok_parX3, gIxA_l, gIxA_t, gEqA_i, gEqA_s, atI_0, atI_1, atI_2, atI_3, gCmpO_i, intO, seqOf, isFlat, eqX_nil okL]
    cases (ps.map lsP).isEmpty <;> simp only [ok_seq, ok_asg, ok_par, ok_ret, ok_retN, ok_sNil, ok_sIf, ok_bin, ok_un, ok_var, ok_C, ok_call, ok_callK, ok_cons, ok_nil, ok_args, ok_tru, ok_not, ok_and, ok_or, ok_eNot, ok_eAnd, ok_eOr, ok_if, ok_cmp, ok_chain, ok_ofC, ok_oNone, ok_oSome, ok_sl, ok_met, ok_rev, ok_items, ok_lenSet, ok_pairs0, ok_pairs, ok_dict, ok_iSeq, ok_rng1, ok_rng2, ok_comp, ok_comp0, ok_for, List.getElem?_cons_zero, List.getElem?_cons_succ, Option.some.injEq, Sl.val.injEq, exists_eq_left', List.nil_append, List.append_nil, List.length_cons, List.length_nil, true_and, and_true, and_self, Nat.zero_add, Nat.reduceAdd, Nat.reduceLeDiff, gAdd_i, gSub_i, gNeg_i, gBl_e, gCmpI_i, gLst_o, gTup_o, gN_e, List.set_cons_zero, List.set_cons_succ, truD_b, gIsN_n, isNonD, gLen_l, gInt_b, gInt_i, Option.map_some, Bool.false_eq_true, if_true, if_false, Bool.not_true, Bool.not_false, keyD, walkD, ok_sOwn, ok_sFz, ok_cBor, ok_eBor, ok_sPut, ok_xNil, ok_xVal, ok_xOwn, ok_zip, ok_enum, ok_star, ok_sortItems, ok_dict0, ok_ixO, ok_parX, ok_parX3, gIxA_l, gIxA_t, gEqA_i, gEqA_s, atI_0, atI_1, atI_2, atI_3, gCmpO_i, intO, seqOf, isFlat, Bool.true_and, Bool.false_and]
  · obtain ⟨h1, h2⟩ := Bool.and_eq_true_iff.mp hs
    have h2 : w < 6 := of_decide_eq_true h2
    have hpos : 0 < (ps.map lsP).length := by
      cases hv : ps.map lsP with
      | nil => rw [hv] at h1; cases h1
      | cons x xs => simp
    refine ok_step (fun ρ c1 => ∃ (a : Nat), ρ = [.val .chn, .val (.tup [.int i, .tup (ps.map rwD)]), .val (.int i), .val (.lst (ps.map lsP)), .val (.int w), .val o, .val (.int (a : Int)), .no, .no] ∧ a < ps.length ∧ Good (n + 3) c1) ?_ fun ρ c1 hm => ?_
    · simp only [ok_seq, ok_asg, ok_par, ok_ret, ok_retN, ok_sNil, ok_sIf, ok_bin, ok_un, ok_var, ok_C, ok_call, ok_callK, ok_cons, ok_nil, ok_args, ok_tru, ok_not, ok_and, ok_or, ok_eNot, ok_eAnd, ok_eOr, ok_if, ok_cmp, ok_chain, ok_ofC, ok_oNone, ok_oSome, ok_sl, ok_met, ok_rev, ok_items, ok_lenSet, ok_pairs0, ok_pairs, ok_dict, ok_iSeq, ok_rng1, ok_rng2, ok_comp, ok_comp0, ok_for, List.getElem?_cons_zero, List.getElem?_cons_succ, Option.some.injEq, Sl.val.injEq, exists_eq_left', List.nil_append, List.append_nil, List.length_cons, List.length_nil, true_and, and_true, and_self, Nat.zero_add, Nat.reduceAdd, Nat.reduceLeDiff, gAdd_i, gSub_i, gNeg_i, gBl_e, gCmpI_i, gLst_o, gTup_o, gN_e, List.set_cons_zero, List.set_cons_succ, truD_b, gIsN_n, isNonD, gLen_l, gInt_b, gInt_i, Option.map_some, Bool.false_eq_true, if_true, if_false, Bool.not_true, Bool.not_false, keyD, walkD, ok_sOwn, ok_sFz, ok_cBor, ok_eBor, ok_sPut, ok_xNil, ok_xVal, ok_xOwn, ok_zip, ok_enum, ok_star, ok_sortItems, ok_dict0, ok_ixO, ok_parX, ok_parX3, gIxA_l, gIxA_t, gEqA_i, gEqA_s, atI_0, atI_1, atI_2, atI_3, gCmpO_i, intO, seqOf, isFlat]
      refine draw_ok g (by omega) (by omega) (by omega) fun r c4 h3 h4 g4 => ?_
      obtain ⟨a, rfl⟩ := Int.eq_ofNat_of_zero_le h3
      rw [List.length_map] at h4
      exact ⟨a, rfl, by omega, g4⟩
    obtain ⟨a, rfl, ha, g⟩ := hm
    have at_a : atI (ps.map lsP) (a : Int) = some (lsP ps[a]) := by
      have hh : a < (ps.map lsP).length := by rw [List.length_map]; exact ha
      rw [atI_nat hh, List.getElem_map]
    have npa : (ps[a]).1.cps.size ≤ 1000 := hp _ (List.getElem_mem ha)
    have nls : nice (lsP ps[a]) = true := nice_lsP npa
    have ns : nice (.str (ps[a]).1) = true := by simp only [nice, decide_eq_true npa]
    have g0 : gIxA (lsP ps[a]) (.int 0) = some (.str (ps[a]).1) := rfl
    have g1 : gIxA (lsP ps[a]) (.int 1) = some (.int (ps[a]).2) := rfl
    have ga : gAdd (lsP ps[a]) (.lst [.int 1]) = some (.lst [.str (ps[a]).1, .int (ps[a]).2, .int 1]) := rfl
    refine ok_step (fun ρ c1 => ∃ bs, ρ = [.val .chn, .val (.tup [.int i, .tup (ps.map rwD)]), .val (.int i), .val (.lst (ps.map lsP)), .val (.int w), .val o, .val (.int (a : Int)), .val (.lst bs), .no] ∧ bs.length ≤ 2 ∧ (∀ x ∈ bs, nice x = true) ∧ Good (n + 3) c1) ?_ fun ρ c1 hm => ?_
    · have hw : w = 2 ∨ w = 3 ∨ w = 4 ∨ w = 5 := by
        have a1 : w ≠ 0 := fun z => by subst z; simp at *
        have a2 : w ≠ 1 := fun z => by subst z; simp at *
        omega
      have sub : ∀ a b : Int, gSub (.int a) (.int b) = some (.int (a - b)) := fun _ _ => rfl
      simp only [ok_seq, ok_asg, ok_par, ok_ret, ok_retN, ok_sNil, ok_sIf, ok_bin, ok_un, ok_var, ok_C, ok_call, ok_callK, ok_cons, ok_nil, ok_args, ok_tru, ok_not, ok_and, ok_or, ok_eNot, ok_eAnd, ok_eOr, ok_if, ok_cmp, ok_chain, ok_ofC, ok_oNone, ok_oSome, ok_sl, ok_met, ok_rev, ok_items, ok_lenSet, ok_pairs0, ok_pairs, ok_dict, ok_iSeq, ok_rng1, ok_rng2, ok_comp, ok_comp0, ok_for, List.getElem?_cons_zero, List.getElem?_cons_succ, Option.some.injEq, Sl.val.injEq, exists_eq_left', List.nil_append, List.append_nil, List.length_cons, List.length_nil, true_and, and_true, and_self, Nat.zero_add, Nat.reduceAdd, Nat.reduceLeDiff, gAdd_i, gSub_i, gNeg_i, gBl_e, gCmpI_i, gLst_o, gTup_o, gN_e, List.set_cons_zero, List.set_cons_succ, truD_b, gIsN_n, isNonD, gLen_l, gInt_b, gInt_i, Option.map_some, Bool.false_eq_true, if_true, if_false, Bool.not_true, Bool.not_false, keyD, walkD, ok_sOwn, ok_sFz, ok_cBor, ok_eBor, ok_sPut, ok_xNil, ok_xVal, ok_xOwn, ok_zip, ok_enum, ok_star, ok_sortItems, ok_dict0, ok_ixO, ok_parX, ok_parX3, gIxA_l, gIxA_t, gEqA_i, gEqA_s, atI_0, atI_1, atI_2, atI_3, gCmpO_i, intO, seqOf, isFlat, at_a, g0, g1, ga, sub]
      have two : ∀ x y : D, nice x = true → nice y = true → nice (.lst [x, y]) = true := fun x y hx hy => nice_lst (by simp) fun z hz => by
        simp only [List.mem_cons, List.not_mem_nil, or_false] at hz
        rcases hz with rfl | rfl
        · exact hx
        · exact hy
      rcases hw with rfl | rfl | rfl | rfl
      · exact ⟨_, rfl, _, rfl, by simp, fun x hx => by rw [List.mem_singleton.mp hx]; exact two _ _ ns no, g⟩
      · exact ⟨_, rfl, _, rfl, by simp, fun x hx => by rw [List.mem_singleton.mp hx]; exact two _ _ no (ni _), g⟩
      · refine ⟨_, rfl, _, rfl, by simp, fun x hx => ?_, g⟩
        rw [List.mem_singleton.mp hx]
        refine nice_lst (by simp) fun z hz => ?_
        simp only [List.mem_cons, List.not_mem_nil, or_false] at hz
        rcases hz with rfl | rfl | rfl
        · exact ns
        · exact ni _
        · exact ni _
      · refine ⟨_, rfl, _, rfl, by simp, fun x hx => ?_, g⟩
        simp only [List.mem_cons, List.not_mem_nil, or_false, or_self] at hx
        rw [hx]; exact nls
    obtain ⟨bs, rfl, lb, nb, g⟩ := hm
    have c1 := cut_len (ps.map lsP) none (some (a : Int))
    have c2 := cut_len (ps.map lsP) (some ((a : Int) + 1)) none
    have s1 : gSl (.lst (ps.map lsP)) none (some (a : Int)) = some (.lst (cutD (ps.map lsP) none (some (a : Int)))) := rfl
    have s2 : gSl (.lst (ps.map lsP)) (some ((a : Int) + 1)) none = some (.lst (cutD (ps.map lsP) (some ((a : Int) + 1)) none)) := rfl
    have a1 : gAdd (.lst (cutD (ps.map lsP) none (some (a : Int)))) (.lst bs) = some (.lst (cutD (ps.map lsP) none (some (a : Int)) ++ bs)) := gAdd_lst (by omega)
    have a2 : gAdd (.lst (cutD (ps.map lsP) none (some (a : Int)) ++ bs)) (.lst (cutD (ps.map lsP) (some ((a : Int) + 1)) none)) = some (.lst ((cutD (ps.map lsP) none (some (a : Int)) ++ bs) ++ cutD (ps.map lsP) (some ((a : Int) + 1)) none)) := gAdd_lst (by rw [List.length_append]; omega)
    simp only [ok_seq, ok_asg, ok_par, ok_ret, ok_retN, ok_sNil, ok_sIf, ok_bin, ok_un, ok_var, ok_C, ok_call, ok_callK, ok_cons, ok_nil, ok_args, ok_tru, ok_not, ok_and, ok_or, ok_eNot, ok_eAnd, ok_eOr, ok_if, ok_cmp, ok_chain, ok_ofC, ok_oNone, ok_oSome, ok_sl, ok_met, ok_rev, ok_items, ok_lenSet, ok_pairs0, ok_pairs, ok_dict, ok_iSeq, ok_rng1, ok_rng2, ok_comp, ok_comp0, ok_for, List.getElem?_cons_zero, List.getElem?_cons_succ, Option.some.injEq, Sl.val.injEq, exists_eq_left', List.nil_append, List.append_nil, List.length_cons, List.length_nil, true_and, and_true, and_self, Nat.zero_add, Nat.reduceAdd, Nat.reduceLeDiff, gAdd_i, gSub_i, gNeg_i, gBl_e, gCmpI_i, gLst_o, gTup_o, gN_e, List.set_cons_zero, List.set_cons_succ, truD_b, gIsN_n, isNonD, gLen_l, gInt_b, gInt_i, Option.map_some, Bool.false_eq_true, if_true, if_false, Bool.not_true, Bool.not_false, keyD, walkD, ok_sOwn, ok_sFz, ok_cBor, ok_eBor, ok_sPut, ok_xNil, ok_xVal, ok_xOwn, ok_zip, ok_enum, ok_star, ok_sortItems, ok_dict0, ok_ixO, ok_parX, ok_parX3, gIxA_l, gIxA_t, gEqA_i, gEqA_s, atI_0, atI_1, atI_2, atI_3, gCmpO_i, intO, seqOf, isFlat, s1, s2, a1, a2, Ctl.ret.injEq]
    refine q _ _ (nice_lst (by simp) fun x hx => ?_) (g.mono (by omega))
    simp only [List.mem_cons, List.not_mem_nil, or_false] at hx
    rcases hx with rfl | rfl
    · exact ni _
    · refine nice_lst (by simp only [List.length_append]; omega) fun x hx => ?_
      rcases List.mem_append.mp hx with z | z
      · rcases List.mem_append.mp z with z | z
        · exact nl x (cut_mem z)
        · exact nb x z
      · exact nl x (cut_mem z)
  refine ok_ifS (w == 6) ?_ (fun hs => ?_) fun hs => ?_
  · simp only [ok_seq, ok_asg, ok_par, ok_ret, ok_retN, ok_sNil, ok_sIf, ok_bin, ok_un, ok_var, ok_C, ok_call, ok_callK, ok_cons, ok_nil, ok_args, ok_tru, ok_not, ok_and, ok_or, ok_eNot, ok_eAnd, ok_eOr, ok_if, ok_cmp, ok_chain, ok_ofC, ok_oNone, ok_oSome, ok_sl, ok_met, ok_rev, ok_items, ok_lenSet, ok_pairs0, ok_pairs, ok_dict, ok_iSeq, ok_rng1, ok_rng2, ok_comp, ok_comp0, ok_for, List.getElem?_cons_zero, List.getElem?_cons_succ, Option.some.injEq, Sl.val.injEq, exists_eq_left', List.nil_append, List.append_nil, List.length_cons, List.length_nil, true_and, and_true, and_self, Nat.zero_add, Nat.reduceAdd, Nat.reduceLeDiff, gAdd_i, gSub_i, gNeg_i, gBl_e, gCmpI_i, gLst_o, gTup_o, gN_e, List.set_cons_zero, List.set_cons_succ, truD_b, gIsN_n, isNonD, gLen_l, gInt_b, gInt_i, Option.map_some, Bool.false_eq_true, if_true, if_false, Bool.not_true, Bool.not_false, keyD, walkD, ok_sOwn, ok_sFz, ok_cBor, ok_eBor, ok_sPut, ok_xNil, ok_xVal, ok_xOwn, ok_zip, ok_enum, ok_star, ok_sortItems, ok_dict0, ok_ixO, ok_parX, ok_parX3, gIxA_l, gIxA_t, gEqA_i, gEqA_s, atI_0, atI_1, atI_2, atI_3, gCmpO_i, intO, seqOf, isFlat]
  · simp only [ok_seq, ok_asg, ok_par, ok_ret, ok_retN, ok_sNil, ok_sIf, ok_bin, ok_un, ok_var, ok_C, ok_call, ok_callK, ok_cons, ok_nil, ok_args, ok_tru, ok_not, ok_and, ok_or, ok_eNot, ok_eAnd, ok_eOr, ok_if, ok_cmp, ok_chain, ok_ofC, ok_oNone, ok_oSome, ok_sl, ok_met, ok_rev, ok_items, ok_lenSet, ok_pairs0, ok_pairs, ok_dict, ok_iSeq, ok_rng1, ok_rng2, ok_comp, ok_comp0, ok_for, List.getElem?_cons_zero, List.getElem?_cons_succ, Option.some.injEq, Sl.val.injEq, exists_eq_left', List.nil_append, List.append_nil, List.length_cons, List.length_nil, true_and, and_true, and_self, Nat.zero_add, Nat.reduceAdd, Nat.reduceLeDiff, gAdd_i, gSub_i, gNeg_i, gBl_e, gCmpI_i, gLst_o, gTup_o, gN_e, List.set_cons_zero, List.set_cons_succ, truD_b, gIsN_n, isNonD, gLen_l, gInt_b, gInt_i, Option.map_some, Bool.false_eq_true, if_true, if_false, Bool.not_true, Bool.not_false, keyD, walkD, ok_sOwn, ok_sFz, ok_cBor, ok_eBor, ok_sPut, ok_xNil, ok_xVal, ok_xOwn, ok_zip, ok_enum, ok_star, ok_sortItems, ok_dict0, ok_ixO, ok_parX, ok_parX3, gIxA_l, gIxA_t, gEqA_i, gEqA_s, atI_0, atI_1, atI_2, atI_3, gCmpO_i, intO, seqOf, isFlat, Ctl.ret.injEq]
    refine ⟨.lst (ps.map lsP).reverse, rfl, q _ _ (nice_tup (by simp) fun x hx => ?_) (g.mono (by omega))⟩
    simp only [List.mem_cons, List.not_mem_nil, or_false] at hx
    rcases hx with rfl | rfl
    · exact ni _
    · exact nice_lst (by rw [List.length_reverse]; omega) fun x hx => nl x (List.mem_reverse.mp hx)
  simp only [ok_seq, ok_asg, ok_par, ok_ret, ok_retN, ok_sNil, ok_sIf, ok_bin, ok_un, ok_var, ok_C, ok_call, ok_callK, ok_cons, ok_nil, ok_args, ok_tru, ok_not, ok_and, ok_or, ok_eNot, ok_eAnd, ok_eOr, ok_if, ok_cmp, ok_chain, ok_ofC, ok_oNone, ok_oSome, ok_sl, ok_met, ok_rev, ok_items, ok_lenSet, ok_pairs0, ok_pairs, ok_dict, ok_iSeq, ok_rng1, ok_rng2, ok_comp, ok_comp0, ok_for, List.getElem?_cons_zero, List.getElem?_cons_succ, Option.some.injEq, Sl.val.injEq, exists_eq_left', List.nil_append, List.append_nil, List.length_cons, List.length_nil, true_and, and_true, and_self, Nat.zero_add, Nat.reduceAdd, Nat.reduceLeDiff, gAdd_i, gSub_i, gNeg_i, gBl_e, gCmpI_i, gLst_o, gTup_o, gN_e, List.set_cons_zero, List.set_cons_succ, truD_b, gIsN_n, isNonD, gLen_l, gInt_b, gInt_i, Option.map_some, Bool.false_eq_true, if_true, if_false, Bool.not_true, Bool.not_false, keyD, walkD, ok_sOwn, ok_sFz, ok_cBor, ok_eBor, ok_sPut, ok_xNil, ok_xVal, ok_xOwn, ok_zip, ok_enum, ok_star, ok_sortItems, ok_dict0, ok_ixO, ok_parX, ok_parX3, gIxA_l, gIxA_t, gEqA_i, gEqA_s, atI_0, atI_1, atI_2, atI_3, gCmpO_i, intO, seqOf, isFlat, dict_rw]
  refine pick_ok g (by omega) (by simp) (by simp) fun x hx c4 g4 => ?_
  refine q x c4 ?_ (g4.mono (by omega))
  have any : ∀ {xs : List D}, xs.length ≤ 3 → (∀ y ∈ xs, y = .int i ∨ y = .lst (ps.map lsP) ∨ y = .int 0 ∨ y = dctP (ps.foldl (fun a p => setP p.1 p.2 a) [])) → nice (.tup xs) = true ∧ nice (.lst xs) = true := fun {xs} h1 h2 => by
    have h3 : ∀ y ∈ xs, nice y = true := fun y hy => by
      rcases h2 y hy with rfl | rfl | rfl | rfl
      · exact ni _
      · exact nL
      · exact ni _
      · have := len_fold ps []
        exact nice_dct (by simp only [List.length_nil] at this; omega)
    exact ⟨nice_tup (by omega) h3, nice_lst (by omega) h3⟩
  simp only [List.mem_cons, List.not_mem_nil, or_false] at hx
  rcases hx with rfl | rfl | rfl | rfl | rfl | rfl
  · exact no
  · exact (any (by simp) fun y hy => by simp only [List.mem_cons, List.not_mem_nil, or_false] at hy; exact .inl hy).1
  · exact (any (by simp) fun y hy => by simp only [List.mem_cons, List.not_mem_nil, or_false] at hy; rcases hy with rfl | rfl | rfl <;> simp).1
  · exact (any (by simp) fun y hy => by simp only [List.mem_cons, List.not_mem_nil, or_false] at hy; rcases hy with rfl | rfl <;> simp).2
  · exact (any (by simp) fun y hy => by simp only [List.mem_cons, List.not_mem_nil, or_false] at hy; rcases hy with rfl | rfl <;> simp).1
  · exact nF
end G

set_option Elab.async false
set_option linter.all false
set_option maxRecDepth 100000
set_option maxHeartbeats 8000000
/-! NK3: what is handed, what is due. -/
namespace G
open PySem PySem.Spec PyProof.Rows L2
def dueP (k : Int) (ps : List NI) : D := .tup [.int k, .tup (rowsP ps)]
def hOk (H : D) (ps : List NI) : Prop := H = .lst (ps.map lsP) ∨ H = .tup (ps.map rwD)
theorem tot_cons (n : Str) (p : NI) (r : List NI) : totP n (p :: r) = (if p.1 = n then p.2 else 0) + totP n r := by
  unfold totP
  by_cases h : p.1 = n
  · rw [List.filter_cons_of_pos (by simpa using h), if_pos h, List.map_cons, List.sum_cons]
  · rw [List.filter_cons_of_neg (by simpa using h), if_neg h, Int.zero_add]
theorem tot_le {n : Str} {B : Nat} : ∀ {qs : List NI}, (∀ p ∈ qs, p.2.natAbs ≤ B) → (totP n qs).natAbs ≤ qs.length * B
  | [], _ => Nat.zero_le _
  | p :: r, h => by
    have ih := tot_le (n := n) fun q hq => h q (List.mem_cons_of_mem _ hq)
    have h1 := h p (by simp)
    rw [tot_cons, List.length_cons, Nat.succ_mul]
    split <;> omega
theorem rows_len (ps : List NI) : (rowsP ps).length ≤ ps.length := by
  unfold rowsP
  rw [List.length_map]
  exact Nat.le_trans (List.length_filter_le ..) (asc_len ps)
theorem fit_rows : ∀ {ds : List D}, (∀ d ∈ ds, ∃ p : NI, fitS p.1 = true ∧ sizI p.2 = true ∧ IsP d p) → fitA ds = true ∧ cntA ds = 3 * ds.length ∧ hgtA ds ≤ 1
  | [], _ => ⟨rfl, rfl, by simp [hgtA]⟩
  | d :: ds, h => by
    obtain ⟨p, g1, g2, e⟩ := h d (by simp)
    obtain ⟨a, b, c⟩ := fit_rows fun x hx => h x (List.mem_cons_of_mem _ hx)
    rcases e with rfl | rfl
    · refine ⟨by simp only [fitA, fit, g1, g2, a, Bool.and_self], by simp only [cntA, cnt, b, List.length_cons]; omega, by simp only [hgtA, hgt]; omega⟩
    · refine ⟨by simp only [fitA, fit, g1, g2, a, Bool.and_self], by simp only [cntA, cnt, b, List.length_cons]; omega, by simp only [hgtA, hgt]; omega⟩
section
variable {k : Int} {ps : List NI} (hk : k.natAbs < 10 ^ 60) (hl : ps.length ≤ 5) (hp : ∀ p ∈ ps, pOk p)
include hl hp
theorem row_ok : ∀ d ∈ rowsP ps, ∃ p : NI, fitS p.1 = true ∧ sizI p.2 = true ∧ IsP d p := fun d hd => by
  obtain ⟨n, hm, rfl, _⟩ := rows_are d hd
  obtain ⟨q, hq, rfl⟩ := List.mem_map.mp hm
  refine ⟨(q.1, totP q.1 ps), (hp q hq).2.1, sizI_of ?_, .inl rfl⟩
  have h1 := tot_le (n := q.1) (qs := ps) (B := 10 ^ 40) fun p h => (hp p h).2.2.1
  have h2 : ps.length * 10 ^ 40 ≤ 5 * 10 ^ 40 := Nat.mul_le_mul_right _ hl
  exact Nat.lt_of_le_of_lt (Nat.le_trans h1 h2) (by decide)
include hk
theorem due_fit : Fit 25 3 (dueP k ps) := by
  obtain ⟨a, b, c⟩ := fit_rows (row_ok hl hp)
  have := rows_len ps
  refine ⟨?_, ?_, ?_⟩
  · simp only [dueP, fit, fitA, sizI_of hk, a, Bool.and_self]
  · simp only [dueP, cnt, cntA, b]; omega
  · simp only [dueP, hgt, hgtA]; omega
omit hk
theorem due_is : formB (dueP k ps) = true := due_form fun q hq => (hp q hq).1
theorem handed_ok {H : D} (h : hOk H ps) : Fit 25 3 H ∧ (∃ ds, walkD H = some ds ∧ (∀ d ∈ ds, IsP d (pairOf d)) ∧ ds.map pairOf = ps ∧ ds.length ≤ 5) ∧ (isSeqD H && (itemsOf H).all pairB) = true := by
  have f : ∀ p ∈ ps, fitS p.1 = true ∧ sizI p.2 = true := fun p h => ⟨(hp p h).2.1, sizI_of (Nat.lt_of_le_of_lt (hp p h).2.2.1 (by decide))⟩
  rcases h with rfl | rfl
  · obtain ⟨a, b, c⟩ := fit_rows (ds := ps.map lsP) fun d hd => by
      obtain ⟨p, h, rfl⟩ := List.mem_map.mp hd
      exact ⟨p, (f p h).1, (f p h).2, .inr rfl⟩
    rw [List.length_map] at b
    refine ⟨⟨by rw [fit_lst]; exact a, by simp only [cnt, b]; omega, by simp only [hgt]; omega⟩, ⟨ps.map lsP, rfl, fun d hd => ?_, ?_, by rw [List.length_map]; exact hl⟩, ?_⟩
    · obtain ⟨p, h, rfl⟩ := List.mem_map.mp hd
      exact .inr rfl
    · rw [List.map_map]; exact List.map_id ps
    · show (true && (ps.map lsP).all pairB) = true
      rw [Bool.true_and]
      refine List.all_eq_true.mpr fun d hd => ?_
      obtain ⟨p, h, rfl⟩ := List.mem_map.mp hd
      show (isNm p.1.cps.toList && true) = true
      rw [(hp p h).1]; rfl
  · obtain ⟨a, b, c⟩ := fit_rows (ds := ps.map rwD) fun d hd => by
      obtain ⟨p, h, rfl⟩ := List.mem_map.mp hd
      exact ⟨p, (f p h).1, (f p h).2, .inl rfl⟩
    rw [List.length_map] at b
    refine ⟨⟨by rw [fit_tup]; exact a, by simp only [cnt, b]; omega, by simp only [hgt]; omega⟩, ⟨ps.map rwD, rfl, fun d hd => ?_, ?_, by rw [List.length_map]; exact hl⟩, ?_⟩
    · obtain ⟨p, h, rfl⟩ := List.mem_map.mp hd
      exact .inl rfl
    · rw [List.map_map]; exact List.map_id ps
    · show (true && (ps.map rwD).all pairB) = true
      rw [Bool.true_and]
      refine List.all_eq_true.mpr fun d hd => ?_
      obtain ⟨p, h, rfl⟩ := List.mem_map.mp hd
      show (isNm p.1.cps.toList && true) = true
      rw [(hp p h).1]; rfl
omit hl hp
theorem need_number_ok {c : Churn} : F_need_number [.int k, .str "constant", .non, .non] c = .ok .non c := by
  apply eq_of_ok
  show Ok (G.nx (runDef 4 g_need_number [.int k, .str "constant", .non, .non]) c) _
  rw [ok_def]
  show Ok (g_need_number [.val (.int k), .val (.str "constant"), .val .non, .val .non] c) _
  unfold g_need_number
  have ew : ∀ c, F_is_within [.int k, .non, .non] c = .ok (.bl true) c := fun c => by
    apply eq_of_ok
    show Ok (G.nx (runDef 3 g_is_within [.int k, .non, .non]) c) _
    rw [ok_def]
    show Ok (g_is_within [.val (.int k), .val .non, .val .non] c) _
    unfold g_is_within
    have ei : ∀ c, F_L_is_int [.int k] c = .ok (.bl true) c := fun c => is_int_eq rfl
    simp only [ok_seq, ok_asg, ok_par, ok_ret, ok_retN, ok_sNil, ok_sIf, ok_bin, ok_un, ok_var, ok_C, ok_call, ok_callK, ok_cons, ok_nil, ok_args, ok_tru, ok_not, ok_and, ok_or, ok_eNot, ok_eAnd, ok_eOr, ok_if, ok_cmp, ok_chain, ok_ofC, ok_oNone, ok_oSome, ok_sl, ok_met, ok_rev, ok_items, ok_lenSet, ok_pairs0, ok_pairs, ok_dict, ok_iSeq, ok_rng1, ok_rng2, ok_comp, ok_comp0, ok_for, List.getElem?_cons_zero, List.getElem?_cons_succ, Option.some.injEq, Sl.val.injEq, exists_eq_left', List.nil_append, List.append_nil, List.length_cons, List.length_nil, true_and, and_true, and_self, Nat.zero_add, Nat.reduceAdd, Nat.reduceLeDiff, gAdd_i, gSub_i, gNeg_i, gBl_e, gCmpI_i, gLst_o, gTup_o, gN_e, List.set_cons_zero, List.set_cons_succ, truD_b, gIsN_n, isNonD, gLen_l, gInt_b, gInt_i, Option.map_some, Bool.false_eq_true, if_true, if_false, Bool.not_true, Bool.not_false, keyD, walkD, ok_sOwn, ok_sFz, ok_cBor, ok_eBor, ok_sPut, ok_xNil, ok_xVal, ok_xOwn, ok_zip, ok_enum, ok_star, ok_sortItems, ok_dict0, ok_ixO, ok_parX, ok_parX3, gIxA_l, gIxA_t, gEqA_i, gEqA_s, atI_0, atI_1, atI_2, atI_3, gCmpO_i, intO, seqOf, isFlat, ei, ok_ok]
  simp only [ok_seq, ok_asg, ok_par, ok_ret, ok_retN, ok_sNil, ok_sIf, ok_bin, ok_un, ok_var, ok_C, ok_call, ok_callK, ok_cons, ok_nil, ok_args, ok_tru, ok_not, ok_and, ok_or, ok_eNot, ok_eAnd, ok_eOr, ok_if, ok_cmp, ok_chain, ok_ofC, ok_oNone, ok_oSome, ok_sl, ok_met, ok_rev, ok_items, ok_lenSet, ok_pairs0, ok_pairs, ok_dict, ok_iSeq, ok_rng1, ok_rng2, ok_comp, ok_comp0, ok_for, List.getElem?_cons_zero, List.getElem?_cons_succ, Option.some.injEq, Sl.val.injEq, exists_eq_left', List.nil_append, List.append_nil, List.length_cons, List.length_nil, true_and, and_true, and_self, Nat.zero_add, Nat.reduceAdd, Nat.reduceLeDiff, gAdd_i, gSub_i, gNeg_i, gBl_e, gCmpI_i, gLst_o, gTup_o, gN_e, List.set_cons_zero, List.set_cons_succ, truD_b, gIsN_n, isNonD, gLen_l, gInt_b, gInt_i, Option.map_some, Bool.false_eq_true, if_true, if_false, Bool.not_true, Bool.not_false, keyD, walkD, ok_sOwn, ok_sFz, ok_cBor, ok_eBor, ok_sPut, ok_xNil, ok_xVal, ok_xOwn, ok_zip, ok_enum, ok_star, ok_sortItems, ok_dict0, ok_ixO, ok_parX, ok_parX3, gIxA_l, gIxA_t, gEqA_i, gEqA_s, atI_0, atI_1, atI_2, atI_3, gCmpO_i, intO, seqOf, isFlat, ew, ok_ok]
include hl hp
theorem form_of_ok {H : D} {c : Churn} (h : hOk H ps) : F_form_of [.int k, H] c = .ok (dueP k ps) c := by
  obtain ⟨f, ⟨ds, e1, e2, e3, e4⟩, e5⟩ := handed_ok hl hp h
  have nH : nice H = true := fit_nice f.f (by have := f.c; omega)
  apply eq_of_ok
  show Ok (G.nx (runDef 2 g_form_of [.int k, H]) c) _
  rw [ok_def]
  show Ok (g_form_of [.val (.int k), .val H] c) _
  unfold g_form_of
  have en : ∀ c, F_need_number [.int k, .str "constant", .non, .non] c = .ok .non c := fun c => need_number_ok
  have ea : ∀ c, F_are_pairs [H] c = .ok (.bl true) c := fun c => by rw [are_pairs_eq nH, e5]
  have ej : ∀ c, F_joined [.int k, H] c = .ok (dueP k ps) c := fun c => by
    rw [joined_eq e1 e2 (by omega), e3]; rfl
  simp only [ok_seq, ok_asg, ok_par, ok_ret, ok_retN, ok_sNil, ok_sIf, ok_bin, ok_un, ok_var, ok_C, ok_call, ok_callK, ok_cons, ok_nil, ok_args, ok_tru, ok_not, ok_and, ok_or, ok_eNot, ok_eAnd, ok_eOr, ok_if, ok_cmp, ok_chain, ok_ofC, ok_oNone, ok_oSome, ok_sl, ok_met, ok_rev, ok_items, ok_lenSet, ok_pairs0, ok_pairs, ok_dict, ok_iSeq, ok_rng1, ok_rng2, ok_comp, ok_comp0, ok_for, List.getElem?_cons_zero, List.getElem?_cons_succ, Option.some.injEq, Sl.val.injEq, exists_eq_left', List.nil_append, List.append_nil, List.length_cons, List.length_nil, true_and, and_true, and_self, Nat.zero_add, Nat.reduceAdd, Nat.reduceLeDiff, gAdd_i, gSub_i, gNeg_i, gBl_e, gCmpI_i, gLst_o, gTup_o, gN_e, List.set_cons_zero, List.set_cons_succ, truD_b, gIsN_n, isNonD, gLen_l, gInt_b, gInt_i, Option.map_some, Bool.false_eq_true, if_true, if_false, Bool.not_true, Bool.not_false, keyD, walkD, ok_sOwn, ok_sFz, ok_cBor, ok_eBor, ok_sPut, ok_xNil, ok_xVal, ok_xOwn, ok_zip, ok_enum, ok_star, ok_sortItems, ok_dict0, ok_ixO, ok_parX, ok_parX3, gIxA_l, gIxA_t, gEqA_i, gEqA_s, atI_0, atI_1, atI_2, atI_3, gCmpO_i, intO, seqOf, isFlat, ok_expr, en, ea, ej, ok_ok]
theorem added_ok {c : Churn} : F_L_added [.int k, .lst (ps.map rwD)] c = .ok (dueP k ps) c := by
  rw [added_eq (f := pairOf) (fun d hd => by
    obtain ⟨p, h, rfl⟩ := List.mem_map.mp hd
    exact .inl rfl) (by rw [List.length_map]; omega), List.map_map]
  have e : ps.map (pairOf ∘ rwD) = ps := List.map_id ps
  rw [e]; rfl
theorem listed_due : listP 5 (dueP k ps) = .lst [.int k, .lst (((rowsP ps).map pairOf).map lsP)] := by
  show D.lst [.int k, .lst ((rowsP ps).map (listP 3))] = _
  rw [List.map_map]
  have e : (rowsP ps).map (listP 3) = (rowsP ps).map (lsP ∘ pairOf) := List.map_congr_left fun d hd => by
    obtain ⟨n, _, rfl, _⟩ := rows_are d hd
    rfl
  rw [e]
include hk
theorem need_due {c : Churn} : F_need_form [dueP k ps, .str "form"] c = .ok (.tup [.int k, .tup (((rowsP ps).map pairOf).map rwD)]) c := by
  have f := due_fit hk hl hp
  rw [need_form_ok (fit_nice f.f (by have := f.c; omega)) (by have := f.h; omega) (due_is hl hp)]
  rw [tup_form (v := dueP k ps) (w := .tup (rowsP ps)) (k := k) (R := rowsP ps) pairOf rfl rfl rfl rfl fun d hd => by
    obtain ⟨n, _, rfl, _⟩ := rows_are d hd
    exact .inl rfl]
theorem need_listed {c : Churn} : F_need_form [listP 5 (dueP k ps), .str "form"] c = .ok (.tup [.int k, .tup (((rowsP ps).map pairOf).map rwD)]) c := by
  have f := due_fit hk hl hp
  obtain ⟨l1, l2, l3⟩ := listed_fit 5 (dueP k ps) f.f
  have isp : ∀ d ∈ ((rowsP ps).map pairOf).map lsP, IsP d (pairOf d) := fun d hd => by
    obtain ⟨p, _, rfl⟩ := List.mem_map.mp hd
    exact .inr rfl
  have back : (((rowsP ps).map pairOf).map lsP).map pairOf = (rowsP ps).map pairOf := by
    rw [List.map_map]; exact List.map_id _
  have fb : formB (listP 5 (dueP k ps)) = true := by
    rw [listed_due hl hp]
    refine form_of (w := .lst (((rowsP ps).map pairOf).map lsP)) (k := k) (R := ((rowsP ps).map pairOf).map lsP) pairOf rfl rfl rfl rfl (fun d hd => ⟨isp d hd, ?_⟩) (by rw [back]; exact rows_asc ps)
    obtain ⟨p, hp1, rfl⟩ := List.mem_map.mp hd
    obtain ⟨d2, hd2, rfl⟩ := List.mem_map.mp hp1
    obtain ⟨n, hm, rfl, ht⟩ := rows_are d2 hd2
    obtain ⟨q, hq, rfl⟩ := List.mem_map.mp hm
    exact ⟨(hp q hq).1, ht⟩
  rw [need_form_ok (fit_nice l1 (by have := f.c; omega)) (by have := f.h; omega) fb]
  rw [listed_due hl hp, tup_form (w := .lst (((rowsP ps).map pairOf).map lsP)) (k := k) (R := ((rowsP ps).map pairOf).map lsP) pairOf rfl rfl rfl rfl isp, back]
def namesP (ps : List NI) : D := .tup (((rowsP ps).map pairOf).map fun p => .str p.1)
theorem names_due {c : Churn} : F_names_in [dueP k ps] c = .ok (namesP ps) c :=
  names_in_ok (by rw [List.length_map]; have := rows_len ps; omega) fun c => need_due hk hl hp
theorem names_listed {c : Churn} : F_names_in [listP 5 (dueP k ps)] c = .ok (namesP ps) c :=
  names_in_ok (by rw [List.length_map]; have := rows_len ps; omega) fun c => need_listed hk hl hp
theorem factor_due {n : Str} {c : Churn} (hn : isNm n.cps.toList = true) (hs : n.cps.toList.length ≤ 1000) : F_factor_of2 [dueP k ps, .str n] c = .ok (.int (totP n ps)) c := by
  rw [factor_of_ok (t := totP n ps) (fun c => need_due hk hl hp) hn hs rows_tot, rows_get]
end
theorem eqX_tups {xs : List D} {neg : Bool} (h : ∀ x ∈ xs, okD x) : gEqX neg (.tup xs) (.tup xs) = some (if neg then false else true) := by
  obtain ⟨ps, e, h1, h2, _⟩ := okA h
  show gEq neg (.tup xs) (.tup xs) = _
  unfold gEq
  have e2 : toPy (.tup xs) = some (.tuple ps) := by simp only [toPy, e, Option.map_some]
  have sh : SeqAt.shaped (.tuple ps) = true := by
    unfold SeqAt.shaped
    simp only [PyData.canLay0, PyData.depth, h1, Bool.true_and]
    exact decide_eq_true (by omega)
  rw [e2, Option.bind_some, Option.bind_some, if_pos ⟨sh, sh⟩]
  have r : PyData.eqv (.tuple ps) (.tuple ps) = true := SeqAt.eqv_refl _ (SeqAt.canLay_of_shaped sh)
  rw [r]
  cases neg <;> rfl
theorem names_self {ps : List NI} {neg : Bool} (hp : ∀ p ∈ ps, pOk p) : gEqX neg (namesP ps) (namesP ps) = some (if neg then false else true) := eqX_tups fun x hx => by
  obtain ⟨p, h1, rfl⟩ := List.mem_map.mp hx
  obtain ⟨d, hd, rfl⟩ := List.mem_map.mp h1
  obtain ⟨n, hm, rfl, _⟩ := rows_are d hd
  obtain ⟨q, hq, rfl⟩ := List.mem_map.mp hm
  have so := (hp q hq).2.2.2
  exact ⟨.str q.1, rfl, by simpa only [PyData.canLay0] using so, by simp [PyData.depth]⟩
end G

set_option Elab.async false
set_option linter.all false
set_option maxRecDepth 100000
set_option maxHeartbeats 8000000
/-! NK4: the law of k04. -/
namespace G
open PySem PySem.Spec PyProof.Rows L2
def lwF (ns : List Int) (a b d e f h i j l m o p : Sl) : Ev := [.val (.scr ns), .val .chn, a, b, d, e, f, h, i, j, l, m, o, p]
theorem fitR {d : D} (f : Fit 25 3 d) : gRepr [d] = some (.str (shw d)) := gRepr_f f.f (by have := f.c; omega) (by have := f.h; omega)
theorem repr_b (b : Bool) : gRepr [.bl b] = some (.str (shw (.bl b))) := gRepr_f (by simp only [fit]) (by simp [cnt]) (by simp [hgt])
theorem law_true : LawTrue 14 g_law := LawTrue.of fun ns hns => by
  show Ok (g_law (lwF ns .no .no .no .no .no .no .no .no .no .no .no .no) ⟨ns.take 60, 0, 0⟩) _
  unfold g_law
  have g0 : Good 0 ⟨ns.take 60, 0, 0⟩ := ⟨Int.le_refl _, Int.le_refl _, Int.le_refl _, List.length_take_le ..⟩
  have hsc : gEqX true (.scr ns) (.lst []) = some (!ns.isEmpty) := rfl
  refine ok_step (fun ρ c => ∃ a b d e f h i j l m o p, ρ = lwF ns a b d e f h i j l m o p) ?_ fun ρ c ⟨a, b, d, e, f, h, i, j, l, m, o, p, hm⟩ => ?_
  · simp only [ok_for]
    have hj : ∃ j : Int, (if (!ns.isEmpty) = true then (6 : Int) else 2) = j ∧ 0 ≤ j ∧ j ≤ 6 := by
      cases ns.isEmpty
      · exact ⟨6, rfl, by decide, by decide⟩
      · exact ⟨2, rfl, by decide, by decide⟩
    obtain ⟨j, ej, j0, j6⟩ := hj
    have hr : ∀ (kk : List D → Churn → Prop), kk (rangeD 0 j) ⟨ns.take 60, 0, 0⟩ → Ok (iRange1 (aCons (eIf (cCmp (gEqX true) (eVar 0) (eArgs gLst aNil)) (eC (.int 6)) (eC (.int 2))) aNil) (lwF ns .no .no .no .no .no .no .no .no .no .no .no .no) ⟨ns.take 60, 0, 0⟩) kk := fun kk hk => by
      unfold lwF
      simp only [ok_seq, ok_asg, ok_par, ok_ret, ok_retN, ok_sNil, ok_sIf, ok_bin, ok_un, ok_var, ok_C, ok_call, ok_callK, ok_cons, ok_nil, ok_args, ok_tru, ok_not, ok_and, ok_or, ok_eNot, ok_eAnd, ok_eOr, ok_if, ok_cmp, ok_chain, ok_ofC, ok_oNone, ok_oSome, ok_sl, ok_met, ok_rev, ok_items, ok_lenSet, ok_pairs0, ok_pairs, ok_dict, ok_iSeq, ok_rng1, ok_rng2, ok_comp, ok_comp0, ok_for, List.getElem?_cons_zero, List.getElem?_cons_succ, Option.some.injEq, Sl.val.injEq, exists_eq_left', List.nil_append, List.append_nil, List.length_cons, List.length_nil, true_and, and_true, and_self, Nat.zero_add, Nat.reduceAdd, Nat.reduceLeDiff, gAdd_i, gSub_i, gNeg_i, gBl_e, gCmpI_i, gLst_o, gTup_o, gN_e, List.set_cons_zero, List.set_cons_succ, truD_b, gIsN_n, isNonD, gLen_l, gInt_b, gInt_i, Option.map_some, Bool.false_eq_true, if_true, if_false, Bool.not_true, Bool.not_false, keyD, walkD, ok_sOwn, ok_sFz, ok_cBor, ok_eBor, ok_sPut, ok_xNil, ok_xVal, ok_xOwn, ok_zip, ok_enum, ok_star, ok_sortItems, ok_dict0, ok_ixO, ok_parX, ok_parX3, gIxA_l, gIxA_t, gEqA_i, gEqA_s, atI_0, atI_1, atI_2, atI_3, gCmpO_i, intO, seqOf, isFlat, hsc]
      revert ej
      cases ns.isEmpty
      · intro ej
        cases ej
        exact ⟨_, rng1_i (by decide) (by decide), hk⟩
      · intro ej
        cases ej
        exact ⟨_, rng1_i (by decide) (by decide), hk⟩
    refine hr _ ?_
    have hlen : (rangeD 0 j).length = j.toNat := by
      unfold rangeD; simp
    refine for_count (B := 100000) (fun n ρ c => Good n c ∧ ∃ a b d e f h i j l m o p, ρ = lwF ns a b d e f h i j l m o p) 100 (fun d hd n ρ c hn ⟨g, s2, s3, s4, s5, s6, s7, s8, s9, s10, s11, s12, s13, hm⟩ => ?_) ⟨g0, _, _, _, _, _, _, _, _, _, _, _, _, rfl⟩ (by rw [hlen]; omega) fun ρ c ⟨g, hm⟩ => ⟨rfl, hm⟩
    subst hm
    refine ⟨lwF ns (.val d) s3 s4 s5 s6 s7 s8 s9 s10 s11 s12 s13, rfl, ?_⟩
    have e30 : gPow (.int 10) (.int 30) = some (.int (10 ^ 30)) := gPow_ok (by decide) (by decide) (by decide)
    -- the constant, the pairs
    refine ok_step (fun ρ c => ∃ (k : Int) (ps : List NI), ρ = lwF ns (.val d) (.val (.int k)) (.val (.lst (ps.map rwD))) s5 s6 s7 s8 s9 s10 s11 s12 s13 ∧ k.natAbs < 10 ^ 60 ∧ ps.length ≤ 5 ∧ (∀ p ∈ ps, pOk p) ∧ Good (n + 30) c) ?_ fun ρ c ⟨k, ps, hm, hk, hl, hp, g⟩ => ?_
    · unfold lwF
      simp only [ok_seq, ok_asg, ok_par, ok_ret, ok_retN, ok_sNil, ok_sIf, ok_bin, ok_un, ok_var, ok_C, ok_call, ok_callK, ok_cons, ok_nil, ok_args, ok_tru, ok_not, ok_and, ok_or, ok_eNot, ok_eAnd, ok_eOr, ok_if, ok_cmp, ok_chain, ok_ofC, ok_oNone, ok_oSome, ok_sl, ok_met, ok_rev, ok_items, ok_lenSet, ok_pairs0, ok_pairs, ok_dict, ok_iSeq, ok_rng1, ok_rng2, ok_comp, ok_comp0, ok_for, List.getElem?_cons_zero, List.getElem?_cons_succ, Option.some.injEq, Sl.val.injEq, exists_eq_left', List.nil_append, List.append_nil, List.length_cons, List.length_nil, true_and, and_true, and_self, Nat.zero_add, Nat.reduceAdd, Nat.reduceLeDiff, gAdd_i, gSub_i, gNeg_i, gBl_e, gCmpI_i, gLst_o, gTup_o, gN_e, List.set_cons_zero, List.set_cons_succ, truD_b, gIsN_n, isNonD, gLen_l, gInt_b, gInt_i, Option.map_some, Bool.false_eq_true, if_true, if_false, Bool.not_true, Bool.not_false, keyD, walkD, ok_sOwn, ok_sFz, ok_cBor, ok_eBor, ok_sPut, ok_xNil, ok_xVal, ok_xOwn, ok_zip, ok_enum, ok_star, ok_sortItems, ok_dict0, ok_ixO, ok_parX, ok_parX3, gIxA_l, gIxA_t, gEqA_i, gEqA_s, atI_0, atI_1, atI_2, atI_3, gCmpO_i, intO, seqOf, isFlat, e30]
      refine draw_ok g (by omega) (by decide) (by decide) fun r c3 h0 h1 g3 => ?_
      simp only [ok_seq, ok_asg, ok_par, ok_ret, ok_retN, ok_sNil, ok_sIf, ok_bin, ok_un, ok_var, ok_C, ok_call, ok_callK, ok_cons, ok_nil, ok_args, ok_tru, ok_not, ok_and, ok_or, ok_eNot, ok_eAnd, ok_eOr, ok_if, ok_cmp, ok_chain, ok_ofC, ok_oNone, ok_oSome, ok_sl, ok_met, ok_rev, ok_items, ok_lenSet, ok_pairs0, ok_pairs, ok_dict, ok_iSeq, ok_rng1, ok_rng2, ok_comp, ok_comp0, ok_for, List.getElem?_cons_zero, List.getElem?_cons_succ, Option.some.injEq, Sl.val.injEq, exists_eq_left', List.nil_append, List.append_nil, List.length_cons, List.length_nil, true_and, and_true, and_self, Nat.zero_add, Nat.reduceAdd, Nat.reduceLeDiff, gAdd_i, gSub_i, gNeg_i, gBl_e, gCmpI_i, gLst_o, gTup_o, gN_e, List.set_cons_zero, List.set_cons_succ, truD_b, gIsN_n, isNonD, gLen_l, gInt_b, gInt_i, Option.map_some, Bool.false_eq_true, if_true, if_false, Bool.not_true, Bool.not_false, keyD, walkD, ok_sOwn, ok_sFz, ok_cBor, ok_eBor, ok_sPut, ok_xNil, ok_xVal, ok_xOwn, ok_zip, ok_enum, ok_star, ok_sortItems, ok_dict0, ok_ixO, ok_parX, ok_parX3, gIxA_l, gIxA_t, gEqA_i, gEqA_s, atI_0, atI_1, atI_2, atI_3, gCmpO_i, intO, seqOf, isFlat, e30]
      refine pick_ok g3 (by omega) (by simp) (by simp) fun x hx c4 g4 => ?_
      have hx2 : ∃ v : Int, x = .int v ∧ v.natAbs < 10 ^ 60 := by
        simp only [List.mem_cons, List.not_mem_nil, or_false] at hx
        rcases hx with rfl | rfl | rfl | rfl
        · exact ⟨_, rfl, by decide⟩
        · exact ⟨_, rfl, by decide⟩
        · exact ⟨_, rfl, by decide⟩
        · exact ⟨_, rfl, by omega⟩
      obtain ⟨v, rfl, hv⟩ := hx2
      refine pairs_ok g4 (by omega) fun ps c5 hl hp g5 => ?_
      exact ⟨_, _, rfl, v, ps, rfl, hv, hl, hp, g5.mono (by omega)⟩
    subst hm
    have fd := due_fit hk hl hp
    have rd := fitR fd
    -- what is handed
    refine ok_step (fun ρ c => ∃ H, ρ = lwF ns (.val d) (.val (.int k)) (.val (.lst (ps.map rwD))) (.val H) s6 s7 s8 s9 s10 s11 s12 s13 ∧ hOk H ps ∧ Good (n + 31) c) ?_ fun ρ c ⟨H, hm, hH, g⟩ => ?_
    · unfold lwF
      have fl := handed_ok hl hp (H := .tup (ps.map rwD)) (.inr rfl)
      have nl : nice (.lst (ps.map rwD)) = true := nice_lst (by rw [List.length_map]; omega) fun x hx => by
        have h2 := fit_nice fl.1.f (by have := fl.1.c; omega)
        exact (nice_items h2).2 x hx
      have hh : hgt (.lst (ps.map rwD)) < 5 := by
        have := fl.1.h
        simp only [hgt] at this ⊢
        omega
      have el : ∀ c, F_L_listed 60 [.lst (ps.map rwD)] c = .ok (.lst (ps.map lsP)) c := fun c => by
        rw [listed_all 5 60 _ c hh (by decide) nl]
        show R.ok (D.lst ((ps.map rwD).map (listP 4))) c = _
        rw [List.map_map]; rfl
      have et : gTuple [.lst (ps.map rwD)] = some (.tup (ps.map rwD)) := rfl
      simp only [ok_seq, ok_asg, ok_par, ok_ret, ok_retN, ok_sNil, ok_sIf, ok_bin, ok_un, ok_var, ok_C, ok_call, ok_callK, ok_cons, ok_nil, ok_args, ok_tru, ok_not, ok_and, ok_or, ok_eNot, ok_eAnd, ok_eOr, ok_if, ok_cmp, ok_chain, ok_ofC, ok_oNone, ok_oSome, ok_sl, ok_met, ok_rev, ok_items, ok_lenSet, ok_pairs0, ok_pairs, ok_dict, ok_iSeq, ok_rng1, ok_rng2, ok_comp, ok_comp0, ok_for, List.getElem?_cons_zero, List.getElem?_cons_succ, Option.some.injEq, Sl.val.injEq, exists_eq_left', List.nil_append, List.append_nil, List.length_cons, List.length_nil, true_and, and_true, and_self, Nat.zero_add, Nat.reduceAdd, Nat.reduceLeDiff, gAdd_i, gSub_i, gNeg_i, gBl_e, gCmpI_i, gLst_o, gTup_o, gN_e, List.set_cons_zero, List.set_cons_succ, truD_b, gIsN_n, isNonD, gLen_l, gInt_b, gInt_i, Option.map_some, Bool.false_eq_true, if_true, if_false, Bool.not_true, Bool.not_false, keyD, walkD, ok_sOwn, ok_sFz, ok_cBor, ok_eBor, ok_sPut, ok_xNil, ok_xVal, ok_xOwn, ok_zip, ok_enum, ok_star, ok_sortItems, ok_dict0, ok_ixO, ok_parX, ok_parX3, gIxA_l, gIxA_t, gEqA_i, gEqA_s, atI_0, atI_1, atI_2, atI_3, gCmpO_i, intO, seqOf, isFlat]
      refine draw_ok g (by omega) (by decide) (by decide) fun r c3 h0 h1 g3 => ?_
      simp only [ok_seq, ok_asg, ok_par, ok_ret, ok_retN, ok_sNil, ok_sIf, ok_bin, ok_un, ok_var, ok_C, ok_call, ok_callK, ok_cons, ok_nil, ok_args, ok_tru, ok_not, ok_and, ok_or, ok_eNot, ok_eAnd, ok_eOr, ok_if, ok_cmp, ok_chain, ok_ofC, ok_oNone, ok_oSome, ok_sl, ok_met, ok_rev, ok_items, ok_lenSet, ok_pairs0, ok_pairs, ok_dict, ok_iSeq, ok_rng1, ok_rng2, ok_comp, ok_comp0, ok_for, List.getElem?_cons_zero, List.getElem?_cons_succ, Option.some.injEq, Sl.val.injEq, exists_eq_left', List.nil_append, List.append_nil, List.length_cons, List.length_nil, true_and, and_true, and_self, Nat.zero_add, Nat.reduceAdd, Nat.reduceLeDiff, gAdd_i, gSub_i, gNeg_i, gBl_e, gCmpI_i, gLst_o, gTup_o, gN_e, List.set_cons_zero, List.set_cons_succ, truD_b, gIsN_n, isNonD, gLen_l, gInt_b, gInt_i, Option.map_some, Bool.false_eq_true, if_true, if_false, Bool.not_true, Bool.not_false, keyD, walkD, ok_sOwn, ok_sFz, ok_cBor, ok_eBor, ok_sPut, ok_xNil, ok_xVal, ok_xOwn, ok_zip, ok_enum, ok_star, ok_sortItems, ok_dict0, ok_ixO, ok_parX, ok_parX3, gIxA_l, gIxA_t, gEqA_i, gEqA_s, atI_0, atI_1, atI_2, atI_3, gCmpO_i, intO, seqOf, isFlat]
      cases hb : (r == 0) with
      | true =>
        simp only [ok_seq, ok_asg, ok_par, ok_ret, ok_retN, ok_sNil, ok_sIf, ok_bin, ok_un, ok_var, ok_C, ok_call, ok_callK, ok_cons, ok_nil, ok_args, ok_tru, ok_not, ok_and, ok_or, ok_eNot, ok_eAnd, ok_eOr, ok_if, ok_cmp, ok_chain, ok_ofC, ok_oNone, ok_oSome, ok_sl, ok_met, ok_rev, ok_items, ok_lenSet, ok_pairs0, ok_pairs, ok_dict, ok_iSeq, ok_rng1, ok_rng2, ok_comp, ok_comp0, ok_for, List.getElem?_cons_zero, List.getElem?_cons_succ, Option.some.injEq, Sl.val.injEq, exists_eq_left', List.nil_append, List.append_nil, List.length_cons, List.length_nil, true_and, and_true, and_self, Nat.zero_add, Nat.reduceAdd, Nat.reduceLeDiff, gAdd_i, gSub_i, gNeg_i, gBl_e, gCmpI_i, gLst_o, gTup_o, gN_e, List.set_cons_zero, List.set_cons_succ, truD_b, gIsN_n, isNonD, gLen_l, gInt_b, gInt_i, Option.map_some, Bool.false_eq_true, if_true, if_false, Bool.not_true, Bool.not_false, keyD, walkD, ok_sOwn, ok_sFz, ok_cBor, ok_eBor, ok_sPut, ok_xNil, ok_xVal, ok_xOwn, ok_zip, ok_enum, ok_star, ok_sortItems, ok_dict0, ok_ixO, ok_parX, ok_parX3, gIxA_l, gIxA_t, gEqA_i, gEqA_s, atI_0, atI_1, atI_2, atI_3, gCmpO_i, intO, seqOf, isFlat, el, ok_ok]
        exact ⟨_, rfl, .inl rfl, g3⟩
      | false =>
        simp only [ok_seq, ok_asg, ok_par, ok_ret, ok_retN, ok_sNil, ok_sIf, ok_bin, ok_un, ok_var, ok_C, ok_call, ok_callK, ok_cons, ok_nil, ok_args, ok_tru, ok_not, ok_and, ok_or, ok_eNot, ok_eAnd, ok_eOr, ok_if, ok_cmp, ok_chain, ok_ofC, ok_oNone, ok_oSome, ok_sl, ok_met, ok_rev, ok_items, ok_lenSet, ok_pairs0, ok_pairs, ok_dict, ok_iSeq, ok_rng1, ok_rng2, ok_comp, ok_comp0, ok_for, List.getElem?_cons_zero, List.getElem?_cons_succ, Option.some.injEq, Sl.val.injEq, exists_eq_left', List.nil_append, List.append_nil, List.length_cons, List.length_nil, true_and, and_true, and_self, Nat.zero_add, Nat.reduceAdd, Nat.reduceLeDiff, gAdd_i, gSub_i, gNeg_i, gBl_e, gCmpI_i, gLst_o, gTup_o, gN_e, List.set_cons_zero, List.set_cons_succ, truD_b, gIsN_n, isNonD, gLen_l, gInt_b, gInt_i, Option.map_some, Bool.false_eq_true, if_true, if_false, Bool.not_true, Bool.not_false, keyD, walkD, ok_sOwn, ok_sFz, ok_cBor, ok_eBor, ok_sPut, ok_xNil, ok_xVal, ok_xOwn, ok_zip, ok_enum, ok_star, ok_sortItems, ok_dict0, ok_ixO, ok_parX, ok_parX3, gIxA_l, gIxA_t, gEqA_i, gEqA_s, atI_0, atI_1, atI_2, atI_3, gCmpO_i, intO, seqOf, isFlat, et]
        exact ⟨_, rfl, .inr rfl, g3⟩
    subst hm
    have fH := (handed_ok hl hp hH).1
    have rH := fitR fH
    -- what is due
    refine ok_step (fun ρ c1 => ρ = lwF ns (.val d) (.val (.int k)) (.val (.lst (ps.map rwD))) (.val H) (.val (.str (shw H))) (.val (dueP k ps)) s8 s9 s10 s11 s12 s13 ∧ c = c1) ?_ fun ρ c1 hm => ?_
    · unfold lwF
      have ea : ∀ c, F_L_added [.int k, .lst (ps.map rwD)] c = .ok (dueP k ps) c := fun c => added_ok hl hp
      simp only [ok_seq, ok_asg, ok_par, ok_ret, ok_retN, ok_sNil, ok_sIf, ok_bin, ok_un, ok_var, ok_C, ok_call, ok_callK, ok_cons, ok_nil, ok_args, ok_tru, ok_not, ok_and, ok_or, ok_eNot, ok_eAnd, ok_eOr, ok_if, ok_cmp, ok_chain, ok_ofC, ok_oNone, ok_oSome, ok_sl, ok_met, ok_rev, ok_items, ok_lenSet, ok_pairs0, ok_pairs, ok_dict, ok_iSeq, ok_rng1, ok_rng2, ok_comp, ok_comp0, ok_for, List.getElem?_cons_zero, List.getElem?_cons_succ, Option.some.injEq, Sl.val.injEq, exists_eq_left', List.nil_append, List.append_nil, List.length_cons, List.length_nil, true_and, and_true, and_self, Nat.zero_add, Nat.reduceAdd, Nat.reduceLeDiff, gAdd_i, gSub_i, gNeg_i, gBl_e, gCmpI_i, gLst_o, gTup_o, gN_e, List.set_cons_zero, List.set_cons_succ, truD_b, gIsN_n, isNonD, gLen_l, gInt_b, gInt_i, Option.map_some, Bool.false_eq_true, if_true, if_false, Bool.not_true, Bool.not_false, keyD, walkD, ok_sOwn, ok_sFz, ok_cBor, ok_eBor, ok_sPut, ok_xNil, ok_xVal, ok_xOwn, ok_zip, ok_enum, ok_star, ok_sortItems, ok_dict0, ok_ixO, ok_parX, ok_parX3, gIxA_l, gIxA_t, gEqA_i, gEqA_s, atI_0, atI_1, atI_2, atI_3, gCmpO_i, intO, seqOf, isFlat, rH, ea, ok_ok]
      exact ⟨_, _, rfl, rfl⟩
    obtain ⟨rfl, rfl⟩ := hm
    -- the form of pairs
    refine ok_ifS false ?_ (fun z => nomatch z) fun _ => ?_
    · unfold lwF
      have ef : ∀ c, F_form_of [.int k, H] c = .ok (dueP k ps) c := fun c => form_of_ok hl hp hH
      have pk : pick [1, 0] [H, .int k] = [.int k, H] := rfl
      simp only [ok_seq, ok_asg, ok_par, ok_ret, ok_retN, ok_sNil, ok_sIf, ok_bin, ok_un, ok_var, ok_C, ok_call, ok_callK, ok_cons, ok_nil, ok_args, ok_tru, ok_not, ok_and, ok_or, ok_eNot, ok_eAnd, ok_eOr, ok_if, ok_cmp, ok_chain, ok_ofC, ok_oNone, ok_oSome, ok_sl, ok_met, ok_rev, ok_items, ok_lenSet, ok_pairs0, ok_pairs, ok_dict, ok_iSeq, ok_rng1, ok_rng2, ok_comp, ok_comp0, ok_for, List.getElem?_cons_zero, List.getElem?_cons_succ, Option.some.injEq, Sl.val.injEq, exists_eq_left', List.nil_append, List.append_nil, List.length_cons, List.length_nil, true_and, and_true, and_self, Nat.zero_add, Nat.reduceAdd, Nat.reduceLeDiff, gAdd_i, gSub_i, gNeg_i, gBl_e, gCmpI_i, gLst_o, gTup_o, gN_e, List.set_cons_zero, List.set_cons_succ, truD_b, gIsN_n, isNonD, gLen_l, gInt_b, gInt_i, Option.map_some, Bool.false_eq_true, if_true, if_false, Bool.not_true, Bool.not_false, keyD, walkD, ok_sOwn, ok_sFz, ok_cBor, ok_eBor, ok_sPut, ok_xNil, ok_xVal, ok_xOwn, ok_zip, ok_enum, ok_star, ok_sortItems, ok_dict0, ok_ixO, ok_parX, ok_parX3, gIxA_l, gIxA_t, gEqA_i, gEqA_s, atI_0, atI_1, atI_2, atI_3, gCmpO_i, intO, seqOf, isFlat, ef, rH, rd, ok_ok, pk, eqX_str, decide_true]
    -- its names
    refine ok_ifS false ?_ (fun z => nomatch z) fun _ => ?_
    · unfold lwF
      have nd : nice (dueP k ps) = true := fit_nice fd.f (by have := fd.c; omega)
      have el : ∀ c, F_L_listed 60 [dueP k ps] c = .ok (listP 5 (dueP k ps)) c := fun c => listed_all 5 60 _ c (by have := fd.h; omega) (by decide) nd
      have en : ∀ c, F_names_in [listP 5 (dueP k ps)] c = .ok (namesP ps) c := fun c => names_listed hk hl hp
      have en2 : ∀ c, F_names_in [dueP k ps] c = .ok (namesP ps) c := fun c => names_due hk hl hp
      have i1 : gIxA (dueP k ps) (.int 1) = some (.tup (rowsP ps)) := rfl
      have nm : (rowsP ps).map nmD = ((rowsP ps).map pairOf).map fun p => .str p.1 := by
        rw [List.map_map]
        exact List.map_congr_left fun d hd => by
          obtain ⟨n, _, rfl, _⟩ := rows_are d hd
          rfl
      have et : gTuple [.lst ((rowsP ps).map nmD)] = some (namesP ps) := by rw [nm]; rfl
      have rn : ∃ s, gRepr [namesP ps] = some (.str s) := by
        refine ⟨_, gRepr_f (d := namesP ps) ?_ ?_ ?_⟩
        · show fitA _ = true
          refine fitA_iff.mpr fun x hx => ?_
          obtain ⟨p, h1, rfl⟩ := List.mem_map.mp hx
          obtain ⟨d, hd, rfl⟩ := List.mem_map.mp h1
          obtain ⟨n, hm, rfl, _⟩ := rows_are d hd
          obtain ⟨q, hq, rfl⟩ := List.mem_map.mp hm
          exact (hp q hq).2.1
        · have h1 : ∀ xs : List NI, cntA (xs.map fun p => D.str p.1) = xs.length := fun xs => by
            induction xs with
            | nil => rfl
            | cons x xs ih => simp only [List.map_cons, cntA, cnt, ih, List.length_cons]; omega
          have := rows_len ps
          simp only [namesP, cnt, h1, List.length_map]; omega
        · have h1 : hgtA (((rowsP ps).map pairOf).map fun p => D.str p.1) ≤ 0 := hgtA_le fun x hx => by
            obtain ⟨p, _, rfl⟩ := List.mem_map.mp hx
            simp only [hgt]; omega
          simp only [namesP, hgt]; omega
      obtain ⟨s, rn⟩ := rn
      have pk : pick [0] [dueP k ps] = [dueP k ps] := rfl
      simp only [ok_seq, ok_asg, ok_par, ok_ret, ok_retN, ok_sNil, ok_sIf, ok_bin, ok_un, ok_var, ok_C, ok_call, ok_callK, ok_cons, ok_nil, ok_args, ok_tru, ok_not, ok_and, ok_or, ok_eNot, ok_eAnd, ok_eOr, ok_if, ok_cmp, ok_chain, ok_ofC, ok_oNone, ok_oSome, ok_sl, ok_met, ok_rev, ok_items, ok_lenSet, ok_pairs0, ok_pairs, ok_dict, ok_iSeq, ok_rng1, ok_rng2, ok_comp, ok_comp0, ok_for, List.getElem?_cons_zero, List.getElem?_cons_succ, Option.some.injEq, Sl.val.injEq, exists_eq_left', List.nil_append, List.append_nil, List.length_cons, List.length_nil, true_and, and_true, and_self, Nat.zero_add, Nat.reduceAdd, Nat.reduceLeDiff, gAdd_i, gSub_i, gNeg_i, gBl_e, gCmpI_i, gLst_o, gTup_o, gN_e, List.set_cons_zero, List.set_cons_succ, truD_b, gIsN_n, isNonD, gLen_l, gInt_b, gInt_i, Option.map_some, Bool.false_eq_true, if_true, if_false, Bool.not_true, Bool.not_false, keyD, walkD, ok_sOwn, ok_sFz, ok_cBor, ok_eBor, ok_sPut, ok_xNil, ok_xVal, ok_xOwn, ok_zip, ok_enum, ok_star, ok_sortItems, ok_dict0, ok_ixO, ok_parX, ok_parX3, gIxA_l, gIxA_t, gEqA_i, gEqA_s, atI_0, atI_1, atI_2, atI_3, gCmpO_i, intO, seqOf, isFlat, el, en, en2, ok_ok, i1, rn]
      refine ⟨size_line (by have := rows_len ps; omega), ?_⟩
      refine comp_map nmD (fun x hx c => ?_) ?_
      · obtain ⟨n, _, rfl, _⟩ := rows_are x hx
        exact ⟨_, rfl, rfl, rfl⟩
      · simp only [ok_seq, ok_asg, ok_par, ok_ret, ok_retN, ok_sNil, ok_sIf, ok_bin, ok_un, ok_var, ok_C, ok_call, ok_callK, ok_cons, ok_nil, ok_args, ok_tru, ok_not, ok_and, ok_or, ok_eNot, ok_eAnd, ok_eOr, ok_if, ok_cmp, ok_chain, ok_ofC, ok_oNone, ok_oSome, ok_sl, ok_met, ok_rev, ok_items, ok_lenSet, ok_pairs0, ok_pairs, ok_dict, ok_iSeq, ok_rng1, ok_rng2, ok_comp, ok_comp0, ok_for, List.getElem?_cons_zero, List.getElem?_cons_succ, Option.some.injEq, Sl.val.injEq, exists_eq_left', List.nil_append, List.append_nil, List.length_cons, List.length_nil, true_and, and_true, and_self, Nat.zero_add, Nat.reduceAdd, Nat.reduceLeDiff, gAdd_i, gSub_i, gNeg_i, gBl_e, gCmpI_i, gLst_o, gTup_o, gN_e, List.set_cons_zero, List.set_cons_succ, truD_b, gIsN_n, isNonD, gLen_l, gInt_b, gInt_i, Option.map_some, Bool.false_eq_true, if_true, if_false, Bool.not_true, Bool.not_false, keyD, walkD, ok_sOwn, ok_sFz, ok_cBor, ok_eBor, ok_sPut, ok_xNil, ok_xVal, ok_xOwn, ok_zip, ok_enum, ok_star, ok_sortItems, ok_dict0, ok_ixO, ok_parX, ok_parX3, gIxA_l, gIxA_t, gEqA_i, gEqA_s, atI_0, atI_1, atI_2, atI_3, gCmpO_i, intO, seqOf, isFlat, et, rn, eqX_str, decide_true, pk, en2, ok_ok, names_self hp]
    -- a name
    refine ok_step (fun ρ c1 => ∃ m, ρ = lwF ns (.val d) (.val (.int k)) (.val (.lst (ps.map rwD))) (.val H) (.val (.str (shw H))) (.val (dueP k ps)) (.val (.str m)) s9 s10 s11 s12 s13 ∧ isNm m.cps.toList = true ∧ m.cps.toList.length ≤ 1000 ∧ Good (n + 32) c1) ?_ fun ρ c ⟨m, hm, hm1, hm2, g⟩ => ?_
    · unfold lwF
      simp only [ok_seq, ok_asg, ok_par, ok_ret, ok_retN, ok_sNil, ok_sIf, ok_bin, ok_un, ok_var, ok_C, ok_call, ok_callK, ok_cons, ok_nil, ok_args, ok_tru, ok_not, ok_and, ok_or, ok_eNot, ok_eAnd, ok_eOr, ok_if, ok_cmp, ok_chain, ok_ofC, ok_oNone, ok_oSome, ok_sl, ok_met, ok_rev, ok_items, ok_lenSet, ok_pairs0, ok_pairs, ok_dict, ok_iSeq, ok_rng1, ok_rng2, ok_comp, ok_comp0, ok_for, List.getElem?_cons_zero, List.getElem?_cons_succ, Option.some.injEq, Sl.val.injEq, exists_eq_left', List.nil_append, List.append_nil, List.length_cons, List.length_nil, true_and, and_true, and_self, Nat.zero_add, Nat.reduceAdd, Nat.reduceLeDiff, gAdd_i, gSub_i, gNeg_i, gBl_e, gCmpI_i, gLst_o, gTup_o, gN_e, List.set_cons_zero, List.set_cons_succ, truD_b, gIsN_n, isNonD, gLen_l, gInt_b, gInt_i, Option.map_some, Bool.false_eq_true, if_true, if_false, Bool.not_true, Bool.not_false, keyD, walkD, ok_sOwn, ok_sFz, ok_cBor, ok_eBor, ok_sPut, ok_xNil, ok_xVal, ok_xOwn, ok_zip, ok_enum, ok_star, ok_sortItems, ok_dict0, ok_ixO, ok_parX, ok_parX3, gIxA_l, gIxA_t, gEqA_i, gEqA_s, atI_0, atI_1, atI_2, atI_3, gCmpO_i, intO, seqOf, isFlat]
      refine pick_ok g (by omega) (by simp) (by simp) fun x hx c4 g4 => ?_
      simp only [List.mem_cons, List.not_mem_nil, or_false] at hx
      rcases hx with rfl | rfl | rfl | rfl <;> exact ⟨_, rfl, by decide +kernel, by decide +kernel, g4⟩
    subst hm
    -- its factors
    refine ok_step (fun ρ c1 => ∃ s12 s13, ρ = lwF ns (.val d) (.val (.int k)) (.val (.lst (ps.map rwD))) (.val H) (.val (.str (shw H))) (.val (dueP k ps)) (.val (.str m)) (.val (.lst [.int (totP m ps), .int (totP m ps)])) s10 s11 s12 s13 ∧ c = c1) ?_ fun ρ c1 hm => ?_
    · unfold lwF
      simp only [ok_seq, ok_asg, ok_par, ok_ret, ok_retN, ok_sNil, ok_sIf, ok_bin, ok_un, ok_var, ok_C, ok_call, ok_callK, ok_cons, ok_nil, ok_args, ok_tru, ok_not, ok_and, ok_or, ok_eNot, ok_eAnd, ok_eOr, ok_if, ok_cmp, ok_chain, ok_ofC, ok_oNone, ok_oSome, ok_sl, ok_met, ok_rev, ok_items, ok_lenSet, ok_pairs0, ok_pairs, ok_dict, ok_iSeq, ok_rng1, ok_rng2, ok_comp, ok_comp0, ok_for, List.getElem?_cons_zero, List.getElem?_cons_succ, Option.some.injEq, Sl.val.injEq, exists_eq_left', List.nil_append, List.append_nil, List.length_cons, List.length_nil, true_and, and_true, and_self, Nat.zero_add, Nat.reduceAdd, Nat.reduceLeDiff, gAdd_i, gSub_i, gNeg_i, gBl_e, gCmpI_i, gLst_o, gTup_o, gN_e, List.set_cons_zero, List.set_cons_succ, truD_b, gIsN_n, isNonD, gLen_l, gInt_b, gInt_i, Option.map_some, Bool.false_eq_true, if_true, if_false, Bool.not_true, Bool.not_false, keyD, walkD, ok_sOwn, ok_sFz, ok_cBor, ok_eBor, ok_sPut, ok_xNil, ok_xVal, ok_xOwn, ok_zip, ok_enum, ok_star, ok_sortItems, ok_dict0, ok_ixO, ok_parX, ok_parX3, gIxA_l, gIxA_t, gEqA_i, gEqA_s, atI_0, atI_1, atI_2, atI_3, gCmpO_i, intO, seqOf, isFlat]
      refine ⟨size_line (by rw [List.length_map]; omega), ?_⟩
      refine comp_filter (fun d => decide ((pairOf d).1 = m)) (fun d => .int (pairOf d).2) (fun x hx c => ?_) ?_
      · obtain ⟨p, _, rfl⟩ := List.mem_map.mp hx
        refine ⟨[.val (.scr ns), .val .chn, .val d, .val (.int k), .val (.lst (ps.map rwD)), .val H, .val (.str (shw H)), .val (dueP k ps), .val (.str m), s9, s10, s11, .val (.int p.2), .val (.str p.1)], rfl, ?_, fun _ => rfl⟩
        apply eq_of_ok
        simp only [ok_seq, ok_asg, ok_par, ok_ret, ok_retN, ok_sNil, ok_sIf, ok_bin, ok_un, ok_var, ok_C, ok_call, ok_callK, ok_cons, ok_nil, ok_args, ok_tru, ok_not, ok_and, ok_or, ok_eNot, ok_eAnd, ok_eOr, ok_if, ok_cmp, ok_chain, ok_ofC, ok_oNone, ok_oSome, ok_sl, ok_met, ok_rev, ok_items, ok_lenSet, ok_pairs0, ok_pairs, ok_dict, ok_iSeq, ok_rng1, ok_rng2, ok_comp, ok_comp0, ok_for, List.getElem?_cons_zero, List.getElem?_cons_succ, Option.some.injEq, Sl.val.injEq, exists_eq_left', List.nil_append, List.append_nil, List.length_cons, List.length_nil, true_and, and_true, and_self, Nat.zero_add, Nat.reduceAdd, Nat.reduceLeDiff, gAdd_i, gSub_i, gNeg_i, gBl_e, gCmpI_i, gLst_o, gTup_o, gN_e, List.set_cons_zero, List.set_cons_succ, truD_b, gIsN_n, isNonD, gLen_l, gInt_b, gInt_i, Option.map_some, Bool.false_eq_true, if_true, if_false, Bool.not_true, Bool.not_false, keyD, walkD, ok_sOwn, ok_sFz, ok_cBor, ok_eBor, ok_sPut, ok_xNil, ok_xVal, ok_xOwn, ok_zip, ok_enum, ok_star, ok_sortItems, ok_dict0, ok_ixO, ok_parX, ok_parX3, gIxA_l, gIxA_t, gEqA_i, gEqA_s, atI_0, atI_1, atI_2, atI_3, gCmpO_i, intO, seqOf, isFlat]
        rfl
      · have es : gSum [.lst (((ps.map rwD).filter fun d => decide ((pairOf d).1 = m)).map fun d => .int (pairOf d).2)] = some (.int (totP m ps)) := by
          rw [sum_P pairOf (ps.map rwD) m, List.map_map]
          have e : ps.map (pairOf ∘ rwD) = ps := List.map_id ps
          rw [e]
        have em : gMul (.lst [.int (totP m ps)]) (.int 2) = some (.lst [.int (totP m ps), .int (totP m ps)]) := rfl
        simp only [ok_seq, ok_asg, ok_par, ok_ret, ok_retN, ok_sNil, ok_sIf, ok_bin, ok_un, ok_var, ok_C, ok_call, ok_callK, ok_cons, ok_nil, ok_args, ok_tru, ok_not, ok_and, ok_or, ok_eNot, ok_eAnd, ok_eOr, ok_if, ok_cmp, ok_chain, ok_ofC, ok_oNone, ok_oSome, ok_sl, ok_met, ok_rev, ok_items, ok_lenSet, ok_pairs0, ok_pairs, ok_dict, ok_iSeq, ok_rng1, ok_rng2, ok_comp, ok_comp0, ok_for, List.getElem?_cons_zero, List.getElem?_cons_succ, Option.some.injEq, Sl.val.injEq, exists_eq_left', List.nil_append, List.append_nil, List.length_cons, List.length_nil, true_and, and_true, and_self, Nat.zero_add, Nat.reduceAdd, Nat.reduceLeDiff, gAdd_i, gSub_i, gNeg_i, gBl_e, gCmpI_i, gLst_o, gTup_o, gN_e, List.set_cons_zero, List.set_cons_succ, truD_b, gIsN_n, isNonD, gLen_l, gInt_b, gInt_i, Option.map_some, Bool.false_eq_true, if_true, if_false, Bool.not_true, Bool.not_false, keyD, walkD, ok_sOwn, ok_sFz, ok_cBor, ok_eBor, ok_sPut, ok_xNil, ok_xVal, ok_xOwn, ok_zip, ok_enum, ok_star, ok_sortItems, ok_dict0, ok_ixO, ok_parX, ok_parX3, gIxA_l, gIxA_t, gEqA_i, gEqA_s, atI_0, atI_1, atI_2, atI_3, gCmpO_i, intO, seqOf, isFlat, es, em]
        exact ⟨_, _, rfl⟩
    obtain ⟨t12, t13, rfl, rfl⟩ := hm
    refine ok_ifS false ?_ (fun z => nomatch z) fun _ => ?_
    · unfold lwF
      have ef : ∀ c, F_factor_of2 [dueP k ps, .str m] c = .ok (.int (totP m ps)) c := fun c => factor_due hk hl hp hm1 hm2
      have pk : pick [1, 0] [.str m, dueP k ps] = [dueP k ps, .str m] := rfl
      have ht : (totP m ps).natAbs < 10 ^ 60 := by
        have h1 := tot_le (n := m) (qs := ps) (B := 10 ^ 40) fun p h => (hp p h).2.2.1
        have h2 : ps.length * 10 ^ 40 ≤ 5 * 10 ^ 40 := Nat.mul_le_mul_right _ hl
        exact Nat.lt_of_le_of_lt (Nat.le_trans h1 h2) (by decide)
      have rn : gRepr [.lst [.int (totP m ps), .int (totP m ps)]] = some (.str (shw (.lst [.int (totP m ps), .int (totP m ps)]))) := gRepr_f (by simp only [fit, fitA, sizI_of ht, Bool.and_self]) (by simp [cnt, cntA]) (by simp [hgt, hgtA])
      simp only [ok_seq, ok_asg, ok_par, ok_ret, ok_retN, ok_sNil, ok_sIf, ok_bin, ok_un, ok_var, ok_C, ok_call, ok_callK, ok_cons, ok_nil, ok_args, ok_tru, ok_not, ok_and, ok_or, ok_eNot, ok_eAnd, ok_eOr, ok_if, ok_cmp, ok_chain, ok_ofC, ok_oNone, ok_oSome, ok_sl, ok_met, ok_rev, ok_items, ok_lenSet, ok_pairs0, ok_pairs, ok_dict, ok_iSeq, ok_rng1, ok_rng2, ok_comp, ok_comp0, ok_for, List.getElem?_cons_zero, List.getElem?_cons_succ, Option.some.injEq, Sl.val.injEq, exists_eq_left', List.nil_append, List.append_nil, List.length_cons, List.length_nil, true_and, and_true, and_self, Nat.zero_add, Nat.reduceAdd, Nat.reduceLeDiff, gAdd_i, gSub_i, gNeg_i, gBl_e, gCmpI_i, gLst_o, gTup_o, gN_e, List.set_cons_zero, List.set_cons_succ, truD_b, gIsN_n, isNonD, gLen_l, gInt_b, gInt_i, Option.map_some, Bool.false_eq_true, if_true, if_false, Bool.not_true, Bool.not_false, keyD, walkD, ok_sOwn, ok_sFz, ok_cBor, ok_eBor, ok_sPut, ok_xNil, ok_xVal, ok_xOwn, ok_zip, ok_enum, ok_star, ok_sortItems, ok_dict0, ok_ixO, ok_parX, ok_parX3, gIxA_l, gIxA_t, gEqA_i, gEqA_s, atI_0, atI_1, atI_2, atI_3, gCmpO_i, intO, seqOf, isFlat, ef, ok_ok, pk, rn, eqX_str, decide_true]
    -- bent ones
    unfold lwF
    simp only [ok_for, ok_seq, ok_asg, ok_par, ok_ret, ok_retN, ok_sNil, ok_sIf, ok_bin, ok_un, ok_var, ok_C, ok_call, ok_callK, ok_cons, ok_nil, ok_args, ok_tru, ok_not, ok_and, ok_or, ok_eNot, ok_eAnd, ok_eOr, ok_if, ok_cmp, ok_chain, ok_ofC, ok_oNone, ok_oSome, ok_sl, ok_met, ok_rev, ok_items, ok_lenSet, ok_pairs0, ok_pairs, ok_dict, ok_iSeq, ok_rng1, ok_rng2, ok_comp, ok_comp0, ok_for, List.getElem?_cons_zero, List.getElem?_cons_succ, Option.some.injEq, Sl.val.injEq, exists_eq_left', List.nil_append, List.append_nil, List.length_cons, List.length_nil, true_and, and_true, and_self, Nat.zero_add, Nat.reduceAdd, Nat.reduceLeDiff, gAdd_i, gSub_i, gNeg_i, gBl_e, gCmpI_i, gLst_o, gTup_o, gN_e, List.set_cons_zero, List.set_cons_succ, truD_b, gIsN_n, isNonD, gLen_l, gInt_b, gInt_i, Option.map_some, Bool.false_eq_true, if_true, if_false, Bool.not_true, Bool.not_false, keyD, walkD, ok_sOwn, ok_sFz, ok_cBor, ok_eBor, ok_sPut, ok_xNil, ok_xVal, ok_xOwn, ok_zip, ok_enum, ok_star, ok_sortItems, ok_dict0, ok_ixO, ok_parX, ok_parX3, gIxA_l, gIxA_t, gEqA_i, gEqA_s, atI_0, atI_1, atI_2, atI_3, gCmpO_i, intO, seqOf, isFlat]
    refine ⟨rangeD 0 3, rng1_i (by decide) (by decide), ?_⟩
    have hlen3 : (rangeD 0 3).length = 3 := by decide
    refine for_count (B := n + 80) (fun n ρ c => Good n c ∧ ∃ s10 s11, ρ = lwF ns (.val d) (.val (.int k)) (.val (.lst (ps.map rwD))) (.val H) (.val (.str (shw H))) (.val (dueP k ps)) (.val (.str m)) (.val (.lst [.int (totP m ps), .int (totP m ps)])) s10 s11 t12 t13) 10 (fun x hx n2 ρ c hn2 ⟨g, s10, s11, hm⟩ => ?_) ⟨g, _, _, rfl⟩ (by rw [hlen3]; omega) fun ρ c ⟨g, s10, s11, hm⟩ => ⟨rfl, g.mono (by rw [hlen3]; omega), _, _, _, _, _, _, _, _, _, _, _, _, hm⟩
    subst hm
    refine ⟨lwF ns (.val d) (.val (.int k)) (.val (.lst (ps.map rwD))) (.val H) (.val (.str (shw H))) (.val (dueP k ps)) (.val (.str m)) (.val (.lst [.int (totP m ps), .int (totP m ps)])) (.val x) s11 t12 t13, rfl, ?_⟩
    refine ok_step (fun ρ c1 => ∃ v, ρ = lwF ns (.val d) (.val (.int k)) (.val (.lst (ps.map rwD))) (.val H) (.val (.str (shw H))) (.val (dueP k ps)) (.val (.str m)) (.val (.lst [.int (totP m ps), .int (totP m ps)])) (.val x) (.val v) t12 t13 ∧ nice v = true ∧ Good (n2 + 10) c1) ?_ fun ρ c ⟨v, hm, nv, g⟩ => ?_
    · unfold lwF
      simp only [ok_seq, ok_asg, ok_par, ok_ret, ok_retN, ok_sNil, ok_sIf, ok_bin, ok_un, ok_var, ok_C, ok_call, ok_callK, ok_cons, ok_nil, ok_args, ok_tru, ok_not, ok_and, ok_or, ok_eNot, ok_eAnd, ok_eOr, ok_if, ok_cmp, ok_chain, ok_ofC, ok_oNone, ok_oSome, ok_sl, ok_met, ok_rev, ok_items, ok_lenSet, ok_pairs0, ok_pairs, ok_dict, ok_iSeq, ok_rng1, ok_rng2, ok_comp, ok_comp0, ok_for, List.getElem?_cons_zero, List.getElem?_cons_succ, Option.some.injEq, Sl.val.injEq, exists_eq_left', List.nil_append, List.append_nil, List.length_cons, List.length_nil, true_and, and_true, and_self, Nat.zero_add, Nat.reduceAdd, Nat.reduceLeDiff, gAdd_i, gSub_i, gNeg_i, gBl_e, gCmpI_i, gLst_o, gTup_o, gN_e, List.set_cons_zero, List.set_cons_succ, truD_b, gIsN_n, isNonD, gLen_l, gInt_b, gInt_i, Option.map_some, Bool.false_eq_true, if_true, if_false, Bool.not_true, Bool.not_false, keyD, walkD, ok_sOwn, ok_sFz, ok_cBor, ok_eBor, ok_sPut, ok_xNil, ok_xVal, ok_xOwn, ok_zip, ok_enum, ok_star, ok_sortItems, ok_dict0, ok_ixO, ok_parX, ok_parX3, gIxA_l, gIxA_t, gEqA_i, gEqA_s, atI_0, atI_1, atI_2, atI_3, gCmpO_i, intO, seqOf, isFlat]
      have e : dueP k ps = .tup [.int k, .tup (((rowsP ps).map pairOf).map rwD)] := by rw [rows_rw]; rfl
      rw [e]
      refine bent_ok g (by omega) (by rw [List.length_map]; have := rows_len ps; omega) (fun p h1 => ?_) fun w c' nw g' => ?_
      · obtain ⟨d, hd, rfl⟩ := List.mem_map.mp h1
        obtain ⟨n, hm, rfl, _⟩ := rows_are d hd
        obtain ⟨q, hq, rfl⟩ := List.mem_map.mp hm
        exact ⟨Nat.le_trans (fitS_size (hp q hq).2.1) (by decide), (hp q hq).2.2.2⟩
      · exact ⟨w, rfl, nw, g'⟩
    subst hm
    unfold lwF
    have e1 : ∀ c, F_is_form [v] c = .ok (.bl (formB v)) c := fun c => is_form_eq nv
    have e2 : ∀ c, F_L_is_form [v] c = .ok (.bl (formB v)) c := fun c => L_is_form_eq nv
    have pk : pick [0] [v] = [v] := rfl
    simp only [ok_seq, ok_asg, ok_par, ok_ret, ok_retN, ok_sNil, ok_sIf, ok_bin, ok_un, ok_var, ok_C, ok_call, ok_callK, ok_cons, ok_nil, ok_args, ok_tru, ok_not, ok_and, ok_or, ok_eNot, ok_eAnd, ok_eOr, ok_if, ok_cmp, ok_chain, ok_ofC, ok_oNone, ok_oSome, ok_sl, ok_met, ok_rev, ok_items, ok_lenSet, ok_pairs0, ok_pairs, ok_dict, ok_iSeq, ok_rng1, ok_rng2, ok_comp, ok_comp0, ok_for, List.getElem?_cons_zero, List.getElem?_cons_succ, Option.some.injEq, Sl.val.injEq, exists_eq_left', List.nil_append, List.append_nil, List.length_cons, List.length_nil, true_and, and_true, and_self, Nat.zero_add, Nat.reduceAdd, Nat.reduceLeDiff, gAdd_i, gSub_i, gNeg_i, gBl_e, gCmpI_i, gLst_o, gTup_o, gN_e, List.set_cons_zero, List.set_cons_succ, truD_b, gIsN_n, isNonD, gLen_l, gInt_b, gInt_i, Option.map_some, Bool.false_eq_true, if_true, if_false, Bool.not_true, Bool.not_false, keyD, walkD, ok_sOwn, ok_sFz, ok_cBor, ok_eBor, ok_sPut, ok_xNil, ok_xVal, ok_xOwn, ok_zip, ok_enum, ok_star, ok_sortItems, ok_dict0, ok_ixO, ok_parX, ok_parX3, gIxA_l, gIxA_t, gEqA_i, gEqA_s, atI_0, atI_1, atI_2, atI_3, gCmpO_i, intO, seqOf, isFlat, e1, e2, ok_ok, repr_b, eqX_str, decide_true, pk]
    exact ⟨g, _, _, rfl⟩
  · subst hm
    unfold lwF
    have ef : ∀ c, F_form_of [.int 0, .lst []] c = .ok (.tup [.int 0, .tup []]) c := fun c => by
      have h := form_of_ok (k := 0) (ps := []) (H := .lst []) (c := c) (by simp) (by simp) (.inl rfl)
      have e : rowsP [] = [] := List.length_eq_zero_iff.mp (Nat.le_zero.mp (rows_len []))
      rw [dueP, e] at h
      exact h
    have ei : ∀ c, F_is_form [.tup [.int 0, .tup []]] c = .ok (.bl true) c := fun c => by
      rw [is_form_eq (by rfl)]; rfl
    have eq : gEqA (.tup [.int 0, .tup []]) (.tup [.int 0, .tup []]) = some true := by kernel_rfl
    have eb : gIsB false (.bl true) (.bl true) = some true := rfl
    simp only [ok_seq, ok_asg, ok_par, ok_ret, ok_retN, ok_sNil, ok_sIf, ok_bin, ok_un, ok_var, ok_C, ok_call, ok_callK, ok_cons, ok_nil, ok_args, ok_tru, ok_not, ok_and, ok_or, ok_eNot, ok_eAnd, ok_eOr, ok_if, ok_cmp, ok_chain, ok_ofC, ok_oNone, ok_oSome, ok_sl, ok_met, ok_rev, ok_items, ok_lenSet, ok_pairs0, ok_pairs, ok_dict, ok_iSeq, ok_rng1, ok_rng2, ok_comp, ok_comp0, ok_for, List.getElem?_cons_zero, List.getElem?_cons_succ, Option.some.injEq, Sl.val.injEq, exists_eq_left', List.nil_append, List.append_nil, List.length_cons, List.length_nil, true_and, and_true, and_self, Nat.zero_add, Nat.reduceAdd, Nat.reduceLeDiff, gAdd_i, gSub_i, gNeg_i, gBl_e, gCmpI_i, gLst_o, gTup_o, gN_e, List.set_cons_zero, List.set_cons_succ, truD_b, gIsN_n, isNonD, gLen_l, gInt_b, gInt_i, Option.map_some, Bool.false_eq_true, if_true, if_false, Bool.not_true, Bool.not_false, keyD, walkD, ok_sOwn, ok_sFz, ok_cBor, ok_eBor, ok_sPut, ok_xNil, ok_xVal, ok_xOwn, ok_zip, ok_enum, ok_star, ok_sortItems, ok_dict0, ok_ixO, ok_parX, ok_parX3, gIxA_l, gIxA_t, gEqA_i, gEqA_s, atI_0, atI_1, atI_2, atI_3, gCmpO_i, intO, seqOf, isFlat, ef, ei, ok_ok, eq, eb]
end G


theorem PySem.Challenge.cw_claimduel_k04_forms_made_and_judged_holds : PySem.Challenge.rw_claimduel_k04_forms_made_and_judged.Holds :=
  G.holds_of G.law_true

