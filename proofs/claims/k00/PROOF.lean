import PyProof.Rows.All
import HandS.ForMost
import HandS.Defaults
import HandS.IsInst
import HandS.Wide
import HandS.Flow
import HandS.Conv
import HandS.RaiseMore
import HandS.TupAny
import HandS.Style
import HandS.Zip
import HandS.Lambda
import HandS.ExcInit
import HandS.ExcField
import HandS.NestedK
import KE.KExcIs
import HandS.Text
import HandS.Deep
import HandS.StrMore
import HandS.ListItems
import PyProof.ReprRoads
import PyProof.RowDictHeap
import HandS.More
import HandS.Small
import HandS.Strs
import HandS.SetKeys
import KE.SortData
import KE.DataCmp
import KE.KDictSum
import KE.KItemsList
import HandS.HeadHook2
import HandS.Head2
import HandS.HeadHook4
import HandS.EndTab
import HandS.Iter
import PyProof.WalksMore
import HandS.Star
import PyProof.EqKinds
import PyProof.Dict
import KE.KEqDict
import HandS.NoneIn
import HandS.Set
import HandS.TupSets
import HandS.TupLe
import KE.KDictPairs
import HandS.DictComp
import HandS.FStr
import HandS.ExcCtx
import KE.KSuper
import KE.KExcSuper
import HandS.MakeKw
import HandS.Nested
import HandS.DeepEq
import PyProof.NeKinds
import KE.DataMinMax
import HandS.Gcd
import PyProof.LongRange
import PyProof.ListRange
import KE.KDictWalk
import KE.KDictExact
import KE.KPairComp
import KE.KAsSuite
import KE.KeyNested
import KE.KDictKeyed
import KE.KDictCopyH
import PySem.Challenge.RW_claimduel_k00_errors_keep_their_fields
import HandS.Head3
set_option Elab.async false
set_option linter.all false
set_option maxRecDepth 100000
set_option maxHeartbeats 4000000
/-! G0: tuples of which it is known that their object has no dict of its own (those whose first item is no address need it not). -/
namespace G
open PySem PySem.Spec PyProof.Rows L2
def nrefV : V → Bool
  | .ref _ => false
  | _ => true
def plainT : List V → Bool
  | x :: _ => nrefV x
  | [] => false
def tupH (xs : List V) (o : Obj) : HO := if plainT xs = true then .tup xs else .frz o (.tup xs)
theorem tupH_rd {H : Hp} {a : Addr} {xs : List V} {o : Obj} (e : H a = some (tupH xs o)) : Rd H a (.tup xs) := by
  unfold tupH at e
  split at e
  · exact .inl e
  · exact .inr ⟨o, e⟩
section
variable {X : Cx} {pins : List (Addr × Obj)} {σ : L2.St} {H : Hp} {s : Shared}
theorem laidT {xs : List V} {us : List Value} {h' : Heap} {Q : VK} {n : Nat} (I : L2.Inv X pins σ H s) (r : Vals xs us) (z : xs.length ≤ sizeLine)
    (k : ∀ b u, s.heap.get? b = some u → h'.get? b = some u) (e : h'.get? s.heap.objs.size = some { cls := .type "tuple", data := .seq us.toArray n })
    (q : ∀ p o, H p = none → o.dict = none → Q (.ref p) (upd H p (tupH xs o))) : EP X pins σ Q (.ref s.heap.objs.size) { s with heap := h' } := by
  have ok : ∀ H', ObjOk X.prog X.w H' h' s.heap.objs.size (.tup xs) := fun _ => ⟨z, us, r, _, e, rfl, n, rfl⟩
  refine ⟨.ref s.heap.objs.size, upd H s.heap.objs.size (tupH xs { cls := .type "tuple", data := .seq us.toArray n }), ?_, rfl, q _ _ (I.hok.fresh (Nat.le_refl _)) rfl⟩
  refine I.laid (t' := s.toks) k (Nat.le_refl _) ?_
  generalize hb : upd H s.heap.objs.size _ = HH
  unfold tupH
  split
  · exact ok HH
  · exact ⟨e, ok HH⟩
/-- a display -/
def tTupN (t : TA) : TE := fun σ H Q => t σ H fun xs H1 => xs.length ≤ sizeLine ∧ ∀ p o, H1 p = none → o.dict = none → Q (.ref p) (upd H1 p (tupH xs o))
theorem pe_tupN {x1} {es : List Expr} {t : TA} {pos : Pos} (h : PA X es t) : PE X (.Tuple es x1 pos) (tTupN t) := by
  constructor
  intro pins s σ H Q I hq
  refine wpAny_Tuple_spliced (thn (h.run pos pins s σ H _ I hq) ?_)
  rintro us s1 ⟨xs, H1, I1, r, z, q⟩
  refine ⟨by rw [← r.length]; exact z, ?_⟩
  exact laidT I1 r z (fun _ _ w => Heap.get?_push_of_some _ w) (Heap.get?_push_size _ rfl) q
/-- t + u -/
def rCatN (K : PySem.W.Frag) : R2 := fun x y H Q => ∃ a b xs ys, x = .ref a ∧ y = .ref b ∧ SqT K H a xs ∧ SqT K H b ys ∧ xs.length + ys.length ≤ sizeLine ∧
  (xs = [] → Q (.ref b) H) ∧ (xs ≠ [] → ys = [] → Q (.ref a) H) ∧ (xs ≠ [] → ys ≠ [] → ∀ p o, H p = none → o.dict = none → Q (.ref p) (upd H p (tupH (xs ++ ys) o)))
theorem op_catN : OpR X (binaryOp .Add) (rCatN X.K) := by
  intro pins s σ H x y v u Q I rx ry h
  obtain ⟨a, b, xs, ys, rfl, rfl, ha, hb, hz, q0, q1, q2⟩ := h
  cases rx; cases ry
  obtain ⟨us, r1, p1, _⟩ := I.tuple ha
  obtain ⟨ws, r2, p2, _⟩ := I.tuple hb
  by_cases hx : us = []
  · subst hx
    cases r1
    exact cat_tup0 p1 p2 ⟨.ref b, H, I, rfl, q0 rfl⟩
  · have hx' : xs ≠ [] := fun e => hx (r1.nil_iff.mpr e)
    refine HT.cat_tup p1 p2 hx (fun e => ⟨.ref a, H, I, rfl, q1 hx' (r2.nil_iff.mp e)⟩) (fun e => ?_) (by rw [← r1.length, ← r2.length]; exact hz)
    exact laidT I (r1.append r2) (by rw [List.length_append]; exact hz) (fun _ _ w => Heap.get?_push_of_some _ w) (Heap.get?_push_size _ rfl) (q2 hx' fun z => e (r2.nil_iff.mpr z))
/-- tuple(xs) -/
def rTupN (K : PySem.W.Frag) : List V → Hp → VK → Prop := fun xs H Q => ∃ p ys, xs = [.ref p] ∧ ((SqL K H p ys ∧ ∀ l o, H l = none → o.dict = none → Q (.ref l) (upd H l (tupH ys o))) ∨ (SqT K H p ys ∧ Q (.ref p) H))
theorem call_tupN : CallR X (.type "tuple") (rTupN X.K) := by
  intro pins s σ H xs us Q I r h
  obtain ⟨p, ys, rfl, h⟩ := h
  obtain ⟨u, rfl, rx⟩ := vals1 r
  cases rx
  rcases h with ⟨hq, q⟩ | ⟨hq, q⟩
  · obtain ⟨ws, r', pl, hz⟩ := I.list hq
    have ln := r'.length
    refine call_tuple_list pl.isList (fun h' kp => ?_) (by simp only [List.size_toArray] <;> omega)
    have I1 : L2.Inv X pins σ H { s with heap := h' } := I.kept (t' := s.toks) kp
    exact laidT I1 r' hz (fun _ _ w => Heap.get?_push_of_some _ w) (Heap.get?_push_size _ rfl) q
  · obtain ⟨ws, r', pl, hz⟩ := I.tuple hq
    exact call_tuple_same pl ⟨.ref p, H, I, rfl, q⟩
end
/-! zip -/
end G
set_option Elab.async false
set_option linter.all false
set_option maxRecDepth 100000
set_option maxHeartbeats 4000000
/-! G1: values as trees (D), how they lie in the heap (Rl), the draws' state, the monad of what a def does (M), readings over it. -/
namespace G
open PySem PySem.Spec PyProof.Rows L2
/-- the draws' list, and the list of its cells -/
structure Dr where
  a : Addr
  cc : Addr
  ne : cc ≠ a
/-- the code objects of the defs of the written part, their tables, the name of a lambda made there -/
def lamC (K : PySem.W.Frag) : List (Addr × Addr × Str) := K.filterMap fun p => match p.2.data with
  | .func fd => (match fd.code with
    | .ref c => (match K.lookup c with
      | some ⟨_, _, .fields vs, _⟩ => (match (vs[11]? : Option Value) with
        | some (.ref P) => some (c, P, (fd.qualname ++ ".<locals>.") ++ "<lambda>")
        | _ => none)
      | _ => none)
    | _ => none)
  | _ => none
def lamT (K : PySem.W.Frag) : List (Addr × Str) := (lamC K).map (·.2)
/-! the package's errors -/
def errN : List Str := ["DuelError", "BadNumber", "BadName", "BadForm", "BadClaim", "BadSetting", "BadLayout", "BadRow", "BadMove", "BadDuel", "BadBook", "BadRule", "BadProgram", "BadPaper", "Misfit", "Missing", "NoName", "Twice", "TooMany", "Nothing", "Over", "BadText", "BadLine"]
def errF : List Str := ["part", "value", "what", "most", "line", "item", "error"]
def errSub (a b : Str) : Bool := decide (a ∈ errN) && (decide (a = b) || (decide (b = "DuelError") || (decide (a = "NoName") && decide (b = "Missing"))))
/-- the class of a name of the module -/
def clsOf (K : PySem.W.Frag) (c : Str) : Addr := match PySem.W.nsIn K mainGlobals c with
  | some (some (.ref a)) => a
  | _ => 0
/-- what the written part says of an error's class -/
def excKB (K : PySem.W.Frag) (c : Str) : Bool :=
  (decide (c ∈ errN) && ((PySem.W.clsIn K (clsOf K c)).isSome && (xfB K (clsOf K c) && (decide (PySem.W.findIn K (.ref (clsOf K c)) "__class__" = some (some (.builtin "object.__class__"))) &&
    (decide (PySem.W.specialIn K (.builtin "object.__class__") "__get__" = some (some (.builtin "getset_descriptor.__get__"))) && (decide (PySem.W.takesIn K (.builtin "object.__class__") = some true) && decide (PySem.W.mroIn K (clsOf K c) (.type "object") = some true))))))) &&
  ((errF.all fun f => decide (PySem.W.findIn K (.ref (clsOf K c)) f = some none)) &&
  errN.all fun h => match PySem.W.nsIn K mainGlobals h with
    | some (some (.ref H)) => decide (PySem.W.exmOne K (.ref (clsOf K c)) (.ref H) = some (errSub c h)) && decide (PySem.W.kitOne K (.ref (clsOf K c)) (.ref H) = some (errSub c h))
    | _ => true)
def ExcK (K : PySem.W.Frag) (c : Str) : Prop := excKB K c = true
/-- own classes without a class above them, whose objects do not change once they are made -/
def insN : List Str := ["Rule", "Layout", "Program"]
/-- their fields -/
def insF (c : Str) : List Str := if c = "Rule" then ["rows"] else if c = "Layout" then ["rows"] else if c = "Program" then ["inputs", "needs", "rows", "gives", "names"] else []
/-- what the written part says of such a class -/
def insKB (K : PySem.W.Frag) (c : Str) : Bool :=
  (decide (c ∈ insN) && ((PySem.W.plainGet K (clsOf K c) Str.empty && (PySem.W.hasDictIn K (clsOf K c) && (PySem.W.plainOver K (clsOf K c) &&
    (decide (PySem.W.findIn K (.ref (clsOf K c)) "__setattr__" = some (some (.builtin "object.__setattr__"))) && (decide (PySem.W.findIn K (.ref (clsOf K c)) "__class__" = some (some (.builtin "object.__class__"))) &&
    (decide (PySem.W.specialIn K (.builtin "object.__class__") "__get__" = some (some (.builtin "getset_descriptor.__get__"))) && (decide (PySem.W.takesIn K (.builtin "object.__class__") = some true) && decide (PySem.W.mroIn K (clsOf K c) (.type "object") = some true))))))))) &&
  (((errF ++ insF c).all fun f => decide (PySem.W.findIn K (.ref (clsOf K c)) f = some none)) &&
  ((insN.all fun h => match PySem.W.nsIn K mainGlobals h with
    | some (some (.ref H)) => decide (PySem.W.kitOne K (.ref (clsOf K c)) (.ref H) = some (decide (c = h)))
    | _ => true) &&
  ((errN.all fun h => match PySem.W.nsIn K mainGlobals h with
    | some (some (.ref H)) => decide (PySem.W.kitOne K (.ref (clsOf K c)) (.ref H) = some false)
    | _ => true) &&
  (["list", "tuple", "int", "bool", "str", "dict"].all fun h => decide (PySem.W.kitOne K (.ref (clsOf K c)) (.type h) = some false))))))
def InsK (K : PySem.W.Frag) (c : Str) : Prop := insKB K c = true
/-- at a: an exception of the class at C, its dict at d -/
def exc0H (a C : Addr) : HO := .ext fun h => ∃ (oe : Obj) (vs : Array Value), h.get? a = some oe ∧ oe.cls = .ref C ∧ oe.dict = none ∧ oe.data = .fields vs
def excH (a C d : Addr) : HO := .ext fun h => ∃ (oe : Obj) (vs : Array Value), h.get? a = some oe ∧ oe.cls = .ref C ∧ oe.dict = some d ∧ oe.data = .fields vs
instance : Coe Dr Addr := ⟨Dr.a⟩
/-- a value as a tree -/
inductive D where
  | non | bl (b : Bool) | int (i : Int) | str (x : Str) | lst (xs : List D) | tup (xs : List D)
  | dic (ks : List Key) (vs : List D) | obj (a : Addr) | ty (n : String) | chn | scr (ns : List Int) | exc (c : Str) (ks : List Str) (vs : List D)
instance : Inhabited D := ⟨.non⟩
/-- a tuple that is tracked, or an object of the module -/
def TupAt (K : PySem.W.Frag) (H : Hp) (a : Addr) (xs : List V) : Prop :=
  (∃ o, o.dict = none ∧ H a = some (tupH xs o)) ∨ ∃ (us : List Value) (n : Nat) (sl : Array (Option Value)), K.lookup a = some ⟨.type "tuple", none, .seq us.toArray n, sl⟩ ∧ us.length ≤ sizeLine ∧ Vals xs us
theorem TupAt.of {K : PySem.W.Frag} {H : Hp} {a : Addr} {xs : List V} {o : Obj} (h : H a = some (tupH xs o)) (d : o.dict = none) : TupAt K H a xs := .inl ⟨o, d, h⟩
theorem TupAt.s {K : PySem.W.Frag} {H : Hp} {a : Addr} {xs : List V} (h : TupAt K H a xs) : SqT K H a xs := by
  rcases h with ⟨o, _, h⟩ | ⟨us, n, sl, e, l, r⟩
  · exact .inl (tupH_rd h)
  · exact .inr ⟨_, us.toArray, n, e, rfl, rfl, by simpa using l, by simpa using r⟩
/-- the script: a list that nobody changes -/
def ScrAt (K : PySem.W.Frag) (H : Hp) (a : Addr) (vs : List V) : Prop :=
  (∃ o, H a = some (.frz o (.lst vs))) ∨ ∃ (o : Obj) (its : Array Value) (n : Nat), K.lookup a = some o ∧ o.cls = .type "list" ∧ o.dict = none ∧ o.data = .seq its n ∧ its.size ≤ sizeLine ∧ Vals vs its.toList
theorem ScrAt.s {K : PySem.W.Frag} {H : Hp} {a : Addr} {vs : List V} (h : ScrAt K H a vs) : SqL K H a vs := h.elim (fun h => .inl (.inr h)) .inr
mutual
/-- v lies in H as the tree d; Z: the addresses that may still change -/
inductive Rl (K : PySem.W.Frag) (ca : Dr) (Z : Addr → Prop) (H : Hp) : V → D → Prop
  | non : Rl K ca Z H .non .non
  | bl (b : Bool) : Rl K ca Z H (.bl b) (.bl b)
  | int (i : Int) : Rl K ca Z H (.int i) (.int i)
  | str (x : Str) : Rl K ca Z H (.str x) (.str x)
  | ty (n : String) : Rl K ca Z H (.ty n) (.ty n)
  | obj (a : Addr) : Rl K ca Z H (.ref a) (.obj a)
  | chn : Rl K ca Z H (.ref ca) .chn
  | scr {a : Addr} {ns : List Int} : ScrAt K H a (ns.map V.int) → Rl K ca Z H (.ref a) (.scr ns)
  | lst {a : Addr} {vs : List V} {ds : List D} : ¬ Z a → H a = some (.lst vs) → RlA K ca Z H vs ds → Rl K ca Z H (.ref a) (.lst ds)
  | tup {a : Addr} {vs : List V} {ds : List D} : TupAt K H a vs → RlA K ca Z H vs ds → Rl K ca Z H (.ref a) (.tup ds)
  | dic {a : Addr} {kvs : List (Key × V)} {ds : List D} : ¬ Z a → H a = some (.dK kvs) → RlA K ca Z H (kvs.map (·.2)) ds → Rl K ca Z H (.ref a) (.dic (kvs.map (·.1)) ds)
  | exc0 {a : Addr} {c : Str} : ExcK K c → H a = some (exc0H a (clsOf K c)) → Rl K ca Z H (.ref a) (.exc c [] [])
  | ins {a dx : Addr} {c : Str} {fs : List (Str × V)} {ds : List D} : ¬ Z a → InsK K c → H a = some (.ins (clsOf K c) dx fs) → RlA K ca Z H (fs.map (·.2)) ds → Rl K ca Z H (.ref a) (.exc c (fs.map (·.1)) ds)
  | exc {a d : Addr} {c : Str} {fs : List (Str × V)} {ds : List D} : ExcK K c → H a = some (excH a (clsOf K c) d) → H d = some (.xd fs) → RlA K ca Z H (fs.map (·.2)) ds → Rl K ca Z H (.ref a) (.exc c (fs.map (·.1)) ds)
inductive RlA (K : PySem.W.Frag) (ca : Dr) (Z : Addr → Prop) (H : Hp) : List V → List D → Prop
  | nil : RlA K ca Z H [] []
  | cons {v : V} {vs : List V} {d : D} {ds : List D} : Rl K ca Z H v d → RlA K ca Z H vs ds → RlA K ca Z H (v :: vs) (d :: ds)
end
def MuO : HO → Prop
  | .lst _ => True
  | .dK _ => True
  | _ => False
def TbO : HO → Prop
  | .tbl _ => True
  | _ => False
theorem tupH_tb (xs : List V) (o : Obj) : ¬ TbO (tupH xs o) := by
  unfold tupH
  split <;> exact id
theorem MuO.tb {o : HO} (h : MuO o) : ¬ TbO o := fun t => by
  cases o <;> first | exact h | exact t
theorem tupH_mu (xs : List V) (o : Obj) : ¬ MuO (tupH xs o) := by
  unfold tupH
  split <;> exact id
/-- all stays, but what changes at P is a list or a dict and remains one; tables of code objects remain tables -/
def ExtP (P : Addr → Prop) (H H' : Hp) : Prop := ∀ b o, H b = some o → H' b = some o ∨ (P b ∧ MuO o ∧ ∃ o', H' b = some o' ∧ MuO o') ∨ (TbO o ∧ ∃ o', H' b = some o' ∧ TbO o')
section
variable {P P1 P2 : Addr → Prop} {H H1 H2 H' : Hp}
theorem ExtP.refl : ExtP P H H := fun _ _ h => .inl h
theorem ExtP.of (h : ∀ b o, H b = some o → H' b = some o) : ExtP P H H' := fun b o e => .inl (h b o e)
theorem ExtP.new {p : Addr} {o : HO} (h : H p = none) : ExtP P H (upd H p o) := .of fun b x e => by rw [upd_ne (ne_of_none e h)]; exact e
theorem ExtP.tbl (h : LamX.ExtN H H') (ht : ∀ b o, H b = some o → TbO o → ∃ o', H' b = some o' ∧ TbO o') : ExtP P H H' := fun b o e => by
  by_cases q : TbO o
  · exact .inr (.inr ⟨q, ht b o e q⟩)
  · exact .inl (h b o e fun ps z => q (by rw [z]; trivial))
theorem ExtP.trans (a : ExtP P H H1) (b : ExtP P H1 H2) : ExtP P H H2 := fun c o h => by
  rcases a c o h with h1 | ⟨p, m, o', h1, m1⟩ | ⟨m, o', h1, m1⟩
  · exact b c o h1
  · rcases b c o' h1 with h2 | ⟨_, _, o2, h2, m2⟩ | ⟨m2, _⟩
    · exact .inr (.inl ⟨p, m, o', h2, m1⟩)
    · exact .inr (.inl ⟨p, m, o2, h2, m2⟩)
    · exact absurd m2 m1.tb
  · rcases b c o' h1 with h2 | ⟨_, m2, _⟩ | ⟨_, o2, h2, m2⟩
    · exact .inr (.inr ⟨m, o', h2, m1⟩)
    · exact absurd m1 m2.tb
    · exact .inr (.inr ⟨m, o2, h2, m2⟩)
theorem ExtP.mono (a : ExtP P H H1) (h : ∀ b, P b → P1 b) : ExtP P1 H H1 := fun c o e => (a c o e).imp id fun z => z.imp (fun ⟨p, r⟩ => ⟨h c p, r⟩) id
theorem ExtP.there (a : ExtP P H H1) {b : Addr} (h : H1 b = none) : H b = none := by
  cases e : H b with
  | none => rfl
  | some o =>
    rcases a b o e with h1 | ⟨_, _, o', h1, _⟩ | ⟨_, o', h1, _⟩
    · rw [h] at h1; cases h1
    · rw [h] at h1; cases h1
    · rw [h] at h1; cases h1
theorem ExtP.at_ (a : ExtP P H H1) {b : Addr} {o : HO} (e : H b = some o) (h : ¬ P b ∨ ¬ MuO o) (t : ¬ TbO o := by first | exact id | exact tupH_tb _ _) : H1 b = some o := by
  rcases a b o e with h1 | ⟨p, m, _⟩ | ⟨m, _⟩
  · exact h1
  · rcases h with h | h
    · exact absurd p h
    · exact absurd m h
  · exact absurd m t
theorem ExtP.tup (a : ExtP P H H1) {K : PySem.W.Frag} {b : Addr} {xs : List V} (h : TupAt K H b xs) : TupAt K H1 b xs := h.imp (fun ⟨o, d, h⟩ => ⟨o, d, a.at_ h (.inr (tupH_mu _ _))⟩) id
theorem ExtP.scr (a : ExtP P H H1) {K : PySem.W.Frag} {b : Addr} {xs : List V} (h : ScrAt K H b xs) : ScrAt K H1 b xs := h.imp (fun ⟨o, h⟩ => ⟨o, a.at_ h (.inr id)⟩) id
end
section
variable {K : PySem.W.Frag} {ca : Dr} {P Z Z' : Addr → Prop} {H H' : Hp}
mutual
theorem Rl.ext (e : ExtP P H H') (hz : ∀ b, P b → Z b) : ∀ {v : V} {d : D}, Rl K ca Z H v d → Rl K ca Z H' v d
  | _, _, .non => .non
  | _, _, .bl b => .bl b
  | _, _, .int i => .int i
  | _, _, .str x => .str x
  | _, _, .ty n => .ty n
  | _, _, .obj a => .obj a
  | _, _, .chn => .chn
  | _, _, .scr h => .scr (e.scr h)
  | _, _, .lst n h r => .lst n (e.at_ h (.inl fun p => n (hz _ p))) (RlA.ext e hz r)
  | _, _, .tup h r => .tup (e.tup h) (RlA.ext e hz r)
  | _, _, .dic n h r => .dic n (e.at_ h (.inl fun p => n (hz _ p))) (RlA.ext e hz r)
  | _, _, .exc k h1 h2 r => .exc k (e.at_ h1 (.inr id)) (e.at_ h2 (.inr id)) (RlA.ext e hz r)
  | _, _, .ins n k h1 r => .ins n k (e.at_ h1 (.inl fun p => n (hz _ p))) (RlA.ext e hz r)
  | _, _, .exc0 k h1 => .exc0 k (e.at_ h1 (.inr id))
theorem RlA.ext (e : ExtP P H H') (hz : ∀ b, P b → Z b) : ∀ {vs : List V} {ds : List D}, RlA K ca Z H vs ds → RlA K ca Z H' vs ds
  | _, _, .nil => .nil
  | _, _, .cons h r => .cons (Rl.ext e hz h) (RlA.ext e hz r)
end
mutual
theorem Rl.anti (hz : ∀ b, Z' b → Z b) : ∀ {v : V} {d : D}, Rl K ca Z H v d → Rl K ca Z' H v d
  | _, _, .non => .non
  | _, _, .bl b => .bl b
  | _, _, .int i => .int i
  | _, _, .str x => .str x
  | _, _, .ty n => .ty n
  | _, _, .obj a => .obj a
  | _, _, .chn => .chn
  | _, _, .scr h => .scr h
  | _, _, .lst n h r => .lst (fun z => n (hz _ z)) h (RlA.anti hz r)
  | _, _, .tup h r => .tup h (RlA.anti hz r)
  | _, _, .dic n h r => .dic (fun z => n (hz _ z)) h (RlA.anti hz r)
  | _, _, .exc k h1 h2 r => .exc k h1 h2 (RlA.anti hz r)
  | _, _, .ins n k h1 r => .ins (fun z => n (hz _ z)) k h1 (RlA.anti hz r)
  | _, _, .exc0 k h1 => .exc0 k h1
theorem RlA.anti (hz : ∀ b, Z' b → Z b) : ∀ {vs : List V} {ds : List D}, RlA K ca Z H vs ds → RlA K ca Z' H vs ds
  | _, _, .nil => .nil
  | _, _, .cons h r => .cons (Rl.anti hz h) (RlA.anti hz r)
end
theorem RlA.length : ∀ {vs : List V} {ds : List D}, RlA K ca Z H vs ds → vs.length = ds.length
  | _, _, .nil => rfl
  | _, _, .cons _ r => congrArg Nat.succ (RlA.length r)
theorem RlA.append : ∀ {vs : List V} {ds : List D} {ws : List V} {es : List D}, RlA K ca Z H vs ds → RlA K ca Z H ws es → RlA K ca Z H (vs ++ ws) (ds ++ es)
  | _, _, _, _, .nil, s => s
  | _, _, _, _, .cons h r, s => .cons h (RlA.append r s)
theorem RlA.get : ∀ {vs : List V} {ds : List D} {i : Nat} {d : D}, RlA K ca Z H vs ds → ds[i]? = some d → ∃ v, vs[i]? = some v ∧ Rl K ca Z H v d
  | _, _, _, _, .nil, e => by simp at e
  | _, _, 0, _, .cons h _, e => by simp at e; subst e; exact ⟨_, rfl, h⟩
  | _, _, i + 1, _, .cons _ r, e => by
    obtain ⟨v, h1, h2⟩ := RlA.get (i := i) r (by simpa using e)
    exact ⟨v, by simpa using h1, h2⟩
theorem RlA.take : ∀ (n : Nat) {vs : List V} {ds : List D}, RlA K ca Z H vs ds → RlA K ca Z H (vs.take n) (ds.take n)
  | 0, _, _, _ => .nil
  | _ + 1, _, _, .nil => .nil
  | n + 1, _, _, .cons h r => .cons h (RlA.take n r)
theorem RlA.drop : ∀ (n : Nat) {vs : List V} {ds : List D}, RlA K ca Z H vs ds → RlA K ca Z H (vs.drop n) (ds.drop n)
  | 0, _, _, r => r
  | _ + 1, _, _, .nil => .nil
  | n + 1, _, _, .cons _ r => RlA.drop n r
theorem RlA.reverse {vs : List V} {ds : List D} (r : RlA K ca Z H vs ds) : RlA K ca Z H vs.reverse ds.reverse := by
  induction ds generalizing vs with
  | nil => cases r; exact .nil
  | cons d ds ih =>
    cases r with
    | cons h r => rw [List.reverse_cons, List.reverse_cons]; exact (ih r).append (.cons h .nil)
theorem RlA.snoc {vs : List V} {ds : List D} {v : V} {d : D} (r : RlA K ca Z H vs ds) (h : Rl K ca Z H v d) : RlA K ca Z H (vs ++ [v]) (ds ++ [d]) := r.append (.cons h .nil)
end
/-! ### the draws' state -/
structure Churn where
  cells : List Int
  at_ : Int
  left : Int
def ChOk (K : PySem.W.Frag) (ca : Dr) (H : Hp) (c : Churn) : Prop :=
  H ca = some (.lst [.ref ca.cc, .int c.at_, .int c.left]) ∧ H ca.cc = some (.lst (c.cells.map V.int)) ∧ LamX.Tabs (lamT K) H
/-! ### what a def does: draws, a value, an error, or stuck -/
structure Exn where
  cls : Str
  fs : List (Str × D)
inductive R (α : Type) where
  | ok (a : α) (c : Churn)
  | exn (x : Exn) (c : Churn)
  | stuck
def M (α : Type) : Type := Churn → R α
def M.pure {α : Type} (a : α) : M α := fun c => .ok a c
def M.bind {α β : Type} (m : M α) (f : α → M β) : M β := fun c => match m c with
  | .ok a c' => f a c'
  | .exn x c' => .exn x c'
  | .stuck => .stuck
instance : Monad M where
  pure := M.pure
  bind := M.bind
def stuck {α : Type} : M α := fun _ => .stuck
def raiseM {α : Type} (x : Exn) : M α := fun c => .exn x c
def liftO {α : Type} : Option α → M α
  | some a => M.pure a
  | none => stuck
def At {α : Type} (r : R α) (k : α → Churn → Prop) (e : Exn → Churn → Prop) : Prop := match r with
  | .ok a c => k a c
  | .exn x c => e x c
  | .stuck => False
theorem At.mono {α : Type} {r : R α} {k k' : α → Churn → Prop} {e e' : Exn → Churn → Prop} (h : At r k e) (hk : ∀ a c, k a c → k' a c) (he : ∀ x c, e x c → e' x c) : At r k' e' := by
  cases r with
  | ok a c => exact hk a c h
  | exn x c => exact he x c h
  | stuck => exact h
theorem At.bind {α β : Type} {m : M α} {f : α → M β} {c : Churn} {k : β → Churn → Prop} {e : Exn → Churn → Prop} : At ((m >>= f) c) k e ↔ At (m c) (fun a c1 => At (f a c1) k e) e := by
  show At (M.bind m f c) k e ↔ _
  unfold M.bind
  cases h : m c with
  | ok a c' => exact Iff.rfl
  | exn x c' => exact Iff.rfl
  | stuck => exact Iff.rfl
def XRel (K : PySem.W.Frag) (ca : Dr) (Z : Addr → Prop) (H : Hp) (x : Exn) (cv : Value) (od : Option Addr) : Prop :=
  ExcK K x.cls ∧ cv = .ref (clsOf K x.cls) ∧
    ∃ d fs, od = some d ∧ H d = some (.xd fs) ∧ fs.map (·.1) = x.fs.map (·.1) ∧ RlA K ca Z H (fs.map (·.2)) (x.fs.map (·.2))
def U (Z Y : Addr → Prop) : Addr → Prop := fun a => Z a ∨ Y a
/-- the one address that a call may change: the draws' list -/
abbrev Ext (ca : Dr) : Hp → Hp → Prop := ExtP (· = ca)
section
variable (K : PySem.W.Frag) (ca : Dr) (E : XK) (Z : Addr → Prop) (H : Hp)
def EOk (x : Exn) (c : Churn) : Prop := ∀ cv od H', Ext ca H H' → XRel K ca Z H' x cv od → ChOk K ca H' c → E cv od H'
def Do {α : Type} (r : R α) (k : α → Churn → Prop) : Prop := At r k (EOk K ca E Z H)
end
section
variable {K : PySem.W.Frag} {ca : Dr} {E : XK} {Z : Addr → Prop} {H H1 : Hp}
theorem EOk.ext (e : Ext ca H H1) {x : Exn} {c : Churn} (h : EOk K ca E Z H x c) : EOk K ca E Z H1 x c := fun cv od H' e' r co => h cv od H' (e.trans e') r co
theorem Do.mono {α : Type} {r : R α} {k k' : α → Churn → Prop} (h : Do K ca E Z H r k) (hk : ∀ a c, k a c → k' a c) : Do K ca E Z H r k' := At.mono h hk fun _ _ z => z
theorem Do.ext {α : Type} {r : R α} {k : α → Churn → Prop} (e : Ext ca H H1) (h : Do K ca E Z H r k) : Do K ca E Z H1 r k := At.mono h (fun _ _ z => z) fun _ _ z => z.ext e
theorem Do.bind {α β : Type} {m : M α} {f : α → M β} {c : Churn} {k : β → Churn → Prop} (h : Do K ca E Z H ((m >>= f) c) k) : Do K ca E Z H (m c) fun a c1 => Do K ca E Z H (f a c1) k := At.bind.mp h
theorem Do.lift {α : Type} {o : Option α} {c : Churn} {k : α → Churn → Prop} (h : Do K ca E Z H (liftO o c) k) : ∃ a, o = some a ∧ k a c := by
  cases o with
  | none => exact h.elim
  | some a => exact ⟨a, rfl, h⟩
end
/-! ### a frame -/
inductive Sl where
  | no | val (d : D) | own (d : D)
abbrev Ev := List Sl
/-- a list or dict at a, that may still change -/
def Top (K : PySem.W.Frag) (ca : Dr) (W : Addr → Prop) (H : Hp) (a : Addr) : D → Prop
  | .lst ds => ∃ vs, H a = some (.lst vs) ∧ RlA K ca W H vs ds
  | .dic ks ds => ∃ kvs : List (Key × V), H a = some (.dK kvs) ∧ kvs.map (·.1) = ks ∧ ks.Nodup ∧ RlA K ca W H (kvs.map (·.2)) ds
  | _ => False
theorem Top.ext {K : PySem.W.Frag} {ca : Dr} {W P : Addr → Prop} {H H' : Hp} {a : Addr} {d : D} (h : Top K ca W H a d) (x : ExtP P H H') (hP : ∀ b, P b → W b) (n : ¬ P a) : Top K ca W H' a d := by
  unfold Top at h ⊢
  split at h
  · obtain ⟨vs, h1, h2⟩ := h
    exact ⟨vs, x.at_ h1 (.inl n), h2.ext x hP⟩
  · obtain ⟨vs, h1, e, nd, h2⟩ := h
    exact ⟨vs, x.at_ h1 (.inl n), e, nd, h2.ext x hP⟩
  · exact h.elim
theorem Top.some {K : PySem.W.Frag} {ca : Dr} {W : Addr → Prop} {H : Hp} {a : Addr} {d : D} (h : Top K ca W H a d) : ∃ o, H a = Option.some o ∧ MuO o := by
  unfold Top at h
  split at h
  · obtain ⟨vs, h1, h2⟩ := h
    exact ⟨_, h1, trivial⟩
  · obtain ⟨vs, h1, e, nd, h2⟩ := h
    exact ⟨_, h1, trivial⟩
  · exact h.elim
/-- what may still change is tracked, the draws' list is among it -/
structure ZOk (ca : Dr) (Z : Addr → Prop) (H : Hp) : Prop where
  zca : Z ca
  zcc : ¬ Z ca.cc
  zin : ∀ b, Z b → ∃ o, H b = some o
theorem ExtP.thereS {P : Addr → Prop} {H H' : Hp} (x : ExtP P H H') {b : Addr} (h : ∃ o, H b = some o) : ∃ o, H' b = some o := by
  obtain ⟨o, h⟩ := h
  rcases x b o h with h1 | ⟨_, _, o', h1, _⟩ | ⟨_, o', h1, _⟩
  · exact ⟨o, h1⟩
  · exact ⟨o', h1⟩
  · exact ⟨o', h1⟩
theorem ZOk.ext {ca : Dr} {Z P : Addr → Prop} {H H' : Hp} (z : ZOk ca Z H) (x : ExtP P H H') : ZOk ca Z H' := ⟨z.zca, z.zcc, fun b h => x.thereS (z.zin b h)⟩
theorem ZOk.free {ca : Dr} {Z : Addr → Prop} {H : Hp} (z : ZOk ca Z H) {p : Addr} (n : H p = none) : ¬ Z p := fun h => by
  obtain ⟨o, e⟩ := z.zin p h
  rw [n] at e; cases e
structure EnvOk (K : PySem.W.Frag) (ca : Dr) (Z Y : Addr → Prop) (H : Hp) (σ : L2.St) (ρ : Ev) : Prop where
  zok : ZOk ca (U Z Y) H
  zca : Z ca
  yca : ¬ Y ca
  len : σ.length = ρ.length
  val : ∀ (i : Nat) (d : D), ρ[i]? = some (.val d) → ∃ v, σ[i]? = some (some v) ∧ Rl K ca (U Z Y) H v d
  own : ∀ (i : Nat) (d : D), ρ[i]? = some (.own d) → ∃ a, σ[i]? = some (some (.ref a)) ∧ Y a ∧ Top K ca (U Z Y) H a d
  dis : ∀ b, Y b → ¬ Z b
  inj : ∀ (i j : Nat) (a : Addr) (ds es : D), ρ[i]? = some (.own ds) → ρ[j]? = some (.own es) → σ[i]? = some (some (.ref a)) → σ[j]? = some (some (.ref a)) → i = j
section
variable {K : PySem.W.Frag} {ca : Dr} {Z Y : Addr → Prop} {H H' : Hp} {σ : L2.St} {ρ : Ev}
theorem EnvOk.zc (e : EnvOk K ca Z Y H σ ρ) : ∀ b : Addr, b = ca → U Z Y b := fun b h => h ▸ .inl e.zca
theorem EnvOk.ext (e : EnvOk K ca Z Y H σ ρ) (x : Ext ca H H') : EnvOk K ca Z Y H' σ ρ where
  zok := e.zok.ext x
  zca := e.zca
  yca := e.yca
  len := e.len
  val := fun i d h => let ⟨v, h1, h2⟩ := e.val i d h; ⟨v, h1, h2.ext x e.zc⟩
  own := fun i d h => let ⟨a, h1, h2, h3⟩ := e.own i d h; ⟨a, h1, h2, h3.ext x e.zc fun z => e.yca (z ▸ h2)⟩
  dis := e.dis
  inj := e.inj
end
/-! ### readings -/
section
variable (K : PySem.W.Frag) (ca : Dr) (E : XK)
/-- an expression does f -/
def tD (f : Ev → M D) : TE := fun σ H Q => ∃ Z Y ρ c, EnvOk K ca Z Y H σ ρ ∧ ChOk K ca H c ∧
  Do K ca E (U Z Y) H (f ρ c) fun d c' => ∀ v H', Ext ca H H' → Rl K ca (U Z Y) H' v d → ChOk K ca H' c' → Q v H'
def tT (f : Ev → M Bool) : TT := fun σ H Q => ∃ Z Y ρ c, EnvOk K ca Z Y H σ ρ ∧ ChOk K ca H c ∧
  Do K ca E (U Z Y) H (f ρ c) fun b c' => ∀ H', Ext ca H H' → ChOk K ca H' c' → Q b H'
def tAs (f : Ev → M (List D)) : TA := fun σ H Q => ∃ Z Y ρ c, EnvOk K ca Z Y H σ ρ ∧ ChOk K ca H c ∧
  Do K ca E (U Z Y) H (f ρ c) fun ds c' => ∀ vs H', Ext ca H H' → RlA K ca (U Z Y) H' vs ds → ChOk K ca H' c' → Q vs H'
end
/-- what a rule of values asks, for trees -/
def BinD (K : PySem.W.Frag) (ca : Dr) (r : R2) (g : D → D → Option D) : Prop := ∀ (Z : Addr → Prop) (H : Hp) (c : Churn) (x y : V) (d e d' : D) (Q : VK), ZOk ca Z H → ChOk K ca H c → Rl K ca Z H x d → Rl K ca Z H y e → g d e = some d' →
  (∀ v H', Ext ca H H' → Rl K ca Z H' v d' → ChOk K ca H' c → Q v H') → r x y H Q
def UnD (K : PySem.W.Frag) (ca : Dr) (r : V → Hp → VK → Prop) (g : D → Option D) : Prop := ∀ (Z : Addr → Prop) (H : Hp) (c : Churn) (x : V) (d d' : D) (Q : VK), ZOk ca Z H → ChOk K ca H c → Rl K ca Z H x d → g d = some d' →
  (∀ v H', Ext ca H H' → Rl K ca Z H' v d' → ChOk K ca H' c → Q v H') → r x H Q
def CalD (K : PySem.W.Frag) (ca : Dr) (r : List V → Hp → VK → Prop) (g : List D → Option D) : Prop := ∀ (Z : Addr → Prop) (H : Hp) (c : Churn) (xs : List V) (ds : List D) (d' : D) (Q : VK), ZOk ca Z H → ChOk K ca H c → RlA K ca Z H xs ds → g ds = some d' →
  (∀ v H', Ext ca H H' → Rl K ca Z H' v d' → ChOk K ca H' c → Q v H') → r xs H Q
/-! ### what expressions do -/
def eVar (i : Nat) : Ev → M D := fun ρ => match ρ[i]? with
  | some (.val d) => pure d
  | _ => stuck
def eC (d : D) : Ev → M D := fun _ => pure d
def eBin (g : D → D → Option D) (fa fb : Ev → M D) : Ev → M D := fun ρ => fa ρ >>= fun x => fb ρ >>= fun y => liftO (g x y)
def eUn (g : D → Option D) (fa : Ev → M D) : Ev → M D := fun ρ => fa ρ >>= fun x => liftO (g x)
def aNil : Ev → M (List D) := fun _ => pure []
def aCons (f : Ev → M D) (g : Ev → M (List D)) : Ev → M (List D) := fun ρ => f ρ >>= fun x => g ρ >>= fun xs => pure (x :: xs)
def eArgs (g : List D → Option D) (fs : Ev → M (List D)) : Ev → M D := fun ρ => fs ρ >>= fun xs => liftO (g xs)
def truD : D → Option Bool
  | .non => some false
  | .bl b => some b
  | .int i => some (i != 0)
  | .str y => if y.length ≤ sizeLine then some ((y.length : Int) != 0) else none
  | .lst xs => some !xs.isEmpty
  | .tup xs => some !xs.isEmpty
  | .dic ks _ => some !ks.isEmpty
  | _ => none
def cTru (f : Ev → M D) : Ev → M Bool := fun ρ => f ρ >>= fun x => liftO (truD x)
def cNot (f : Ev → M Bool) : Ev → M Bool := fun ρ => f ρ >>= fun b => pure !b
def cAnd (f g : Ev → M Bool) : Ev → M Bool := fun ρ => f ρ >>= fun b => if b = true then g ρ else pure false
def cOr (f g : Ev → M Bool) : Ev → M Bool := fun ρ => f ρ >>= fun b => if b = true then pure true else g ρ
def eNot (f : Ev → M D) : Ev → M D := fun ρ => f ρ >>= fun x => liftO (truD x) >>= fun b => pure (.bl !b)
def eAnd (f g : Ev → M D) : Ev → M D := fun ρ => f ρ >>= fun x => liftO (truD x) >>= fun b => if b = true then g ρ else pure x
def eOr (f g : Ev → M D) : Ev → M D := fun ρ => f ρ >>= fun x => liftO (truD x) >>= fun b => if b = true then pure x else g ρ
def eIf (c : Ev → M Bool) (f g : Ev → M D) : Ev → M D := fun ρ => c ρ >>= fun b => if b = true then f ρ else g ρ
section
variable {X : Cx} {ca : Dr} {E : XK} {a b : Expr} {pos : Pos} {fa fb : Ev → M D}
theorem d_var (i : Nat) {x : Str} (hN : X.N[i]? = some x := by rfl) (hv : Vis X.env.scope x := by first | exact Or.inl rfl | exact Or.inr (Or.inl rfl) | exact Or.inr (Or.inr rfl)) (hd : (x == ("__debug__" : Str)) = false := by decide)
    (hcd : (x == ("__classdict__" : Str)) = false := by decide) : PE X (.Name x pos) (tD X.K ca E (eVar i)) := by
  refine ⟨fun pins s σ H Q I h => (pe_var (i := i) hN hv hd hcd).run pins s σ H Q I ?_⟩
  obtain ⟨Z, Y, ρ, c, eo, co, h⟩ := h
  unfold eVar at h
  cases e : ρ[i]? with
  | none => rw [e] at h; exact h.elim
  | some s =>
    rw [e] at h
    cases s with
    | no => exact h.elim
    | own ds => exact h.elim
    | val d =>
      obtain ⟨v, h1, h2⟩ := eo.val i d e
      exact ⟨v, h1, h v H .refl h2 co⟩
theorem d_con {e : Expr} {v : V} {d : D} (hp : PE X e (tC v)) (hr : ∀ Z H, Rl X.K ca Z H v d) : PE X e (tD X.K ca E (eC d)) := by
  refine ⟨fun pins s σ H Q I h => hp.run pins s σ H Q I ?_⟩
  obtain ⟨Z, Y, ρ, c, eo, co, h⟩ := h
  exact h v H .refl (hr _ _) co
theorem d_int {i : Int} {j} : PE X (.Constant (.int i) j pos) (tD X.K ca E (eC (.int i))) := d_con pe_int fun _ _ => .int i
theorem d_bl {i : Bool} {j} : PE X (.Constant (.bool i) j pos) (tD X.K ca E (eC (.bl i))) := d_con pe_bl fun _ _ => .bl i
theorem d_non {j} : PE X (.Constant .none j pos) (tD X.K ca E (eC .non)) := d_con pe_non fun _ _ => .non
theorem d_str {i : Str} {j} : PE X (.Constant (.str i) j pos) (tD X.K ca E (eC (.str i))) := d_con pe_str fun _ _ => .str i
theorem bin_run {r : R2} {g : D → D → Option D} (hr : BinD X.K ca r g) {σ : L2.St} {H : Hp} {Q : VK} (h : tD X.K ca E (eBin g fa fb) σ H Q) : tOp r (tD X.K ca E fa) (tD X.K ca E fb) σ H Q := by
  obtain ⟨Z, Y, ρ, c, eo, co, h⟩ := h
  refine ⟨Z, Y, ρ, c, eo, co, (Do.bind h).mono fun d c1 h1 x H1 e1 r1 co1 => ?_⟩
  refine ⟨Z, Y, ρ, c1, eo.ext e1, co1, ((Do.bind h1).ext e1).mono fun d2 c2 h2 y H2 e2 r2 co2 => ?_⟩
  obtain ⟨d', hg, h3⟩ := Do.lift h2
  exact hr (U Z Y) H2 c2 x y d d2 d' Q (eo.zok.ext (e1.trans e2)) co2 (r1.ext e2 eo.zc) r2 hg fun v H' e' r' co' => h3 v H' ((e1.trans e2).trans e') r' co'
theorem d_bin {op : Operator} {r : R2} {g : D → D → Option D} (ho : OpR X (binaryOp op) r) (hr : BinD X.K ca r g) (ha : PE X a (tD X.K ca E fa)) (hb : PE X b (tD X.K ca E fb)) :
    PE X (.BinOp a op b pos) (tD X.K ca E (eBin g fa fb)) :=
  ⟨fun pins s σ H Q I h => (pe_op ho ha hb).run pins s σ H Q I (bin_run hr h)⟩
theorem d_cmp {op : CmpOp} {r : R2} {g : D → D → Option D} (ho : OpR X (compareOp op) r) (hr : BinD X.K ca r g) (ha : PE X a (tD X.K ca E fa)) (hb : PE X b (tD X.K ca E fb)) (hm : behindInMarks op b = false) :
    PE X (.Compare a [op] [b] pos) (tD X.K ca E (eBin g fa fb)) :=
  ⟨fun pins s σ H Q I h => (pe_cmpR ho ha hb hm).run pins s σ H Q I (bin_run hr h)⟩
theorem d_un {op : UnaryOp} {r : V → Hp → VK → Prop} {g : D → Option D} (ho : UnR X (unaryOp op) r) (hr : UnD X.K ca r g) (ha : PE X a (tD X.K ca E fa)) : PE X (.UnaryOp op a pos) (tD X.K ca E (eUn g fa)) := by
  refine ⟨fun pins s σ H Q I h => (pe_un ho ha).run pins s σ H Q I ?_⟩
  obtain ⟨Z, Y, ρ, c, eo, co, h⟩ := h
  refine ⟨Z, Y, ρ, c, eo, co, (Do.bind h).mono fun d c1 h1 x H1 e1 r1 co1 => ?_⟩
  obtain ⟨d', hg, h3⟩ := Do.lift h1
  exact hr (U Z Y) H1 c1 x d d' Q (eo.zok.ext e1) co1 r1 hg fun v H' e' r' co' => h3 v H' (e1.trans e') r' co'
/-! argument lists -/
theorem da_nil : PA X [] (tAs X.K ca E aNil) := by
  refine ⟨fun p pins s σ H Q I h => pa_nil.run p pins s σ H Q I ?_⟩
  obtain ⟨Z, Y, ρ, c, eo, co, h⟩ := h
  exact h [] H .refl .nil co
theorem da_cons {e : Expr} {es : List Expr} {f : Ev → M D} {g : Ev → M (List D)} (ha : PE X e (tD X.K ca E f)) (hr : PA X es (tAs X.K ca E g)) (hs : starEach (e :: es) X.env = (false, eval e X.env) :: starEach es X.env := by rfl) :
    PA X (e :: es) (tAs X.K ca E (aCons f g)) := by
  refine ⟨fun p pins s σ H Q I h => (pa_cons ha hr hs).run p pins s σ H Q I ?_⟩
  obtain ⟨Z, Y, ρ, c, eo, co, h⟩ := h
  refine ⟨Z, Y, ρ, c, eo, co, (Do.bind h).mono fun d c1 h1 x H1 e1 r1 co1 => ?_⟩
  refine ⟨Z, Y, ρ, c1, eo.ext e1, co1, ((Do.bind h1).ext e1).mono fun ds c2 h2 ys H2 e2 r2 co2 => ?_⟩
  exact h2 (x :: ys) H2 (e1.trans e2) (.cons (r1.ext e2 eo.zc) r2) co2
/-! displays -/
def gTup (xs : List D) : Option D := if xs.length ≤ sizeLine then some (.tup xs) else none
def gLst (xs : List D) : Option D := if xs.length ≤ sizeLine then some (.lst xs) else none
theorem ChOk.ne {K : PySem.W.Frag} {H : Hp} {c : Churn} (h : ChOk K ca H c) {p : Addr} (n : H p = none) : p ≠ ca := fun z => by
  obtain ⟨h1, _⟩ := h
  rw [← z, n] at h1; cases h1
theorem ChOk.ext {K : PySem.W.Frag} {H H' : Hp} {c : Churn} (h : ChOk K ca H c) (e : ∀ b o, H b = some o → H' b = some o) : ChOk K ca H' c := by
  obtain ⟨h1, h2, h3⟩ := h
  exact ⟨e _ _ h1, e _ _ h2, h3.ext e⟩
def PlO : HO → Prop
  | .tbl _ => False
  | .ext _ => False
  | _ => True
/-- what is no table, nor a code object, changes -/
theorem tabs_upd {T : List (Addr × Str)} {H : Hp} {a : Addr} {o o' : HO} (t : LamX.Tabs T H) (h : H a = some o) (m : PlO o := by trivial) : LamX.Tabs T (upd H a o') := fun p hp => by
  obtain ⟨ps, h1, h2, h3⟩ := t p hp
  have n1 : p.1 ≠ a := fun z => by
    rw [z, h] at h1
    cases h1
    exact m
  refine ⟨ps, by rw [upd_ne n1]; exact h1, h2, fun pos cv hc => ?_⟩
  obtain ⟨c, e1, e2⟩ := h3 pos cv hc
  have n2 : c ≠ a := fun z => by
    rw [z, h] at e2
    unfold LamX.CodeO at e2
    cases e2
    exact m
  exact ⟨c, e1, by rw [upd_ne n2]; exact e2⟩
theorem upd_keeps {H : Hp} {p : Addr} {o : HO} (n : H p = none) : ∀ b x, H b = some x → upd H p o b = some x := fun b x e => by rw [upd_ne (ne_of_none e n)]; exact e
theorem ChOk.new {K : PySem.W.Frag} {H : Hp} {c : Churn} {p : Addr} {o : HO} (h : ChOk K ca H c) (n : H p = none) : ChOk K ca (upd H p o) c := h.ext (upd_keeps n)
end
end G
set_option Elab.async false
set_option linter.all false
set_option maxRecDepth 100000
set_option maxHeartbeats 4000000
/-! G2: tests, and | or | not | if, displays, calls of built-ins, subscripts, slices. -/
namespace G
open PySem PySem.Spec PyProof.Rows L2
section
variable {X : Cx} {ca : Dr} {E : XK} {a b e : Expr} {rest : List Expr} {es : List Expr} {pos : Pos} {fa fb f g : Ev → M D} {c1 c2 : Ev → M Bool} {fs : Ev → M (List D)}
theorem tru_of {K : PySem.W.Frag} {ca : Dr} {Z : Addr → Prop} {H : Hp} {v : V} {d : D} {k : Bool} (r : Rl K ca Z H v d) (h : truD d = some k) : TruV K v H k := by
  cases r with
  | non => exact (Option.some.inj h).symm
  | bl b => exact (Option.some.inj h).symm
  | int i => exact (Option.some.inj h).symm
  | str y =>
    have h : (if y.length ≤ sizeLine then some ((y.length : Int) != 0) else none) = some k := h
    by_cases hl : y.length ≤ sizeLine
    · rw [if_pos hl] at h
      exact ⟨hl, (Option.some.inj h).symm⟩
    · rw [if_neg hl] at h
      cases h
  | ty n => cases h
  | obj a => cases h
  | chn => cases h
  | scr _ => cases h
  | exc => cases h
  | exc0 => cases h
  | ins => cases h
  | lst n hH ra =>
    refine .inl ⟨_, SqL.of hH, ?_⟩
    have := ra.length
    rw [← Option.some.inj h]
    cases ra <;> rfl
  | tup hH ra =>
    refine .inr (.inl ⟨_, hH.s, ?_⟩)
    rw [← Option.some.inj h]
    cases ra <;> rfl
  | dic n hH ra =>
    refine .inr (.inr ⟨_, hH, ?_⟩)
    rw [← Option.some.inj h]
    simp
theorem dt_tru (ha : PE X e (tD X.K ca E f)) (he : ∀ whole, isTrue e X.env whole = (do let v ← whole; standAt e.pos; holding [v] (truthy v)) := by intro _; rfl) : PT X e (tT X.K ca E (cTru f)) := by
  refine ⟨fun pins s σ H Q I h => (pt_truth ha he).run pins s σ H Q I ?_⟩
  obtain ⟨Z, Y, ρ, c, eo, co, h⟩ := h
  refine ⟨Z, Y, ρ, c, eo, co, (Do.bind h).mono fun d c1 h1 x H1 e1 r1 co1 => ?_⟩
  obtain ⟨k, hk, h2⟩ := Do.lift h1
  exact ⟨k, tru_of r1 hk, h2 H1 e1 co1⟩
theorem dt_not (ha : PT X a (tT X.K ca E c1)) : PT X (.UnaryOp .Not a pos) (tT X.K ca E (cNot c1)) := by
  refine ⟨fun pins s σ H Q I h => (pt_not ha).run pins s σ H Q I ?_⟩
  obtain ⟨Z, Y, ρ, c, eo, co, h⟩ := h
  exact ⟨Z, Y, ρ, c, eo, co, (Do.bind h).mono fun k c1 h1 H1 e1 co1 => h1 H1 e1 co1⟩
theorem dw_and1 (ha : PT X a (tT X.K ca E c1)) : PW X (.BoolOp .And [a] pos) (tT X.K ca E c1) := pw_and1 ha
theorem dw_or1 (ha : PT X a (tT X.K ca E c1)) : PW X (.BoolOp .Or [a] pos) (tT X.K ca E c1) := pw_or1 ha
theorem dw_and (ha : PT X a (tT X.K ca E c1)) (hb : PW X (.BoolOp .And (b :: rest) pos) (tT X.K ca E c2)) : PW X (.BoolOp .And (a :: b :: rest) pos) (tT X.K ca E (cAnd c1 c2)) := by
  refine ⟨fun wh pins s σ H Q I h => (pw_and ha hb).run wh pins s σ H Q I ?_⟩
  obtain ⟨Z, Y, ρ, c, eo, co, h⟩ := h
  refine ⟨Z, Y, ρ, c, eo, co, (Do.bind h).mono fun k c1 h1 H1 e1 co1 => ?_⟩
  cases k with
  | false => exact iteF (h1 H1 e1 co1)
  | true => exact iteT ⟨Z, Y, ρ, c1, eo.ext e1, co1, (Do.ext e1 h1).mono fun k2 c2 h2 H2 e2 co2 => h2 H2 (e1.trans e2) co2⟩
theorem dw_or (ha : PT X a (tT X.K ca E c1)) (hb : PW X (.BoolOp .Or (b :: rest) pos) (tT X.K ca E c2)) : PW X (.BoolOp .Or (a :: b :: rest) pos) (tT X.K ca E (cOr c1 c2)) := by
  refine ⟨fun wh pins s σ H Q I h => (pw_or ha hb).run wh pins s σ H Q I ?_⟩
  obtain ⟨Z, Y, ρ, c, eo, co, h⟩ := h
  refine ⟨Z, Y, ρ, c, eo, co, (Do.bind h).mono fun k c1 h1 H1 e1 co1 => ?_⟩
  cases k with
  | true => exact iteT (h1 H1 e1 co1)
  | false => exact iteF ⟨Z, Y, ρ, c1, eo.ext e1, co1, (Do.ext e1 h1).mono fun k2 c2 h2 H2 e2 co2 => h2 H2 (e1.trans e2) co2⟩
theorem d_not (ha : PE X a (tD X.K ca E f)) : PE X (.UnaryOp .Not a pos) (tD X.K ca E (eNot f)) := by
  refine ⟨fun pins s σ H Q I h => (pe_notT ha).run pins s σ H Q I ?_⟩
  obtain ⟨Z, Y, ρ, c, eo, co, h⟩ := h
  refine ⟨Z, Y, ρ, c, eo, co, (Do.bind h).mono fun d c1 h1 x H1 e1 r1 co1 => ?_⟩
  obtain ⟨k, hk, h2⟩ := Do.lift (Do.bind h1)
  exact ⟨k, tru_of r1 hk, h2 _ H1 e1 (.bl _) co1⟩
theorem d_one {op} (ha : PE X a (tD X.K ca E f)) : PE X (.BoolOp op [a] pos) (tD X.K ca E f) := pe_one ha
theorem d_and (ha : PE X a (tD X.K ca E f)) (hb : PE X (.BoolOp .And (b :: rest) pos) (tD X.K ca E g)) : PE X (.BoolOp .And (a :: b :: rest) pos) (tD X.K ca E (eAnd f g)) := by
  refine ⟨fun pins s σ H Q I h => (pe_andT ha hb).run pins s σ H Q I ?_⟩
  obtain ⟨Z, Y, ρ, c, eo, co, h⟩ := h
  refine ⟨Z, Y, ρ, c, eo, co, (Do.bind h).mono fun d c1 h1 x H1 e1 r1 co1 => ?_⟩
  obtain ⟨k, hk, h2⟩ := Do.lift (Do.bind h1)
  refine ⟨k, tru_of r1 hk, ?_⟩
  cases k with
  | false => exact iteF (h2 x H1 e1 r1 co1)
  | true => exact iteT ⟨Z, Y, ρ, c1, eo.ext e1, co1, (Do.ext e1 h2).mono fun d2 c2 h3 y H2 e2 r2 co2 => h3 y H2 (e1.trans e2) r2 co2⟩
theorem d_or (ha : PE X a (tD X.K ca E f)) (hb : PE X (.BoolOp .Or (b :: rest) pos) (tD X.K ca E g)) : PE X (.BoolOp .Or (a :: b :: rest) pos) (tD X.K ca E (eOr f g)) := by
  refine ⟨fun pins s σ H Q I h => (pe_orT ha hb).run pins s σ H Q I ?_⟩
  obtain ⟨Z, Y, ρ, c, eo, co, h⟩ := h
  refine ⟨Z, Y, ρ, c, eo, co, (Do.bind h).mono fun d c1 h1 x H1 e1 r1 co1 => ?_⟩
  obtain ⟨k, hk, h2⟩ := Do.lift (Do.bind h1)
  refine ⟨k, tru_of r1 hk, ?_⟩
  cases k with
  | true => exact iteT (h2 x H1 e1 r1 co1)
  | false => exact iteF ⟨Z, Y, ρ, c1, eo.ext e1, co1, (Do.ext e1 h2).mono fun d2 c2 h3 y H2 e2 r2 co2 => h3 y H2 (e1.trans e2) r2 co2⟩
theorem d_if {t : Expr} (ht : PT X t (tT X.K ca E c1)) (ha : PE X a (tD X.K ca E f)) (hb : PE X b (tD X.K ca E g)) : PE X (.IfExp t a b pos) (tD X.K ca E (eIf c1 f g)) := by
  refine ⟨fun pins s σ H Q I h => (pe_ifExp ht ha hb).run pins s σ H Q I ?_⟩
  obtain ⟨Z, Y, ρ, c, eo, co, h⟩ := h
  refine ⟨Z, Y, ρ, c, eo, co, (Do.bind h).mono fun k c1 h1 H1 e1 co1 => ?_⟩
  cases k with
  | true => exact iteT ⟨Z, Y, ρ, c1, eo.ext e1, co1, (Do.ext e1 h1).mono fun d2 c2 h3 y H2 e2 r2 co2 => h3 y H2 (e1.trans e2) r2 co2⟩
  | false => exact iteF ⟨Z, Y, ρ, c1, eo.ext e1, co1, (Do.ext e1 h1).mono fun d2 c2 h3 y H2 e2 r2 co2 => h3 y H2 (e1.trans e2) r2 co2⟩
/-! comparisons that tell a bool -/
def BinB (K : PySem.W.Frag) (ca : Dr) (r : R2) (g : D → D → Option Bool) : Prop := ∀ (Z : Addr → Prop) (H : Hp) (c : Churn) (x y : V) (d e : D) (k : Bool) (Q : VK), ZOk ca Z H → ChOk K ca H c → Rl K ca Z H x d → Rl K ca Z H y e → g d e = some k →
  (∀ H', Ext ca H H' → ChOk K ca H' c → Q (.bl k) H') → r x y H Q
def gBl (g : D → D → Option Bool) : D → D → Option D := fun x y => (g x y).map D.bl
theorem BinB.d {r : R2} {g : D → D → Option Bool} (h : BinB X.K ca r g) : BinD X.K ca r (gBl g) := fun Z H c x y d e d' Q z co r1 r2 hg q => by
  unfold gBl at hg
  cases hk : g d e with
  | none => rw [hk] at hg; cases hg
  | some k =>
    rw [hk] at hg
    have e1 : D.bl k = d' := Option.some.inj hg
    subst e1
    exact h Z H c x y d e k Q z co r1 r2 hk fun H' e' co' => q (.bl k) H' e' (.bl k) co'
def cCmp (g : D → D → Option Bool) (fa fb : Ev → M D) : Ev → M Bool := fun ρ => fa ρ >>= fun x => fb ρ >>= fun y => liftO (g x y)
theorem dt_cmp {op : CmpOp} {r : R2} {g : D → D → Option Bool} (ho : OpR X (compareOp op) r) (hr : BinB X.K ca r g) (ha : PE X a (tD X.K ca E fa)) (hb : PE X b (tD X.K ca E fb)) (hm : behindInMarks op b = false) :
    PT X (.Compare a [op] [b] pos) (tT X.K ca E (cCmp g fa fb)) := by
  refine ⟨fun pins s σ H Q I h => (pt_cmpR ho ha hb hm).run pins s σ H Q I ?_⟩
  obtain ⟨Z, Y, ρ, c, eo, co, h⟩ := h
  refine ⟨Z, Y, ρ, c, eo, co, (Do.bind h).mono fun d c1 h1 x H1 e1 r1 co1 => ?_⟩
  refine ⟨Z, Y, ρ, c1, eo.ext e1, co1, ((Do.bind h1).ext e1).mono fun d2 c2 h2 y H2 e2 r2 co2 => ?_⟩
  obtain ⟨k, hk, h3⟩ := Do.lift h2
  exact hr (U Z Y) H2 c2 x y d d2 k _ (eo.zok.ext (e1.trans e2)) co2 (r1.ext e2 eo.zc) r2 hk fun H' e' co' => ⟨k, rfl, h3 H' ((e1.trans e2).trans e') co'⟩
/-- a op b op' c -/
def cChain (g g' : D → D → Option Bool) (fa fb fc : Ev → M D) : Ev → M Bool := fun ρ => fa ρ >>= fun x => fb ρ >>= fun y => liftO (g x y) >>= fun k => if k = true then (fc ρ >>= fun z => liftO (g' y z)) else pure false
theorem chain_run {r r' : R2} {g g' : D → D → Option Bool} (hr : BinB X.K ca r g) (hr' : BinB X.K ca r' g') {fc : Ev → M D} {σ : L2.St} {H : Hp} {Q : VK} (h : tT X.K ca E (cChain g g' fa fb fc) σ H fun k H' => Q (.bl k) H') :
    tChain r r' (tD X.K ca E fa) (tD X.K ca E fb) (tD X.K ca E fc) σ H Q := by
  obtain ⟨Z, Y, ρ, c, eo, co, h⟩ := h
  refine ⟨Z, Y, ρ, c, eo, co, (Do.bind h).mono fun d c1 h1 x H1 e1 r1 co1 => ?_⟩
  refine ⟨Z, Y, ρ, c1, eo.ext e1, co1, ((Do.bind h1).ext e1).mono fun d2 c2 h2 y H2 e2 r2 co2 => ?_⟩
  obtain ⟨k, hk, h3⟩ := Do.lift (Do.bind h2)
  refine hr (U Z Y) H2 c2 x y d d2 k _ (eo.zok.ext (e1.trans e2)) co2 (r1.ext e2 eo.zc) r2 hk fun H3 e3 co3 => ⟨k, rfl, ?_⟩
  cases k with
  | false => exact iteF (h3 H3 ((e1.trans e2).trans e3) co3)
  | true =>
    refine iteT ⟨Z, Y, ρ, c2, eo.ext ((e1.trans e2).trans e3), co3, (Do.ext ((e1.trans e2).trans e3) (Do.bind h3)).mono fun d3 c3 h4 z H4 e4 r4 co4 => ?_⟩
    obtain ⟨k2, hk2, h5⟩ := Do.lift h4
    exact hr' (U Z Y) H4 c3 y z d2 d3 k2 _ (eo.zok.ext (((e1.trans e2).trans e3).trans e4)) co4 (r2.ext (e3.trans e4) eo.zc) r4 hk2 fun H' e' co' => h5 H' ((((e1.trans e2).trans e3).trans e4).trans e') co'
def eOfC (c : Ev → M Bool) : Ev → M D := fun ρ => c ρ >>= fun b => pure (.bl b)
theorem d_chain {op op' : CmpOp} {r r' : R2} {g g' : D → D → Option Bool} {c' : Expr} {fc : Ev → M D} (ho : OpR X (compareOp op) r) (ho' : OpR X (compareOp op') r') (hr : BinB X.K ca r g) (hr' : BinB X.K ca r' g')
    (ha : PE X a (tD X.K ca E fa)) (hb : PE X b (tD X.K ca E fb)) (hc : PE X c' (tD X.K ca E fc)) (hm : lastMarks [op, op'] [b, c'] = false := by with_unfolding_all rfl) : PE X (.Compare a [op, op'] [b, c'] pos) (tD X.K ca E (eOfC (cChain g g' fa fb fc))) := by
  refine ⟨fun pins s σ H Q I h => (pe_chain ho ho' ha hb hc hm).run pins s σ H Q I (chain_run hr hr' ?_)⟩
  obtain ⟨Z, Y, ρ, c, eo, co, h⟩ := h
  exact ⟨Z, Y, ρ, c, eo, co, (Do.bind h).mono fun k c1 h1 H1 e1 co1 => h1 (.bl k) H1 e1 (.bl k) co1⟩
/-! displays -/
theorem d_tup {x1} (ha : PA X es (tAs X.K ca E fs)) : PE X (.Tuple es x1 pos) (tD X.K ca E (eArgs gTup fs)) := by
  refine ⟨fun pins s σ H Q I h => (pe_tupN ha).run pins s σ H Q I ?_⟩
  obtain ⟨Z, Y, ρ, c, eo, co, h⟩ := h
  refine ⟨Z, Y, ρ, c, eo, co, (Do.bind h).mono fun ds c1 h1 xs H1 e1 r1 co1 => ?_⟩
  obtain ⟨d', hg, h2⟩ := Do.lift h1
  unfold gTup at hg
  by_cases hl : ds.length ≤ sizeLine
  · rw [if_pos hl] at hg
    have e2 : D.tup ds = d' := Option.some.inj hg
    subst e2
    refine ⟨by rw [r1.length]; exact hl, fun p o np od => ?_⟩
    exact h2 (.ref p) _ (e1.trans (ExtP.new np)) (.tup (TupAt.of upd_same od) (r1.ext (ExtP.new np) eo.zc)) (co1.new np)
  · rw [if_neg hl] at hg; cases hg
theorem d_lst (ha : PA X es (tAs X.K ca E fs)) : PE X (.List es pos) (tD X.K ca E (eArgs gLst fs)) := by
  refine ⟨fun pins s σ H Q I h => (pe_lst ha).run pins s σ H Q I ?_⟩
  obtain ⟨Z, Y, ρ, c, eo, co, h⟩ := h
  refine ⟨Z, Y, ρ, c, eo, co, (Do.bind h).mono fun ds c1 h1 xs H1 e1 r1 co1 => ?_⟩
  obtain ⟨d', hg, h2⟩ := Do.lift h1
  unfold gLst at hg
  by_cases hl : ds.length ≤ sizeLine
  · rw [if_pos hl] at hg
    have e2 : D.lst ds = d' := Option.some.inj hg
    subst e2
    refine ⟨by rw [r1.length]; exact hl, fun p np => ?_⟩
    exact h2 (.ref p) _ (e1.trans (ExtP.new np)) (.lst ((eo.zok.ext e1).free np) upd_same (r1.ext (ExtP.new np) eo.zc)) (co1.new np)
  · rw [if_neg hl] at hg; cases hg
/-! built-in functions and types, by name -/
variable {x : Str} {p : Pos} {id T : String} {r : List V → Hp → VK → Prop} {gl : List D → Option D}
theorem call_run (hr : CalD X.K ca r gl) {σ : L2.St} {H : Hp} {Q : VK} (h : tD X.K ca E (eArgs gl fs) σ H Q) : tCB r (tAs X.K ca E fs) σ H Q := by
  obtain ⟨Z, Y, ρ, c, eo, co, h⟩ := h
  refine ⟨Z, Y, ρ, c, eo, co, (Do.bind h).mono fun ds c1 h1 xs H1 e1 r1 co1 => ?_⟩
  obtain ⟨d', hg, h2⟩ := Do.lift h1
  exact hr (U Z Y) H1 c1 xs ds d' Q (eo.zok.ext e1) co1 r1 hg fun v H' e' r' co' => h2 v H' (e1.trans e') r' co'
theorem d_callB (hc : CallR X (.builtin id) r) (hr : CalD X.K ca r gl) (hm : X.mg x = none) (hv : bootBuiltins x = some (.builtin id)) (ha : PA X (e :: es) (tAs X.K ca E fs)) (hg : Gl X x := by rfl) (hn : x ≠ "__name__" := by decide) (hd : (x == ("__debug__" : Str)) = false := by decide)
    (he : starEach (e :: es) X.env = (false, eval e X.env) :: starEach es X.env := by rfl) (hpl : (backTo pos (starEach es X.env)).any (·.1) = false := by rfl) :
    PE X (.Call (.Name x p) (e :: es) [] pos) (tD X.K ca E (eArgs gl fs)) :=
  ⟨fun pins s σ H Q I h => (pe_callB hc hg hm hv ha hn hd he hpl).run pins s σ H Q I (call_run hr h)⟩
theorem d_callTy (hc : CallR X (.type T) r) (hr : CalD X.K ca r gl) (hm : X.mg x = none) (hv : bootBuiltins x = some (.type T)) (ha : PA X (e :: es) (tAs X.K ca E fs)) (hg : Gl X x := by rfl) (hn : x ≠ "__name__" := by decide) (hd : (x == ("__debug__" : Str)) = false := by decide)
    (he : starEach (e :: es) X.env = (false, eval e X.env) :: starEach es X.env := by rfl) (hpl : (backTo pos (starEach es X.env)).any (·.1) = false := by rfl) :
    PE X (.Call (.Name x p) (e :: es) [] pos) (tD X.K ca E (eArgs gl fs)) :=
  ⟨fun pins s σ H Q I h => (pe_callTy hc hg hm hv ha hn hd he hpl).run pins s σ H Q I (call_run hr h)⟩
/-! subscripts -/
theorem d_ix {r : R2} {g2 : D → D → Option D} (hi : IxR X r) (hr : BinD X.K ca r g2) (ha : PE X a (tD X.K ca E fa)) (hb : PE X b (tD X.K ca E fb)) (hs : PlainIx b := by exact fun _ _ => rfl) : PE X (.Subscript a b pos) (tD X.K ca E (eBin g2 fa fb)) :=
  ⟨fun pins s σ H Q I h => (pe_ix hi ha hb hs).run pins s σ H Q I (bin_run hr h)⟩
/-! slices -/
def oNone : Ev → M (Option Int) := fun _ => pure none
def intO : D → Option Int
  | .int i => some i
  | _ => none
def oSome (f : Ev → M D) : Ev → M (Option Int) := fun ρ => f ρ >>= fun x => liftO (intO x) >>= fun i => pure (some i)
def eSl (g : D → Option Int → Option Int → Option D) (f : Ev → M D) (l u : Ev → M (Option Int)) : Ev → M D := fun ρ => f ρ >>= fun x => l ρ >>= fun i => u ρ >>= fun j => liftO (g x i j)
/-! methods of built-in types -/
def tyD : String → D → Bool
  | "str", .str _ => true
  | "list", .lst _ => true
  | "dict", .dic _ _ => true
  | _, _ => false
def eMet (T : String) (g : D → List D → Option D) (fo : Ev → M D) (fs : Ev → M (List D)) : Ev → M D := fun ρ => fo ρ >>= fun x => liftO (if tyD T x = true then some () else none) >>= fun _ => fs ρ >>= fun xs => liftO (g x xs)
end
end G
set_option Elab.async false
set_option linter.all false
set_option maxRecDepth 100000
set_option maxHeartbeats 4000000
/-! G3: statements, targets, loops, comprehensions, the calls of defs. -/
namespace G
open PySem PySem.Spec PyProof.Rows L2
inductive Ctl where
  | nx | bk | ct | ret (d : D)
abbrev Sm := Ev → M (Ev × Ctl)
structure Step (ca : Dr) (Y : Addr → Prop) (H : Hp) (Y' : Addr → Prop) (H' : Hp) : Prop where
  ext : ExtP (fun b => b = ca ∨ Y b) H H'
  own : ∀ b, Y' b → Y b ∨ H b = none
section
variable {ca : Dr} {Y Y1 Y2 : Addr → Prop} {H H1 H2 : Hp}
theorem Step.refl : Step ca Y H Y H := ⟨.refl, fun _ h => .inl h⟩
theorem Step.of (e : Ext ca H H1) : Step ca Y H Y H1 := ⟨e.mono fun _ => .inl, fun _ h => .inl h⟩
theorem Step.trans (a : Step ca Y H Y1 H1) (b : Step ca Y1 H1 Y2 H2) : Step ca Y H Y2 H2 where
  ext := fun c o h => by
    have keep : (c = ca ∨ Y1 c) → (c = ca ∨ Y c) := fun z => z.imp id fun y => (a.own c y).resolve_right fun n => by rw [h] at n; cases n
    rcases a.ext c o h with h1 | ⟨p, m, o', h1, m1⟩ | ⟨m, o', h1, m1⟩
    · exact (b.ext c o h1).imp id fun z => z.imp (fun ⟨p2, r⟩ => ⟨keep p2, r⟩) id
    · rcases b.ext c o' h1 with h2 | ⟨p2, m2, o2, h2, m3⟩ | ⟨m2, _⟩
      · exact .inr (.inl ⟨p, m, o', h2, m1⟩)
      · exact .inr (.inl ⟨p, m, o2, h2, m3⟩)
      · exact absurd m2 m1.tb
    · rcases b.ext c o' h1 with h2 | ⟨_, m2, _⟩ | ⟨_, o2, h2, m3⟩
      · exact .inr (.inr ⟨m, o', h2, m1⟩)
      · exact absurd m1 m2.tb
      · exact .inr (.inr ⟨m, o2, h2, m3⟩)
  own := fun c y => by
    rcases b.own c y with h | h
    · exact a.own c h
    · exact .inr (a.ext.there h)
end
/-- fewer places are free where a tree lies -/
theorem Rl.grow_aux {K : PySem.W.Frag} {ca : Dr} {Z Z' : Addr → Prop} {H : Hp} (hz : ∀ b, Z' b → Z b ∨ H b = none) : (∀ {v : V} {d : D}, Rl K ca Z H v d → Rl K ca Z' H v d) ∧ ∀ {vs : List V} {ds : List D}, RlA K ca Z H vs ds → RlA K ca Z' H vs ds := by
  have n : ∀ {a : Addr} {o : HO}, H a = some o → ¬ Z a → ¬ Z' a := fun e h z => (hz _ z).elim h fun q => by rw [e] at q; cases q
  constructor
  · intro v d h
    induction h using Rl.rec (motive_2 := fun vs ds _ => RlA K ca Z' H vs ds) with
    | non => exact .non
    | bl b => exact .bl b
    | int i => exact .int i
    | str x => exact .str x
    | ty n => exact .ty n
    | obj a => exact .obj a
    | chn => exact .chn
    | scr h => exact .scr h
    | lst h1 h2 _ ih => exact .lst (n h2 h1) h2 ih
    | tup h1 _ ih => exact .tup h1 ih
    | dic h1 h2 _ ih => exact .dic (n h2 h1) h2 ih
    | exc k h1 h2 _ ih => exact .exc k h1 h2 ih
    | ins h1 k h2 _ ih => exact .ins (n h2 h1) k h2 ih
    | exc0 k h1 => exact .exc0 k h1
    | nil => exact .nil
    | cons _ _ ih1 ih2 => exact .cons ih1 ih2
  · intro vs ds h
    induction h using RlA.rec (motive_1 := fun v d _ => Rl K ca Z' H v d) with
    | non => exact .non
    | bl b => exact .bl b
    | int i => exact .int i
    | str x => exact .str x
    | ty n => exact .ty n
    | obj a => exact .obj a
    | chn => exact .chn
    | scr h => exact .scr h
    | lst h1 h2 _ ih => exact .lst (n h2 h1) h2 ih
    | tup h1 _ ih => exact .tup h1 ih
    | dic h1 h2 _ ih => exact .dic (n h2 h1) h2 ih
    | exc k h1 h2 _ ih => exact .exc k h1 h2 ih
    | ins h1 k h2 _ ih => exact .ins (n h2 h1) k h2 ih
    | exc0 k h1 => exact .exc0 k h1
    | nil => exact .nil
    | cons _ _ ih1 ih2 => exact .cons ih1 ih2
theorem Rl.grow {K : PySem.W.Frag} {ca : Dr} {Z Z' : Addr → Prop} {H : Hp} (hz : ∀ b, Z' b → Z b ∨ H b = none) {v : V} {d : D} (h : Rl K ca Z H v d) : Rl K ca Z' H v d := (Rl.grow_aux hz).1 h
theorem RlA.grow {K : PySem.W.Frag} {ca : Dr} {Z Z' : Addr → Prop} {H : Hp} (hz : ∀ b, Z' b → Z b ∨ H b = none) {vs : List V} {ds : List D} (h : RlA K ca Z H vs ds) : RlA K ca Z' H vs ds := (Rl.grow_aux hz).2 h
theorem Top.grow {K : PySem.W.Frag} {ca : Dr} {Z Z' : Addr → Prop} {H : Hp} (hz : ∀ b, Z' b → Z b ∨ H b = none) {a : Addr} {d : D} (h : Top K ca Z H a d) : Top K ca Z' H a d := by
  unfold Top at h ⊢
  split at h
  · obtain ⟨vs, h1, h2⟩ := h
    exact ⟨vs, h1, h2.grow hz⟩
  · obtain ⟨vs, h1, e, nd, h2⟩ := h
    exact ⟨vs, h1, e, nd, h2.grow hz⟩
  · exact h.elim
theorem Top.anti {K : PySem.W.Frag} {ca : Dr} {Z Z' : Addr → Prop} {H : Hp} (hz : ∀ b, Z' b → Z b) {a : Addr} {d : D} (h : Top K ca Z H a d) : Top K ca Z' H a d := by
  unfold Top at h ⊢
  split at h
  · obtain ⟨vs, h1, h2⟩ := h
    exact ⟨vs, h1, h2.anti hz⟩
  · obtain ⟨vs, h1, e, nd, h2⟩ := h
    exact ⟨vs, h1, e, nd, h2.anti hz⟩
  · exact h.elim
section
variable (K : PySem.W.Frag) (ca : Dr) (E : XK)
def EOkS (Z Y : Addr → Prop) (H : Hp) (x : Exn) (c : Churn) : Prop := ∀ Y' cv od H', Step ca Y H Y' H' → XRel K ca (U Z Y') H' x cv od → ChOk K ca H' c → E cv od H'
def Fin (Z : Addr → Prop) (Dn : Ends) (Y : Addr → Prop) (H : Hp) (p : Ev × Ctl) (c : Churn) : Prop :=
  ∀ Y' σ' H', Step ca Y H Y' H' → EnvOk K ca Z Y' H' σ' p.1 → ChOk K ca H' c → match p.2 with
    | .nx => Dn.nx σ' H'
    | .bk => Dn.bk σ' H'
    | .ct => Dn.ct σ' H'
    | .ret d => ∀ v, Rl K ca (U Z Y') H' v d → Dn.rt v H'
def DoS (Z : Addr → Prop) (Dn : Ends) (Y : Addr → Prop) (H : Hp) (r : R (Ev × Ctl)) : Prop := At r (Fin K ca Z Dn Y H) (EOkS K ca E Z Y H)
/-- a statement does g -/
def tS (g : Sm) : TS := fun Dn σ H => ∃ Z Y ρ c, EnvOk K ca Z Y H σ ρ ∧ ChOk K ca H c ∧ DoS K ca E Z Dn Y H (g ρ c)
end
section
variable {K : PySem.W.Frag} {ca : Dr} {E : XK} {Z Y Y1 : Addr → Prop} {Dn : Ends} {H H1 : Hp} {σ : L2.St} {ρ : Ev}
theorem EOkS.step (e : Step ca Y H Y1 H1) {x : Exn} {c : Churn} (h : EOkS K ca E Z Y H x c) : EOkS K ca E Z Y1 H1 x c := fun Y' cv od H' e' r co => h Y' cv od H' (e.trans e') r co
theorem EOkS.e (e : Ext ca H H1) {x : Exn} {c : Churn} (h : EOkS K ca E Z Y H x c) : EOk K ca E (U Z Y) H1 x c := fun cv od H' e' r co => h Y cv od H' (.of (e.trans e')) r co
theorem Fin.step (e : Step ca Y H Y1 H1) {p : Ev × Ctl} {c : Churn} (h : Fin K ca Z Dn Y H p c) : Fin K ca Z Dn Y1 H1 p c := fun Y' σ' H' e' eo co => h Y' σ' H' (e.trans e') eo co
theorem DoS.step (e : Step ca Y H Y1 H1) {r : R (Ev × Ctl)} (h : DoS K ca E Z Dn Y H r) : DoS K ca E Z Dn Y1 H1 r := At.mono h (fun _ _ z => z.step e) fun _ _ z => z.step e
/-- an expression at the head of a statement -/
theorem DoS.expr {α : Type} {m : M α} {f : α → M (Ev × Ctl)} {c : Churn} (h : DoS K ca E Z Dn Y H ((m >>= f) c)) : Do K ca E (U Z Y) H (m c) fun a c1 => DoS K ca E Z Dn Y H (f a c1) :=
  At.mono (At.bind.mp h) (fun _ _ z => z) fun _ _ z => z.e .refl
theorem EnvOk.set (e : EnvOk K ca Z Y H σ ρ) (i : Nat) {v : V} {d : D} (r : Rl K ca (U Z Y) H v d) : EnvOk K ca Z Y H (σ.set i (some v)) (ρ.set i (.val d)) where
  zok := e.zok
  zca := e.zca
  yca := e.yca
  len := by rw [List.length_set, List.length_set, e.len]
  val := fun j d' h => by
    rw [List.getElem?_set] at h ⊢
    by_cases hj : i = j
    · subst hj
      rw [if_pos rfl] at h ⊢
      by_cases hl : i < ρ.length
      · rw [if_pos hl] at h
        rw [if_pos (e.len ▸ hl)]
        cases h
        exact ⟨v, rfl, r⟩
      · rw [if_neg hl] at h; cases h
    · rw [if_neg hj] at h ⊢
      exact e.val j d' h
  own := fun j ds h => by
    rw [List.getElem?_set] at h ⊢
    by_cases hj : i = j
    · subst hj
      rw [if_pos rfl] at h
      by_cases hl : i < ρ.length
      · rw [if_pos hl] at h; cases h
      · rw [if_neg hl] at h; cases h
    · rw [if_neg hj] at h ⊢
      exact e.own j ds h
  dis := e.dis
  inj := fun j k a ds es h1 h2 h3 h4 => by
    have ne : ∀ {j : Nat} {ds : D}, (ρ.set i (.val d))[j]? = some (.own ds) → i ≠ j := fun {j ds} h z => by
      subst z
      rw [List.getElem?_set, if_pos rfl] at h
      split at h <;> cases h
    have n1 := ne h1
    have n2 := ne h2
    rw [List.getElem?_set, if_neg n1] at h1 h3
    rw [List.getElem?_set, if_neg n2] at h2 h4
    exact e.inj j k a ds es h1 h2 h3 h4
/-- a slot forgotten -/
theorem EnvOk.forget (e : EnvOk K ca Z Y H σ ρ) (i : Nat) : EnvOk K ca Z Y H (σ.set i none) (ρ.set i .no) where
  zok := e.zok
  zca := e.zca
  yca := e.yca
  len := by rw [List.length_set, List.length_set, e.len]
  val := fun j d' h => by
    rw [List.getElem?_set] at h ⊢
    by_cases hj : i = j
    · subst hj
      rw [if_pos rfl] at h
      split at h <;> cases h
    · rw [if_neg hj] at h ⊢
      exact e.val j d' h
  own := fun j ds h => by
    rw [List.getElem?_set] at h ⊢
    by_cases hj : i = j
    · subst hj
      rw [if_pos rfl] at h
      split at h <;> cases h
    · rw [if_neg hj] at h ⊢
      exact e.own j ds h
  dis := e.dis
  inj := fun j k a ds es h1 h2 h3 h4 => by
    have ne : ∀ {j : Nat} {ds : D}, (ρ.set i .no)[j]? = some (.own ds) → i ≠ j := fun {j ds} h z => by
      subst z
      rw [List.getElem?_set, if_pos rfl] at h
      split at h <;> cases h
    have n1 := ne h1
    have n2 := ne h2
    rw [List.getElem?_set, if_neg n1] at h1 h3
    rw [List.getElem?_set, if_neg n2] at h2 h4
    exact e.inj j k a ds es h1 h2 h3 h4
end
/-! ### small statements -/
def sSeq (a b : Sm) : Sm := fun ρ => a ρ >>= fun p => match p.2 with
  | .nx => b p.1
  | _ => pure p
def sNil : Sm := fun ρ => pure (ρ, .nx)
def sRet (f : Ev → M D) : Sm := fun ρ => f ρ >>= fun d => pure (ρ, .ret d)
def sRetN : Sm := fun ρ => pure (ρ, .ret .non)
def sIf (c : Ev → M Bool) (a b : Sm) : Sm := fun ρ => c ρ >>= fun k => if k = true then a ρ else b ρ
def sExpr (f : Ev → M D) : Sm := fun ρ => f ρ >>= fun _ => pure (ρ, .nx)
abbrev Tg := D → Ev → Option Ev
def gN (i : Nat) : Tg := fun d ρ => some (ρ.set i (.val d))
def gNs : List Tg → List D → Ev → Option Ev
  | [], [], ρ => some ρ
  | t :: ts, d :: ds, ρ => (t d ρ).bind fun ρ' => gNs ts ds ρ'
  | _, _, _ => none
def sAsg (t : Tg) (f : Ev → M D) : Sm := fun ρ => f ρ >>= fun d => liftO (t d ρ) >>= fun ρ' => pure (ρ', .nx)
section
variable {X : Cx} {ca : Dr} {E : XK} {e : Expr} {st : Stmt} {rest : List Stmt} {pos : Pos} {f : Ev → M D} {a b g : Sm} {c : Ev → M Bool}
theorem ss_nil : PSs X [] (tS X.K ca E sNil) := by
  refine ⟨fun pins s σ H Dn I h => pss_nil.run pins s σ H Dn I ?_⟩
  obtain ⟨Z, Y, ρ, c, eo, co, h⟩ := h
  exact h Y σ H .refl eo co
theorem ss_one (h : PS X st (tS X.K ca E a)) : PSs X [st] (tS X.K ca E a) := pss_one h
theorem ss_cons (h1 : PS X st (tS X.K ca E a)) (h2 : PSs X rest (tS X.K ca E b)) : PSs X (st :: rest) (tS X.K ca E (sSeq a b)) := by
  refine ⟨fun pins s σ H Dn I h => (pss_cons h1 h2).run pins s σ H Dn I ?_⟩
  obtain ⟨Z, Y, ρ, c, eo, co, h⟩ := h
  refine ⟨Z, Y, ρ, c, eo, co, At.mono (At.bind.mp h) (fun p c1 h1 => ?_) fun _ _ z => z⟩
  intro Y' σ' H' st' eo' co'
  obtain ⟨ρ1, ctl⟩ := p
  cases ctl with
  | nx => exact ⟨Z, Y', ρ1, c1, eo', co', DoS.step st' h1⟩
  | bk => exact h1 Y' σ' H' st' eo' co'
  | ct => exact h1 Y' σ' H' st' eo' co'
  | ret d => exact h1 Y' σ' H' st' eo' co'
theorem s_ret (he : PE X e (tD X.K ca E f)) : PS X (.Return (some e) pos) (tS X.K ca E (sRet f)) := by
  refine ⟨fun pins s σ H Dn I h => (ps_ret he).run pins s σ H Dn I ?_⟩
  obtain ⟨Z, Y, ρ, c, eo, co, h⟩ := h
  exact ⟨Z, Y, ρ, c, eo, co, (DoS.expr h).mono fun d c1 h1 v H1 e1 r1 co1 => h1 Y σ H1 (.of e1) (eo.ext e1) co1 v r1⟩
theorem s_expr (he : PE X e (tD X.K ca E f)) (hs : swapsWith e none pos.line X.env = pure false := by rfl) : PS X (.Expr e pos) (tS X.K ca E (sExpr f)) := by
  refine ⟨fun pins s σ H Dn I h => (ps_expr he hs).run pins s σ H Dn I ?_⟩
  obtain ⟨Z, Y, ρ, c, eo, co, h⟩ := h
  exact ⟨Z, Y, ρ, c, eo, co, (DoS.expr h).mono fun d c1 h1 v H1 e1 r1 co1 => h1 Y σ H1 (.of e1) (eo.ext e1) co1⟩
theorem s_if {t : Expr} {p q : List Stmt} (hc : PT X t (tT X.K ca E c)) (ha : PSs X p (tS X.K ca E a)) (hb : PSs X q (tS X.K ca E b)) : PS X (.If t p q pos) (tS X.K ca E (sIf c a b)) := by
  refine ⟨fun pins s σ H Dn I h => (ps_if hc ha hb).run pins s σ H Dn I ?_⟩
  obtain ⟨Z, Y, ρ, c, eo, co, h⟩ := h
  refine ⟨Z, Y, ρ, c, eo, co, (DoS.expr h).mono fun k c1 h1 H1 e1 co1 => ?_⟩
  cases k with
  | true => exact iteT ⟨Z, Y, ρ, c1, eo.ext e1, co1, DoS.step (.of e1) h1⟩
  | false => exact iteF ⟨Z, Y, ρ, c1, eo.ext e1, co1, DoS.step (.of e1) h1⟩
/-! ### targets -/
/-- all slots but these stay -/
def OnlyAt (is : List Nat) (σ σ' : L2.St) : Prop := σ'.length = σ.length ∧ ∀ j, j ∉ is → σ'[j]? = σ[j]?
def TgD (K : PySem.W.Frag) (ca : Dr) (g : TG) (t : Tg) (is : List Nat) : Prop := ∀ (Z Y : Addr → Prop) (H : Hp) (σ : L2.St) (ρ ρ' : Ev) (v : V) (d : D) (Q : L2.St → Hp → Prop), EnvOk K ca Z Y H σ ρ → Rl K ca (U Z Y) H v d → t d ρ = some ρ' →
  (∀ σ', EnvOk K ca Z Y H σ' ρ' → OnlyAt is σ σ' → Q σ' H) → g v σ H Q
def TgsD (K : PySem.W.Frag) (ca : Dr) (g : TGs) (ts : List Tg) (is : List Nat) : Prop := ∀ (Z Y : Addr → Prop) (H : Hp) (σ : L2.St) (ρ ρ' : Ev) (vs : List V) (ds : List D) (Q : L2.St → Hp → Prop), EnvOk K ca Z Y H σ ρ → RlA K ca (U Z Y) H vs ds → gNs ts ds ρ = some ρ' →
  (∀ σ', EnvOk K ca Z Y H σ' ρ' → OnlyAt is σ σ' → Q σ' H) → g vs σ H Q
theorem OnlyAt.trans {is js : List Nat} {σ σ1 σ2 : L2.St} (a : OnlyAt is σ σ1) (b : OnlyAt js σ1 σ2) : OnlyAt (is ++ js) σ σ2 :=
  ⟨b.1.trans a.1, fun j hj => (b.2 j fun z => hj (List.mem_append_right _ z)).trans (a.2 j fun z => hj (List.mem_append_left _ z))⟩
theorem tg_name (i : Nat) : TgD X.K ca (gName i) (gN i) [i] := fun Z Y H σ ρ ρ' v d Q eo r e q => by
  cases e
  exact q _ (eo.set i r) ⟨List.length_set, fun j hj => List.getElem?_set_ne (by intro z; exact hj (by simp [z]))⟩
theorem tgs_nil : TgsD X.K ca gNil [] [] := fun Z Y H σ ρ ρ' vs ds Q eo r e q => by
  cases r with
  | nil => cases e; exact ⟨rfl, q σ eo ⟨rfl, fun _ _ => rfl⟩⟩
  | cons _ _ => cases e
theorem tgs_cons {g1 : TG} {gs : TGs} {t : Tg} {ts : List Tg} {is js : List Nat} (h1 : TgD X.K ca g1 t is) (h2 : TgsD X.K ca gs ts js) : TgsD X.K ca (gCons g1 gs) (t :: ts) (is ++ js) := fun Z Y H σ ρ ρ' vs ds Q eo r e q => by
  cases r with
  | nil => cases e
  | cons r1 r2 =>
    rename_i v vs d ds
    have e' : (t d ρ).bind (fun ρ' => gNs ts ds ρ') = some ρ' := e
    cases ht : t d ρ with
    | none => rw [ht] at e'; cases e'
    | some ρ1 =>
      rw [ht] at e'
      exact ⟨v, vs, rfl, h1 Z Y H σ ρ ρ1 v d _ eo r1 ht fun σ1 eo1 o1 => h2 Z Y H σ1 ρ1 ρ' vs ds Q eo1 r2 e' fun σ2 eo2 o2 => q σ2 eo2 (o1.trans o2)⟩
theorem gNs_len : ∀ {ts : List Tg} {ds : List D} {ρ ρ' : Ev}, gNs ts ds ρ = some ρ' → ds.length = ts.length
  | [], [], _, _, _ => rfl
  | [], _ :: _, _, _, h => by cases h
  | _ :: _, [], _, _, h => by cases h
  | t :: ts, d :: ds, ρ, ρ', h => by
    have e' : (t d ρ).bind (fun ρ' => gNs ts ds ρ') = some ρ' := h
    cases ht : t d ρ with
    | none => rw [ht] at e'; cases e'
    | some ρ1 => rw [ht] at e'; exact congrArg Nat.succ (gNs_len e')
theorem asg_run {te : TE} {tg : TG} {t : Tg} {is : List Nat} (ht : TgD X.K ca tg t is) {Dn : Ends} {σ : L2.St} {H : Hp} (hte : te = tD X.K ca E f) (h : tS X.K ca E (sAsg t f) Dn σ H) : tAsg te tg Dn σ H := by
  subst hte
  obtain ⟨Z, Y, ρ, c, eo, co, h⟩ := h
  refine ⟨Z, Y, ρ, c, eo, co, (DoS.expr h).mono fun d c1 h1 v H1 e1 r1 co1 => ?_⟩
  obtain ⟨ρ', hρ, h2⟩ := Do.lift (DoS.expr h1)
  exact ht Z Y H1 σ ρ ρ' v d _ (eo.ext e1) r1 hρ fun σ' eo' _ => h2 Y σ' H1 (.of e1) eo' co1
theorem s_set (i : Nat) {x : Str} {pos' : Pos} (hN : X.N.Nodup) (he : PE X e (tD X.K ca E f)) (hi : X.N[i]? = some x := by rfl) (hx : Loc X.env.scope x := by first | exact Or.inl rfl | exact Or.inr rfl)
    (hs : swapsWith e (some (.Name x pos')) pos.line X.env = pure false := by rfl) (hf : X.fn x = true ∨ X.env.scope.names.lookup x = some .local := by first | exact .inl rfl | exact .inr rfl) :
    PS X (.Assign [.Name x pos'] e pos) (tS X.K ca E (sAsg (gN i) f)) :=
  ⟨fun pins s σ H Dn I h => (ps_set hN hi hx he hs hf).run pins s σ H Dn I (asg_run (tg_name i) rfl h)⟩
theorem s_asg {te : Expr} {tg : TG} {t : Tg} {is : List Nat} (he : PE X e (tD X.K ca E f)) (hg : PG X te tg) (ht : TgD X.K ca tg t is) (hs : swapsWithSole [te] e pos.line X.env = pure false := by rfl) (hw : swappedStores [te] e X.env = pure none := by rfl)
    (h1 : (assignEach [te] X.env).map (·.2) = [assign te X.env] := by rfl) : PS X (.Assign [te] e pos) (tS X.K ca E (sAsg t f)) :=
  ⟨fun pins s σ H Dn I h => (ps_asg he hg hs hw h1).run pins s σ H Dn I (asg_run ht rfl h)⟩
/-- a, b = x, y: stored from the right, no tuple -/
def sPar (i j : Nat) (fs : Ev → M (List D)) : Sm := fun ρ => fs ρ >>= fun ds => match ds with
  | [d, e] => pure ((ρ.set i (.val d)).set j (.val e), .nx)
  | _ => stuck
end
end G
set_option Elab.async false
set_option linter.all false
set_option maxRecDepth 100000
set_option maxHeartbeats 4000000
/-! G4: what is walked, for, while, comprehensions, the calls of defs, a def by its body. -/
namespace G
open PySem PySem.Spec PyProof.Rows L2
/-! ### what is walked -/
structure Yld (K : PySem.W.Frag) (ca : Dr) (W : Addr → Prop) (H : Hp) (ds : List D) (J : It) : Prop where
  go : ∀ (P : Addr → Prop) (i : Nat) (H' : Hp), (∀ b, P b → W b) → ExtP P H H' → i < ds.length → J.go i H'
  stop : ∀ (P : Addr → Prop) (H' : Hp), (∀ b, P b → W b) → ExtP P H H' → J.stop ds.length H'
  yld : ∀ (P W' : Addr → Prop) (i : Nat) (H' : Hp) (x : V) (H'' : Hp) (d : D), (∀ b, W' b → W b ∨ H b = none) → (∀ b, P b → W b) → ExtP P H H' → J.yld i H' x H'' → ds[i]? = some d → (∀ b o, H' b = some o → H'' b = some o) ∧ Rl K ca W' H'' x d
def tI (K : PySem.W.Frag) (ca : Dr) (E : XK) (f : Ev → M (List D)) : TI := fun σ H R => ∃ Z Y ρ c, EnvOk K ca Z Y H σ ρ ∧ ChOk K ca H c ∧
  Do K ca E (U Z Y) H (f ρ c) fun ds c' => ∀ J H', Ext ca H H' → ChOk K ca H' c' → Yld K ca (U Z Y) H' ds J → R J H'
def iSeqL (f : Ev → M D) : Ev → M (List D) := fun ρ => f ρ >>= fun d => liftO (match d with | .lst xs => some xs | _ => none)
def iSeqT (f : Ev → M D) : Ev → M (List D) := fun ρ => f ρ >>= fun d => liftO (match d with | .tup xs => some xs | _ => none)
theorem Rl.later {K : PySem.W.Frag} {ca : Dr} {W W' P : Addr → Prop} {H H' : Hp} {v : V} {d : D} (r : Rl K ca W H v d) (g : ∀ b, W' b → W b ∨ H b = none) (hP : ∀ b, P b → W b) (ex : ExtP P H H') : Rl K ca W' H' v d :=
  ((r.grow (Z' := fun b => W b ∨ W' b) fun b z => z.elim .inl (g b)).ext ex fun b z => .inl (hP b z)).anti fun b z => .inr z
theorem RlA.later {K : PySem.W.Frag} {ca : Dr} {W W' P : Addr → Prop} {H H' : Hp} {v : List V} {d : List D} (r : RlA K ca W H v d) (g : ∀ b, W' b → W b ∨ H b = none) (hP : ∀ b, P b → W b) (ex : ExtP P H H') : RlA K ca W' H' v d :=
  ((r.grow (Z' := fun b => W b ∨ W' b) fun b z => z.elim .inl (g b)).ext ex fun b z => .inl (hP b z)).anti fun b z => .inr z
section
variable {X : Cx} {ca : Dr} {E : XK} {tg e : Expr} {f : Ev → M D} {pos : Pos}
theorem yld_list {K : PySem.W.Frag} {W : Addr → Prop} {H : Hp} {a : Addr} {vs : List V} {ds : List D} (n : ¬ W a) (h : H a = some (.lst vs)) (r : RlA K ca W H vs ds) : Yld K ca W H ds (Itl K a) := by
  refine ⟨fun P i H' hP x hi => ?_, fun P H' hP x => ?_, fun P W' i H' x H'' d g hP ex y hd => ?_⟩
  · have hi' : i < vs.length := by rw [r.length]; exact hi
    exact ⟨vs, vs[i], SqL.of (x.at_ h (.inl fun z => n (hP _ z))), List.getElem?_eq_getElem hi'⟩
  · exact ⟨vs, SqL.of (x.at_ h (.inl fun z => n (hP _ z))), by rw [r.length]; exact Nat.le_refl _⟩
  · obtain ⟨rfl, f⟩ := y
    obtain ⟨v, hv, rv⟩ := r.get hd
    have := (f vs (SqL.of (ex.at_ h (.inl fun z => n (hP _ z))))).symm.trans hv
    cases this
    exact ⟨fun _ _ z => z, rv.later g hP ex⟩
theorem yld_tup {K : PySem.W.Frag} {W : Addr → Prop} {H : Hp} {a : Addr} {vs : List V} {ds : List D} (h : TupAt K H a vs) (r : RlA K ca W H vs ds) : Yld K ca W H ds (Itt K a) := by
  refine ⟨fun P i H' hP x hi => ?_, fun P H' hP x => ?_, fun P W' i H' x H'' d g hP ex y hd => ?_⟩
  · have hi' : i < vs.length := by rw [r.length]; exact hi
    exact ⟨vs, vs[i], (x.tup h).s, List.getElem?_eq_getElem hi'⟩
  · exact ⟨vs, (x.tup h).s, by rw [r.length]; exact Nat.le_refl _⟩
  · obtain ⟨rfl, f⟩ := y
    obtain ⟨v, hv, rv⟩ := r.get hd
    have := (f vs (ex.tup h).s).symm.trans hv
    cases this
    exact ⟨fun _ _ z => z, rv.later g hP ex⟩
theorem i_list (h : PE X e (tD X.K ca E f)) : PI X tg e (tI X.K ca E (iSeqL f)) := by
  refine ⟨fun pins s σ H R I hw => (pi_list h).run pins s σ H R I ?_⟩
  obtain ⟨Z, Y, ρ, c, eo, co, hw⟩ := hw
  refine ⟨Z, Y, ρ, c, eo, co, (Do.bind hw).mono fun d c1 h1 v H1 e1 r1 co1 => ?_⟩
  obtain ⟨ds, hd, h2⟩ := Do.lift h1
  cases r1 with
  | lst n hH ra =>
    cases hd
    exact ⟨_, rfl, ⟨_, SqL.of hH⟩, h2 _ H1 e1 co1 (yld_list n hH ra)⟩
  | _ => cases hd
theorem i_tup (h : PE X e (tD X.K ca E f)) : PI X tg e (tI X.K ca E (iSeqT f)) := by
  refine ⟨fun pins s σ H R I hw => (pi_tup h).run pins s σ H R I ?_⟩
  obtain ⟨Z, Y, ρ, c, eo, co, hw⟩ := hw
  refine ⟨Z, Y, ρ, c, eo, co, (Do.bind hw).mono fun d c1 h1 v H1 e1 r1 co1 => ?_⟩
  obtain ⟨ds, hd, h2⟩ := Do.lift h1
  cases r1 with
  | tup hH ra =>
    cases hd
    exact ⟨_, rfl, ⟨_, hH.s⟩, h2 _ H1 e1 co1 (yld_tup hH ra)⟩
  | _ => cases hd
def rangeD (lo hi : Int) : List D := (List.range (hi - lo).toNat).map fun (i : Nat) => D.int (lo + (i : Int))
def rng1 : List D → Option (List D)
  | [.int j] => if -(2 ^ 62) ≤ j ∧ j < 2 ^ 62 then some (rangeD 0 j) else none
  | _ => none
def rng2 : List D → Option (List D)
  | [.int i, .int j] => if -(2 ^ 62) ≤ i ∧ i < 2 ^ 62 ∧ -(2 ^ 62) ≤ j ∧ j < 2 ^ 62 then some (rangeD i j) else none
  | _ => none
def iRange1 (fs : Ev → M (List D)) : Ev → M (List D) := fun ρ => fs ρ >>= fun ds => liftO (rng1 ds)
def iRange2 (fs : Ev → M (List D)) : Ev → M (List D) := fun ρ => fs ρ >>= fun ds => liftO (rng2 ds)
theorem yld_range {K : PySem.W.Frag} {W : Addr → Prop} {H : Hp} {lo : Int} {n : Nat} : Yld K ca W H ((List.range n).map fun (i : Nat) => D.int (lo + (i : Int))) (Itr lo n) := by
  refine ⟨fun P i H' hP x hi => ?_, fun P H' hP x => ?_, fun P W' i H' x H'' d g hP ex y hd => ?_⟩
  · rw [List.length_map, List.length_range] at hi; exact hi
  · show n ≤ _
    rw [List.length_map, List.length_range]
    exact Nat.le_refl _
  · obtain ⟨rfl, rfl⟩ := y
    rw [List.getElem?_map] at hd
    have hi : i < n := by
      by_cases z : i < n
      · exact z
      · rw [List.getElem?_eq_none (by rw [List.length_range]; omega)] at hd; cases hd
    rw [List.getElem?_range hi] at hd
    cases hd
    exact ⟨fun _ _ z => z, .int _⟩
theorem i_range1 {a : Expr} {fs : Ev → M (List D)} {p : Pos} (hm : X.mg "range" = none) (ha : PA X [a] (tAs X.K ca E fs)) (hg : Gl X "range" := by rfl) (hs : starEach [a] X.env = [(false, eval a X.env)] := by rfl) :
    PI X tg (.Call (.Name "range" p) [a] [] pos) (tI X.K ca E (iRange1 fs)) := by
  refine ⟨fun pins s σ H R I hw => (pi_range1 hg hm ha hs).run pins s σ H R I ?_⟩
  obtain ⟨Z, Y, ρ, c, eo, co, hw⟩ := hw
  refine ⟨Z, Y, ρ, c, eo, co, (Do.bind hw).mono fun d c1 h1 vs H1 e1 r1 co1 => ?_⟩
  obtain ⟨ds, hd, h2⟩ := Do.lift h1
  match d, r1, hd with
  | [.int j], .cons (.int _) .nil, hd =>
    have hd : (if -(2 ^ 62) ≤ j ∧ j < 2 ^ 62 then some (rangeD 0 j) else none) = some ds := hd
    by_cases hj : -(2 ^ 62) ≤ j ∧ j < 2 ^ 62
    · rw [if_pos hj] at hd
      cases hd
      refine ⟨j, rfl, hj.1, hj.2, h2 _ H1 e1 co1 ?_⟩
      have e0 : (j - 0).toNat = j.toNat := by rw [Int.sub_zero]
      unfold rangeD
      rw [e0]
      exact yld_range
    · rw [if_neg hj] at hd; cases hd
end
/-! ### for -/
def forM' (t : Tg) (body : Sm) : List D → Sm
  | [], ρ => pure (ρ, .nx)
  | d :: ds, ρ => liftO (t d ρ) >>= fun ρ1 => body ρ1 >>= fun p => match p.2 with
    | .nx => forM' t body ds p.1
    | .ct => forM' t body ds p.1
    | .bk => pure (p.1, .nx)
    | .ret d => pure (p.1, .ret d)
def sFor (t : Tg) (it : Ev → M (List D)) (body : Sm) : Sm := fun ρ => it ρ >>= fun ds => forM' t body ds ρ
section
variable {X : Cx} {ca : Dr} {E : XK} {tg e : Expr} {pos : Pos}
theorem s_for {g : TG} {t : Tg} {is : List Nat} {it : Ev → M (List D)} {body : List Stmt} {b : Sm} (hc : X.calm = true) (hp : PassesOwn (model X.prog X.w) X.A X.env X.xe) (hi : PI X tg e (tI X.K ca E it)) (hg : PG X tg g) (ht : TgD X.K ca g t is) (hb : PSs X body (tS X.K ca E b))
    (hs : ∀ x, foldedSetIterable e X.env x = pure x := by intro _; rfl) : PS X (.For tg e body [] pos) (tS X.K ca E (sFor t it b)) := by
  refine ⟨fun pins s σ H Dn I h => (ps_for hp hc hi hg hb hs).run pins s σ H Dn I ?_⟩
  obtain ⟨Z, Y, ρ, c, eo, co, h⟩ := h
  refine ⟨Z, Y, ρ, c, eo, co, (DoS.expr h).mono fun ds c1 h1 J H1 e1 co1 y => ?_⟩
  refine ⟨fun i m σ' H' => m = ds.length - i ∧ i ≤ ds.length ∧ ∃ Y' ρ' c', Step ca Y H1 Y' H' ∧ EnvOk X.K ca Z Y' H' σ' ρ' ∧ ChOk X.K ca H' c' ∧ DoS X.K ca E Z Dn Y' H' (forM' t b (ds.drop i) ρ' c'),
    ⟨ds.length, by omega, by omega, Y, ρ, c1, .refl, eo.ext e1, co1, DoS.step (.of e1) h1⟩, ?_⟩
  rintro i m σ' H' ⟨rfl, hi', Y', ρ', c', st, eo', co', hd⟩
  have hP : ∀ b : Addr, (b = ca ∨ Y b) → U Z Y b := fun b z => z.elim (fun z => .inl (z ▸ eo.zca)) .inr
  have hg' : ∀ b, U Z Y' b → U Z Y b ∨ H1 b = none := fun b z => z.elim (fun z => .inl (.inl z)) fun z => (st.own b z).imp .inr id
  by_cases hi : i < ds.length
  · refine .inr ⟨y.go _ i H' hP st.ext hi, fun σ2 H2 => ∃ Y2 ρ2 c2, Step ca Y H1 Y2 H2 ∧ EnvOk X.K ca Z Y2 H2 σ2 ρ2 ∧ ChOk X.K ca H2 c2 ∧ DoS X.K ca E Z Dn Y2 H2 (forM' t b (ds.drop (i + 1)) ρ2 c2),
      fun σ2 H2 ⟨Y2, ρ2, c2, q1, q2, q3, q4⟩ => ⟨ds.length - (i + 1), by omega, rfl, hi, Y2, ρ2, c2, q1, q2, q3, q4⟩, fun x H'' hy => ?_⟩
    obtain ⟨keep, rx⟩ := y.yld _ (U Z Y') i H' x H'' ds[i] hg' hP st.ext hy (List.getElem?_eq_getElem hi)
    rw [List.drop_eq_getElem_cons hi] at hd
    have ex : Ext ca H' H'' := .of keep
    obtain ⟨ρ1, hρ, h2⟩ := Do.lift (DoS.expr (show DoS X.K ca E Z Dn Y' H' (((liftO (t ds[i] ρ')) >>= fun ρ1 => b ρ1 >>= fun p => match p.2 with
      | .nx => forM' t b (ds.drop (i + 1)) p.1
      | .ct => forM' t b (ds.drop (i + 1)) p.1
      | .bk => pure (p.1, .nx)
      | .ret d => pure (p.1, .ret d)) c') from hd))
    refine ht Z Y' H'' σ' ρ' ρ1 x ds[i] _ (eo'.ext ex) rx hρ fun σ2 eo2 _ => ?_
    refine ⟨Z, Y', ρ1, c', eo2, co'.ext keep, At.mono (At.bind.mp h2) (fun p c2 h3 => ?_) fun _ _ z => z.step (.of ex)⟩
    intro Y3 σ3 H3 st3 eo3 co3
    have st4 : Step ca Y' H' Y3 H3 := (Step.of ex).trans st3
    obtain ⟨ρ3, ctl⟩ := p
    cases ctl with
    | nx => exact ⟨Y3, ρ3, c2, st.trans st4, eo3, co3, DoS.step st4 h3⟩
    | ct => exact ⟨Y3, ρ3, c2, st.trans st4, eo3, co3, DoS.step st4 h3⟩
    | bk => exact h3 Y3 σ3 H3 st4 eo3 co3
    | ret d => exact h3 Y3 σ3 H3 st4 eo3 co3
  · have ei : i = ds.length := by omega
    subst ei
    rw [List.drop_length] at hd
    exact .inl ⟨y.stop _ H' hP st.ext, hd Y' σ' H' .refl eo' co'⟩
/-! ### while: n turns at most -/
def whileM (c : Ev → M Bool) (body : Sm) : Nat → Sm
  | 0, _ => stuck
  | n + 1, ρ => c ρ >>= fun k => if k = true then (body ρ >>= fun p => match p.2 with
    | .nx => whileM c body n p.1
    | .ct => whileM c body n p.1
    | .bk => pure (p.1, .nx)
    | .ret d => pure (p.1, .ret d)) else pure (ρ, .nx)
theorem s_while {test : Expr} {body : List Stmt} {c : Ev → M Bool} {b : Sm} (n : Ev → Nat) (hp : PassesOwn (model X.prog X.w) X.A X.env X.xe) (hc : PT X test (tT X.K ca E c)) (hb : PSs X body (tS X.K ca E b)) : PS X (.While test body [] pos) (tS X.K ca E fun ρ => whileM c b (n ρ) ρ) := by
  refine ⟨fun pins s σ H Dn I h => (ps_while hp hc hb).run pins s σ H Dn I ?_⟩
  obtain ⟨Z, Y, ρ, c, eo, co, h⟩ := h
  refine ⟨fun m σ' H' => ∃ Y' ρ' c', Step ca Y H Y' H' ∧ EnvOk X.K ca Z Y' H' σ' ρ' ∧ ChOk X.K ca H' c' ∧ DoS X.K ca E Z Dn Y' H' (whileM _ b m ρ' c'), ⟨n ρ, Y, ρ, c, .refl, eo, co, h⟩, ?_⟩
  rintro m σ' H' ⟨Y', ρ', c', st, eo', co', hd⟩
  cases m with
  | zero => exact hd.elim
  | succ m =>
    refine ⟨Z, Y', ρ', c', eo', co', (DoS.expr hd).mono fun k c1 h1 H1 e1 co1 => ?_⟩
    cases k with
    | true =>
      refine iteT ⟨fun σ2 H2 => ∃ Y2 ρ2 c2, Step ca Y H Y2 H2 ∧ EnvOk X.K ca Z Y2 H2 σ2 ρ2 ∧ ChOk X.K ca H2 c2 ∧ DoS X.K ca E Z Dn Y2 H2 (whileM _ b m ρ2 c2), fun σ2 H2 q => ⟨m, Nat.lt_succ_self m, q⟩, ?_⟩
      refine ⟨Z, Y', ρ', c1, eo'.ext e1, co1, At.mono (At.bind.mp h1) (fun p c2 h3 => ?_) fun _ _ z => z.step (.of e1)⟩
      intro Y3 σ3 H3 st3 eo3 co3
      have st4 : Step ca Y' H' Y3 H3 := (Step.of e1).trans st3
      obtain ⟨ρ3, ctl⟩ := p
      cases ctl with
      | nx => exact ⟨Y3, ρ3, c2, st.trans st4, eo3, co3, DoS.step st4 h3⟩
      | ct => exact ⟨Y3, ρ3, c2, st.trans st4, eo3, co3, DoS.step st4 h3⟩
      | bk => exact h3 Y3 σ3 H3 st4 eo3 co3
      | ret d => exact h3 Y3 σ3 H3 st4 eo3 co3
    | false => exact iteF (h1 Y' σ' H1 (.of e1) (eo'.ext e1) co1)
end
end G
set_option Elab.async false
set_option linter.all false
set_option maxRecDepth 100000
set_option maxHeartbeats 4000000
/-! G5: comprehensions, the calls of defs, a def by its body. -/
namespace G
open PySem PySem.Spec PyProof.Rows L2
def wipeE (ρ : Ev) : List Nat → Ev
  | [] => ρ
  | v :: vs => (wipeE ρ vs).set v .no
/-- no error leaves -/
def nx {α : Type} (m : M α) : M α := fun c => match m c with
  | .ok a c' => .ok a c'
  | _ => .stuck
def compM (t : Tg) (cnd : Ev → M Bool) (f : Ev → M D) (ρ : Ev) : List D → M (List D)
  | [] => pure []
  | d :: ds => liftO (t d ρ) >>= fun ρ1 => cnd ρ1 >>= fun b => if b = true then (f ρ1 >>= fun y => compM t cnd f ρ ds >>= fun ys => pure (y :: ys)) else compM t cnd f ρ ds
def eComp (t : Tg) (it : Ev → M (List D)) (cnd : Ev → M Bool) (f : Ev → M D) (vs : List Nat) : Ev → M D := fun ρ => it ρ >>= fun ds =>
  if ds.length ≤ sizeLine then (nx (compM t cnd f (wipeE ρ vs) ds) >>= fun ys => pure (.lst ys)) else stuck
section
variable {K : PySem.W.Frag} {ca : Dr} {E E' : XK} {Z Y : Addr → Prop} {H H1 H' : Hp} {σ : L2.St} {ρ : Ev}
theorem Do.nx {α : Type} {m : M α} {c : Churn} {k : α → Churn → Prop} (h : Do K ca E Z H ((nx m) c) k) : At (m c) k fun _ _ => False := by
  unfold G.nx at h
  cases e : m c with
  | ok a c' => rw [e] at h; exact h
  | exn x c' => rw [e] at h; exact h.elim
  | stuck => rw [e] at h; exact h.elim
theorem At.doE {α : Type} {r : R α} {k : α → Churn → Prop} (h : At r k fun _ _ => False) : Do K ca E Z H r k := At.mono h (fun _ _ z => z) fun _ _ z => z.elim
theorem EnvOk.wipe (e : EnvOk K ca Z Y H σ ρ) : ∀ vs : List Nat, EnvOk K ca Z Y H (L2.wipe σ vs) (wipeE ρ vs)
  | [] => e
  | v :: vs => (EnvOk.wipe e vs).forget v
theorem EnvOk.blk (e : EnvOk K ca Z Y H σ ρ) {D : Addr} (n : H D = none) (nca : ca ≠ D) (ncc : ca.cc ≠ D) (x : Ext ca H H') {o : HO} (hD : H' D = some o) : EnvOk K ca Z (fun b => Y b ∨ b = D) H' σ ρ := by
  have g : ∀ b, U Z (fun b => Y b ∨ b = D) b → U Z Y b ∨ H b = none := fun b z => z.elim (fun z => .inl (.inl z)) fun z => z.elim (fun z => .inl (.inr z)) fun z => .inr (z ▸ n)
  refine ⟨⟨.inl e.zca, fun z => z.elim (fun z => e.zok.zcc (.inl z)) fun z => z.elim (fun z => e.zok.zcc (.inr z)) ncc, fun b z => ?_⟩, e.zca, fun z => z.elim e.yca nca, e.len, fun i d h => ?_, fun i ds h => ?_, fun b z q => z.elim (fun z => e.dis b z q) fun z => ?_, e.inj⟩
  · rcases z with z | z | z
    · exact x.thereS (e.zok.zin b (.inl z))
    · exact x.thereS (e.zok.zin b (.inr z))
    · exact ⟨o, z ▸ hD⟩
  · obtain ⟨v, h1, h2⟩ := e.val i d h
    exact ⟨v, h1, h2.later g e.zc x⟩
  · obtain ⟨a, h1, h2, h3⟩ := e.own i ds h
    refine ⟨a, h1, .inl h2, ?_⟩
    exact ((h3.grow (Z' := fun b => U Z Y b ∨ U Z (fun b => Y b ∨ b = D) b) fun b z => z.elim .inl (g b)).ext x (fun b z => .inl (e.zc b z)) fun z => e.yca (z ▸ h2)).anti fun b z => .inr z
  · obtain ⟨o, h⟩ := e.zok.zin b (.inl q)
    rw [z, n] at h
    cases h
end
theorem wipe_in {σ : L2.St} {j : Nat} (hj : j < σ.length) : ∀ {vs : List Nat}, j ∈ vs → (L2.wipe σ vs)[j]? = some none
  | v :: vs, h => by
    show ((L2.wipe σ vs).set v none)[j]? = some none
    by_cases e : v = j
    · subst e
      rw [List.getElem?_set_self (by rw [wipe_length]; exact hj)]
    · rw [List.getElem?_set_ne e]
      exact wipe_in hj ((List.mem_cons.mp h).resolve_left fun z => e z.symm)
theorem wipe_same {σ σ2 : L2.St} {is vs : List Nat} (h : OnlyAt is (L2.wipe σ vs) σ2) (hs : ∀ i ∈ is, i ∈ vs) : L2.wipe σ2 vs = L2.wipe σ vs := by
  have hl : σ2.length = σ.length := by rw [h.1, wipe_length]
  refine List.ext_getElem? fun j => ?_
  by_cases hj : j ∈ vs
  · by_cases hb : j < σ.length
    · rw [wipe_in (by rw [hl]; exact hb) hj, wipe_in hb hj]
    · rw [List.getElem?_eq_none (by rw [wipe_length, hl]; omega), List.getElem?_eq_none (by rw [wipe_length]; omega)]
  · rw [wipe_out hj, h.2 j fun z => hj (hs j z)]
/-- an expression that makes a new list or dict -/
def tF (K : PySem.W.Frag) (ca : Dr) (E : XK) (f : Ev → M D) : TE := fun σ H Q => ∃ Z Y ρ c, EnvOk K ca Z Y H σ ρ ∧ ChOk K ca H c ∧
  Do K ca E (U Z Y) H (f ρ c) fun d c' => ∀ p H', H p = none → Ext ca H H' → Top K ca (U Z fun b => Y b ∨ b = p) H' p d → ChOk K ca H' c' → Q (.ref p) H'
theorem Top.rl {K : PySem.W.Frag} {ca : Dr} {W : Addr → Prop} {H : Hp} {a : Addr} {d : D} (t : Top K ca W H a d) (n : ¬ W a) : Rl K ca W H (.ref a) d := by
  unfold Top at t
  split at t
  · obtain ⟨vs, h1, h2⟩ := t
    exact .lst n h1 h2
  · obtain ⟨kvs, h1, e, nd, h2⟩ := t
    subst e
    exact .dic n h1 h2
  · exact t.elim
theorem tF_of {K : PySem.W.Frag} {ca : Dr} {E : XK} {f : Ev → M D} {σ : L2.St} {H : Hp} {Q : VK} (h : tD K ca E f σ H Q) : tF K ca E f σ H Q := by
  obtain ⟨Z, Y, ρ, c, eo, co, h⟩ := h
  exact ⟨Z, Y, ρ, c, eo, co, h.mono fun d c' q p H' n x t co' => q _ H' x ((t.anti fun b z => z.elim .inl fun z => .inr (.inl z)).rl (eo.zok.free n)) co'⟩
section
variable {X : Cx} {ca : Dr} {E : XK} {pos : Pos}
theorem comp_runF {wi : TI} {g : TG} {t : Tg} {is vs : List Nat} {it : Ev → M (List D)} {cnd : Ev → M Bool} {f : Ev → M D} (hw : wi = tI X.K ca E it) (ht : TgD X.K ca g t is) (hv : ∀ i ∈ is, i ∈ vs)
    {σ : L2.St} {H : Hp} {Q : VK} (h : tF X.K ca E (eComp t it cnd f vs) σ H Q) : tLc wi g (tT X.K ca E0 cnd) (tD X.K ca E0 f) vs σ H Q := by
  subst hw
  obtain ⟨Z, Y, ρ, c, eo, co, h⟩ := h
  refine ⟨Z, Y, ρ, c, eo, co, (Do.bind h).mono fun ds c1 h1 J H1 e1 co1 y => fun A nA => ?_⟩
  by_cases hz : ds.length ≤ sizeLine
  · rw [if_pos hz] at h1
    have h2 := (Do.bind h1).nx
    have eo1 := eo.ext e1
    have nca : ca ≠ A := fun z => co1.ne nA z.symm
    refine ⟨fun i m H' => m = ds.length - i ∧ i ≤ ds.length ∧ ∃ acc ys c', H' A = some (.lst acc) ∧ Ext ca H1 H' ∧ ChOk X.K ca H' c' ∧ RlA X.K ca (U Z fun b => Y b ∨ b = A) H' acc ys ∧ ys.length ≤ i ∧
        At (compM t cnd f (wipeE ρ vs) (ds.drop i) c') (fun zs c2 => ∀ p H', H p = none → Ext ca H H' → Top X.K ca (U Z fun b => Y b ∨ b = p) H' p (.lst (ys ++ zs)) → ChOk X.K ca H' c2 → Q (.ref p) H') fun _ _ => False,
      ⟨ds.length, by omega, by omega, [], [], c1, upd_same, ExtP.new nA, co1.new nA, .nil, Nat.le_refl _, h2⟩, ?_⟩
    rintro i m H' ⟨rfl, hi', acc, ys, c', hA, x1, co', ra, hl, hd⟩
    have xH : Ext ca H H' := e1.trans x1
    have eoB : EnvOk X.K ca Z (fun b => Y b ∨ b = A) H' (L2.wipe σ vs) (wipeE ρ vs) := (eo1.blk nA nca (fun z => by have q := co1.2.1; rw [z, nA] at q; cases q) x1 hA).wipe vs
    by_cases hi : i < ds.length
    · refine .inr ⟨y.go _ i H' eo.zc x1 hi, fun H2 => ∃ acc ys c', H2 A = some (.lst acc) ∧ Ext ca H1 H2 ∧ ChOk X.K ca H2 c' ∧ RlA X.K ca (U Z fun b => Y b ∨ b = A) H2 acc ys ∧ ys.length ≤ i + 1 ∧
        At (compM t cnd f (wipeE ρ vs) (ds.drop (i + 1)) c') (fun zs c2 => ∀ p H', H p = none → Ext ca H H' → Top X.K ca (U Z fun b => Y b ∨ b = p) H' p (.lst (ys ++ zs)) → ChOk X.K ca H' c2 → Q (.ref p) H') fun _ _ => False,
        fun H2 ⟨acc, ys, c', q⟩ => ⟨ds.length - (i + 1), by omega, rfl, hi, acc, ys, c', q⟩, fun x H'' hy => ?_⟩
      have gB : ∀ b, U Z (fun b => Y b ∨ b = A) b → U Z Y b ∨ H1 b = none := fun b z => z.elim (fun z => .inl (.inl z)) fun z => z.elim (fun z => .inl (.inr z)) fun z => .inr (z ▸ nA)
      obtain ⟨keep, rx⟩ := y.yld _ (U Z fun b => Y b ∨ b = A) i H' x H'' ds[i] gB eo.zc x1 hy (List.getElem?_eq_getElem hi)
      have ex : Ext ca H' H'' := .of keep
      rw [List.drop_eq_getElem_cons hi] at hd
      have hd1 := At.bind.mp hd
      cases hρ : t ds[i] (wipeE ρ vs) with
      | none => rw [hρ] at hd1; exact hd1.elim
      | some ρ1 =>
        rw [hρ] at hd1
        refine ht Z _ H'' _ _ ρ1 x ds[i] _ (eoB.ext ex) rx hρ fun σ2 eo2 o2 => ⟨wipe_same o2 hv, ?_⟩
        refine ⟨Z, _, ρ1, c', eo2, co'.ext keep, At.doE (At.mono (At.bind.mp hd1) (fun b c2 h3 H3 e3 co3 => ?_) fun _ _ z => z)⟩
        cases b with
        | false => exact iteF ⟨acc, ys, c2, e3.at_ (keep _ _ hA) (.inl fun z => nca z.symm), (x1.trans ex).trans e3, co3, ra.ext (ex.trans e3) eoB.zc, by omega, h3⟩
        | true =>
          refine iteT ⟨Z, _, ρ1, c2, eo2.ext e3, co3, At.doE (At.mono (At.bind.mp h3) (fun d c4 h4 v H4 e4 r4 co4 => ?_) fun _ _ z => z)⟩
          have h4' := At.bind.mp h4
          have hA4 : H4 A = some (.lst acc) := e4.at_ (e3.at_ (keep _ _ hA) (.inl fun z => nca z.symm)) (.inl fun z => nca z.symm)
          have xD : ExtP (fun b => b = A) H4 (upd H4 A (.lst (acc ++ [v]))) := fun b o q => by
            by_cases hb : b = A
            · subst hb
              rw [hA4] at q; cases q
              exact .inr (.inl ⟨rfl, trivial, _, upd_same, trivial⟩)
            · exact .inl (by rw [upd_ne hb]; exact q)
          have ra4 := ra.ext ((ex.trans e3).trans e4) eoB.zc
          refine ⟨acc, hA4, by rw [ra.length]; omega, acc ++ [v], ys ++ [d], c4, upd_same, ?_, ?_, (ra4.snoc r4).ext xD fun b z => .inr (.inr z), by rw [List.length_append]; simp; omega, ?_⟩
          · intro b o q
            have nb : b ≠ A := fun z => by rw [z, nA] at q; cases q
            rw [upd_ne nb]
            exact (((x1.trans ex).trans e3).trans e4) b o q
          · have nc : ca.cc ≠ A := fun z => by
              have q := co1.2.1
              rw [z, nA] at q; cases q
            exact ⟨by rw [upd_ne nca]; exact co4.1, by rw [upd_ne nc]; exact co4.2.1, tabs_upd co4.2.2 hA4⟩
          · exact At.mono h4' (fun zs c5 h5 => by rw [List.append_assoc]; exact h5) fun _ _ z => z
    · have ei : i = ds.length := by omega
      subst ei
      rw [List.drop_length] at hd
      have hd' : ∀ p H', H p = none → Ext ca H H' → Top X.K ca (U Z fun b => Y b ∨ b = p) H' p (.lst (ys ++ [])) → ChOk X.K ca H' c' → Q (.ref p) H' := hd
      rw [List.append_nil] at hd'
      exact .inl ⟨y.stop _ H' eo.zc x1, hd' A H' (e1.there nA) xH ⟨acc, hA, ra⟩ co'⟩
  · rw [if_neg hz] at h1; exact h1.elim
theorem comp_run {wi : TI} {g : TG} {t : Tg} {is vs : List Nat} {it : Ev → M (List D)} {cnd : Ev → M Bool} {f : Ev → M D} (hw : wi = tI X.K ca E it) (ht : TgD X.K ca g t is) (hv : ∀ i ∈ is, i ∈ vs)
    {σ : L2.St} {H : Hp} {Q : VK} (h : tD X.K ca E (eComp t it cnd f vs) σ H Q) : tLc wi g (tT X.K ca E0 cnd) (tD X.K ca E0 f) vs σ H Q := comp_runF hw ht hv (tF_of h)
theorem dts_nil : PTs X [] (tT X.K ca E fun _ => pure true) := by
  refine ⟨fun pins s σ H Q I h => pts_nil.run pins s σ H Q I ?_⟩
  obtain ⟨Z, Y, ρ, c, eo, co, h⟩ := h
  exact h H .refl co
theorem d_comp {elt tg iter : Expr} {ifs : List Expr} {scope : Scope} (own : List (Str × Nat)) {g : TG} {t : Tg} {is : List Nat} {it : Ev → M (List D)} {cnd : Ev → M Bool} {f : Ev → M D} (hc : X.calm = true) (hN : X.N.Nodup) (ok : BlkOk X.N X.env.scope scope own)
    (hi : PI X tg iter (tI X.K ca E it)) (ht : TgD X.K ca g t is) (hg : ∀ (s : Shared) (H : Hp) (C : Addr) (cl : List (Str × Addr)) (fp : List Addr), PG (X.blk s H scope (compEnvC scope cl C X.env) fp) tg g)
    (hcn : ∀ (s : Shared) (H : Hp) (C : Addr) (cl : List (Str × Addr)) (fp : List Addr), PTs (X.blk s H scope (compEnvC scope cl C X.env) fp) ifs (tT X.K ca E0 cnd))
    (he : ∀ (s : Shared) (H : Hp) (C : Addr) (cl : List (Str × Addr)) (fp : List Addr), PE (X.blk s H scope (compEnvC scope cl C X.env) fp) elt (tD X.K ca E0 f)) (hv : ∀ i ∈ is, i ∈ own.map (·.2) := by decide) (hs : ∀ x, foldedSetIterable iter X.env x = pure x := by intro _; rfl) :
    PE X (.ListComp elt [⟨tg, iter, ifs, 0⟩] scope pos) (tD X.K ca E (eComp t it cnd f (own.map (·.2)))) :=
  ⟨fun pins s σ H Q I h => (pe_lc (own := own) hc hN hi ok hg hcn he hs).run pins s σ H Q I (comp_run rfl ht hv h)⟩
end
/-! ### defs: where no repr runs around -/
/-- the def at f keeps the promise, called where no repr is under way -/
structure FnG (P : Program) (w : World) (K : PySem.W.Frag) (mg : Str → Option Value) (base : Heap) (CX : CXT) (k : Nat) (f : Addr) (fd : FuncData) (ps : List Str) (sp : Sp) : Prop where
  arity : ∀ xs H Q E, sp xs H Q E → xs.length = ps.length
  runs : ∀ (A : Around) (outer : List Env) (s : Shared) (H : Hp) (args : Args) (us : List Value) (xs : List V) (Q : VK) (E : XK), A.guards = some [] → Room k A →
    Env0 P w K mg base A outer s H → BindsTo s fd args (ps.zip us) → Vals xs us → sp xs H Q E → codeAny (model P w) A (.call (.ref f) args) (CR CX outer P w H s Q E) s
theorem FnG.mono {P : Program} {w : World} {K : PySem.W.Frag} {mg : Str → Option Value} {base : Heap} {CX : CXT} {j k : Nat} {f : Addr} {fd : FuncData} {ps : List Str} {sp : Sp} (F : FnG P w K mg base CX j f fd ps sp) (h : j ≤ k) : FnG P w K mg base CX k f fd ps sp :=
  ⟨F.arity, fun A o s H a us xs Q E g room => F.runs A o s H a us xs Q E g (room.mono h)⟩
theorem FnOk.g {P : Program} {w : World} {K : PySem.W.Frag} {mg : Str → Option Value} {base : Heap} {CX : CXT} {k : Nat} {f : Addr} {fd : FuncData} {ps : List Str} {sp : Sp} (F : FnOk P w K mg base CX k f fd ps sp) : FnG P w K mg base CX k f fd ps sp :=
  ⟨F.len, fun A o s H a us xs Q E _ room => F.run A o s H a us xs Q E room⟩
theorem CR.back {X : Cx} {CX : CXT} {E : XK} {pins : List (Addr × Obj)} {σ : L2.St} {H : Hp} {s : Shared} {Q : VK} (hx : Passes CX X E) (I : L2.Inv X pins σ H s) {r : Result} {s' : Shared} (h : CR CX X.stack X.prog X.w H s Q E r s') :
    wants (EP X pins σ Q) X.xe r s' := by
  match r, h with
  | .error e, h => exact hx pins σ H s e s' I h
  | .ok (.ret u), h => exact I.after h
  | .ok .next, h => exact h.elim
  | .ok .brk, h => exact h.elim
  | .ok .cont, h => exact h.elim
section
variable {X : Cx} {CX : CXT} {E : XK} {k : Nat} {f : Addr} {fd : FuncData} {ps kn : List Str} {sp : Sp}
theorem runG {pins : List (Addr × Obj)} {σ : L2.St} {H : Hp} {s : Shared} {Q : VK} {us ds : List Value} {vs dvs : List V} (F : FnG X.prog X.w X.K X.mg X.base CX k f fd ps sp) (gd : X.A.guards = some []) (hr : Room k X.A) (hb : Binds X.K fd ps ds) (hd : Vals dvs ds) (hx : Passes CX X E)
    (I : L2.Inv X pins σ H s) (r : Vals vs us) (h : sp (vs ++ dvs) H Q E) : wpAny (model X.prog X.w) X.A (call (.ref f) us) (EP X pins σ Q) X.xe s :=
  have rr := r.append hd
  wpAny_call (codeAny_mono (F.runs X.A X.stack s H ⟨us, []⟩ _ _ Q E gd hr I.env0 (hb s us I.kIn (rr.length.symm.trans (F.arity _ _ _ _ h))) rr h) fun _ _ => CR.back hx I)
end
/-! ### defs -/
/-- a def's promise: called with trees it does F -/
def spD (K : PySem.W.Frag) (n : Nat) (F : List D → M D) : Sp := fun vs H Q E => ∃ (ca : Dr) (Z : Addr → Prop) (c : Churn) (ds : List D), ZOk ca Z H ∧ ChOk K ca H c ∧ RlA K ca Z H vs ds ∧ ds.length = n ∧
  Do K ca E Z H (F ds c) fun d c' => ∀ v H', Ext ca H H' → Rl K ca Z H' v d → ChOk K ca H' c' → Q v H'
theorem spD_len {K : PySem.W.Frag} {n : Nat} {F : List D → M D} {vs : List V} {H : Hp} {Q : VK} {E : XK} (h : spD K n F vs H Q E) : vs.length = n := by
  obtain ⟨ca, Z, c, ds, _, _, r, e, _⟩ := h
  rw [r.length, e]
def eCall (n : Nat) (F : List D → M D) (dds : List D) (fs : Ev → M (List D)) : Ev → M D := fun ρ => fs ρ >>= fun xs => if (xs ++ dds).length = n then F (xs ++ dds) else stuck
/-- the arguments by their places -/
def pick {α : Type} (ix : List Nat) (xs : List α) : List α := ix.filterMap fun i => xs[i]?
def eCallK (n m k : Nat) (ix : List Nat) (F : List D → M D) (fs ks : Ev → M (List D)) : Ev → M D := fun ρ => fs ρ >>= fun xs => ks ρ >>= fun zs => if xs.length = m ∧ zs.length = k ∧ (pick ix (xs ++ zs)).length = n then F (pick ix (xs ++ zs)) else stuck
section
variable {X : Cx} {ca : Dr} {E : XK} {pos : Pos}
variable {CX : CXT} {k n : Nat} {fA : Addr} {fd : FuncData} {ps : List Str} {F : List D → M D} {x : Str} {p : Pos} {e : Expr} {es : List Expr} {fs ks : Ev → M (List D)}
theorem d_call {dvs : List V} {dds : List D} {dus : List Value} (Fk : FnG X.prog X.w X.K X.mg X.base CX k fA fd ps (spD X.K n F)) (gd : X.A.guards = some []) (hr : Room k X.A) (hm : X.mg x = some (.ref fA)) (hk : PySem.W.keepIn X.K (.ref fA) = true) (hb : Binds X.K fd ps dus) (hd : Vals dvs dus) (hx : Passes CX X E)
    (hdd : ∀ Z H, RlA X.K ca Z H dvs dds) (ha : PA X (e :: es) (tAs X.K ca E fs)) (hg : Gl X x := by rfl) (hdb : (x == ("__debug__" : Str)) = false := by decide)
    (he : starEach (e :: es) X.env = (false, eval e X.env) :: starEach es X.env := by rfl) (hpl : (backTo pos (starEach es X.env)).any (·.1) = false := by rfl) : PE X (.Call (.Name x p) (e :: es) [] pos) (tD X.K ca E (eCall n F dds fs)) := by
  refine ⟨fun pins s σ H Q I h => ?_⟩
  have h' : tAs X.K ca E fs σ H fun vs H1 => spD X.K n F (vs ++ dvs) H1 Q E := ?_
  · refine wpAny_Call_Name_kw (ld_glob I hg hm (PySem.W.callWith_K (h₀ := X.base) I.ok.mod.kin hk ?_ he hpl) hdb)
    exact thn (ha.run pos pins s σ H _ I h') fun us s1 ⟨vs, H1, I1, r, q⟩ => ⟨I1.kIn, runG Fk gd hr hb hd hx I1 r q⟩
  obtain ⟨Z, Y, ρ, c, eo, co, h⟩ := h
  refine ⟨Z, Y, ρ, c, eo, co, (Do.bind h).mono fun ds c1 h1 vs H1 e1 r1 co1 => ?_⟩
  by_cases hl : (ds ++ dds).length = n
  · rw [if_pos hl] at h1
    exact ⟨ca, U Z Y, c1, ds ++ dds, eo.zok.ext e1, co1, r1.append (hdd _ _), hl, (h1.ext e1).mono fun d c2 h2 v H' e' r' co' => h2 v H' (e1.trans e') r' co'⟩
  · rw [if_neg hl] at h1; exact h1.elim
/-! keywords -/
variable {kws : List Keyword} {kn : List Str} {nm : Option Str} {kpos : Pos} {f1 : Ev → M D}
theorem dk_nil : PK X [] (tAs X.K ca E aNil) := by
  refine ⟨fun p pins s σ H Q I h => pk_nil.run p pins s σ H Q I ?_⟩
  obtain ⟨Z, Y, ρ, c, eo, co, h⟩ := h
  exact h [] H .refl .nil co
theorem dk_cons (ha : PE X e (tD X.K ca E f1)) (hr : PK X kws (tAs X.K ca E ks)) : PK X (⟨nm, e, kpos⟩ :: kws) (tAs X.K ca E (aCons f1 ks)) := by
  refine ⟨fun p pins s σ H Q I h => (pk_cons ha hr).run p pins s σ H Q I ?_⟩
  obtain ⟨Z, Y, ρ, c, eo, co, h⟩ := h
  refine ⟨Z, Y, ρ, c, eo, co, (Do.bind h).mono fun d c1 h1 x H1 e1 r1 co1 => ?_⟩
  refine ⟨Z, Y, ρ, c1, eo.ext e1, co1, ((Do.bind h1).ext e1).mono fun ds c2 h2 ys H2 e2 r2 co2 => ?_⟩
  exact h2 (x :: ys) H2 (e1.trans e2) (.cons (r1.ext e2 eo.zc) r2) co2
end
/-! a def by its body -/
def runDef (N : Nat) (g : Sm) : List D → M D := fun ds => g (ds.map Sl.val ++ List.replicate (N - ds.length) Sl.no) >>= fun p => match p.2 with
  | .ret d => pure d
  | .nx => pure .non
  | _ => stuck
theorem env_start {K : PySem.W.Frag} {ca : Dr} {Z : Addr → Prop} {H : Hp} {N : List Str} {vs : List V} {ds : List D} (z : ZOk ca Z H) (r : RlA K ca Z H vs ds) : EnvOk K ca Z (fun _ => False) H (start N vs) (ds.map Sl.val ++ List.replicate (N.length - ds.length) Sl.no) := by
  have hl := r.length
  have nown : ∀ (i : Nat) (es : D), (ds.map Sl.val ++ List.replicate (N.length - ds.length) Sl.no)[i]? ≠ some (.own es) := fun i es h => by
    have := List.mem_of_getElem? h
    rcases List.mem_append.mp this with h | h
    · obtain ⟨d, _, e⟩ := List.mem_map.mp h
      cases e
    · exact absurd (List.eq_of_mem_replicate h) (by intro z; cases z)
  refine ⟨⟨.inl z.zca, fun h => h.elim z.zcc False.elim, fun b h => h.elim (z.zin b) False.elim⟩, z.zca, id, ?_, fun i d h => ?_, fun i es h => absurd h (nown i es), fun _ h => h.elim, fun i j a es es' h => absurd h (nown i es)⟩
  · unfold L2.start
    simp [hl]
  · by_cases hi : i < ds.length
    · rw [List.getElem?_append_left (by simpa using hi), List.getElem?_map] at h
      cases hd : ds[i]? with
      | none => rw [hd] at h; cases h
      | some d' =>
        rw [hd] at h
        cases h
        obtain ⟨v, hv, rv⟩ := r.get hd
        refine ⟨v, ?_, rv.anti fun b h => h.elim id False.elim⟩
        unfold L2.start
        rw [List.getElem?_append_left (by simpa [hl] using hi), List.getElem?_map, hv]
        rfl
    · rw [List.getElem?_append_right (by simpa using hi)] at h
      exact absurd (List.eq_of_mem_replicate (List.mem_of_getElem? h)) (by intro z; cases z)
section
variable {P : Program} {w : World} {K : PySem.W.Frag} {mg : Str → Option Value} {base : Heap} {x qual : Str} {params : Arguments} {body : List Stmt} {scope : Scope} {dvs : List V} {kws : List (Str × V)} {f : Addr} {fd : FuncData}
/-- the body's end, as the promise wants it -/
theorem body_end {ca : Dr} {E : XK} {N : List Str} {g : Sm} {Z : Addr → Prop} {H : Hp} {vs : List V} {ds : List D} {c : Churn} {Q : VK} (z : ZOk ca Z H) (co : ChOk K ca H c) (r : RlA K ca Z H vs ds)
    (h : Do K ca E Z H (runDef N.length g ds c) fun d c' => ∀ v H', Ext ca H H' → Rl K ca Z H' v d → ChOk K ca H' c' → Q v H') : tS K ca E g { nx := fun _ H' => Q .non H', rt := Q } (start N vs) H := by
  refine ⟨Z, fun _ => False, _, c, env_start z r, co, At.mono (At.bind.mp h) (fun p c1 h1 => ?_) fun x c1 h1 => ?_⟩
  · intro Y' σ' H' st eo' co'
    have ex : Ext ca H H' := st.ext.mono fun b z => z.elim id False.elim
    obtain ⟨ρ1, ctl⟩ := p
    cases ctl with
    | nx => exact h1 .non H' ex .non co'
    | bk => exact h1.elim
    | ct => exact h1.elim
    | ret d => exact fun v rv => h1 v H' ex (rv.anti fun b => .inl) co'
  · intro Y' cv od H' st xr co'
    refine h1 cv od H' (st.ext.mono fun b z => z.elim id False.elim) ?_ co'
    obtain ⟨e0, e1, d, fs, e2, e3, e4, e5⟩ := xr
    exact ⟨e0, e1, d, fs, e2, e3, e4, e5.anti fun b => .inl⟩
/-- a def by its body, entered where no repr is under way -/
theorem FunD.okG {CX : CXT} {N ps : List Str} {k : Nat} {sp : Sp} (F : FunD K x qual params body scope dvs kws f fd) (S : FnScope N ps scope) (len : ∀ xs H Q E, sp xs H Q E → xs.length = ps.length)
    (inside : ∀ (cdv : Value) (A : Around) (outer : List Env) (s : Shared) (H : Hp) (xs : List V) (Q : VK) (E : XK), A.guards = some [] → Room k (A.deeper (envOfC qual scope s.heap.objs.size f cdv)) → sp xs H Q E →
      ∃ t, PSs (cxOf CX P w K mg base N qual scope f cdv A outer s H E) body t ∧ t { nx := fun _ H' => Q .non H', rt := Q } (start N xs) H) : FnG P w K mg base CX (k + 1) f fd ps sp := by
  obtain ⟨oc, od, dV, kV, doc, pm, an, cdv, ct, osl, rfl, found, coded, _, _⟩ := F.ex
  refine ⟨len, fun A outer s H args us xs Q E gd room e0 bound r wish => ?_⟩
  obtain ⟨t, does, want⟩ := inside cdv A outer s H xs Q E gd (room.deeper _) wish
  have inK : K.In s.heap := e0.mod.kin.keeps fun b o e => (e0.bs b o e).1
  refine codeAny_call_function room.depth (inK _ _ found) rfl S.co S.gen rfl (PySem.W.codeRec_of inK coded) (bound _ _ _ _ ?_)
  refine wpAny_newFunctionEnv_cells S.kind (fun y hy => ?_) fun env ee s1 frame => ?_
  · rcases S.par y.1 (List.of_mem_zip hy).1 with loc | cel
    · exact Or.inl loc
    · exact Or.inr ⟨cel, PySem.W.cellsFrom_some _ _ _ (Or.inl cel)⟩
  subst ee
  refine ⟨(e0.mod.nolimit.keeps fun b o e => (e0.bs b o e).1).keeps frame.toInCall.keep, codeAny_func ?_⟩
  have begun : L2.Inv (cxOf CX P w K mg base N qual scope f cdv A outer s H E) [] (start N xs) H s1 := inv_start S room.hd e0 (len _ _ _ _ wish) r frame
  refine wpAny_mono (does.run [] s1 (start N xs) H _ begun want) (fun way s' hs => ?_) fun _ _ z => z
  match way, hs with
  | .ret u, ⟨v, _, H', J, rv, q⟩ => exact ⟨v, H', J.os, J.bare, J.base, J.hok, rv, q⟩
  | .next, ⟨_, H', J, q⟩ => exact ⟨V.non, H', J.os, J.bare, J.base, J.hok, rfl, q⟩
  | .brk, ⟨_, _, _, q⟩ => exact q.elim
  | .cont, ⟨_, _, _, q⟩ => exact q.elim
/-- a def that lets nothing out -/
theorem FunD.okD {N ps : List Str} {k : Nat} {g : Sm} (F : FunD K x qual params body scope dvs kws f fd) (S : FnScope N ps scope)
    (hbody : ∀ (ca : Dr) (cdv : Value) (A : Around) (outer : List Env) (s : Shared) (H : Hp) (E : XK), A.guards = some [] → Room k (A.deeper (envOfC qual scope s.heap.objs.size f cdv)) → PSs (cxOf CX0 P w K mg base N qual scope f cdv A outer s H E).nox body (tS K ca E0 g)) :
    FnG P w K mg base CX0 (k + 1) f fd ps (spD K ps.length fun ds => G.nx (runDef N.length g ds)) := by
  refine FunD.okG F S (fun vs H Q E h => spD_len h) fun cdv A outer s H vs Q E gd hr h => ?_
  obtain ⟨ca, Z, c, ds, z, co, r, hl, h⟩ := h
  exact ⟨tS K ca E0 g, PSs.nox (hbody ca cdv A outer s H E gd hr), body_end z co r (At.doE h.nx)⟩
end
end G
set_option Elab.async false
set_option linter.all false
set_option maxRecDepth 100000
set_option maxHeartbeats 4000000
/-! G6: the operations on trees: arithmetic, comparisons, len, int, abs, str, displays, subscripts, slices. -/
namespace G
open PySem PySem.Spec PyProof.Rows L2
section
variable {K : PySem.W.Frag} {ca : Dr} {X : Cx}
/-! ### arithmetic -/
def gAdd : D → D → Option D
  | .int i, .int j => some (.int (i + j))
  | .str a, .str b => if a.length + b.length ≤ sizeLine then some (.str (a ++ b)) else none
  | .lst xs, .lst ys => if xs.length + ys.length ≤ sizeLine then some (.lst (xs ++ ys)) else none
  | .tup xs, .tup ys => if xs.length + ys.length ≤ sizeLine then some (.tup (xs ++ ys)) else none
  | _, _ => none
def rAddD (K : PySem.W.Frag) : R2 := fun x y H Q => rI0 (fun i j => .int (i + j)) x y H Q ∨ (∃ i j, x = .str i ∧ y = .str j ∧ i.length + j.length ≤ sizeLine ∧ Q (.str (i ++ j)) H) ∨ rCat x y H Q ∨ rCatN K x y H Q
theorem op_addD : OpR X (binaryOp .Add) (rAddD X.K) := op_add.or (op_add_str.or (op_cat.or op_catN))
theorem bin_add : BinD K ca (rAddD K) gAdd := fun Z H c x y d e d' Q z co r1 r2 hg q => by
  unfold gAdd at hg
  split at hg
  · rename_i i j
    cases hg; cases r1; cases r2
    exact .inl ⟨_, _, rfl, rfl, q _ H .refl (.int _) co⟩
  · rename_i i j
    split at hg
    · rename_i hl
      cases hg; cases r1; cases r2
      exact .inr (.inl ⟨_, _, rfl, rfl, hl, q _ H .refl (.str _) co⟩)
    · cases hg
  · split at hg
    · rename_i hl
      cases hg
      cases r1 with | lst n1 h1 a1 => cases r2 with | lst n2 h2 a2 =>
      exact .inr (.inr (.inl ⟨_, _, _, _, rfl, rfl, h1, h2, by rw [a1.length, a2.length]; exact hl, fun p np => q _ _ (ExtP.new np) (.lst (z.free np) upd_same ((a1.append a2).ext (ExtP.new (P := (· = (ca : Addr))) np) fun b e => e ▸ z.zca)) (co.new np)⟩))
    · cases hg
  · split at hg
    · rename_i xs ys hl
      cases hg
      cases r1 with | tup h1 a1 => cases r2 with | tup h2 a2 =>
      refine .inr (.inr (.inr ⟨_, _, _, _, rfl, rfl, h1.s, h2.s, by rw [a1.length, a2.length]; exact hl, fun e => ?_, fun e1 e => ?_, fun _ _ p o np od => ?_⟩))
      · subst e; cases a1
        exact q _ H .refl (.tup h2 a2) co
      · subst e; cases a2
        rw [List.append_nil] at q
        exact q _ H .refl (.tup h1 a1) co
      · exact q _ _ (ExtP.new np) (.tup (TupAt.of upd_same od) ((a1.append a2).ext (ExtP.new (P := (· = (ca : Addr))) np) fun b e => e ▸ z.zca)) (co.new np)
    · cases hg
  · cases hg
def gInt2 (ok : Int → Int → Bool) (f : Int → Int → Int) : D → D → Option D
  | .int i, .int j => if ok i j = true then some (.int (f i j)) else none
  | _, _ => none
theorem bin_int2 {C : Int → Int → Prop} {ok : Int → Int → Bool} {f : Int → Int → Int} (h : ∀ i j, ok i j = true → C i j) : BinD K ca (rI C fun i j => .int (f i j)) (gInt2 ok f) := fun Z H c x y d e d' Q z co r1 r2 hg q => by
  unfold gInt2 at hg
  split at hg
  · rename_i i j
    split at hg
    · rename_i hl
      cases hg; cases r1; cases r2
      exact ⟨_, _, rfl, rfl, h _ _ hl, q _ H .refl (.int _) co⟩
    · cases hg
  · cases hg
def gSub : D → D → Option D := gInt2 (fun _ _ => true) fun i j => i - j
theorem op_subD : OpR X (binaryOp .Sub) (rI (fun _ _ => True) fun i j => .int (i - j)) := fun pins s σ H x y v u Q I rx ry ⟨i, j, e1, e2, _, q⟩ => op_sub pins s σ H x y v u Q I rx ry ⟨i, j, e1, e2, q⟩
theorem bin_sub : BinD K ca (rI (fun _ _ => True) fun i j => .int (i - j)) gSub := bin_int2 fun _ _ _ => trivial
def okDiv (_ j : Int) : Bool := decide (0 < j) && decide (j.natAbs.log2 < 9000)
def gDiv : D → D → Option D := gInt2 okDiv fun i j => i / j
theorem bin_div : BinD K ca (rI CDivW fun i j => .int (i / j)) gDiv := bin_int2 fun i j h => by
  have h := Bool.and_eq_true_iff.mp h
  exact ⟨of_decide_eq_true h.1, of_decide_eq_true h.2⟩
def gMod : D → D → Option D := gInt2 (fun _ j => decide (0 < j)) fun i j => i % j
theorem bin_mod : BinD K ca (rI (fun _ j => 0 < j) fun i j => .int (i % j)) gMod := bin_int2 fun i j h => of_decide_eq_true h
def okPow (i j : Int) : Bool := decide (0 ≤ j) && (decide (j ≤ 1000000) && decide (i.natAbs < 2 ^ 64))
def gPow : D → D → Option D := gInt2 okPow fun i j => i ^ j.toNat
theorem bin_pow : BinD K ca (rI CPow fun i j => .int (i ^ j.toNat)) gPow := bin_int2 fun i j h => by
  have h := Bool.and_eq_true_iff.mp h
  have h2 := Bool.and_eq_true_iff.mp h.2
  exact ⟨of_decide_eq_true h.1, of_decide_eq_true h2.1, of_decide_eq_true h2.2⟩
def okMul (i j : Int) : Bool := (decide (-(2 ^ 64) < i) && decide (i < 2 ^ 64)) || ((decide (-(2 ^ 64) < j) && decide (j < 2 ^ 64)) || decide (i.natAbs.log2 + j.natAbs.log2 < 1000000))
def gMul : D → D → Option D
  | .int i, .int j => if okMul i j = true then some (.int (i * j)) else none
  | .lst xs, .int k => if -(2 ^ 63) ≤ k ∧ k < 2 ^ 63 ∧ xs.length * k.toNat ≤ sizeLine then some (.lst (List.replicate k.toNat xs).flatten) else none
  | _, _ => none
def rMulD : R2 := fun x y H Q => rI (fun i j => CMul i j ∨ CMulW i j) (fun i j => .int (i * j)) x y H Q ∨ rRep x y H Q
theorem op_mulD : OpR X (binaryOp .Mult) rMulD := OpR.or (fun pins s σ H x y v u Q I rx ry ⟨i, j, e1, e2, h, q⟩ => h.elim (fun h => op_mul pins s σ H x y v u Q I rx ry ⟨i, j, e1, e2, h, q⟩) fun h => op_mulW pins s σ H x y v u Q I rx ry ⟨i, j, e1, e2, h, q⟩) op_rep
theorem okMul_ok {i j : Int} (h : okMul i j = true) : CMul i j ∨ CMulW i j := by
  unfold okMul at h
  rcases Bool.or_eq_true_iff.mp h with h | h
  · have h := Bool.and_eq_true_iff.mp h
    exact .inl (.inl ⟨of_decide_eq_true h.1, of_decide_eq_true h.2⟩)
  · rcases Bool.or_eq_true_iff.mp h with h | h
    · have h := Bool.and_eq_true_iff.mp h
      exact .inl (.inr ⟨of_decide_eq_true h.1, of_decide_eq_true h.2⟩)
    · exact .inr (show i.natAbs.log2 + j.natAbs.log2 < 1000000 from of_decide_eq_true h)
theorem RlA.rep {Z : Addr → Prop} {H : Hp} {vs : List V} {ds : List D} (r : RlA K ca Z H vs ds) : ∀ n : Nat, RlA K ca Z H (List.replicate n vs).flatten (List.replicate n ds).flatten
  | 0 => .nil
  | n + 1 => by rw [List.replicate_succ, List.replicate_succ, List.flatten_cons, List.flatten_cons]; exact r.append (RlA.rep r n)
theorem bin_mul : BinD K ca rMulD gMul := fun Z H c x y d e d' Q z co r1 r2 hg q => by
  unfold gMul at hg
  split at hg
  · split at hg
    · rename_i hl
      cases hg; cases r1; cases r2
      exact .inl ⟨_, _, rfl, rfl, okMul_ok hl, q _ H .refl (.int _) co⟩
    · cases hg
  · split at hg
    · rename_i hl
      cases hg
      cases r2
      cases r1 with | lst n1 h1 a1 =>
      refine .inr ⟨_, _, _, rfl, rfl, h1, hl.1, hl.2.1, by rw [a1.length]; exact hl.2.2, fun p np => q _ _ (ExtP.new np) (.lst (z.free np) upd_same ((a1.rep _).ext (ExtP.new (P := (· = (ca : Addr))) np) fun b e => e ▸ z.zca)) (co.new np)⟩
    · cases hg
  · cases hg
def gNeg : D → Option D
  | .int i => some (.int (-i))
  | _ => none
theorem un_negD : UnD K ca (rU fun i => .int (-i)) gNeg := fun Z H c x d d' Q z co r hg q => by
  cases r with
  | int i => cases hg; exact ⟨_, rfl, q _ H .refl (.int _) co⟩
  | _ => cases hg
/-! ### comparisons -/
def gCmpI (f : Int → Int → Bool) : D → D → Option Bool
  | .int i, .int j => some (f i j)
  | _, _ => none
theorem cmp_int {f : Int → Int → Bool} : BinB K ca (rI0 fun i j => .bl (f i j)) (gCmpI f) := fun Z H c x y d e k Q z co r1 r2 hg q => by
  unfold gCmpI at hg
  split at hg
  · cases hg; cases r1; cases r2
    exact ⟨_, _, rfl, rfl, q H .refl co⟩
  · cases hg
def ltI (i j : Int) : Bool := decide (i < j)
def leI (i j : Int) : Bool := decide (i ≤ j)
def gtI (i j : Int) : Bool := decide (j < i)
def geI (i j : Int) : Bool := decide (j ≤ i)
def isNonD : D → Bool
  | .non => true
  | _ => false
def gIsN (neg : Bool) : D → D → Option Bool
  | d, .non => some (if neg then !isNonD d else isNonD d)
  | _, _ => none
theorem isNon_of {Z : Addr → Prop} {H : Hp} {v : V} {d : D} (r : Rl K ca Z H v d) : decide (v = .non) = isNonD d := by
  cases r <;> first | rfl | simp [isNonD]
theorem cmp_isN : BinB K ca (fun x y H Q => y = .non ∧ Q (.bl (decide (x = .non))) H) (gIsN false) := fun Z H c x y d e k Q z co r1 r2 hg q => by
  cases r2 with
  | non => cases hg; exact ⟨rfl, by rw [isNon_of r1]; exact q H .refl co⟩
  | _ => cases hg
/-! deep == -/
mutual
def toPy : D → Option PyData
  | .non => some .none
  | .bl b => some (.bool b)
  | .int i => some (.int i)
  | .str x => some (.str x)
  | .lst xs => (toPyA xs).map .list
  | .tup xs => (toPyA xs).map .tuple
  | _ => none
def toPyA : List D → Option (List PyData)
  | [] => some []
  | d :: ds => (toPy d).bind fun p => (toPyA ds).map (p :: ·)
end
theorem dp_ints {K : PySem.W.Frag} {H : Hp} : ∀ ns : List Int, DpAll K H (ns.map V.int) (ns.map PyData.int)
  | [] => .nil
  | n :: ns => .cons (.int n) (dp_ints ns)
mutual
theorem Rl.dp {Z : Addr → Prop} {H : Hp} : ∀ {v : V} {d : D} {p : PyData}, Rl K ca Z H v d → toPy d = some p → Dp K H v p
  | _, _, _, .non, e => by simp only [toPy] at e; cases e; exact .non
  | _, _, _, .bl b, e => by simp only [toPy] at e; cases e; exact .bl b
  | _, _, _, .int b, e => by simp only [toPy] at e; cases e; exact .int b
  | _, _, _, .str b, e => by simp only [toPy] at e; cases e; exact .str b
  | _, _, _, .ty n, e => by simp only [toPy] at e; cases e
  | _, _, _, .obj n, e => by simp only [toPy] at e; cases e
  | _, _, _, .chn, e => by simp only [toPy] at e; cases e
  | _, _, _, .scr _, e => by simp only [toPy] at e; cases e
  | _, _, _, .exc _ _ _ _, e => by simp only [toPy] at e; cases e
  | _, _, _, .exc0 _ _, e => by simp only [toPy] at e; cases e
  | _, _, _, .ins _ _ _ _, e => by simp only [toPy] at e; cases e
  | _, _, _, .dic _ _ _, e => by simp only [toPy] at e; cases e
  | _, _, _, .lst (ds := ds) n h r, e => by
    simp only [toPy] at e
    cases hp : toPyA ds with
    | none => rw [hp] at e; cases e
    | some ps => rw [hp] at e; cases e; exact .lst (SqL.of h) (RlA.dp r hp)
  | _, _, _, .tup (ds := ds) h r, e => by
    simp only [toPy] at e
    cases hp : toPyA ds with
    | none => rw [hp] at e; cases e
    | some ps => rw [hp] at e; cases e; exact .tup h.s (RlA.dp r hp)
theorem RlA.dp {Z : Addr → Prop} {H : Hp} : ∀ {vs : List V} {ds : List D} {ps : List PyData}, RlA K ca Z H vs ds → toPyA ds = some ps → DpAll K H vs ps
  | _, _, _, .nil, e => by simp only [toPyA] at e; cases e; exact .nil
  | _, _, _, .cons (d := d) (ds := ds) h r, e => by
    simp only [toPyA] at e
    cases hp : toPy d with
    | none => rw [hp] at e; cases e
    | some p =>
      rw [hp] at e
      cases hq : toPyA ds with
      | none => rw [hq] at e; cases e
      | some ps => rw [hq] at e; cases e; exact .cons (Rl.dp h hp) (RlA.dp r hq)
end
def gEq (neg : Bool) : D → D → Option Bool := fun x y => (toPy x).bind fun p => (toPy y).bind fun q => if SeqAt.shaped p = true ∧ SeqAt.shaped q = true then some (if neg then !PyData.eqv p q else PyData.eqv p q) else none
theorem eq_un {neg : Bool} {x y : D} {k : Bool} (h : gEq neg x y = some k) : ∃ p q, toPy x = some p ∧ toPy y = some q ∧ SeqAt.shaped p = true ∧ SeqAt.shaped q = true ∧ k = if neg then !PyData.eqv p q else PyData.eqv p q := by
  unfold gEq at h
  cases hp : toPy x with
  | none => rw [hp] at h; cases h
  | some p =>
    rw [hp] at h
    cases hq : toPy y with
    | none => rw [hq] at h; cases h
    | some q =>
      rw [hq] at h
      have h : (if SeqAt.shaped p = true ∧ SeqAt.shaped q = true then some (if neg then !PyData.eqv p q else PyData.eqv p q) else none) = some k := h
      by_cases hs : SeqAt.shaped p = true ∧ SeqAt.shaped q = true
      · rw [if_pos hs] at h
        exact ⟨p, q, rfl, rfl, hs.1, hs.2, (Option.some.inj h).symm⟩
      · rw [if_neg hs] at h; cases h
theorem cmp_eq : BinB K ca (rEqD K) (gEq false) := fun Z H c x y d e k Q z co r1 r2 hg q => by
  obtain ⟨p, p2, h1, h2, s1, s2, rfl⟩ := eq_un hg
  exact ⟨p, p2, r1.dp h1, r2.dp h2, s1, s2, q H .refl co⟩
theorem cmp_ne : BinB K ca (rNeD K) (gEq true) := fun Z H c x y d e k Q z co r1 r2 hg q => by
  obtain ⟨p, p2, h1, h2, s1, s2, rfl⟩ := eq_un hg
  exact ⟨p, p2, r1.dp h1, r2.dp h2, s1, s2, q H .refl co⟩
/-! in: flat items; signs -/
def flD : D → Option V
  | .non => some .non
  | .bl b => some (.bl b)
  | .int i => some (.int i)
  | .str x => some (.str x)
  | _ => none
def flA : List D → Option (List V)
  | [] => some []
  | d :: ds => (flD d).bind fun v => (flA ds).map (v :: ·)
def seqOf : D → Option (List D)
  | .lst xs => some xs
  | .tup xs => some xs
  | _ => none
/-! ### len, int, abs -/
def gLen : List D → Option D
  | [.str z] => if z.length ≤ sizeLine then some (.int z.length) else none
  | [.lst xs] => some (.int xs.length)
  | [.tup xs] => some (.int xs.length)
  | [.dic ks _] => some (.int ks.length)
  | _ => none
def rLenD (K : PySem.W.Frag) : List V → Hp → VK → Prop := fun xs H Q => (∃ x n, xs = [x] ∧ LenV K x H n ∧ Q (.int n) H) ∨ ∃ a kvs, xs = [V.ref a] ∧ H a = some (.dK kvs) ∧ Q (.int kvs.length) H
theorem cr_lenD : CallR X (.builtin "len") (rLenD X.K) := CallR.or call_len call_lenD
theorem cal_len : CalD K ca (rLenD K) gLen := fun Z H c xs ds d' Q z co r hg q => by
  unfold gLen at hg
  split at hg
  · split at hg
    · rename_i hl
      cases hg
      cases r with | cons r1 r2 => cases r1; cases r2; exact .inl ⟨_, _, rfl, ⟨hl, rfl⟩, q _ H .refl (.int _) co⟩
    · cases hg
  · cases hg
    cases r with | cons r1 r2 => cases r1 with | lst n h ra => cases r2; exact .inl ⟨_, _, rfl, .inl ⟨_, SqL.of h, ra.length.symm⟩, q _ H .refl (.int _) co⟩
  · cases hg
    cases r with | cons r1 r2 => cases r1 with | tup h ra => cases r2; exact .inl ⟨_, _, rfl, .inr ⟨_, h.s, ra.length.symm⟩, q _ H .refl (.int _) co⟩
  · cases hg
    cases r with | cons r1 r2 => cases r1 with | dic n h ra => cases r2; exact .inr ⟨_, _, rfl, h, by rw [List.length_map] at q; exact q _ H .refl (.int _) co⟩
  · cases hg
def gInt : List D → Option D
  | [.int i] => some (.int i)
  | [.bl b] => some (.int (if b then 1 else 0))
  | _ => none
theorem cal_int : CalD K ca (fun xs H Q => (∃ i, xs = [.int i] ∧ Q (.int i) H) ∨ ∃ k, xs = [.bl k] ∧ Q (.int (if k then 1 else 0)) H) gInt := fun Z H c xs ds d' Q z co r hg q => by
  unfold gInt at hg
  split at hg
  · cases hg; cases r with | cons r1 r2 => cases r1; cases r2; exact .inl ⟨_, rfl, q _ H .refl (.int _) co⟩
  · cases hg; cases r with | cons r1 r2 => cases r1; cases r2; exact .inr ⟨_, rfl, q _ H .refl (.int _) co⟩
  · cases hg
def gAbs : List D → Option D
  | [.int i] => some (.int (if i < 0 then -i else i))
  | _ => none
theorem cal_abs : CalD K ca (fun xs H Q => ∃ i, xs = [.int i] ∧ Q (.int (if i < 0 then -i else i)) H) gAbs := fun Z H c xs ds d' Q z co r hg q => by
  unfold gAbs at hg
  split at hg
  · cases hg; cases r with | cons r1 r2 => cases r1; cases r2; exact ⟨_, rfl, q _ H .refl (.int _) co⟩
  · cases hg
def gStr : List D → Option D
  | [.int i] => if i.natAbs.log2 < 1920 then some (.str (toString i)) else none
  | [.str x] => some (.str x)
  | _ => none
def rStrD : List V → Hp → VK → Prop := fun xs H Q => (∃ i, xs = [.int i] ∧ i.natAbs.log2 < 1920 ∧ Q (.str (toString i)) H) ∨ ∃ a, xs = [.str a] ∧ Q (.str a) H
theorem cr_strD : CallR X (.type "str") rStrD := CallR.or call_str_int SkE.call_str_str
theorem cal_str : CalD K ca rStrD gStr := fun Z H c xs ds d' Q z co r hg q => by
  unfold gStr at hg
  split at hg
  · split at hg
    · rename_i hl
      cases hg; cases r with | cons r1 r2 => cases r1; cases r2; exact .inl ⟨_, rfl, hl, q _ H .refl (.str _) co⟩
    · cases hg
  · cases hg; cases r with | cons r1 r2 => cases r1; cases r2; exact .inr ⟨_, rfl, q _ H .refl (.str _) co⟩
  · cases hg
/-! ### subscripts -/
def gIx : D → D → Option D
  | .lst xs, .int i => atI xs i
  | .tup xs, .int i => atI xs i
  | .str z, .int i => if z.length ≤ sizeLine then (atI z.cps.toList i).map fun c => .str ⟨#[c]⟩ else none
  | _, _ => none
theorem atI_rl {Z : Addr → Prop} {H : Hp} {vs : List V} {ds : List D} {i : Int} {d : D} (r : RlA K ca Z H vs ds) (h : atI ds i = some d) : ∃ v, atI vs i = some v ∧ Rl K ca Z H v d := by
  unfold atI at h ⊢
  rw [r.length]
  cases hj : ixN ds.length i with
  | none => rw [hj] at h; cases h
  | some j => rw [hj] at h; exact r.get h
theorem ix_D : BinD K ca (rIx K) gIx := fun Z H c x y d e d' Q z co r1 r2 hg q => by
  unfold gIx at hg
  split at hg
  · cases r2
    cases r1 with | lst n h ra =>
    obtain ⟨v, h1, h2⟩ := atI_rl ra hg
    exact .inl ⟨_, _, _, _, rfl, rfl, SqL.of h, h1, q _ H .refl h2 co⟩
  · cases r2
    cases r1 with | tup h ra =>
    obtain ⟨v, h1, h2⟩ := atI_rl ra hg
    exact .inr (.inl ⟨_, _, _, _, rfl, rfl, h.s, h1, q _ H .refl h2 co⟩)
  · split at hg
    · rename_i zz i hl
      cases r1; cases r2
      cases hc : atI zz.cps.toList i with
      | none => rw [hc] at hg; cases hg
      | some ch =>
        rw [hc] at hg; cases hg
        exact .inr (.inr ⟨_, _, _, rfl, rfl, hl, hc, q _ H .refl (.str _) co⟩)
    · cases hg
  · cases hg
/-! ### slices -/
def eRev (f : Ev → M D) : Ev → M D := fun ρ => f ρ >>= fun x => liftO (match x with | .lst xs => some (.lst xs.reverse) | _ => none)
/-! ### list(x), tuple(x), all, any -/
def gTuple : List D → Option D
  | [.lst xs] => some (.tup xs)
  | [.tup xs] => some (.tup xs)
  | _ => none
theorem cal_tuple : CalD K ca (rTupN K) gTuple := fun Z H c xs ds d' Q z co r hg q => by
  unfold gTuple at hg
  split at hg
  · cases hg; cases r with | cons r1 r2 => cases r1 with | lst n h ra => cases r2; exact ⟨_, _, rfl, .inl ⟨SqL.of h, fun p o np od => q _ _ (ExtP.new np) (.tup (TupAt.of upd_same od) (ra.ext (ExtP.new (P := (· = (ca : Addr))) np) fun b e => e ▸ z.zca)) (co.new np)⟩⟩
  · cases hg; cases r with | cons r1 r2 => cases r1 with | tup h ra => cases r2; exact ⟨_, _, rfl, .inr ⟨h.s, q _ H .refl (.tup h ra) co⟩⟩
  · cases hg
def blA : List D → Option (List Bool)
  | [] => some []
  | .bl b :: ds => (blA ds).map (b :: ·)
  | _ => none
theorem blA_of {Z : Addr → Prop} {H : Hp} : ∀ {vs : List V} {ds : List D} {bs : List Bool}, RlA K ca Z H vs ds → blA ds = some bs → vs = bs.map V.bl
  | _, _, _, .nil, h => by cases h; rfl
  | _, _, _, .cons (d := d) (ds := ds) r ra, h => by
    cases r with
    | bl b =>
      unfold blA at h
      cases hs : blA ds with
      | none => rw [hs] at h; cases h
      | some ws => rw [hs] at h; cases h; rw [blA_of ra hs]; rfl
    | _ => unfold blA at h; cases h
def gAll : List D → Option D
  | [.lst xs] => (blA xs).map fun bs => .bl (bs.all id)
  | _ => none
theorem cal_all : CalD K ca (rAll K) gAll := fun Z H c xs ds d' Q z co r hg q => by
  unfold gAll at hg
  split at hg
  · rename_i ys
    cases r with | cons r1 r2 =>
    cases r2
    cases r1 with | lst n h ra =>
    cases hb : blA ys with
    | none => rw [hb] at hg; cases hg
    | some bs => rw [hb] at hg; cases hg; exact ⟨_, bs, rfl, by rw [← blA_of ra hb]; exact SqL.of h, q _ H .refl (.bl _) co⟩
  · cases hg
end
end G
set_option Elab.async false
set_option linter.all false
set_option maxRecDepth 100000
set_option maxHeartbeats 4000000
/-! G7: repr of trees. -/
namespace G
open PySem PySem.Spec PyProof.Rows L2
def encK : Key → PyData
  | .inl i => .int i
  | .inr x => .str x
mutual
def toPyR : D → Option PyData
  | .non => some .none
  | .bl b => some (.bool b)
  | .int i => some (.int i)
  | .str x => some (.str x)
  | .lst xs => (toPyRA xs).map .list
  | .tup xs => (toPyRA xs).map .tuple
  | .dic ks xs => (toPyRA xs).map fun ps => .dict ((ks.map encK).zip ps)
  | _ => none
def toPyRA : List D → Option (List PyData)
  | [] => some []
  | d :: ds => (toPyR d).bind fun p => (toPyRA ds).map (p :: ·)
end
def Sys (base : Heap) : Prop := ∃ o, base.get? sysModules = some o
section
variable {X : Cx} {ca : Dr} {Z : Addr → Prop} {pins : List (Addr × Obj)} {σ : L2.St} {H : Hp} {s : Shared}
theorem Sys.ne (y : Sys X.base) (I : L2.Inv X pins σ H s) {a : Addr} {o : HO} (h : H a = some o) : a ≠ sysModules := fun z => by
  obtain ⟨ob, e⟩ := y
  have := (I.bs _ ob e).2
  rw [← z, h] at this; cases this
theorem kv_vals : ∀ {kvs : List (Key × V)} {vs : List (Key × Value)}, KV kvs vs → Vals (kvs.map (·.2)) (vs.map (·.2))
  | _, _, .nil => .nil
  | _, _, .cons q r => .cons q.2 (kv_vals r)
theorem pairs_read {h : Heap} : ∀ {kvs : List (Key × V)} {vs : List (Key × Value)} {ps : List PyData}, KV kvs vs → (∃ as, ReadsAll h (vs.map (·.2)) ps as ∧ sysModules ∉ as) →
    ∃ bs, PyProof.V.PairsRead h encK vs ((kvs.map fun p => encK p.1).zip ps) bs ∧ sysModules ∉ bs
  | _, _, ps, .nil, ⟨as, ra, hn⟩ => by
    have ra : ReadsAll h [] ps as := ra
    cases ra
    exact ⟨[], .nil, by simp⟩
  | (k, v) :: kvs, (k', u) :: vs, ps, .cons r rs, ⟨bs0, ra, hn⟩ => by
    have ra : ReadsAll h (u :: vs.map (·.2)) ps bs0 := ra
    have e : k = k' := r.1
    subst e
    cases ra
    rename_i d ds as bs h1 h2
    obtain ⟨bs', q1, q2⟩ := pairs_read rs ⟨bs, h2, fun z => hn (List.mem_append_right _ z)⟩
    exact ⟨as ++ bs', .cons h1 q1, fun z => (List.mem_append.mp z).elim (fun z => hn (List.mem_append_left _ z)) q2⟩
mutual
theorem Rl.reads (y : Sys X.base) (I : L2.Inv X pins σ H s) : ∀ {v : V} {u : Value} {d : D} {p : PyData}, Rl X.K ca Z H v d → RelV v u → toPyR d = some p → ∃ as, Reads s.heap u p as ∧ sysModules ∉ as
  | _, _, _, _, .non, r, e => by simp only [toPyR] at e; cases e; cases r; exact ⟨_, .none, by simp⟩
  | _, _, _, _, .bl b, r, e => by simp only [toPyR] at e; cases e; cases r; exact ⟨_, .bool b, by simp⟩
  | _, _, _, _, .int b, r, e => by simp only [toPyR] at e; cases e; obtain ⟨t, rfl⟩ := r; exact ⟨_, .int b t, by simp⟩
  | _, _, _, _, .str b, r, e => by simp only [toPyR] at e; cases e; obtain ⟨t, rfl⟩ := r; exact ⟨_, .str b t, by simp⟩
  | _, _, _, _, .ty n, r, e => by simp only [toPyR] at e; cases e
  | _, _, _, _, .obj n, r, e => by simp only [toPyR] at e; cases e
  | _, _, _, _, .chn, r, e => by simp only [toPyR] at e; cases e
  | _, _, _, _, .scr _, r, e => by simp only [toPyR] at e; cases e
  | _, _, _, _, .exc _ _ _ _, r, e => by simp only [toPyR] at e; cases e
  | _, _, _, _, .exc0 _ _, r, e => by simp only [toPyR] at e; cases e
  | _, _, _, _, .ins _ _ _ _, r, e => by simp only [toPyR] at e; cases e
  | _, _, _, _, .lst (ds := ds) n h ra, r, e => by
    simp only [toPyR] at e
    cases hp : toPyRA ds with
    | none => rw [hp] at e; cases e
    | some ps =>
      rw [hp] at e; cases e; cases r
      obtain ⟨its, rv, ⟨o, m, ho, hc, _, hd⟩, _⟩ := I.list (SqL.of h)
      obtain ⟨as, q, hn⟩ := RlA.reads y I ra rv hp
      exact ⟨_, .list ho hc hd q, fun z => (List.mem_cons.mp z).elim (fun z => y.ne I h z.symm) hn⟩
  | _, _, _, _, .tup (ds := ds) h ra, r, e => by
    simp only [toPyR] at e
    cases hp : toPyRA ds with
    | none => rw [hp] at e; cases e
    | some ps =>
      rw [hp] at e; cases e; cases r
      obtain ⟨its, rv, ⟨o, ho, hc, m, hd⟩, _⟩ := I.tuple h.s
      obtain ⟨as, q, hn⟩ := RlA.reads y I ra rv hp
      exact ⟨_, .tuple ho hc hd q, hn⟩
  | _, _, _, _, .dic (kvs := kvs) (ds := ds) n h ra, r, e => by
    simp only [toPyR] at e
    cases hp : toPyRA ds with
    | none => rw [hp] at e; cases e
    | some ps =>
      rw [hp] at e; cases e; cases r
      obtain ⟨_, hsm, vs, kv, dd⟩ : kvs.length ≤ sizeLine ∧ _ ∧ ∃ vs, KV kvs vs ∧ s.heap.DictOf (mixKind X.prog X.w) _ vs := I.hok _ _ h
      have rv : Vals (kvs.map (·.2)) (vs.map (·.2)) := kv_vals kv
      have q := RlA.reads y I ra rv hp
      obtain ⟨bs, pr, hn⟩ := pairs_read kv q
      rw [List.map_map]
      refine ⟨_, PyProof.V.reads_dictOf (fun k key hk => ?_) dd pr, fun z => (List.mem_cons.mp z).elim (fun z => y.ne I h z.symm) hn⟩
      rcases keyIs_shape hk with ⟨i, t, rfl, rfl⟩ | ⟨x, t, rfl, rfl⟩
      · exact .int i t
      · exact .str x t
theorem RlA.reads (y : Sys X.base) (I : L2.Inv X pins σ H s) : ∀ {vs : List V} {us : List Value} {ds : List D} {ps : List PyData}, RlA X.K ca Z H vs ds → Vals vs us → toPyRA ds = some ps → ∃ as, ReadsAll s.heap us ps as ∧ sysModules ∉ as
  | _, _, _, _, .nil, r, e => by simp only [toPyRA] at e; cases e; cases r; exact ⟨_, .nil, by simp⟩
  | _, _, _, _, .cons (d := d) (ds := ds) h ra, r, e => by
    simp only [toPyRA] at e
    cases hp : toPyR d with
    | none => rw [hp] at e; cases e
    | some p =>
      rw [hp] at e
      cases hq : toPyRA ds with
      | none => rw [hq] at e; cases e
      | some ps =>
        rw [hq] at e; cases e
        cases r with
        | cons r1 r2 =>
          obtain ⟨as, q1, n1⟩ := Rl.reads y I h r1 hp
          obtain ⟨bs, q2, n2⟩ := RlA.reads y I ra r2 hq
          exact ⟨_, .cons q1 q2, fun z => (List.mem_append.mp z).elim n1 n2⟩
end
end
def okShow (p : PyData) : Bool := p.showable && (decide (p.shown.length ≤ sizeLine) && decide (p.depth ≤ 64))
def gRepr : List D → Option D
  | [d] => (toPyR d).bind fun p => if okShow p = true then some (.str p.shown) else none
  | _ => none
section
variable {X : Cx} {ca : Dr}
def rRepr (K : PySem.W.Frag) (ca : Dr) : List V → Hp → VK → Prop := fun xs H Q => ∃ Z v d p, xs = [v] ∧ Rl K ca Z H v d ∧ toPyR d = some p ∧ okShow p = true ∧ Q (.str p.shown) H
theorem cr_repr (y : Sys X.base) (gd : X.A.guards = some []) (hu : X.A.units + 128 < cLine) : CallR X (.builtin "repr") (rRepr X.K ca) := by
  intro pins s σ H xs us Q I r h
  obtain ⟨Z, v, d, p, rfl, rl, hp, ok, q⟩ := h
  obtain ⟨u, rfl, ru⟩ := vals1 r
  have o1 := Bool.and_eq_true_iff.mp ok
  have o2 := Bool.and_eq_true_iff.mp o1.2
  have hs := o1.1
  have hz : p.shown.length ≤ sizeLine := of_decide_eq_true o2.1
  have hd : p.depth ≤ 64 := of_decide_eq_true o2.2
  obtain ⟨as, rd, hn⟩ := rl.reads y I ru hp
  cases rl with
  | non => simp only [toPyR] at hp; cases hp; cases ru; exact PySem.P.repr_of_none ⟨.str _, H, I.tok _, ⟨_, rfl⟩, by simpa only [PyData.shown] using q⟩
  | bl b => simp only [toPyR] at hp; cases hp; cases ru; exact PySem.P.repr_of_bool ⟨.str _, H, I.tok _, ⟨_, rfl⟩, by simpa only [PyData.shown] using q⟩
  | int i =>
    simp only [toPyR] at hp; cases hp; obtain ⟨t, rfl⟩ := ru
    exact PySem.P.repr_of_int (of_decide_eq_true (by simpa only [PyData.showable] using hs)) ⟨.str _, H, I.tok _, ⟨_, rfl⟩, by simpa only [PyData.shown] using q⟩
  | str x =>
    simp only [toPyR] at hp; cases hp; obtain ⟨t, rfl⟩ := ru
    exact PySem.P.repr_of_str ⟨.str _, H, I.tok _, ⟨_, rfl⟩, by simpa only [PyData.shown] using q⟩ (by simpa only [PyData.shown] using hz)
  | ty n => simp only [toPyR] at hp; cases hp
  | obj n => simp only [toPyR] at hp; cases hp
  | chn => simp only [toPyR] at hp; cases hp
  | scr _ => simp only [toPyR] at hp; cases hp
  | exc => simp only [toPyR] at hp; cases hp
  | exc0 => simp only [toPyR] at hp; cases hp
  | ins => simp only [toPyR] at hp; cases hp
  | lst => cases ru; exact repr_of_reads' rd hs (fun _ => hn) gd (by omega) (fun _ _ e => e) (fun h' u tk hk => ⟨.str _, H, I.kept (t' := tk) hk, ⟨_, rfl⟩, q⟩) hz
  | tup => cases ru; exact repr_of_reads' rd hs (fun _ => hn) gd (by omega) (fun _ _ e => e) (fun h' u tk hk => ⟨.str _, H, I.kept (t' := tk) hk, ⟨_, rfl⟩, q⟩) hz
  | dic => cases ru; exact repr_of_reads' rd hs (fun _ => hn) gd (by omega) (fun _ _ e => e) (fun h' u tk hk => ⟨.str _, H, I.kept (t' := tk) hk, ⟨_, rfl⟩, q⟩) hz
theorem cal_repr {K : PySem.W.Frag} : CalD K ca (rRepr K ca) gRepr := fun Z H c xs ds d' Q z co r hg q => by
  unfold gRepr at hg
  split at hg
  · rename_i d
    cases r with | cons r1 r2 =>
    cases r2
    cases hp : toPyR d with
    | none => rw [hp] at hg; cases hg
    | some p =>
      rw [hp] at hg
      have hg : (if okShow p = true then some (D.str p.shown) else none) = some d' := hg
      by_cases ok : okShow p = true
      · rw [if_pos ok] at hg; cases hg
        exact ⟨Z, _, d, p, rfl, r1, hp, ok, q _ H .refl (.str _) co⟩
      · rw [if_neg ok] at hg; cases hg
  · cases hg
end
end G
set_option Elab.async false
set_option linter.all false
set_option maxRecDepth 100000
set_option maxHeartbeats 4000000
/-! G8: names of classes, constants of the module, isinstance, dicts, join. -/
namespace G
open PySem PySem.Spec PyProof.Rows L2
section
variable {X : Cx} {ca : Dr} {E : XK} {pos : Pos} {K : PySem.W.Frag}
/-- a built-in class as a value -/
theorem d_ty {x : Str} (T : String) (hm : X.mg x = none) (hv : bootBuiltins x = some (.type T)) (hg : Gl X x := by rfl) (hn : x ≠ "__name__" := by decide) (hd : (x == ("__debug__" : Str)) = false := by decide) : PE X (.Name x pos) (tD X.K ca E (eC (.ty T))) :=
  d_con (pe_bltn hg hm hv (show L2.RelV (.ty T) (.type T) from rfl) hn hd) fun _ _ => .ty T
/-! ### isinstance -/
def tyName : D → Option String
  | .non => some "NoneType"
  | .bl _ => some "bool"
  | .int _ => some "int"
  | .str _ => some "str"
  | .lst _ => some "list"
  | .tup _ => some "tuple"
  | .dic _ _ => some "dict"
  | _ => none
theorem tyX_of {Z : Addr → Prop} {H : Hp} {v : V} {d : D} {n : String} (r : Rl K ca Z H v d) (h : tyName d = some n) : TyX K H v (.type n) := by
  cases r with
  | non => cases h; exact .base .non
  | bl b => cases h; exact .base (.bl b)
  | int b => cases h; exact .base (.int b)
  | str b => cases h; exact .base (.str b)
  | ty n => cases h
  | obj a => cases h
  | chn => cases h
  | scr _ => cases h
  | exc => cases h
  | exc0 => cases h
  | ins => cases h
  | lst n hH ra => cases h; exact .base (.lst hH)
  | tup hH ra =>
    cases h
    rcases hH with ⟨o, _, hH⟩ | ⟨us, n, sl, e, _, _⟩
    · unfold tupH at hH
      split at hH
      · exact .base (.tup hH)
      · exact .fTuple hH
    · exact .kTuple e rfl
  | dic n hH ra => cases h; exact .base (.dK hH)
def subTy (a b : String) : Bool := a == b || (a == "bool" && b == "int")
def tyAs : List String := ["NoneType", "bool", "int", "str", "list", "tuple", "dict"]
def tyBs : List String := ["bool", "int", "str", "list", "tuple", "dict"]
theorem kit_all : ∀ a ∈ tyAs, ∀ b ∈ tyBs, kitB a b = some (subTy a b) := by decide +kernel
theorem ty_mem {d : D} {n : String} (h : tyName d = some n) : n ∈ tyAs := by
  cases d <;> first | (cases h; decide) | cases h
def tyNm : D → Option String
  | .ty n => if n ∈ tyBs then some n else none
  | _ => none
def tyNms : List D → Option (List String)
  | [] => some []
  | d :: ds => (tyNm d).bind fun n => (tyNms ds).map (n :: ·)
def gIsi : List D → Option D
  | [d, .tup (c :: cs)] => (tyName d).bind fun a => (tyNms (c :: cs)).map fun ns => .bl (ns.any (subTy a))
  | [d, c] => (tyName d).bind fun a => (tyNm c).map fun n => .bl (subTy a n)
  | _ => none
def rIsiD (K : PySem.W.Frag) : List V → Hp → VK → Prop := fun xs H Q => rIsi K xs H Q ∨ rIsiT K xs H Q ∨ rIsiK K xs H Q
theorem cr_isi : CallR X (.builtin "isinstance") (rIsiD X.K) := CallR.or call_isi (CallR.or call_isiT call_isiK)
theorem tyNm_of {Z : Addr → Prop} {H : Hp} {v : V} {d : D} {n : String} (r : Rl K ca Z H v d) (h : tyNm d = some n) : v = .ty n ∧ n ∈ tyBs := by
  cases r with
  | ty m =>
    have h : (if m ∈ tyBs then some m else none) = some n := h
    by_cases hm : m ∈ tyBs
    · rw [if_pos hm] at h; cases h; exact ⟨rfl, hm⟩
    · rw [if_neg hm] at h; cases h
  | _ => cases h
theorem tyNms_of {Z : Addr → Prop} {H : Hp} : ∀ {vs : List V} {ds : List D} {ns : List String}, RlA K ca Z H vs ds → tyNms ds = some ns → vs = ns.map V.ty ∧ ∀ n ∈ ns, n ∈ tyBs
  | _, _, _, .nil, h => by cases h; exact ⟨rfl, by simp⟩
  | _, _, _, .cons (d := d) (ds := ds) r ra, h => by
    unfold tyNms at h
    cases hd : tyNm d with
    | none => rw [hd] at h; cases h
    | some n =>
      rw [hd] at h
      cases hs : tyNms ds with
      | none => rw [hs] at h; cases h
      | some ns =>
        rw [hs] at h; cases h
        obtain ⟨e1, m1⟩ := tyNm_of r hd
        obtain ⟨e2, m2⟩ := tyNms_of ra hs
        exact ⟨by rw [e1, e2]; rfl, fun k hk => (List.mem_cons.mp hk).elim (fun e => e ▸ m1) (m2 k)⟩
theorem kitAny_all {a : String} (ha : a ∈ tyAs) : ∀ {ns : List String}, (∀ n ∈ ns, n ∈ tyBs) → PySem.W.kitAny K (.type a) (ns.map Value.type) = some (ns.any (subTy a))
  | [], _ => kitAny_nil
  | n :: ns, h => by
    have ih := kitAny_all ha (ns := ns) fun k hk => h k (List.mem_cons_of_mem _ hk)
    rw [List.map_cons, List.any_cons]
    refine kitAny_cons (kit_ty (kit_all a ha n (h n List.mem_cons_self))) (fun e => ?_) (fun e => ?_)
    · rw [e, Bool.false_or]; exact ih
    · rw [e, Bool.true_or]
theorem clsA : ∀ ns : List String, Paired ClsV (ns.map V.ty) (ns.map Value.type)
  | [] => .nil
  | n :: ns => .cons (.ty n) (clsA ns)
theorem cal_isi : CalD K ca (rIsiD K) gIsi := fun Z H c xs ds d' Q z co r hg q => by
  have one : ∀ {d k : D}, RlA K ca Z H xs [d, k] → ((tyName d).bind fun a => (tyNm k).map fun n => D.bl (subTy a n)) = some d' → rIsiD K xs H Q := by
    intro d k r hg
    cases r with | cons r1 r2 => cases r2 with | cons r2 r3 =>
    cases r3
    cases ha : tyName d with
    | none => rw [ha] at hg; cases hg
    | some a =>
      rw [ha] at hg
      cases hn : tyNm k with
      | none =>
        have hg : ((tyNm k).map fun n => D.bl (subTy a n)) = some d' := hg
        rw [hn] at hg; cases hg
      | some n =>
        have hg : ((tyNm k).map fun n => D.bl (subTy a n)) = some d' := hg
        rw [hn] at hg; cases hg
        obtain ⟨rfl, m⟩ := tyNm_of r2 hn
        exact .inl ⟨_, _, _, _, _, rfl, .ty n, tyX_of r1 ha, kit_ty (kit_all a (ty_mem ha) n m), q _ H .refl (.bl _) co⟩
  unfold gIsi at hg
  split at hg
  · rename_i d c0 cs
    cases r with | cons r1 r2 => cases r2 with | cons r2 r3 =>
    cases r3
    cases ha : tyName d with
    | none => rw [ha] at hg; cases hg
    | some a =>
      rw [ha] at hg
      have hg : ((tyNms (c0 :: cs)).map fun ns => D.bl (ns.any (subTy a))) = some d' := hg
      cases hn : tyNms (c0 :: cs) with
      | none => rw [hn] at hg; cases hg
      | some ns =>
        rw [hn] at hg; cases hg
        cases r2 with
        | tup hH ra =>
          obtain ⟨rfl, m⟩ := tyNms_of ra hn
          rcases hH with ⟨o, _, hH⟩ | ⟨us, k, sl, e, _, rv⟩
          · have pl : plainT (ns.map V.ty) = true := by
              cases ns with
              | nil => exact nomatch ra.length
              | cons n ns => rfl
            unfold tupH at hH
            rw [if_pos pl] at hH
            exact .inr (.inl ⟨_, _, _, _, _, _, rfl, hH, clsA ns, tyX_of r1 ha, kitAny_all (ty_mem ha) m, q _ H .refl (.bl _) co⟩)
          · have eu := ClsV.all (clsA ns) rv
            subst eu
            exact .inr (.inr ⟨_, _, _, _, _, _, _, _, rfl, e, tyX_of r1 ha, kitAny_all (ty_mem ha) m, q _ H .refl (.bl _) co⟩)
  · exact one r hg
  · cases hg
/-! ### join -/
/-! ### dicts -/
def keyD : D → Option Key
  | .int i => some (.inl i)
  | .str x => some (.inr x)
  | _ => none
def dKey : Key → D
  | .inl i => .int i
  | .inr x => .str x
/-- in its place, or at the end -/
def putD (ks : List Key) (vs : List D) (k : Key) (v : D) : List Key × List D := match ks, vs with
  | k' :: ks, v' :: vs => if k' = k then (k' :: ks, v :: vs) else let r := putD ks vs k v; (k' :: r.1, v' :: r.2)
  | ks, vs => (ks ++ [k], vs ++ [v])
def mergeD : List (Key × D) → List Key × List D → List Key × List D
  | [], a => a
  | (k, v) :: r, a => mergeD r (putD a.1 a.2 k v)
theorem keyD_of {Z : Addr → Prop} {H : Hp} {v : V} {d : D} {k : Key} (r : Rl K ca Z H v d) (h : keyD d = some k) : v = kV k := by
  cases r <;> first | (cases h; rfl) | cases h
theorem map_pos {kvs : List (Key × V)} {k : Key} {v : V} (h : ¬ k ∈ kvs.map (·.1)) : kvs.map (fun kv => if kv.1 = k then (kv.1, v) else kv) = kvs := by
  induction kvs with
  | nil => rfl
  | cons p r ih =>
    rw [List.map_cons, if_neg (fun e => h (by rw [List.map_cons, e]; exact List.mem_cons_self)), ih fun m => h (by rw [List.map_cons]; exact List.mem_cons_of_mem _ m)]
theorem putK_cons_eq {p : Key × V} {r : List (Key × V)} {k : Key} {v : V} (hn : ((p :: r).map (·.1)).Nodup) (e : p.1 = k) : putK (p :: r) k v = (k, v) :: r := by
  unfold putK
  rw [if_pos (by rw [List.any_cons, decide_eq_true e, Bool.true_or]), List.map_cons, if_pos e, e]
  rw [List.map_cons, List.nodup_cons, e] at hn
  rw [map_pos hn.1]
theorem putK_cons_ne {p : Key × V} {r : List (Key × V)} {k : Key} {v : V} (e : ¬ p.1 = k) : putK (p :: r) k v = p :: putK r k v := by
  unfold putK
  rw [List.any_cons, decide_eq_false e, Bool.false_or]
  by_cases h : (r.any fun kv => decide (kv.1 = k)) = true
  · rw [if_pos h, if_pos h, List.map_cons, if_neg e]
  · rw [if_neg h, if_neg h]; rfl
theorem putK_keys {r : List (Key × V)} {k : Key} {v : V} (hn : (r.map (·.1)).Nodup) : ((putK r k v).map (·.1)).Nodup ∧ (∀ j, j ∈ (putK r k v).map (·.1) ↔ j ∈ r.map (·.1) ∨ j = k) := by
  induction r with
  | nil => simp [putK]
  | cons p r ih =>
    have hn' := hn
    rw [List.map_cons, List.nodup_cons] at hn'
    by_cases e : p.1 = k
    · rw [putK_cons_eq hn e]
      subst e
      refine ⟨hn, fun j => ?_⟩
      simp
      intro h; exact .inl h
    · rw [putK_cons_ne e]
      obtain ⟨h1, h2⟩ := ih hn'.2
      refine ⟨?_, fun j => ?_⟩
      · rw [List.map_cons, List.nodup_cons]
        exact ⟨fun m => ((h2 _).mp m).elim hn'.1 e, h1⟩
      · rw [List.map_cons, List.mem_cons, h2, List.map_cons, List.mem_cons, or_assoc]
theorem rl_put {Z : Addr → Prop} {H : Hp} : ∀ {kvs : List (Key × V)} {ds : List D} {k : Key} {v : V} {d : D}, (kvs.map (·.1)).Nodup → RlA K ca Z H (kvs.map (·.2)) ds → Rl K ca Z H v d →
    (putK kvs k v).map (·.1) = (putD (kvs.map (·.1)) ds k d).1 ∧ RlA K ca Z H ((putK kvs k v).map (·.2)) (putD (kvs.map (·.1)) ds k d).2
  | [], ds, k, v, d, _, ra, r => by
    have ra : RlA K ca Z H [] ds := ra
    cases ra
    exact ⟨rfl, .cons r .nil⟩
  | p :: kvs, d' :: ds, k, v, d, hn, .cons r1 ra, r => by
    by_cases e : p.1 = k
    · rw [putK_cons_eq hn e]
      have e2 : putD ((p :: kvs).map (·.1)) (d' :: ds) k d = (p.1 :: kvs.map (·.1), d :: ds) := by
        show (if p.1 = k then (p.1 :: kvs.map (·.1), d :: ds) else _) = _
        rw [if_pos e]
      rw [e2]
      exact ⟨by rw [List.map_cons, e], .cons r ra⟩
    · rw [putK_cons_ne e]
      rw [List.map_cons, List.nodup_cons] at hn
      obtain ⟨h1, h2⟩ := rl_put (k := k) (v := v) (d := d) hn.2 ra r
      have e2 : putD ((p :: kvs).map (·.1)) (d' :: ds) k d = (p.1 :: (putD (kvs.map (·.1)) ds k d).1, d' :: (putD (kvs.map (·.1)) ds k d).2) := by
        show (if p.1 = k then (p.1 :: kvs.map (·.1), d :: ds) else _) = _
        rw [if_neg e]
      rw [e2]
      exact ⟨by rw [List.map_cons, h1], .cons r1 h2⟩
theorem rl_merge {Z : Addr → Prop} {H : Hp} : ∀ {more : List (Key × V)} {mds : List D} {kvs : List (Key × V)} {ds : List D}, (kvs.map (·.1)).Nodup → RlA K ca Z H (kvs.map (·.2)) ds → RlA K ca Z H (more.map (·.2)) mds →
    (mergeK kvs more).map (·.1) = (mergeD ((more.map (·.1)).zip mds) (kvs.map (·.1), ds)).1 ∧ RlA K ca Z H ((mergeK kvs more).map (·.2)) (mergeD ((more.map (·.1)).zip mds) (kvs.map (·.1), ds)).2
  | [], mds, kvs, ds, _, ra, rm => by
    have rm : RlA K ca Z H [] mds := rm
    cases rm
    exact ⟨rfl, ra⟩
  | (k, v) :: more, d :: mds, kvs, ds, hn, ra, .cons r1 rm => by
    obtain ⟨e1, r2⟩ := rl_put (k := k) (v := v) (d := d) hn ra r1
    have := rl_merge (more := more) (mds := mds) (putK_keys (k := k) (v := v) hn).1 r2 rm
    rw [e1] at this
    exact this
end
end G
set_option Elab.async false
set_option linter.all false
set_option maxRecDepth 100000
set_option maxHeartbeats 4000000
/-! G9: dict displays, dict(pairs), list(d.items()). -/
namespace G
open PySem PySem.Spec PyProof.Rows L2
/-- the pairs of a display, key ahead of value -/
def ePairs : List ((Ev → M D) × (Ev → M D)) → Ev → M (List (Key × D))
  | [], _ => pure []
  | (fk, fv) :: r, ρ => fk ρ >>= fun x => liftO (keyD x) >>= fun k => fv ρ >>= fun v => ePairs r ρ >>= fun ps => pure ((k, v) :: ps)
def mkDic (ps : List (Key × D)) : D := let r := mergeD ps ([], []); .dic r.1 r.2
def eDict (ps : List ((Ev → M D) × (Ev → M D))) : Ev → M D := fun ρ => ePairs ps ρ >>= fun kvs => if kvs.length ≤ 15 then pure (mkDic kvs) else stuck
section
variable {X : Cx} {ca : Dr} {E : XK} {pos : Pos} {K : PySem.W.Frag}
def trOf (K : PySem.W.Frag) (ca : Dr) (E : XK) (ps : List ((Ev → M D) × (Ev → M D))) : List (TE × TE) := ps.map fun p => (tD K ca E p.1, tD K ca E p.2)
theorem dp_nil : PPs X pos [] [] (trOf X.K ca E []) := pps_nil
theorem dp_cons {k v : Expr} {ks : List (Option Expr)} {vs : List Expr} {fk fv : Ev → M D} {ps : List ((Ev → M D) × (Ev → M D))} (hk : PE X k (tD X.K ca E fk)) (hv : PE X v (tD X.K ca E fv)) (hr : PPs X pos ks vs (trOf X.K ca E ps)) :
    PPs X pos (some k :: ks) (v :: vs) (trOf X.K ca E ((fk, fv) :: ps)) := pps_cons hk hv hr
theorem pairs_run {Z Y : Addr → Prop} : ∀ {ps : List ((Ev → M D) × (Ev → M D))} {σ : L2.St} {ρ : Ev} {H : Hp} {c : Churn} {Q : List (V × V) → Hp → Prop}, EnvOk X.K ca Z Y H σ ρ → ChOk X.K ca H c →
    Do X.K ca E (U Z Y) H (ePairs ps ρ c) (fun kds c' => ∀ (kvs : List (Key × V)) (H' : Hp), Ext ca H H' → kvs.map (·.1) = kds.map (·.1) → RlA X.K ca (U Z Y) H' (kvs.map (·.2)) (kds.map (·.2)) → ChOk X.K ca H' c' → Q (kvs.map fun kv => (kV kv.1, kv.2)) H') → tPairs (trOf X.K ca E ps) σ H Q
  | [], σ, ρ, H, c, Q, eo, co, h => h [] H .refl rfl .nil co
  | (fk, fv) :: r, σ, ρ, H, c, Q, eo, co, h => by
    refine ⟨Z, Y, ρ, c, eo, co, (Do.bind h).mono fun d c1 h1 x H1 e1 r1 co1 => ?_⟩
    obtain ⟨k, hk, h2⟩ := Do.lift (Do.bind h1)
    have ex := keyD_of r1 hk
    refine ⟨Z, Y, ρ, c1, eo.ext e1, co1, ((Do.bind h2).ext e1).mono fun d2 c2 h3 y H2 e2 r2 co2 => ?_⟩
    refine pairs_run (eo.ext (e1.trans e2)) co2 (((Do.bind h3).ext (e1.trans e2)).mono fun kds c3 h4 kvs H3 e3 ek ra co3 => ?_)
    have := h4 ((k, y) :: kvs) H3 ((e1.trans e2).trans e3) (by rw [List.map_cons, List.map_cons, ek]) (.cons (r2.ext e3 eo.zc) ra) co3
    rw [List.map_cons] at this
    rw [ex]
    exact this
theorem zip_self {α β : Type} : ∀ l : List (α × β), (l.map (·.1)).zip (l.map (·.2)) = l
  | [] => rfl
  | q :: r => by rw [List.map_cons, List.map_cons, List.zip_cons_cons, zip_self r]
theorem Do.anti {K : PySem.W.Frag} {Z Z' : Addr → Prop} {H : Hp} {α : Type} {r : R α} {k : α → Churn → Prop} (hz : ∀ b, Z b → Z' b) (h : Do K ca E Z H r k) : Do K ca E Z' H r k :=
  At.mono h (fun _ _ z => z) fun x c z cv od H' e ⟨q0, q1, d, fs, q2, q3, q4, q5⟩ co => z cv od H' e ⟨q0, q1, d, fs, q2, q3, q4, q5.anti hz⟩ co
theorem d_dict {keys : List (Option Expr)} {values : List Expr} {ps : List ((Ev → M D) × (Ev → M D))} (h : PPs X pos keys values (trOf X.K ca E ps)) (hall : keys.all (·.isSome) = true := by rfl) (hl : keys.length = values.length := by rfl) (h0 : keys ≠ [] := by intro z; cases z) (h15 : keys.length ≤ 15 := by decide) :
    PE X (.Dict keys values pos) (tD X.K ca E (eDict ps)) := by
  refine ⟨fun pins s σ H Q I hw => (pe_disp h hall hl h0 h15).run pins s σ H Q I ?_⟩
  obtain ⟨Z, Y, ρ, c, eo, co, hw⟩ := hw
  intro p np
  have n0 : ExtP (fun b : Addr => b = ca) H (upd H p (.dK [])) := ExtP.new np
  have npca : p ≠ ca := co.ne np
  have eb : EnvOk X.K ca Z (fun b => Y b ∨ b = p) (upd H p (.dK [])) σ ρ := eo.blk np npca.symm (fun z => by have q := co.2.1; rw [z, np] at q; cases q) n0 upd_same
  refine pairs_run eb (co.new np) ((((Do.bind hw).ext n0).anti fun b z => z.imp id .inl).mono fun kds c1 h1 kvs H1 e1 ek ra co1 => ?_)
  by_cases hz : kds.length ≤ 15
  · rw [if_pos hz] at h1
    have h1 : ∀ v H', Ext ca H H' → Rl X.K ca (U Z Y) H' v (mkDic kds) → ChOk X.K ca H' c1 → Q v H' := h1
    have hp1 : H1 p = some (.dK []) := e1.at_ upd_same (.inl npca)
    have hlen : kvs.length = kds.length := by have := congrArg List.length ek; simpa using this
    have xp : ExtP (fun b => b = p) H1 (upd H1 p (.dK (mergeK [] kvs))) := fun b o q => by
      by_cases hb : b = p
      · subst hb
        rw [hp1] at q; cases q
        exact .inr (.inl ⟨rfl, trivial, _, upd_same, trivial⟩)
      · exact .inl (by rw [upd_ne hb]; exact q)
    refine ⟨hp1, kvs, rfl, by omega, h1 _ _ ?_ ?_ ?_⟩
    · intro b o q
      have nb : b ≠ p := fun z => by rw [z, np] at q; cases q
      rw [upd_ne nb]
      exact (n0.trans e1) b o q
    · have m := rl_merge (K := X.K) (ca := ca) (Z := U Z fun b => Y b ∨ b = p) (H := H1) (more := kvs) (mds := kds.map (·.2)) (kvs := []) (ds := []) List.nodup_nil .nil ra
      rw [ek, zip_self] at m
      have r3 := (m.2.ext xp fun b z => .inr (.inr z)).anti (Z' := U Z Y) fun b z => z.imp id .inl
      have r4 := Rl.dic (K := X.K) (ca := ca) (Z := U Z Y) (eo.zok.free np) (upd_same (H := H1) (a := p) (o := .dK (mergeK [] kvs))) r3
      rw [m.1] at r4
      exact r4
    · obtain ⟨q1, q2, q3⟩ := co1
      exact ⟨by rw [upd_ne (Ne.symm npca)]; exact q1, by rw [upd_ne (fun z => by rw [z, hp1] at q2; cases q2)]; exact q2, tabs_upd q3 hp1⟩
  · rw [if_neg hz] at h1; exact h1.elim
/-! ### dict(pairs) -/
/-! ### list(d.items()) -/
def itemsD (ks : List Key) (vs : List D) : List D := (ks.zip vs).map fun p => .tup [dKey p.1, p.2]
def eItems (f : Ev → M D) : Ev → M D := fun ρ => f ρ >>= fun d => liftO (match d with | .dic ks vs => some (.lst (itemsD ks vs)) | _ => none)
end
end G
set_option Elab.async false
set_option linter.all false
set_option maxRecDepth 100000
set_option maxHeartbeats 8000000
/-! GN: lists and dicts of a def's own, that change. -/
namespace G
open PySem PySem.Spec PyProof.Rows L2
section
variable {K : PySem.W.Frag} {ca : Dr} {E : XK} {Z Y : Addr → Prop} {H H1 : Hp} {σ : L2.St} {ρ : Ev}
theorem ext_upd {a : Addr} {o o' : HO} (h : H a = some o) (m : MuO o) (m' : MuO o') : ExtP (· = a) H (upd H a o') := fun b x e => by
  by_cases hb : b = a
  · subst hb
    rw [h] at e; cases e
    exact .inr (.inl ⟨rfl, m, _, upd_same, m'⟩)
  · exact .inl (by rw [upd_ne hb]; exact e)
theorem EnvOk.chg (e : EnvOk K ca Z Y H σ ρ) {i : Nat} {a : Addr} {d d' : D} {o' : HO} (hi : ρ[i]? = some (.own d)) (hs : σ[i]? = some (some (.ref a))) (x : ExtP (· = a) H (upd H a o')) (ya : Y a) (t : Top K ca (U Z Y) (upd H a o') a d') :
    EnvOk K ca Z Y (upd H a o') σ (ρ.set i (.own d')) where
  zok := e.zok.ext x
  zca := e.zca
  yca := e.yca
  len := by rw [List.length_set, e.len]
  val := fun j d2 h => by
    rw [List.getElem?_set] at h
    by_cases hj : i = j
    · subst hj
      rw [if_pos rfl] at h
      split at h <;> cases h
    · rw [if_neg hj] at h
      obtain ⟨v, h1, h2⟩ := e.val j d2 h
      exact ⟨v, h1, h2.ext x fun b z => z ▸ .inr ya⟩
  own := fun j d2 h => by
    rw [List.getElem?_set] at h
    by_cases hj : i = j
    · subst hj
      rw [if_pos rfl] at h
      split at h
      · cases h
        exact ⟨a, hs, ya, t⟩
      · cases h
    · rw [if_neg hj] at h
      obtain ⟨a2, h1, h2, h3⟩ := e.own j d2 h
      refine ⟨a2, h1, h2, h3.ext x (fun b z => z ▸ .inr ya) fun z => hj ?_⟩
      subst z
      exact e.inj i j a2 d d2 hi h hs h1
  dis := e.dis
  inj := fun j k b d1 d2 h1 h2 h3 h4 => by
    have back : ∀ {j : Nat} {d2 : D}, (ρ.set i (.own d'))[j]? = some (.own d2) → ∃ d3, ρ[j]? = some (.own d3) := fun {j d2} h => by
      rw [List.getElem?_set] at h
      by_cases hj : i = j
      · subst hj; exact ⟨d, hi⟩
      · rw [if_neg hj] at h; exact ⟨_, h⟩
    obtain ⟨_, q1⟩ := back h1
    obtain ⟨_, q2⟩ := back h2
    exact e.inj j k b _ _ q1 q2 h3 h4
theorem Step.chg {a : Addr} {o' : HO} (x : ExtP (· = a) H (upd H a o')) (ya : Y a) : Step ca Y H Y (upd H a o') := ⟨x.mono fun b z => .inr (z ▸ ya), fun _ h => .inl h⟩
theorem ChOk.chg {c : Churn} {a : Addr} {o' : HO} {i : Nat} {d : D} (e : EnvOk K ca Z Y H σ ρ) (co : ChOk K ca H c) (ya : Y a) (t : Top K ca (U Z Y) H a d) : ChOk K ca (upd H a o') c := by
  have h1 : (ca : Addr) ≠ a := fun z => e.yca (by rw [z]; exact ya)
  have h2 : ca.cc ≠ a := fun z => e.zok.zcc (.inr (by rw [z]; exact ya))
  obtain ⟨o, h3, m⟩ := t.some
  exact ⟨by rw [upd_ne h1]; exact co.1, by rw [upd_ne h2]; exact co.2.1, tabs_upd co.2.2 h3 (by cases o <;> first | trivial | exact m.elim)⟩
theorem Top.later {a : Addr} {d : D} {W W' P : Addr → Prop} (h : Top K ca W H a d) (g : ∀ b, W' b → W b ∨ H b = none) (hP : ∀ b, P b → W b) (ex : ExtP P H H1) (n : ¬ P a) : Top K ca W' H1 a d :=
  ((h.grow (Z' := fun b => W b ∨ W' b) fun b z => z.elim .inl (g b)).ext ex (fun b z => .inl (hP b z)) n).anti fun b z => .inr z
/-- a slot gets a new list or dict for its own -/
theorem EnvOk.give (e : EnvOk K ca Z Y H σ ρ) (x : Ext ca H H1) {c : Churn} (co : ChOk K ca H c) (i : Nat) {p : Addr} {d : D} (n : H p = none) (t : Top K ca (U Z fun b => Y b ∨ b = p) H1 p d) : EnvOk K ca Z (fun b => Y b ∨ b = p) H1 (σ.set i (some (.ref p))) (ρ.set i (.own d)) := by
  have g : ∀ b, U Z (fun b => Y b ∨ b = p) b → U Z Y b ∨ H b = none := fun b z => z.elim (fun z => .inl (.inl z)) fun z => z.elim (fun z => .inl (.inr z)) fun z => .inr (z ▸ n)
  have nca : p ≠ ca := co.ne n
  have ncc : ca.cc ≠ p := fun z => by
    have q := co.2.1
    rw [z, n] at q; cases q
  have no : ∀ b, U Z Y b → b ≠ p := fun b z q => by
    obtain ⟨o, h⟩ := e.zok.zin b z
    rw [q, n] at h; cases h
  refine ⟨⟨.inl e.zca, fun z => z.elim (fun z => e.zok.zcc (.inl z)) fun z => z.elim (fun z => e.zok.zcc (.inr z)) ncc, fun b z => ?_⟩, e.zca, fun z => z.elim e.yca fun z => nca z.symm, by rw [List.length_set, List.length_set, e.len], fun j d' h => ?_, fun j d' h => ?_, fun b z q => ?_, fun j k b d1 d2 h1 h2 h3 h4 => ?_⟩
  · rcases z with z | z | z
    · exact x.thereS (e.zok.zin b (.inl z))
    · exact x.thereS (e.zok.zin b (.inr z))
    · subst z
      obtain ⟨o, hp, _⟩ := t.some
      exact ⟨o, hp⟩
  · rw [List.getElem?_set] at h ⊢
    by_cases hj : i = j
    · subst hj
      rw [if_pos rfl] at h
      split at h <;> cases h
    · rw [if_neg hj] at h ⊢
      obtain ⟨v, h1, h2⟩ := e.val j d' h
      exact ⟨v, h1, h2.later g e.zc x⟩
  · rw [List.getElem?_set] at h ⊢
    by_cases hj : i = j
    · subst hj
      rw [if_pos rfl] at h ⊢
      by_cases hl : i < ρ.length
      · rw [if_pos hl] at h
        rw [if_pos (e.len ▸ hl)]
        cases h
        exact ⟨p, rfl, .inr rfl, t⟩
      · rw [if_neg hl] at h; cases h
    · rw [if_neg hj] at h ⊢
      obtain ⟨a, h1, h2, h3⟩ := e.own j d' h
      exact ⟨a, h1, .inl h2, h3.later g e.zc x fun z => e.yca (z ▸ h2)⟩
  · rcases z with z | z
    · exact e.dis b z q
    · exact no b (.inl q) z
  · rw [List.getElem?_set] at h1 h2 h3 h4
    by_cases hj : i = j
    · by_cases hk : i = k
      · rw [← hj, ← hk]
      · rw [if_neg hk] at h2 h4
        rw [if_pos hj] at h3
        split at h3
        · cases h3
          obtain ⟨a, q1, q2, _⟩ := e.own k d2 h2
          rw [h4] at q1; cases q1
          exact absurd rfl (no _ (.inr q2))
        · cases h3
    · rw [if_neg hj] at h1 h3
      by_cases hk : i = k
      · rw [if_pos hk] at h4
        split at h4
        · cases h4
          obtain ⟨a, q1, q2, _⟩ := e.own j d1 h1
          rw [h3] at q1; cases q1
          exact absurd rfl (no _ (.inr q2))
        · cases h4
      · rw [if_neg hk] at h2 h4
        exact e.inj j k b d1 d2 h1 h2 h3 h4
theorem Step.give (x : Ext ca H H1) {p : Addr} (n : H p = none) : Step ca Y H (fun b => Y b ∨ b = p) H1 := ⟨x.mono fun b z => .inl z, fun b z => z.imp id fun z => by rw [z]; exact n⟩
/-- no more changes: a tree like others -/
def frzE (i : Nat) (ρ : Ev) : Ev := match ρ[i]? with
  | some (.own d) => ρ.set i (.val d)
  | _ => ρ
theorem EnvOk.frz (e : EnvOk K ca Z Y H σ ρ) (i : Nat) : ∃ Y', (∀ b, Y' b → Y b) ∧ EnvOk K ca Z Y' H σ (frzE i ρ) := by
  unfold frzE
  split
  · rename_i d hi
    obtain ⟨a, h1, h2, h3⟩ := e.own i d hi
    have sub : ∀ b, U Z (fun b => Y b ∧ b ≠ a) b → U Z Y b := fun b z => z.imp id And.left
    refine ⟨fun b => Y b ∧ b ≠ a, fun b z => z.1, ⟨.inl e.zca, fun z => e.zok.zcc (sub _ z), fun b z => e.zok.zin b (sub b z)⟩, e.zca, fun z => e.yca z.1, by rw [List.length_set, e.len], fun j d' h => ?_, fun j d' h => ?_, fun b z => e.dis b z.1, fun j k b d1 d2 q1 q2 q3 q4 => ?_⟩
    · rw [List.getElem?_set] at h
      by_cases hj : i = j
      · subst hj
        rw [if_pos rfl] at h
        split at h
        · cases h
          exact ⟨_, h1, (h3.anti sub).rl fun z => z.elim (e.dis a h2) fun z => z.2 rfl⟩
        · cases h
      · rw [if_neg hj] at h
        obtain ⟨v, q1, q2⟩ := e.val j d' h
        exact ⟨v, q1, q2.anti sub⟩
    · rw [List.getElem?_set] at h
      by_cases hj : i = j
      · subst hj
        rw [if_pos rfl] at h
        split at h <;> cases h
      · rw [if_neg hj] at h
        obtain ⟨b, q1, q2, q3⟩ := e.own j d' h
        exact ⟨b, q1, ⟨q2, fun z => hj (e.inj i j a d d' hi h h1 (z ▸ q1))⟩, q3.anti sub⟩
    · have ne : ∀ {j : Nat} {d2 : D}, (ρ.set i (.val d))[j]? = some (.own d2) → i ≠ j := fun {j d2} h z => by
        subst z
        rw [List.getElem?_set, if_pos rfl] at h
        split at h <;> cases h
      have n1 := ne q1
      have n2 := ne q2
      rw [List.getElem?_set, if_neg n1] at q1
      rw [List.getElem?_set, if_neg n2] at q2
      exact e.inj j k b d1 d2 q1 q2 q3 q4
  · exact ⟨Y, fun _ z => z, e⟩
end
/-! ### rules -/
def sOwn (i : Nat) (f : Ev → M D) : Sm := fun ρ => f ρ >>= fun d => pure (ρ.set i (.own d), .nx)
/-- ahead of a statement: slot i changes no more -/
def sFz (i : Nat) (g : Sm) : Sm := fun ρ => g (frzE i ρ)
def isFlat : D → Bool
  | .non => true
  | .bl _ => true
  | .int _ => true
  | .str _ => true
  | .ty _ => true
  | .obj _ => true
  | _ => false
def eBor (i : Nat) (f : Ev → M D) : Ev → M D := fun ρ => nx (f (frzE i ρ)) >>= fun d => if isFlat d = true then pure d else stuck
def cBor (i : Nat) (f : Ev → M Bool) : Ev → M Bool := fun ρ => nx (f (frzE i ρ))
section
variable {X : Cx} {ca : Dr} {E : XK} {e : Expr} {st : Stmt} {pos : Pos} {f : Ev → M D} {g : Sm} {cnd : Ev → M Bool}
theorem s_own (i : Nat) {x : Str} {pos' : Pos} (hN : X.N.Nodup) (he : PE X e (tF X.K ca E f)) (hi : X.N[i]? = some x := by rfl) (hx : Loc X.env.scope x := by first | exact Or.inl rfl | exact Or.inr rfl)
    (hs : swapsWith e (some (.Name x pos')) pos.line X.env = pure false := by rfl) (hf : X.fn x = true ∨ X.env.scope.names.lookup x = some .local := by first | exact .inl rfl | exact .inr rfl) :
    PS X (.Assign [.Name x pos'] e pos) (tS X.K ca E (sOwn i f)) := by
  refine ⟨fun pins s σ H Dn I h => (ps_set hN hi hx he hs hf).run pins s σ H Dn I ?_⟩
  obtain ⟨Z, Y, ρ, c, eo, co, h⟩ := h
  refine ⟨Z, Y, ρ, c, eo, co, (DoS.expr h).mono fun d c1 h1 p H1 n e1 t co1 => ?_⟩
  exact h1 _ _ H1 (.give e1 n) (eo.give e1 co i n t) co1
theorem s_fz (i : Nat) (h : PS X st (tS X.K ca E g)) : PS X st (tS X.K ca E (sFz i g)) := by
  refine ⟨fun pins s σ H Dn I q => h.run pins s σ H Dn I ?_⟩
  obtain ⟨Z, Y, ρ, c, eo, co, q⟩ := q
  obtain ⟨Y', sub, eo'⟩ := eo.frz i
  exact ⟨Z, Y', frzE i ρ, c, eo', co, DoS.step ⟨.refl, fun b z => .inl (sub b z)⟩ q⟩
end
end G
set_option Elab.async false
set_option linter.all false
set_option maxRecDepth 100000
set_option maxHeartbeats 8000000
/-! GO: what changes a list or dict of a def's own. -/
namespace G
open PySem PySem.Spec PyProof.Rows L2
/-- a method that changes its object: what it gives, and what the object is then -/
def MutD (K : PySem.W.Frag) (ca : Dr) (T : String) (r : V → List V → Hp → VK → Prop) (gm : D → List D → Option (D × D)) : Prop := ∀ (W : Addr → Prop) (H : Hp) (a : Addr) (xs : List V) (ds : List D) (d y d' : D) (Q : VK), W a → Top K ca W H a d → RlA K ca W H xs ds → gm d ds = some (y, d') →
  (∀ v o', ExtP (· = a) H (upd H a o') → Top K ca W (upd H a o') a d' → Rl K ca W (upd H a o') v y → Q v (upd H a o')) → r (.ref a) xs H Q
def gAppend : D → List D → Option (D × D)
  | .lst xs, [y] => if xs.length < sizeLine then some (.non, .lst (xs ++ [y])) else none
  | _, _ => none
section
variable {K : PySem.W.Frag} {ca : Dr} {W : Addr → Prop} {H : Hp}
theorem RlA.set {vs : List V} {ds : List D} {v : V} {d : D} (r : RlA K ca W H vs ds) (h : Rl K ca W H v d) : ∀ k : Nat, RlA K ca W H (vs.set k v) (ds.set k d) := by
  induction ds generalizing vs with
  | nil => intro k; cases r; exact .nil
  | cons d0 ds ih =>
    intro k
    cases r with
    | cons r1 r2 =>
      cases k with
      | zero => exact .cons h r2
      | succ k => exact .cons r1 (ih r2 k)
theorem chgL {a : Addr} {vs ws : List V} {ds : List D} (wa : W a) (h : H a = some (.lst vs)) (r : RlA K ca W H ws ds) : ExtP (· = a) H (upd H a (.lst ws)) ∧ Top K ca W (upd H a (.lst ws)) a (.lst ds) := by
  have x := ext_upd (o' := .lst ws) h trivial trivial
  exact ⟨x, ws, upd_same, r.ext x fun b z => by rw [z]; exact wa⟩
theorem mut_append : MutD K ca "list" rAppend gAppend := fun W H a xs ds d y d' Q wa t r hg q => by
  unfold gAppend at hg
  split at hg
  · rename_i ys y0
    obtain ⟨vs, h, rv⟩ := t
    split at hg
    · rename_i hl
      cases hg
      match xs, r with
      | [v], .cons r1 .nil =>
        obtain ⟨x, t'⟩ := chgL wa h (rv.snoc r1)
        exact ⟨a, vs, v, rfl, rfl, h, by rw [rv.length]; exact hl, q _ _ x t' .non⟩
    · cases hg
  · cases hg
end
/-- x.m(..) as a statement -/
def sMut (i : Nat) (T : String) (gm : D → List D → Option (D × D)) (fs : Ev → M (List D)) : Sm := fun ρ => match ρ[i]? with
  | some (.own d) => if tyD T d = true then fs ρ >>= fun xs => liftO (gm d xs) >>= fun p => pure (ρ.set i (.own p.2), .nx) else stuck
  | _ => stuck
/-- x[k] = e -/
def sPut (i : Nat) (gm : D → D → D → Option D) (fv fi : Ev → M D) : Sm := fun ρ => fv ρ >>= fun v => match ρ[i]? with
  | some (.own d) => fi ρ >>= fun k => liftO (gm d k v) >>= fun d' => pure (ρ.set i (.own d'), .nx)
  | _ => stuck
section
variable {X : Cx} {ca : Dr} {E : XK} {e o : Expr} {es : List Expr} {pos apos cpos vpos spos : Pos} {f fi : Ev → M D} {fs : Ev → M (List D)} {T id : String} {name x y : Str} {r : V → List V → Hp → VK → Prop} {gm : D → List D → Option (D × D)}
theorem tyV_own {K : PySem.W.Frag} {W : Addr → Prop} {H : Hp} {a : Addr} {d : D} (t : Top K ca W H a d) (h : tyD T d = true) : tyV K T (.ref a) H := by
  unfold Top at t
  split at t
  · obtain ⟨vs, h1, _⟩ := t
    refine .inl ⟨?_, vs, SqL.of h1⟩
    unfold tyD at h
    split at h <;> first | rfl | (cases h; done) | (rename_i z; cases z; done) | skip
    all_goals simp_all
  · obtain ⟨kvs, h1, _⟩ := t
    refine .inr (.inr (.inl ⟨?_, .inl ⟨kvs, h1⟩⟩))
    unfold tyD at h
    split at h <;> first | rfl | (cases h; done) | (rename_i z; cases z; done) | skip
    all_goals simp_all
  · exact t.elim
theorem s_mut (i : Nat) (pa : PlainAttrs T) (slot : Slot T name id) (hty : typeOf (.builtin id) = pure (.type "method_descriptor")) (hm : MtR X id r) (hr : MutD X.K ca T r gm) (ha : PA X (e :: es) (tAs X.K ca E fs))
    (hN : X.N[i]? = some x := by rfl) (hv : Vis X.env.scope x := by first | exact Or.inl rfl | exact Or.inr (Or.inl rfl) | exact Or.inr (Or.inr rfl)) (hd : (x == ("__debug__" : Str)) = false := by decide) (hcd : (x == ("__classdict__" : Str)) = false := by decide)
    (hbase : attributeBase (.Name x vpos) name X.env (eval (.Name x vpos) X.env) = eval (.Name x vpos) X.env := by rfl)
    (hfew : ((backTo cpos (starEach (e :: es) X.env)).all (fun x => !x.1) && (backToKw cpos (keywordEach [] X.env)).all (fun x => x.1.isSome)
      && decide ((e :: es).length + ([] : List Keyword).length + (if ([] : List Keyword).isEmpty then 0 else 1) < 30)) = true := by rfl)
    (hline : (apos.endLine == cpos.line) = true := by rfl) (hst : starEach (e :: es) X.env = (false, eval e X.env) :: starEach es X.env := by rfl) (hpl : (backTo cpos (starEach es X.env)).any (·.1) = false := by rfl)
    (hs : swapsWith (.Call (.Attribute (.Name x vpos) name apos) (e :: es) [] cpos) none pos.line X.env = pure false := by rfl) :
    PS X (.Expr (.Call (.Attribute (.Name x vpos) name apos) (e :: es) [] cpos) pos) (tS X.K ca E (sMut i T gm fs)) := by
  refine ⟨fun pins s σ H Dn I h => (ps_expr (pe_bm pa slot hty hm (pe_var (i := i) hN hv hd hcd) ha hbase hfew hline hst hpl) hs).run pins s σ H Dn I ?_⟩
  obtain ⟨Z, Y, ρ, c, eo, co, h⟩ := h
  unfold sMut at h
  cases hi : ρ[i]? with
  | none => rw [hi] at h; exact h.elim
  | some sl =>
    rw [hi] at h
    cases sl with
    | no => exact h.elim
    | val d => exact h.elim
    | own d =>
      by_cases ht : tyD T d = true
      · have h : DoS X.K ca E Z Dn Y H ((if tyD T d = true then fs ρ >>= fun xs => liftO (gm d xs) >>= fun p => pure (ρ.set i (.own p.2), Ctl.nx) else stuck) c) := h
        rw [if_pos ht] at h
        obtain ⟨a, h1, h2, h3⟩ := eo.own i d hi
        refine ⟨.ref a, h1, tyV_own h3 ht, Z, Y, ρ, c, eo, co, (DoS.expr h).mono fun ds c1 q1 vs H2 e2 r2 co2 => ?_⟩
        obtain ⟨p, hg, q2⟩ := Do.lift (DoS.expr q1)
        have eo2 := eo.ext e2
        obtain ⟨a', k1, k2, k3⟩ := eo2.own i d hi
        rw [h1] at k1; cases k1
        exact hr (U Z Y) H2 a vs ds d p.1 p.2 _ (.inr h2) k3 r2 hg fun v o' x t rv => q2 Y σ _ ((Step.of e2).trans (.chg x h2)) (eo2.chg hi h1 x h2 t) (co2.chg (i := 0) eo2 h2 k3)
      · have h : DoS X.K ca E Z Dn Y H ((if tyD T d = true then fs ρ >>= fun xs => liftO (gm d xs) >>= fun p => pure (ρ.set i (.own p.2), Ctl.nx) else stuck) c) := h
        rw [if_neg ht] at h; exact h.elim
end
end G
set_option Elab.async false
set_option linter.all false
set_option maxRecDepth 100000
set_option maxHeartbeats 8000000
/-! GP: what makes a new list or dict; several names at once. -/
namespace G
open PySem PySem.Spec PyProof.Rows L2
section
variable {K : PySem.W.Frag} {ca : Dr} {E : XK} {Z Y W : Addr → Prop} {H H1 : Hp} {σ : L2.St} {ρ : Ev}
theorem Top.u {p : Addr} {d : D} (t : Top K ca (fun b => U Z Y b ∨ b = p) H p d) : Top K ca (U Z fun b => Y b ∨ b = p) H p d := t.anti fun b z => z.elim (fun z => .inl (.inl z)) fun z => z.elim (fun z => .inl (.inr z)) .inr
theorem freshL {p : Addr} {vs : List V} {ds : List D} (n : H p = none) (r : RlA K ca W H vs ds) : Top K ca (fun b => W b ∨ b = p) (upd H p (.lst vs)) p (.lst ds) :=
  ⟨vs, upd_same, (r.grow fun b z => z.imp id fun z => by rw [z]; exact n).ext (ExtP.new (P := fun _ => False) n) fun _ h => h.elim⟩
end
section
variable {X : Cx} {ca : Dr} {E : XK} {x : Str} {T : String} {p pos spos : Pos} {e a b : Expr} {es : List Expr} {fs : Ev → M (List D)} {fa fb : Ev → M D} {gl : List D → Option D} {r : List V → Hp → VK → Prop}
theorem dF_lst (ha : PA X es (tAs X.K ca E fs)) : PE X (.List es pos) (tF X.K ca E (eArgs gLst fs)) := by
  refine ⟨fun pins s σ H Q I h => (pe_lst ha).run pins s σ H Q I ?_⟩
  obtain ⟨Z, Y, ρ, c, eo, co, h⟩ := h
  refine ⟨Z, Y, ρ, c, eo, co, (Do.bind h).mono fun ds c1 h1 xs H1 e1 r1 co1 => ?_⟩
  obtain ⟨d', hg, h2⟩ := Do.lift h1
  unfold gLst at hg
  by_cases hl : ds.length ≤ sizeLine
  · rw [if_pos hl] at hg
    cases hg
    exact ⟨by rw [r1.length]; exact hl, fun p np => h2 p _ (e1.there np) (e1.trans (ExtP.new np)) (freshL np r1).u (co1.new np)⟩
  · rw [if_neg hl] at hg; cases hg
def eDict0 : Ev → M D := fun _ => pure (.dic [] [])
end
end G
set_option Elab.async false
set_option linter.all false
set_option maxRecDepth 100000
set_option maxHeartbeats 8000000
/-! GQ: several names at once, some of them their own. -/
namespace G
open PySem PySem.Spec PyProof.Rows L2
abbrev AX := Ev → M (List Sl)
def xNil : AX := fun _ => pure []
def xVal (f : Ev → M D) (g : AX) : AX := fun ρ => f ρ >>= fun d => g ρ >>= fun sl => pure (.val d :: sl)
def xOwn (f : Ev → M D) (g : AX) : AX := fun ρ => f ρ >>= fun d => g ρ >>= fun sl => pure (.own d :: sl)
section
variable {X : Cx} {ca : Dr} {E : XK} {e : Expr} {es : List Expr} {f : Ev → M D} {g : AX}
def sParX (i j : Nat) (fs : AX) : Sm := fun ρ => fs ρ >>= fun sls => match sls with
  | [a, b] => pure ((ρ.set i a).set j b, .nx)
  | _ => stuck
def sParX3 (i j l : Nat) (fs : AX) : Sm := fun ρ => fs ρ >>= fun sls => match sls with
  | [a, b, c] => pure (((ρ.set i a).set j b).set l c, .nx)
  | _ => stuck
end
end G
set_option Elab.async false
set_option linter.all false
set_option maxRecDepth 100000
set_option maxHeartbeats 8000000
/-! GA: len(set(xs)), xs a list or a tuple of ints and texts. -/
namespace G
open PySem PySem.Spec PyProof.Rows L2
def hasK (acc : List Key) (k : Key) : Bool := acc.any fun j => decide (j = k)
/-- one more key met -/
def stepK (acc : List Key) (k : Key) : List Key := if hasK acc k = true then acc else acc ++ [k]
/-- the keys met so far, each once -/
def metK (acc : List Key) : List Key → List Key
  | [] => acc
  | k :: r => metK (stepK acc k) r
end G
set_option Elab.async false
set_option linter.all false
set_option maxRecDepth 100000
set_option maxHeartbeats 8000000
/-! GB: len(set(xs)) as an expression. -/
namespace G
open PySem PySem.Spec PyProof.Rows L2
def keysA : List D → Option (List Key)
  | [] => some []
  | d :: ds => (keyD d).bind fun k => (keysA ds).map (k :: ·)
def gLenSet (d : D) : Option D := (seqOf d).bind fun ds => (keysA ds).bind fun ks => if ks.length ≤ 4000 then some (.int (metK [] ks).length) else none
def eLenSet (f : Ev → M D) : Ev → M D := fun ρ => f ρ >>= fun d => liftO (gLenSet d)
end G
set_option Elab.async false
set_option linter.all false
set_option maxRecDepth 100000
set_option maxHeartbeats 8000000
/-! GC: sorted(xs) and < of data. -/
namespace G
open PySem PySem.Spec PyProof.Rows L2
def encD (d : D) : PyData := (toPy d).getD .none
def tupB : PyData → Bool
  | .tuple (_ :: _) => true
  | _ => false
def othB : PyData → Bool
  | .none => false
  | .tuple _ => false
  | _ => true
/-- the items can be sorted -/
def sortOk (ds : List D) : Bool := ds.all (fun d => (toPy d).isSome && decide ((encD d).depth ≤ 64)) && (ds.all (fun a => ds.all fun b => PySem.W.alike (encD a) (encD b)) && ((ds.all (fun d => tupB (encD d)) || ds.all (fun d => othB (encD d))) && decide (ds.length ≤ sizeLine)))
def sortD (ds : List D) : List D := ds.mergeSort (PySem.W.dataLe false encD)
end G
set_option Elab.async false
set_option linter.all false
set_option maxRecDepth 100000
set_option maxHeartbeats 8000000
/-! GS: sorted of what is walked: a dict's keys, its items. -/
set_option Elab.async false
set_option linter.all false
set_option maxRecDepth 100000
set_option maxHeartbeats 8000000
/-! GT: sorted(d.items()). -/
namespace G
open PySem PySem.Spec PyProof.Rows L2
section
variable {X : Cx} {ca : Dr} {E : XK} {p apos cpos pos : Pos} {e : Expr} {f : Ev → M D}
def eSortItems (f : Ev → M D) : Ev → M D := fun ρ => f ρ >>= fun d => liftO (match d with | .dic ks vs => (if sortOk (itemsD ks vs) = true then some (.lst (sortD (itemsD ks vs))) else none) | _ => none)
end
end G
set_option Elab.async false
set_option linter.all false
set_option maxRecDepth 100000
set_option maxHeartbeats 8000000
/-! GD: the draws' list, a law's end. -/
namespace G
open PySem PySem.Spec PyProof.Rows L2
section
variable {X : Cx} {ca : Dr} {E : XK} {pos : Pos} {K : PySem.W.Frag}
def getC : M Churn := fun c => .ok c c
def putC (c : Churn) : M Unit := fun _ => .ok () c
def isChn : D → Option Unit
  | .chn => some ()
  | _ => none
def chnItem (k : Int) (c : Churn) : Option D := if k = 0 then some (.lst (c.cells.map D.int)) else if k = 1 then some (.int c.at_) else if k = 2 then some (.int c.left) else none
/-- h[k] of the draws' list -/
def eChn (k : Int) (i : Nat) : Ev → M D := fun ρ => eVar i ρ >>= fun h => liftO (isChn h) >>= fun _ => getC >>= fun c => liftO (chnItem k c)
theorem ints_rl {Z : Addr → Prop} {H : Hp} : ∀ ns : List Int, RlA K ca Z H (ns.map V.int) (ns.map D.int)
  | [] => .nil
  | n :: ns => .cons (.int n) (ints_rl ns)
theorem d_chn (k : Int) (i : Nat) {x : Str} {p p2 : Pos} {j : Nat} (hN : X.N[i]? = some x := by rfl) (hv : Vis X.env.scope x := by first | exact Or.inl rfl | exact Or.inr (Or.inl rfl) | exact Or.inr (Or.inr rfl)) (hd : (x == ("__debug__" : Str)) = false := by decide)
    (hcd : (x == ("__classdict__" : Str)) = false := by decide) (hs : PlainIx (.Constant (.int k) j p2) := by exact fun _ _ => rfl) : PE X (.Subscript (.Name x p) (.Constant (.int k) j p2) pos) (tD X.K ca E (eChn k i)) := by
  refine ⟨fun pins s σ H Q I h => (pe_ix ix_list (pe_var (i := i) hN hv hd hcd) pe_int hs).run pins s σ H Q I ?_⟩
  obtain ⟨Z, Y, ρ, c, eo, co, h⟩ := h
  have h1 := Do.bind h
  unfold eVar at h1
  cases e : ρ[i]? with
  | none => rw [e] at h1; exact h1.elim
  | some sl =>
    rw [e] at h1
    cases sl with
    | no => exact h1.elim
    | own ds => exact h1.elim
    | val d =>
      obtain ⟨v, hv1, rv⟩ := eo.val i d e
      obtain ⟨_, hc, h2⟩ := Do.lift (Do.bind (show Do X.K ca E (U Z Y) H ((liftO (isChn d) >>= fun _ => getC >>= fun c => liftO (chnItem k c)) c) _ from h1))
      cases rv with
      | chn =>
        obtain ⟨d', hi, h3⟩ := Do.lift (show Do X.K ca E (U Z Y) H (liftO (chnItem k c) c) _ from h2)
        refine ⟨_, hv1, ?_⟩
        unfold chnItem at hi
        by_cases e0 : k = 0
        · subst e0; cases hi
          exact ⟨ca, _, _, _, rfl, rfl, SqL.of co.1, rfl, h3 _ H .refl (.lst eo.zok.zcc co.2.1 (ints_rl _)) co⟩
        · rw [if_neg e0] at hi
          by_cases e1 : k = 1
          · subst e1; cases hi
            exact ⟨ca, _, _, _, rfl, rfl, SqL.of co.1, rfl, h3 _ H .refl (.int _) co⟩
          · rw [if_neg e1] at hi
            by_cases e2 : k = 2
            · subst e2; cases hi
              exact ⟨ca, _, _, _, rfl, rfl, SqL.of co.1, rfl, h3 _ H .refl (.int _) co⟩
            · rw [if_neg e2] at hi; cases hi
      | _ => cases hc
def chnPut (k : Int) (d : D) (c : Churn) : Option Churn := match d with
  | .int n => if k = 1 then some { c with at_ := n } else if k = 2 then some { c with left := n } else none
  | _ => none
/-- h[k] = e -/
def sChn (k : Int) (i : Nat) (f : Ev → M D) : Sm := fun ρ => f ρ >>= fun d => eVar i ρ >>= fun h => liftO (isChn h) >>= fun _ => getC >>= fun c => liftO (chnPut k d c) >>= fun c' => putC c' >>= fun _ => pure (ρ, .nx)
theorem s_chn (k : Int) (i : Nat) {x : Str} {p p2 p3 : Pos} {j : Nat} {e : Expr} {f : Ev → M D} (he : PE X e (tD X.K ca E f)) (hN : X.N[i]? = some x := by rfl) (hv : Vis X.env.scope x := by first | exact Or.inl rfl | exact Or.inr (Or.inl rfl) | exact Or.inr (Or.inr rfl)) (hd : (x == ("__debug__" : Str)) = false := by decide)
    (hcd : (x == ("__classdict__" : Str)) = false := by decide)
    (ha : ∀ v, assign (.Subscript (.Name x p) (.Constant (.int k) j p2) p3) X.env v = (do
      let ov ← holding [v] (eval (.Name x p) X.env)
      let iv ← holding [v, ov] (eval (.Constant (.int k) j p2) X.env)
      standAt p3
      holding [v, ov, iv] (setItem ov iv v)
      release [v, ov, iv] []) := by intro _; rfl)
    (hs : swapsWithSole [.Subscript (.Name x p) (.Constant (.int k) j p2) p3] e pos.line X.env = pure false := by rfl) (hw : swappedStores [.Subscript (.Name x p) (.Constant (.int k) j p2) p3] e X.env = pure none := by rfl)
    (h1 : (assignEach [.Subscript (.Name x p) (.Constant (.int k) j p2) p3] X.env).map (·.2) = [assign (.Subscript (.Name x p) (.Constant (.int k) j p2) p3) X.env] := by rfl) :
    PS X (.Assign [.Subscript (.Name x p) (.Constant (.int k) j p2) p3] e pos) (tS X.K ca E (sChn k i f)) := by
  refine ⟨fun pins s σ H Dn I h => (ps_asg he (pg_sub (pe_var (i := i) hN hv hd hcd) pe_int set_list ha) hs hw h1).run pins s σ H Dn I ?_⟩
  obtain ⟨Z, Y, ρ, c, eo, co, h⟩ := h
  refine ⟨Z, Y, ρ, c, eo, co, (DoS.expr h).mono fun d c1 h1 v H1 e1 r1 co1 => ?_⟩
  have h2 := DoS.expr h1
  unfold eVar at h2
  cases e : ρ[i]? with
  | none => rw [e] at h2; exact h2.elim
  | some sl =>
    rw [e] at h2
    cases sl with
    | no => exact h2.elim
    | own ds => exact h2.elim
    | val hd =>
      obtain ⟨u, hu, ru⟩ := (eo.ext e1).val i hd e
      obtain ⟨_, hc, h3⟩ := Do.lift (DoS.expr (show DoS X.K ca E Z Dn Y H ((liftO (isChn hd) >>= fun _ => getC >>= fun c => liftO (chnPut k d c) >>= fun c' => putC c' >>= fun _ => (pure (ρ, Ctl.nx) : M (Ev × Ctl))) c1) from h2))
      cases ru with
      | chn =>
        obtain ⟨c2, hp, h4⟩ := Do.lift (DoS.expr (show DoS X.K ca E Z Dn Y H ((liftO (chnPut k d c1) >>= fun c' => putC c' >>= fun _ => (pure (ρ, Ctl.nx) : M (Ev × Ctl))) c1) from h3))
        have h5 : Fin X.K ca Z Dn Y H (ρ, .nx) c2 := h4
        have fin : ∀ (jj : Nat) (n : Int) (xs : List V), [V.ref ca.cc, .int c1.at_, .int c1.left].set jj (.int n) = xs → xs = [.ref ca.cc, .int c2.at_, .int c2.left] → c2.cells = c1.cells → Dn.nx σ (upd H1 ca (.lst ([V.ref ca.cc, .int c1.at_, .int c1.left].set jj (.int n)))) := by
          intro jj n xs ex ex2 ec
          rw [ex, ex2]
          have xt : Ext ca H1 (upd H1 ca (.lst [.ref ca.cc, .int c2.at_, .int c2.left])) := fun b o q => by
            by_cases hb : b = ca
            · subst hb
              rw [co1.1] at q; cases q
              exact .inr (.inl ⟨rfl, trivial, _, upd_same, trivial⟩)
            · exact .inl (by rw [upd_ne hb]; exact q)
          exact h5 Y σ _ (.of (e1.trans xt)) ((eo.ext e1).ext xt) ⟨upd_same, by rw [upd_ne ca.ne, ec]; exact co1.2.1, tabs_upd co1.2.2 co1.1⟩
        unfold chnPut at hp
        cases r1 with
        | int n =>
          have hp : (if k = 1 then some { c1 with at_ := n } else if k = 2 then some { c1 with left := n } else none) = some c2 := hp
          by_cases k1 : k = 1
          · rw [if_pos k1] at hp; subst k1; cases hp
            exact ⟨_, hu, ⟨_, _, 1, 1, rfl, rfl, co1.1, rfl, fin 1 n _ rfl rfl rfl⟩⟩
          · rw [if_neg k1] at hp
            by_cases k2 : k = 2
            · rw [if_pos k2] at hp; subst k2; cases hp
              exact ⟨_, hu, ⟨_, _, 2, 2, rfl, rfl, co1.1, rfl, fin 2 n _ rfl rfl rfl⟩⟩
            · rw [if_neg k2] at hp; cases hp
        | _ => cases hp
      | _ => cases hc
end
/-! ### the draws' list is made -/
/-- [[int(cell) for cell in script[:60]], 0, 0] -/
def spMade (K : PySem.W.Frag) : Sp := fun vs H Q _ => ∃ (a : Addr) (ns : List Int), vs = [.ref a] ∧ SqL K H a (ns.map V.int) ∧ LamX.Tabs (lamT K) H ∧
  ∀ (ca : Dr) H', (∀ b o, H b = some o → H' b = some o) → H ca = none → H ca.cc = none → ChOk K ca H' ⟨ns.take 60, 0, 0⟩ → Q (.ref ca) H'
theorem cut60 (ns : List Int) : cutV (ns.map V.int) none (some 60) = (ns.take 60).map V.int := by
  unfold cutV
  rw [HT.sIx_none, List.drop_zero, Nat.sub_zero, show HT.sIx (ns.map V.int).length (ns.map V.int).length (some 60) = min 60 (ns.map V.int).length from HT.sIx_nat _ _ 60, List.map_take]
  rw [List.length_map]
  by_cases h : ns.length ≤ 60
  · rw [Nat.min_eq_right h, List.take_of_length_le (by simp), List.take_of_length_le (by simpa using h)]
  · rw [Nat.min_eq_left (by omega)]
section
variable {X : Cx} {K : PySem.W.Frag}
theorem made_read {st : Stmt} {sl : L2.St} {H : Hp} {a : Addr} {ns : List Int} {Q : VK} {i : Nat} {tt : TT} (hS : SqL X.K H a (ns.map V.int)) (hT : LamX.Tabs (lamT X.K) H) (hx : sl[0]? = some (some (.ref a)))
    (q : ∀ (ca : Dr) H', (∀ b o, H b = some o → H' b = some o) → H ca = none → H ca.cc = none → ChOk X.K ca H' ⟨ns.take 60, 0, 0⟩ → Q (.ref ca) H') (hi : i < sl.length) :
    tLst (tCons (tLc (iList X.K (tSl (rSlL X.K) (tVar 0) tNoPart (tPart (tC (.int 60))))) (gName i) tYes (tCB (fun xs H Q => (∃ i, xs = [.int i] ∧ Q (.int i) H) ∨ ∃ k, xs = [.bl k] ∧ Q (.int (if k then 1 else 0)) H) (tCons (tVar i) tNil)) [i]) (tCons (tC (.int 0)) (tCons (tC (.int 0)) tNil))) sl H Q := by
  refine ⟨.ref a, hx, 60, rfl, a, _, rfl, hS, fun p np => ⟨p, rfl, ⟨_, SqL.of upd_same⟩, fun D nD => ?_⟩⟩
  rw [cut60]
  have npD : p ≠ D := fun z => by rw [← z, upd_same] at nD; cases nD
  have nDH : H D = none := by
    cases e : H D with
    | none => rfl
    | some o => rw [upd_ne (Ne.symm npD), e] at nD; cases nD
  refine lc_list (K := X.K) (a := p) (xs := (ns.take 60).map V.int) (fun k H' => (∀ b o, H b = some o → H' b = some o) ∧ H' p = some (.lst ((ns.take 60).map V.int)) ∧ H' D = some (.lst (((ns.take 60).take k).map V.int))) ⟨fun b o e => ?_, ?_, upd_same⟩ (fun _ _ _ h => SqL.of h.2.1) (fun k x H1 hk hP => ?_) fun H1 hP => ?_
  · rw [upd_ne (ne_of_none e nDH), upd_ne (ne_of_none e np)]; exact e
  · rw [upd_ne npD, upd_same]
  · obtain ⟨k1, k2, k3⟩ := hP
    have hk' : ((ns.take 60)[k]?).map V.int = some x := by rw [← List.getElem?_map]; exact hk
    cases hn : (ns.take 60)[k]? with
    | none => rw [hn] at hk'; cases hk'
    | some n =>
      rw [hn] at hk'
      cases hk'
      refine ⟨?_, ?_⟩
      · show ((sl.set i none).set i (some (V.int n))).set i none = sl.set i none
        rw [List.set_set, List.set_set]
      · refine iteT (B := (∀ b o, H b = some o → H1 b = some o) ∧ H1 p = some (.lst ((ns.take 60).map V.int)) ∧ H1 D = some (.lst (((ns.take 60).take (k + 1)).map V.int))) ⟨.int n, ?_, .inl ⟨n, rfl, _, k3, ?_, fun b o e => ?_, ?_, ?_⟩⟩
        · rw [List.getElem?_set_self (by rw [wipe_length]; exact hi)]
        · have : ((ns.take 60).take k).length ≤ 60 := by rw [List.length_take, List.length_take]; omega
          rw [List.length_map]
          exact Nat.lt_of_le_of_lt this (by decide)
        · rw [upd_ne (ne_of_none e nDH)]; exact k1 b o e
        · rw [upd_ne npD]; exact k2
        · have e2 : (ns.take 60).take (k + 1) = (ns.take 60).take k ++ [n] := by rw [List.take_add_one (i := k), hn]; rfl
          rw [upd_same, e2, List.map_append]; rfl
  · obtain ⟨k1, k2, k3⟩ := hP
    rw [List.length_map, List.take_length] at k3
    refine ⟨by show 3 ≤ sizeLine; decide, fun p2 np2 => ?_⟩
    have nDp : D ≠ p2 := fun z => by rw [z, np2] at k3; cases k3
    have keep : ∀ b o, H b = some o → upd H1 p2 (.lst [.ref D, .int 0, .int 0]) b = some o := fun b o e => by
      have e1 := k1 b o e
      rw [upd_ne (ne_of_none e1 np2)]; exact e1
    refine q ⟨p2, D, nDp⟩ _ (fun b o e => ?_) ?_ nDH ⟨upd_same, ?_, hT.ext keep⟩
    · have e1 := k1 b o e
      show upd H1 p2 _ b = some o
      rw [upd_ne (ne_of_none e1 np2)]; exact e1
    · show H p2 = none
      cases e : H p2 with
      | none => rfl
      | some o => have := k1 p2 o e; rw [np2] at this; cases this
    · show upd H1 p2 _ D = _
      rw [upd_ne nDp]; exact k3
end
end G
set_option Elab.async false
set_option linter.all false
set_option maxRecDepth 100000
set_option maxHeartbeats 8000000
/-! GE: a law's own def; the end. -/
namespace G
open PySem PySem.Spec PyProof.Rows L2
def spLaw (K : PySem.W.Frag) : Sp := fun vs H Q _ => ∃ (a : Addr) (ns : List Int), vs = [.ref a] ∧ ScrAt K H a (ns.map V.int) ∧ ns.length ≤ 63 ∧ LamX.Tabs (lamT K) H ∧ ∀ H', Q (.bl true) H'
/-- the rest of the law, from the made draws' list on -/
def tSx (K : PySem.W.Frag) (E : XK) (g : Sm) : TS := fun Dn σ H => ∃ ca, tS K ca E g Dn σ H
theorem ss_any {X : Cx} {E : XK} {sts : List Stmt} {g : Sm} (h : ∀ ca, PSs X sts (tS X.K ca E g)) : PSs X sts (tSx X.K E g) :=
  ⟨fun pins s σ H Dn I ⟨ca, hw⟩ => (h ca).run pins s σ H Dn I hw⟩
/-- what is left to be shown of a law: it gives True, whatever the cells are -/
def LawTrue (n : Nat) (g : Sm) : Prop := ∀ ns : List Int, ns.length ≤ 63 → ∃ ρ c, g (.val (.scr ns) :: .val .chn :: List.replicate (n - 2) .no) ⟨ns.take 60, 0, 0⟩ = .ok (ρ, .ret (.bl true)) c
theorem law_read {K : PySem.W.Frag} {N : List Str} {g : Sm} {vs : List V} {H : Hp} {Q : VK} {E : XK} (hN : 2 ≤ N.length) (law : LawTrue N.length g) (h : spLaw K vs H Q E) :
    tSeq (tAsg (tCall (spMade K) [] E0 (tCons (tVar 0) tNil)) (gName 1)) (tSx K E0 g) { nx := fun _ H' => Q .non H', rt := Q } (start N vs) H := by
  obtain ⟨a, ns, rfl, hS, hl, hT, q⟩ := h
  obtain ⟨x1, x2, r, rfl⟩ : ∃ x1 x2 r, N = x1 :: x2 :: r := by
    match N, hN with
    | x1 :: x2 :: r, _ => exact ⟨x1, x2, r, rfl⟩
  have e0 : L2.start (x1 :: x2 :: r) [V.ref a] = some (.ref a) :: none :: List.replicate r.length none := by
    show [V.ref a].map some ++ List.replicate ((x1 :: x2 :: r).length - [V.ref a].length) none = _
    simp [List.replicate_succ]
  refine ⟨.ref a, by rw [e0]; rfl, a, ns, rfl, hS.s, hT, fun ca H' keep n1 n2 co => ⟨ca, fun b => b = ca, fun _ => False, .val (.scr ns) :: .val .chn :: List.replicate r.length .no, ⟨ns.take 60, 0, 0⟩, ?_, co, ?_⟩⟩
  · rw [e0]
    refine ⟨⟨.inl rfl, fun z => z.elim ca.ne False.elim, fun b z => z.elim (fun z => ⟨_, z ▸ co.1⟩) False.elim⟩, rfl, id, by simp, fun i d h => ?_, fun i es h => ?_, fun _ h => h.elim, fun i j b es es' h => ?_⟩
    · match i, h with
      | 0, h => cases h; exact ⟨_, rfl, .scr ((ExtP.of (P := fun _ => False) keep).scr hS)⟩
      | 1, h => cases h; exact ⟨_, rfl, .chn⟩
      | i + 2, h =>
        have h : (List.replicate r.length Sl.no)[i]? = some (.val d) := h
        exact absurd (List.eq_of_mem_replicate (List.mem_of_getElem? h)) (by intro z; cases z)
    · match i, h with
      | 0, h => cases h
      | 1, h => cases h
      | i + 2, h =>
        have h : (List.replicate r.length Sl.no)[i]? = some (.own es) := h
        exact absurd (List.eq_of_mem_replicate (List.mem_of_getElem? h)) (by intro z; cases z)
    · match i, h with
      | 0, h => cases h
      | 1, h => cases h
      | i + 2, h =>
        have h : (List.replicate r.length Sl.no)[i]? = some (.own es) := h
        exact absurd (List.eq_of_mem_replicate (List.mem_of_getElem? h)) (by intro z; cases z)
  · obtain ⟨ρ, c, e⟩ := law ns hl
    have e : g (.val (.scr ns) :: .val .chn :: List.replicate r.length .no) ⟨ns.take 60, 0, 0⟩ = .ok (ρ, .ret (.bl true)) c := e
    unfold DoS
    rw [e]
    intro Y' σ' H2 st eo' co'
    show ∀ v, Rl K ca _ H2 v (.bl true) → Q v H2
    intro v rv
    cases rv
    exact q H2
/-! ### the end -/
/-- what the head says of the tables of code objects at h -/
structure TabK (K : PySem.W.Frag) (h : Heap) : Prop where
  hd : ∀ t ∈ lamC K, PySem.W.codeHdIn K t.1 t.2.1 = true
  out : ∀ t ∈ lamC K, K.lookup t.2.1 = none
  emp : ∀ t ∈ lamC K, h.get? t.2.1 = some { cls := .none, data := .fields #[] }
  one : ∀ p ∈ lamT K, ∀ q ∈ lamT K, p.1 = q.1 → p.2 = q.2
/-- what the tables are, over a base -/
structure TabBs (K : PySem.W.Frag) (mg : Str → Option Value) (base : Heap) : Prop where
  tb : ∀ t ∈ lamC K, LamX.TabB base mg t.1 t.2.1
  one : ∀ p ∈ lamT K, ∀ q ∈ lamT K, p.1 = q.1 → p.2 = q.2
/-- the script alone may be tracked, and the tables -/
def lawAt (T : List Addr) (sc : Option (Addr × List Value × List Int)) : Hp := fun b => match sc with
  | some (a, vs, ns) => if b = a then some (.frz { cls := .type "list", data := .seq vs.toArray } (.lst (ns.map V.int))) else if b ∈ T then some (.tbl #[]) else none
  | none => if b ∈ T then some (.tbl #[]) else none
theorem law_end {P : Program} {w : World} {K : PySem.W.Frag} {mg mb : Str → Option Value} {k : Nat} {fa a : Addr} {fd : FuncData} {x : Str} {s₁ : Shared} {vs : List Value} {ns : List Int}
    (inK : K.In s₁.heap) (hglob : s₁.heap.Ns mainGlobals mg) (hbl : s₁.heap.Ns builtinsNs mb) (hboot : ∀ x : Str, x ≠ "__name__" → mb x = bootBuiltins x) (nolim : s₁.heap.NoLimit) (sys : ∃ o es ep, s₁.heap.get? sysModules = some o ∧ o.data = .dict es ep) (nogen : s₁.gens = #[])
    (tabs : TabK K s₁.heap) (hbm : ∃ (bm : Addr) (ob : Obj), mg "__builtins__" = some (.ref bm) ∧ bm ≠ builtinsNs ∧ s₁.heap.get? bm = some ob ∧ ob.cls = .type "module" ∧ ob.dict = some builtinsNs ∧ ob.data = .plain)
    (hscript : s₁.heap.get? a = some { cls := .type "list", data := .seq vs.toArray }) (areInts : IntsAre vs ns) (few : ns.length ≤ 63) (room : Room k callerA)
    (F : ∀ base : Heap, K.In base → base.Ns mainGlobals mg → Sys base → TabBs K mg base → FnG P w K mg base CX0 k fa fd [x] (spLaw K)) (binds : ∀ (s : Shared) (u : Value), BindsTo s fd ⟨[u], []⟩ [(x, u)]) :
    codeAny (model P w) callerA (.call (.ref fa) ⟨[.ref a], []⟩) (fun r s' => r = .ok (.ret (.bool true)) ∧ OldK s₁.heap s'.heap ∧ s'.os = s₁.os ∧ AllBare s'.gens) s₁ := by
  have line : ns.length ≤ sizeLine := Nat.le_trans few (by decide)
  have along := areInts.length
  have vals := vals_ints areInts
  obtain ⟨Ts, hTs⟩ : ∃ Ts : List Addr, Ts = (lamT K).map (·.1) := ⟨_, rfl⟩
  have memT : ∀ p ∈ lamT K, p.1 ∈ Ts := fun p hp => by rw [hTs]; exact List.mem_map.mpr ⟨p, hp, rfl⟩
  have memC : ∀ b ∈ Ts, ∃ t ∈ lamC K, t.2.1 = b := fun b hb => by
    rw [hTs] at hb
    obtain ⟨p, hp, e⟩ := List.mem_map.mp hb
    obtain ⟨t, ht, e2⟩ := List.mem_map.mp hp
    exact ⟨t, ht, by rw [← e, ← e2]⟩
  have isT : ∀ b ∈ Ts, s₁.heap.get? b = some { cls := .none, data := .fields #[] } := fun b hb => by
    obtain ⟨t, ht, e⟩ := memC b hb
    rw [← e]
    exact tabs.emp t ht
  have aT : a ∉ Ts := fun z => by
    have q := isT a z
    rw [hscript] at q
    have z' : Data.seq vs.toArray _ = Data.fields #[] := congrArg Obj.data (Option.some.inj q)
    cases z'
  -- from any heap in which at most the script and the tables are tracked
  have go : ∀ H : Hp, (∀ b ∈ Ts, H b = some (.tbl #[])) → (∀ b, H b = none ∨ b ∈ Ts ∨ ∃ o zs, H b = some (.frz o (.lst zs))) → SqL K H a (ns.map V.int) → HOk P w H s₁.heap → (∀ b o, H b = some o → (b = a ∧ K.lookup a = none) ∨ b ∈ Ts) →
      codeAny (model P w) callerA (.call (.ref fa) ⟨[.ref a], []⟩) (fun r s' => r = .ok (.ret (.bool true)) ∧ OldK s₁.heap s'.heap ∧ s'.os = s₁.os ∧ AllBare s'.gens) s₁ := by
    intro H hT only seq ok alone
    have low : ∀ {b : Addr} {o : Obj}, s₁.heap.get? b = some o → H b = none → (hidT s₁.heap H).get? b = some o := fun e n => hidT_get e n
    have noD : ∀ {b : Addr} {o : Obj}, s₁.heap.get? b = some o → (∀ vs n, o.data ≠ .seq vs n) → o.data ≠ .fields #[] → H b = none := fun {b o} e h1 h2 => by
      cases q : H b with
      | none => rfl
      | some u =>
        rcases alone b u q with ⟨e', _⟩ | e'
        · rw [e', hscript] at e
          cases e
          exact (h1 _ _ rfl).elim
        · rw [isT b e'] at e
          cases e
          exact (h2 rfl).elim
    have free : ∀ {b : Addr} {o : Obj} {es : Array DictEntry} {ep : Nat}, s₁.heap.get? b = some o → o.data = .dict es ep → H b = none := fun {b o es ep} e d => noD e (fun vs n z => by rw [d] at z; cases z) fun z => by rw [d] at z; cases z
    have ns_low : ∀ {b : Addr} {m : Str → Option Value}, s₁.heap.Ns b m → (hidT s₁.heap H).Ns b m := fun {b m} ⟨o, es, ep, e, d, r⟩ => ⟨o, es, ep, low e (free e d), d, r⟩
    have inBase : K.In (hidT s₁.heap H) := fun b o e => low (inK b o e) (by
      cases q : H b with
      | none => rfl
      | some u =>
        rcases alone b u q with ⟨eb, no⟩ | e'
        · subst eb
          rw [no] at e; cases e
        · obtain ⟨t, ht, et⟩ := memC b e'
          rw [← et, tabs.out t ht] at e; cases e)
    have there : Sys (hidT s₁.heap H) := by
      obtain ⟨o, es, ep, e, d⟩ := sys
      exact ⟨o, low e (free e d)⟩
    have lim : (hidT s₁.heap H).NoLimit := by
      obtain ⟨mc, z1, z2⟩ := nolim
      exact ⟨mc, ns_low z1, z2⟩
    have TB : TabBs K mg (hidT s₁.heap H) := ⟨(fun t ht => by
      have hTp := tabs.emp t ht
      refine ⟨PySem.W.codeHd_of_K inBase (tabs.hd t ht), ?_, fun z => ?_⟩
      · obtain ⟨bm, ob, b1, b2, b3, b4, b5, b6⟩ := hbm
        have nG : bm ≠ mainGlobals := fun q => by
          obtain ⟨o, es, ep, e, hd, _⟩ := hglob
          rw [q, e] at b3
          cases b3
          rw [hd] at b6
          cases b6
        have nP : bm ≠ t.2.1 := fun q => by
          rw [q, hTp] at b3
          cases b3
          cases b6
        exact ⟨bm, ob, b1, b2, nG, nP, low b3 (noD b3 (fun vs n z => by rw [b6] at z; cases z) fun z => by rw [b6] at z; cases z), b4, b5, b6⟩
      · obtain ⟨o, es, ep, e, hd, _⟩ := hglob
        rw [z, hTp] at e
        cases e
        cases hd), tabs.one⟩
    have start0 : Env0 P w K mg (hidT s₁.heap H) callerA [] s₁ H :=
      { frames := rfl, mod := ⟨inBase, ns_low hglob, ⟨mb, ns_low hbl, hboot⟩, lim⟩, bs := fun b o e => of_hidT e, bsz := Nat.le_of_eq (hidT_size _ _), funs := trivial, frf := fun b hb => absurd (show b ∈ ([] : List Addr) from hb) List.not_mem_nil, hok := ok, bare := .of_eq nogen }
    have ran := (F _ inBase (ns_low hglob) there TB).runs callerA [] s₁ H ⟨[.ref a], []⟩ [.ref a] [.ref a] (fun v _ => v = .bl true) E0 rfl room start0 (binds s₁ (.ref a)) (.cons rfl .nil) ⟨a, ns, rfl, seq.elim (fun z => z.elim (fun z => (only a).elim (fun q => by rw [q] at z; cases z) fun q => q.elim (fun q => absurd q aT) fun ⟨_, _, q⟩ => by rw [q] at z; cases z) .inl) .inr, few,
      fun p hp => by
        have z : H p.1 = some (.tbl #[]) := hT _ (memT p hp)
        exact .nil z, fun _ => rfl⟩
    refine codeAny_mono ran fun r s' z => ?_
    match r, z with
    | .error e, z => exact z.elim
    | .ok .next, z => exact z.elim
    | .ok .brk, z => exact z.elim
    | .ok .cont, z => exact z.elim
    | .ok (.ret u), ⟨v, H', os, bare, un, ok', rv, ev⟩ =>
      cases (show v = V.bl true from ev)
      cases (show u = Value.bool true from rv)
      have key : ∀ b o, b ∉ Ts → s₁.heap.get? b = some o → s'.heap.get? b = some o := fun b o nb e => by
        rcases only b with n | n | ⟨ob, zs, z⟩
        · exact un.keep b o e n (fun z => absurd (show b ∈ ([] : List Addr) from z) List.not_mem_nil) List.not_mem_nil
        · exact absurd n nb
        · have e1 := (ok b _ z).1
          have e2 := (ok' b _ (un.frzs b ob _ z)).1
          rw [e] at e1; cases e1
          exact e2
      have grown : ∀ b ∈ Ts, ∃ more : Array Value, s'.heap.get? b = some { cls := .none, data := .fields more } := fun b hb => by
        obtain ⟨more, z⟩ := un.tbls b #[] (hT b hb)
        exact ⟨_, ok' b _ z⟩
      refine ⟨rfl, ⟨fun b o e => ?_, fun b o e => ?_⟩, os, bare⟩
      · by_cases hb : b ∈ Ts
        · obtain ⟨more, hm⟩ := grown b hb
          obtain ⟨t, ht, et⟩ := memC b hb
          have C := PySem.W.codeHd_of_K inK (tabs.hd t ht)
          rw [isT b hb] at e
          cases e
          refine .inr (.inl ⟨?_, rfl, #[], more, rfl, by rw [Array.empty_append]; exact hm⟩)
          rw [← et]
          exact (C.tab (tabs.emp t ht)).isCodeTable
        · exact .inl (key b o hb e)
      · by_cases hb : b ∈ Ts
        · obtain ⟨more, hm⟩ := grown b hb
          exact ⟨_, hm⟩
        · exact ⟨o, key b o hb e⟩
  cases own : K.lookup a with
  | some o =>
    have e := inK a o own
    rw [hscript] at e; cases e
    have off : ∀ {b : Addr}, b ∉ Ts → lawAt Ts none b = none := fun h => if_neg h
    have on : ∀ {b : Addr}, b ∈ Ts → lawAt Ts none b = some (.tbl #[]) := fun h => if_pos h
    refine go (lawAt Ts none) (fun b hb => on hb) (fun b => ?_) (.inr ⟨_, vs.toArray, _, own, rfl, rfl, rfl, by rw [List.size_toArray, along]; exact line, by simpa using vals⟩) (fun b u z => ?_) fun b u z => ?_
    · by_cases hb : b ∈ Ts
      · exact .inr (.inl hb)
      · exact .inl (off hb)
    · by_cases hb : b ∈ Ts
      · rw [on hb] at z; cases z
        exact isT b hb
      · rw [off hb] at z; cases z
    · by_cases hb : b ∈ Ts
      · exact .inr hb
      · rw [off hb] at z; cases z
  | none =>
    have here : lawAt Ts (some (a, vs, ns)) a = some (.frz { cls := .type "list", data := .seq vs.toArray } (.lst (ns.map V.int))) := if_pos rfl
    have off : ∀ {b : Addr}, b ≠ a → b ∉ Ts → lawAt Ts (some (a, vs, ns)) b = none := fun h h2 => (if_neg h).trans (if_neg h2)
    have on : ∀ {b : Addr}, b ∈ Ts → lawAt Ts (some (a, vs, ns)) b = some (.tbl #[]) := fun h => (if_neg (fun z => aT (by rw [← z]; exact h))).trans (if_pos h)
    refine go (lawAt Ts (some (a, vs, ns))) (fun b hb => on hb) (fun b => ?_) (.inl (.inr ⟨_, here⟩)) (fun b u z => ?_) fun b u z => ?_
    · by_cases hb : b = a
      · exact .inr (.inr ⟨_, _, by rw [hb]; exact here⟩)
      · by_cases hb2 : b ∈ Ts
        · exact .inr (.inl hb2)
        · exact .inl (off hb hb2)
    · by_cases hb : b = a
      · subst hb
        rw [here] at z; cases z
        exact ⟨hscript, by rw [List.length_map]; exact line, vs, _, vals, hscript⟩
      · by_cases hb2 : b ∈ Ts
        · rw [on hb2] at z; cases z
          exact isT b hb2
        · rw [off hb hb2] at z; cases z
    · by_cases hb : b = a
      · exact .inl ⟨hb, own⟩
      · by_cases hb2 : b ∈ Ts
        · exact .inr hb2
        · rw [off hb hb2] at z; cases z
/-- a law over a head by facts -/
theorem law_walk {l : PySem.W.OpenLaw} {k : Nat} {q : Program} {loose : List Str} {XP : (Str → Option Value) → Heap → Prop} {YP : World → Heap → Prop} {d : DefRec} {x : Str}
    (most : l.most = some 63) (nodf : d.params.defaults = []) (room : Room k callerA)
    (F : ∀ (w : World) (mg : Str → Option Value) (fa : Addr) (h : Heap), YP w h → h.Ns mainGlobals mg → mg d.name = some (.ref fa) →
      ∃ (K : PySem.W.Frag) (fd : FuncData), K.In h ∧ (∃ o es ep, h.get? sysModules = some o ∧ o.data = .dict es ep) ∧ TabK K h ∧ (∀ (s : Shared) (u : Value), BindsTo s fd ⟨[u], []⟩ [(x, u)]) ∧
        ∀ base : Heap, K.In base → base.Ns mainGlobals mg → Sys base → TabBs K mg base → FnG l.prog w K mg base CX0 k fa fd [x] (spLaw K)) :
    PySem.W.WalkO q loose XP YP l.row.toRowW d [] (fun f vs => PySem.call f vs) :=
  Att.attach_call most nodf fun w s₀ s₁ mg mb fa o pm cd doc a vs ns G Y _ _ _ hmg hscript areInts few nogen => by
    obtain ⟨K, fd, inK, sys, tabs, binds, keeps⟩ := F w mg fa _ Y G.T.g hmg
    exact law_end inK G.T.g G.T.b G.T.builtins G.T.nolimit sys nogen tabs G.T.bmain hscript areInts few room keeps binds
/-! ### the head's facts, and that sys.modules stands -/
/-- constants of the module that are tuples -/
def tupFact (K : PySem.W.Frag) (x : Str) (vs : List V) : Bool := match K.lookup (He.ga K x) with
  | some ⟨.type c, none, .seq its _, _⟩ => decide (c = "tuple") && (decide (its.size ≤ sizeLine) && He.relAll vs its.toList)
  | _ => false
theorem tupFact_ok {K : PySem.W.Frag} {x : Str} {vs : List V} (h : tupFact K x vs = true) (H : Hp) : TupAt K H (He.ga K x) vs := by
  unfold tupFact at h
  split at h
  · rename_i c its n sl e
    obtain ⟨h1, h2⟩ := Bool.and_eq_true_iff.mp h
    obtain ⟨h3, h4⟩ := Bool.and_eq_true_iff.mp h2
    cases of_decide_eq_true h1
    exact .inr ⟨its.toList, n, sl, by simpa using e, by simpa using of_decide_eq_true h3, He.relAll_ok h4⟩
  · cases h
def sysSeen (g : Addr → Option Obj) : Bool := match g sysModules with
  | some ⟨_, _, .dict _ _, _⟩ => true
  | _ => false
/-- the tables: what is asked of them -/
def oneB : List (Addr × Str) → Bool
  | [] => true
  | p :: r => (r.all fun q => !decide (p.1 = q.1) || decide (p.2 = q.2)) && oneB r
theorem oneB_ok : ∀ {l : List (Addr × Str)}, oneB l = true → ∀ p ∈ l, ∀ q ∈ l, p.1 = q.1 → p.2 = q.2
  | [], _, p, hp, _, _, _ => by cases hp
  | x :: r, h, p, hp, q, hq, e => by
    obtain ⟨h1, h2⟩ := Bool.and_eq_true_iff.mp h
    have h3 : ∀ y ∈ r, x.1 = y.1 → x.2 = y.2 := fun y hy e => by
      have z := List.all_eq_true.mp h1 y hy
      rcases Bool.or_eq_true_iff.mp z with z | z
      · simp [e] at z
      · exact of_decide_eq_true z
    rcases List.mem_cons.mp hp with hp1 | hp1
    · rcases List.mem_cons.mp hq with hq1 | hq1
      · rw [hp1, hq1]
      · rw [hp1] at e ⊢
        exact h3 q hq1 e
    · rcases List.mem_cons.mp hq with hq1 | hq1
      · rw [hq1] at e ⊢
        exact (h3 p hp1 e.symm).symm
      · exact oneB_ok h2 p hp1 q hq1 e
def tabSeen (g : Addr → Option Obj) (K : PySem.W.Frag) : Bool := ((lamC K).all fun t => PySem.W.codeHdIn K t.1 t.2.1 && (match g t.2.1 with
  | some o => He.emptyTab o
  | none => false)) && oneB (lamT K)
theorem tabSeen_ok {h : Heap} {as : List Addr} (e : tabSeen h.get? (He.frT h.get? as) = true) : TabK (He.frT h.get? as) h := by
  obtain ⟨e1, e2⟩ := Bool.and_eq_true_iff.mp e
  have key : ∀ t ∈ lamC (He.frT h.get? as), PySem.W.codeHdIn (He.frT h.get? as) t.1 t.2.1 = true ∧ ∃ o, h.get? t.2.1 = some o ∧ He.emptyTab o = true := fun t ht => by
    obtain ⟨h3, h4⟩ := Bool.and_eq_true_iff.mp (List.all_eq_true.mp e1 t ht)
    refine ⟨h3, ?_⟩
    cases q : h.get? t.2.1 with
    | none => rw [q] at h4; cases h4
    | some o => rw [q] at h4; exact ⟨o, rfl, h4⟩
  refine ⟨fun t ht => (key t ht).1, fun t ht => ?_, fun t ht => ?_, oneB_ok e2⟩
  · obtain ⟨_, o, h1, h2⟩ := key t ht
    exact He.frT_none h1 h2
  · obtain ⟨_, o, h1, h2⟩ := key t ht
    rw [h1, He.emptyTab_eq h2]
end G
set_option Elab.async false
set_option linter.all false
set_option maxRecDepth 100000
set_option maxHeartbeats 8000000
/-! GF: walking a list, a tuple or a text, as the run has it. -/
namespace G
open PySem PySem.Spec PyProof.Rows L2
def signsD (x : Str) : List D := x.cps.toList.map fun c => D.str ⟨#[c]⟩
def iSeqS (f : Ev → M D) : Ev → M (List D) := fun ρ => f ρ >>= fun d => liftO (match d with | .str x => some (signsD x) | _ => none)
def walkD : D → Option (List D)
  | .lst xs => some xs
  | .tup xs => some xs
  | .str x => some (signsD x)
  | _ => none
def iSeq (f : Ev → M D) : Ev → M (List D) := fun ρ => f ρ >>= fun d => liftO (walkD d)
section
variable {X : Cx} {ca : Dr} {E : XK} {tg e : Expr} {f : Ev → M D} {pos : Pos}
theorem yld_str {K : PySem.W.Frag} {W : Addr → Prop} {H : Hp} {x : Str} : Yld K ca W H (signsD x) (Its x) := by
  have hl : (signsD x).length = x.cps.size := by unfold signsD; simp
  refine ⟨fun P i H' hP ex hi => ?_, fun P H' hP ex => ?_, fun P W' i H' v H'' d g hP ex y hd => ?_⟩
  · rw [hl] at hi; exact hi
  · show x.cps.size ≤ _
    rw [hl]; exact Nat.le_refl _
  · obtain ⟨rfl, c, hc, rfl⟩ := y
    unfold signsD at hd
    rw [List.getElem?_map, Array.getElem?_toList, hc] at hd
    cases hd
    exact ⟨fun _ _ z => z, .str _⟩
theorem i_str (h : PE X e (tD X.K ca E f)) : PI X tg e (tI X.K ca E (iSeqS f)) := by
  refine ⟨fun pins s σ H R I hw => (pi_str h).run pins s σ H R I ?_⟩
  obtain ⟨Z, Y, ρ, c, eo, co, hw⟩ := hw
  refine ⟨Z, Y, ρ, c, eo, co, (Do.bind hw).mono fun d c1 h1 v H1 e1 r1 co1 => ?_⟩
  obtain ⟨ds, hd, h2⟩ := Do.lift h1
  cases r1 with
  | str x =>
    cases hd
    exact ⟨_, rfl, h2 _ H1 e1 co1 yld_str⟩
  | _ => cases hd
theorem bind_congr {α β : Type} {m : M α} {g g' : α → M β} {c : Churn} (h : ∀ a c1, m c = .ok a c1 → g a c1 = g' a c1) : (m >>= g) c = (m >>= g') c := by
  show M.bind m g c = M.bind m g' c
  unfold M.bind
  cases e : m c with
  | ok a c1 => exact h a c1 e
  | exn x c1 => rfl
  | stuck => rfl
theorem i_seq (h : PE X e (tD X.K ca E f)) : PI X tg e (tI X.K ca E (iSeq f)) := by
  refine ⟨fun pins s σ H R I hw => ?_⟩
  obtain ⟨Z, Y, ρ, c, eo, co, hw⟩ := hw
  by_cases hs : ∃ x c1, f ρ c = .ok (.str x) c1
  · obtain ⟨x, c1, hs⟩ := hs
    refine (i_str h).run pins s σ H R I ⟨Z, Y, ρ, c, eo, co, ?_⟩
    have e : iSeqS f ρ c = iSeq f ρ c := bind_congr fun a c2 z => by rw [hs] at z; cases z; rfl
    rw [e]; exact hw
  by_cases ht : ∃ x c1, f ρ c = .ok (.tup x) c1
  · obtain ⟨x, c1, ht⟩ := ht
    refine (i_tup h).run pins s σ H R I ⟨Z, Y, ρ, c, eo, co, ?_⟩
    have e : iSeqT f ρ c = iSeq f ρ c := bind_congr fun a c2 z => by rw [ht] at z; cases z; rfl
    rw [e]; exact hw
  · refine (i_list h).run pins s σ H R I ⟨Z, Y, ρ, c, eo, co, ?_⟩
    have e : iSeqL f ρ c = iSeq f ρ c := bind_congr fun a c2 z => by
      cases a with
      | str x => exact absurd ⟨x, c2, z⟩ hs
      | tup x => exact absurd ⟨x, c2, z⟩ ht
      | _ => rfl
    rw [e]; exact hw
end
end G
set_option Elab.async false
set_option linter.all false
set_option maxRecDepth 100000
set_option maxHeartbeats 8000000
/-! GH: what a printed walk leans on: the head's facts as one premise, a def's promise as one fact, calls of it. -/
namespace G
open PySem PySem.Spec PyProof.Rows L2
theorem roomU {k : Nat} {A : Around} (r : Room k A) : A.units + 128 < cLine := by have := r.un; omega
theorem roomE {k : Nat} {A : Around} (r : Room k A) : A.units + 64 < cLine := by have := r.un; omega
/-- what the head says, over a base -/
structure Hx (fa : List He.Fa) (fn : List He.DefD) (tups : List (Str × List V)) (K : PySem.W.Frag) (mg : Str → Option Value) (base : Heap) : Prop where
  c : He.SaysD fa fn K
  G : ∃ h : Heap, K.In h ∧ h.Ns mainGlobals mg
  y : Sys base
  t : (tups.all fun p => tupFact K p.1 p.2) = true
section
variable {fa : List He.Fa} {fn : List He.DefD} {tups : List (Str × List V)} {K : PySem.W.Frag} {mg : Str → Option Value} {base : Heap}
theorem Hx.free (e : Hx fa fn tups K mg base) (i : Nat) {x : Str} (h : fa[i]? = some (.free x) := by rfl) : mg x = none := let ⟨_, a, b⟩ := e.G; He.free_ok a b (e.c.fact i h)
theorem Hx.glo (e : Hx fa fn tups K mg base) (i : Nat) {x : Str} (h : fa[i]? = some (.glo x) := by rfl) : mg x = some (.ref (He.ga K x)) := let ⟨_, a, b⟩ := e.G; He.glo_ok a b (e.c.fact i h)
theorem Hx.int (e : Hx fa fn tups K mg base) (i : Nat) {x : Str} {n : Int} (h : fa[i]? = some (.int x n) := by rfl) : ∃ t, mg x = some (.int n t) := let ⟨_, a, b⟩ := e.G; He.int_ok a b (e.c.fact i h)
theorem Hx.str (e : Hx fa fn tups K mg base) (i : Nat) {x z : Str} (h : fa[i]? = some (.str x z) := by rfl) : ∃ t, mg x = some (.str z t) := let ⟨_, a, b⟩ := e.G; He.str_ok a b (e.c.fact i h)
theorem Hx.tup (e : Hx fa fn tups K mg base) (i : Nat) {x : Str} {vs : List V} (h : tups[i]? = some (x, vs) := by rfl) (H : Hp) : TupAt K H (He.ga K x) vs := tupFact_ok (List.all_eq_true.mp e.t _ (List.mem_of_getElem? h)) H
end
section
variable {X : Cx} {ca : Dr} {E : XK} {pos : Pos}
theorem flA_rl {K : PySem.W.Frag} {Z : Addr → Prop} {H : Hp} : ∀ {vs : List V} {ds : List D}, flA ds = some vs → RlA K ca Z H vs ds
  | _, [], h => by cases h; exact .nil
  | _, d :: ds, h => by
    unfold flA at h
    cases hd : flD d with
    | none => rw [hd] at h; cases h
    | some v =>
      rw [hd] at h
      cases hs : flA ds with
      | none => rw [hs] at h; cases h
      | some ws =>
        rw [hs] at h; cases h
        refine .cons ?_ (flA_rl hs)
        cases d <;> first | (cases hd; constructor) | cases hd
end
/-- the def x at its place does F -/
structure DefG (P : Program) (w : World) (K : PySem.W.Frag) (mg : Str → Option Value) (base : Heap) (k : Nat) (x : Str) (st : Stmt) (ps : List Str) (F : List D → M D) : Prop where
  ex : ∃ fd nm, FunD K nm nm (defArgs st) (defBody st) (defScope st) [] [] (He.ga K x) fd ∧ mg x = some (.ref (He.ga K x)) ∧ FnG P w K mg base CX0 k (He.ga K x) fd ps (spD K ps.length F) ∧ Binds K fd ps []
theorem DefG.mk2 {P : Program} {w : World} {K : PySem.W.Frag} {mg : Str → Option Value} {base : Heap} {k : Nat} {x : Str} {st : Stmt} {N ps : List Str} {g : Sm} (hf : ∃ fd, FunD K x x (defArgs st) (defBody st) (defScope st) [] [] (He.ga K x) fd) (hm : mg x = some (.ref (He.ga K x))) (S : FnScope N ps (defScope st))
    (hb : ∀ (kV doc pm : Value) (an : Option Addr) (cdv ct : Value) (us : List Value), us.length = ps.length → bindArgs (PySem.W.fnOf x x (defArgs st) (defBody st) (defScope st) .none kV doc pm an cdv ct) ⟨us, []⟩ = pure (ps.zip us))
    (hbody : ∀ (ca : Dr) (cdv : Value) (A : Around) (outer : List Env) (s : Shared) (H : Hp) (E : XK), A.guards = some [] → Room k (A.deeper (envOfC x (defScope st) s.heap.objs.size (He.ga K x) cdv)) → PSs (cxOf CX0 P w K mg base N x (defScope st) (He.ga K x) cdv A outer s H E).nox (defBody st) (tS K ca E0 g)) :
    DefG P w K mg base (k + 1) x st ps fun ds => G.nx (runDef N.length g ds) := by
  obtain ⟨fd, F⟩ := hf
  exact ⟨fd, x, F, hm, FunD.okD F S hbody, FunD.bindsN F hb⟩
section
variable {X : Cx} {ca : Dr} {pos : Pos} {k j : Nat} {ps kn : List Str} {F : List D → M D} {x : Str} {st : Stmt} {p : Pos} {e : Expr} {es : List Expr} {fs ks : Ev → M (List D)} {kws : List Keyword}
/-- what lets nothing out is passed everywhere -/
theorem passA {E : XK} : Passes CX0 X E := fun _ _ _ _ _ _ _ h => h.elim
variable {E : XK}
theorem d_callG (Fk : DefG X.prog X.w X.K X.mg X.base j x st ps F) (gd : X.A.guards = some []) (hr : Room k X.A) (ha : PA X (e :: es) (tAs X.K ca E fs)) (hj : j ≤ k := by decide) (hg : Gl X x := by rfl) (hdb : (x == ("__debug__" : Str)) = false := by decide)
    (he : starEach (e :: es) X.env = (false, eval e X.env) :: starEach es X.env := by rfl) (hpl : (backTo pos (starEach es X.env)).any (·.1) = false := by rfl) : PE X (.Call (.Name x p) (e :: es) [] pos) (tD X.K ca E (eCall ps.length F [] fs)) := by
  obtain ⟨fd, nm, FF, hm, hF, hb⟩ := Fk.ex
  exact d_call (hF.mono hj) gd hr hm FF.kp hb .nil passA (fun _ _ => .nil) ha hg hdb he hpl
end
end G
namespace G
open PySem PySem.Spec PyProof.Rows L2
theorem funD_one {K : PySem.W.Frag} {x qual : Str} {params : Arguments} {body : List Stmt} {scope : Scope} {dvs : List V} {kws : List (Str × V)} {f : Addr} {fd fd' : FuncData} (F : FunD K x qual params body scope dvs kws f fd) (F' : FunD K x qual params body scope dvs kws f fd') : fd = fd' := by
  obtain ⟨oc, od, dV, kV, doc, pm, an, cdv, ct, osl, e1, lk, _⟩ := F.ex
  obtain ⟨oc', od', dV', kV', doc', pm', an', cdv', ct', osl', e1', lk', _⟩ := F'.ex
  rw [lk] at lk'
  cases lk'
  rfl
end G
namespace G
open PySem PySem.Spec PyProof.Rows L2
/-! == where texts are at hand: no look at their signs -/
theorem canAll_ints : ∀ ns : List Int, PyData.canLayAll0 (ns.map PyData.int) = true
  | [] => rfl
  | n :: ns => by rw [List.map_cons]; simp only [PyData.canLayAll0, canAll_ints ns, PyData.canLay0, Bool.and_true]
theorem depth_ints : ∀ ns : List Int, PyData.depthAll (ns.map PyData.int) = 0
  | [] => rfl
  | n :: ns => by rw [List.map_cons]; simp only [PyData.depthAll, depth_ints ns, PyData.depth]; rfl
theorem shaped_ints (ns : List Int) : SeqAt.shaped (.list (ns.map PyData.int)) = true := by
  unfold SeqAt.shaped
  simp only [PyData.canLay0, PyData.depth, canAll_ints, depth_ints]
  decide
theorem eqv_ints_nil (ns : List Int) : PyData.eqv (.list (ns.map PyData.int)) (.list []) = ns.isEmpty := by cases ns <;> rfl
def gEqX (neg : Bool) : D → D → Option Bool
  | .str a, .str b => some (if neg then !decide (a = b) else decide (a = b))
  | .scr ns, .lst [] => some (if neg then !ns.isEmpty else ns.isEmpty)
  | x, y => gEq neg x y
def rEqX (K : PySem.W.Frag) : R2 := fun x y H Q => rEq x y H Q ∨ rEqD K x y H Q
def rNeX (K : PySem.W.Frag) : R2 := fun x y H Q => rNe x y H Q ∨ rNeD K x y H Q
section
variable {X : Cx} {K : PySem.W.Frag} {ca : Dr}
theorem op_eqX (hu : X.A.units + 64 < cLine) : OpR X (compareOp .Eq) (rEqX X.K) := OpR.or op_eq (op_eqD hu)
theorem op_neX (hu : X.A.units + 64 < cLine) : OpR X (compareOp .NotEq) (rNeX X.K) := OpR.or op_ne (op_neD hu)
theorem str_dec (a b : Str) : decide (V.str a = V.str b) = decide (a = b) := by
  by_cases h : a = b
  · subst h; simp
  · rw [decide_eq_false h, decide_eq_false fun z => h (by cases z; rfl)]
theorem cmp_eqX : BinB K ca (rEqX K) (gEqX false) := fun Z H c x y d e k Q z co r1 r2 hg q => by
  unfold gEqX at hg
  split at hg
  · cases r1; cases r2
    refine .inl ⟨rfl, ?_⟩
    rw [str_dec]
    cases hg
    exact q H .refl co
  · rename_i ns
    cases hg
    cases r1 with | scr h1 =>
    cases r2 with | lst n2 h2 ra =>
    cases ra
    refine .inr ⟨.list (ns.map .int), .list [], .lst h1.s (dp_ints ns), .lst (SqL.of h2) .nil, shaped_ints ns, by decide, ?_⟩
    rw [eqv_ints_nil]
    exact q H .refl co
  · exact .inr (cmp_eq Z H c x y d e k Q z co r1 r2 hg q)
theorem cmp_neX : BinB K ca (rNeX K) (gEqX true) := fun Z H c x y d e k Q z co r1 r2 hg q => by
  unfold gEqX at hg
  split at hg
  · cases r1; cases r2
    refine .inl ⟨rfl, ?_⟩
    rw [str_dec]
    cases hg
    exact q H .refl co
  · rename_i ns
    cases hg
    cases r1 with | scr h1 =>
    cases r2 with | lst n2 h2 ra =>
    cases ra
    refine .inr ⟨.list (ns.map .int), .list [], .lst h1.s (dp_ints ns), .lst (SqL.of h2) .nil, shaped_ints ns, by decide, ?_⟩
    rw [eqv_ints_nil]
    exact q H .refl co
  · exact .inr (cmp_ne Z H c x y d e k Q z co r1 r2 hg q)
end
end G
set_option Elab.async false
set_option linter.all false
set_option maxRecDepth 100000
set_option maxHeartbeats 4000000
/-! KG: zip of two things, each of them a list or a tuple. -/
namespace G
open PySem PySem.Spec PyProof.Rows L2
/-- what walks a tuple (true) or a list -/
def ItAt : Bool → Heap → Addr → Addr → Nat → Prop
  | true, h, i, l, k => h.IsTupleIter i l k
  | false, h, i, l, k => h.IsListIter i l k
/-- a tuple (true) or a list lies there -/
def SqAt : Bool → Heap → Addr → Array Value → Prop
  | true, h, l, xs => h.IsTuple l xs
  | false, h, l, xs => h.IsList l xs
def itCls : Bool → String
  | true => "tuple_iterator"
  | false => "list_iterator"
theorem ItAt.stay {b : Bool} {h g : Heap} {i l : Addr} {k : Nat} (x : ItAt b h i l k) (e : ∀ o, h.get? i = some o → g.get? i = some o) : ItAt b g i l k := by
  cases b with
  | true => exact Heap.IsTupleIter.at x e
  | false => exact Heap.IsListIter.at x e
theorem SqAt.stay {b : Bool} {h g : Heap} {l : Addr} {xs : Array Value} (x : SqAt b h l xs) (e : ∀ o, h.get? l = some o → g.get? l = some o) : SqAt b g l xs := by
  cases b with
  | true => exact Heap.IsTuple.at x e
  | false => exact Heap.IsList.at x e
theorem ItAt.new {b : Bool} {h : Heap} {i l : Addr} (e : h.get? i = some { cls := .type (itCls b), data := .fields #[.ref l, .int 0 0] }) : ItAt b h i l 0 := by
  cases b with
  | true => exact ⟨_, e, rfl, rfl⟩
  | false => exact ⟨_, e, rfl, rfl⟩
/-! as an iterator of the layer -/
end G
set_option Elab.async false
set_option linter.all false
set_option maxRecDepth 100000
set_option maxHeartbeats 8000000
/-! GU: more built-ins: dicts read, zip, enumerate, *, sum, max, min, split; own lists read by place. -/
namespace G
open PySem PySem.Spec PyProof.Rows L2
section
variable {X : Cx} {K : PySem.W.Frag} {ca : Dr} {E : XK}
/-! ### d[k], k in d -/
def rIxK : R2 := fun x y H Q => ∃ a v, x = .ref a ∧ DGet H a y (some v) ∧ Q v H
theorem ix_dK (hu : X.A.units + 1 < cLine) : IxR X rIxK := by
  intro value slice pins s σ H x y v u Q I rx ry h hs
  obtain ⟨a, r, rfl, g, q⟩ := h
  obtain rfl : v = Value.ref a := rx
  exact tail_any (dict_typeIs I g) F.slot_dict_getitem.lookup (d_getItem hu I g ry fun w' s3 I3 rw' => ⟨r, H, I3, rw', q⟩) hs
def lookD : List Key → List D → Key → Option D
  | k :: ks, v :: vs, j => if k = j then some v else lookD ks vs j
  | _, _, _ => none
theorem valV_cons {p : Key × V} {r : List (Key × V)} {k : Key} : valV (p :: r) k = if p.1 = k then some p.2 else valV r k := by
  unfold valV
  rw [List.find?_cons]
  by_cases h : p.1 = k
  · rw [decide_eq_true h, if_pos h]; rfl
  · rw [decide_eq_false h, if_neg h]
theorem look_rl {Z : Addr → Prop} {H : Hp} : ∀ {kvs : List (Key × V)} {ds : List D} {k : Key}, RlA K ca Z H (kvs.map (·.2)) ds → (∀ d, lookD (kvs.map (·.1)) ds k = some d → ∃ v, valV kvs k = some v ∧ Rl K ca Z H v d) ∧ (lookD (kvs.map (·.1)) ds k = none → valV kvs k = none)
  | [], ds, k, ra => by
    have ra : RlA K ca Z H [] ds := ra
    cases ra
    exact ⟨fun d h => (nomatch (show (none : Option D) = some d from h)), fun _ => rfl⟩
  | p :: r, d0 :: ds, k, .cons r1 ra => by
    obtain ⟨h1, h2⟩ := look_rl (k := k) ra
    have e : lookD ((p :: r).map (·.1)) (d0 :: ds) k = if p.1 = k then some d0 else lookD (r.map (·.1)) ds k := rfl
    rw [e, valV_cons]
    by_cases h : p.1 = k
    · rw [if_pos h, if_pos h]
      exact ⟨fun d q => by cases q; exact ⟨_, rfl, r1⟩, fun q => by cases q⟩
    · rw [if_neg h, if_neg h]
      exact ⟨h1, h2⟩
def gIxK : D → D → Option D
  | .dic ks vs, k => (keyD k).bind fun k => lookD ks vs k
  | _, _ => none
theorem ix_DK : BinD K ca rIxK gIxK := fun Z H c x y d e d' Q z co r1 r2 hg q => by
  unfold gIxK at hg
  split at hg
  · cases r1 with | dic n h ra =>
    cases hk : keyD e with
    | none => rw [hk] at hg; cases hg
    | some k =>
      rw [hk] at hg
      obtain ⟨v, h1, h2⟩ := (look_rl ra).1 _ hg
      have ek := keyD_of r2 hk
      subst ek
      exact ⟨_, v, rfl, by rw [← h1]; exact DGet.k h, q _ H .refl h2 co⟩
  · cases hg
/-- any subscript -/
def gIxA (x y : D) : Option D := match x with
  | .dic _ _ => gIxK x y
  | _ => gIx x y
theorem ix_all (hu : X.A.units + 1 < cLine) : IxR X (fun x y H Q => rIx X.K x y H Q ∨ rIxK x y H Q) := ix_seq.or (ix_dK hu)
theorem ix_DA : BinD K ca (fun x y H Q => rIx K x y H Q ∨ rIxK x y H Q) gIxA := fun Z H c x y d e d' Q z co r1 r2 hg q => by
  unfold gIxA at hg
  split at hg
  · exact .inr (ix_DK Z H c x y _ e d' Q z co r1 r2 hg q)
  · exact .inl (ix_D Z H c x y _ e d' Q z co r1 r2 hg q)
/-! ### zip, enumerate -/
def zipL (xs ys : List D) : List D := (xs.zip ys).map fun p => .tup [p.1, p.2]
def zipD : List D → Option (List D)
  | [.lst xs, .lst ys] => some (zipL xs ys)
  | [.tup xs, .tup ys] => some (zipL xs ys)
  | [.tup xs, .lst ys] => some (zipL xs ys)
  | [.lst xs, .tup ys] => some (zipL xs ys)
  | _ => none
def iZipM (fs : Ev → M (List D)) : Ev → M (List D) := fun ρ => fs ρ >>= fun ds => liftO (zipD ds)
end
section
variable {X : Cx} {K : PySem.W.Frag} {ca : Dr} {E : XK}
def enumL (xs : List D) : List D := xs.zipIdx.map fun p => .tup [.int (p.2 : Nat), p.1]
def enumD : List D → Option (List D)
  | [.lst xs] => some (enumL xs)
  | _ => none
def iEnumM (fs : Ev → M (List D)) : Ev → M (List D) := fun ρ => fs ρ >>= fun ds => liftO (enumD ds)
/-! ### *xs in a display -/
def aStar (f : Ev → M D) (g : Ev → M (List D)) : Ev → M (List D) := fun ρ => f ρ >>= fun x => liftO (seqOf x) >>= fun xs => g ρ >>= fun ys => pure (xs ++ ys)
/-! ### sum, max, min over a list of ints -/
def intA : List D → Option (List Int)
  | [] => some []
  | .int i :: ds => (intA ds).map (i :: ·)
  | _ :: _ => none
theorem intA_rl {Z : Addr → Prop} {H : Hp} : ∀ {vs : List V} {ds : List D} {ns : List Int}, RlA K ca Z H vs ds → intA ds = some ns → vs = ns.map V.int ∧ ds.length = ns.length
  | _, [], _, .nil, h => by cases h; exact ⟨rfl, rfl⟩
  | _, .int i :: ds, ns, .cons (.int _) r, h => by
    have h : (intA ds).map (i :: ·) = some ns := h
    cases hs : intA ds with
    | none => rw [hs] at h; cases h
    | some ms =>
      rw [hs] at h; cases h
      obtain ⟨e, l⟩ := intA_rl r hs
      exact ⟨by rw [e]; rfl, by simp [l]⟩
end
end G
set_option Elab.async false
set_option linter.all false
set_option maxRecDepth 100000
set_option maxHeartbeats 8000000
/-! GV: max, min, split; own lists looked at; defs that call themselves. -/
namespace G
open PySem PySem.Spec PyProof.Rows L2
theorem callR_or {X : Cx} {v : Value} {r r' : List V → Hp → VK → Prop} (h : CallR X v r) (h' : CallR X v r') : CallR X v (fun xs H Q => r xs H Q ∨ r' xs H Q) := by
  intro pins s σ H xs us Q I rv q
  rcases q with q | q
  · exact h pins s σ H xs us Q I rv q
  · exact h' pins s σ H xs us Q I rv q
section
variable {X : Cx} {K : PySem.W.Frag} {ca : Dr} {E : XK}
def rMin2 : List V → Hp → VK → Prop := fun xs H Q => ∃ i j, xs = [.int i, .int j] ∧ Q (.int (if j < i then j else i)) H
theorem min_one {ns : List Int} {m : Int} (h : ns.min? = some m) {k : Int} (hk : k ∈ ns) (hall : ∀ y, y ∈ ns → k ≤ y) : k = m := by
  obtain ⟨h1, h2⟩ := List.min?_eq_some_iff.mp h
  exact Int.le_antisymm (hall m h1) (h2 k hk)
theorem pos_of {ns : List Int} {m : Int} (h : m ∈ ns) : 0 < ns.length := by
  cases ns with
  | nil => cases h
  | cons _ _ => exact Nat.succ_pos _
/-! ### split -/
/-! ### own lists looked at -/
/-- x[i] -/
def eIxO (i : Nat) (f : Ev → M D) : Ev → M D := fun ρ => match ρ[i]? with
  | some (.own (.lst xs)) => f ρ >>= fun k => liftO (intO k) >>= fun k => liftO (atI xs k)
  | _ => stuck
end
/-! ### defs that call themselves -/
end G
set_option Elab.async false
set_option linter.all false
set_option maxRecDepth 100000
set_option maxHeartbeats 8000000
/-! GI: running mirrors: Ok r k = r ends well and k holds of what it gives; one equation for each form. -/
namespace G
open PySem PySem.Spec PyProof.Rows L2
def Ok {α : Type} (r : R α) (k : α → Churn → Prop) : Prop := match r with
  | .ok a c => k a c
  | _ => False
section
variable {α β : Type} {m : M α} {f : α → M β} {c : Churn} {a : α}
theorem Ok.ex {r : R α} {k : α → Churn → Prop} (h : Ok r k) : ∃ a c, r = .ok a c ∧ k a c := by
  cases r with
  | ok a c => exact ⟨a, c, rfl, h⟩
  | exn x c => exact h.elim
  | stuck => exact h.elim
theorem Ok.mono {r : R α} {k k' : α → Churn → Prop} (h : Ok r k) (i : ∀ a c, k a c → k' a c) : Ok r k' := by
  cases r with
  | ok a c => exact i a c h
  | exn x c => exact h
  | stuck => exact h
theorem ok_bind {k : β → Churn → Prop} : Ok ((m >>= f) c) k = Ok (m c) fun a c1 => Ok (f a c1) k := by
  show Ok (M.bind m f c) k = _
  unfold M.bind
  cases h : m c with
  | ok a c' => rfl
  | exn x c' => rfl
  | stuck => rfl
theorem ok_pure {k : α → Churn → Prop} : Ok ((pure a : M α) c) k = k a c := rfl
theorem ok_ok {k : α → Churn → Prop} : Ok (R.ok a c) k = k a c := rfl
theorem ok_lift {o : Option α} {k : α → Churn → Prop} : Ok (liftO o c) k = ∃ a, o = some a ∧ k a c := by
  apply propext
  cases o with
  | none => exact ⟨fun h => h.elim, fun ⟨_, h, _⟩ => by cases h⟩
  | some a => exact ⟨fun h => ⟨a, rfl, h⟩, fun ⟨_, h, q⟩ => by cases h; exact q⟩
theorem ok_stuck {k : α → Churn → Prop} : Ok ((stuck : M α) c) k = False := rfl
theorem ok_ite {p : Prop} [Decidable p] {m m' : M α} {k : α → Churn → Prop} : Ok ((if p then m else m') c) k = if p then Ok (m c) k else Ok (m' c) k := by split <;> rfl
theorem ok_nx {k : α → Churn → Prop} : Ok (nx m c) k = Ok (m c) k := by
  unfold nx
  cases h : m c with
  | ok a c' => rfl
  | exn x c' => rfl
  | stuck => rfl
end
section
variable {ρ : Ev} {c : Churn} {fa fb fc : Ev → M D} {c1 c2 : Ev → M Bool} {fs : Ev → M (List D)} {k : D → Churn → Prop} {kb : Bool → Churn → Prop} {ks : List D → Churn → Prop} {kp : Ev × Ctl → Churn → Prop} {s t : Sm}
theorem ok_var {i : Nat} : Ok (eVar i ρ c) k = ∃ d, ρ[i]? = some (.val d) ∧ k d c := by
  apply propext
  unfold eVar
  cases e : ρ[i]? with
  | none => exact ⟨fun h => h.elim, fun ⟨d, h, _⟩ => by cases h⟩
  | some s =>
    cases s with
    | val d => exact ⟨fun h => ⟨d, rfl, h⟩, fun ⟨_, h, q⟩ => by cases h; exact q⟩
    | no => exact ⟨fun h => h.elim, fun ⟨d, h, _⟩ => by cases h⟩
    | own ds => exact ⟨fun h => h.elim, fun ⟨d, h, _⟩ => by cases h⟩
theorem ok_C {d : D} : Ok (eC d ρ c) k = k d c := ok_pure
theorem ok_bin {g : D → D → Option D} : Ok (eBin g fa fb ρ c) k = Ok (fa ρ c) fun x c1 => Ok (fb ρ c1) fun y c2 => ∃ z, g x y = some z ∧ k z c2 := by
  unfold eBin; simp only [ok_bind, ok_lift]
theorem ok_un {g : D → Option D} : Ok (eUn g fa ρ c) k = Ok (fa ρ c) fun x c1 => ∃ z, g x = some z ∧ k z c1 := by
  unfold eUn; simp only [ok_bind, ok_lift]
theorem ok_nil : Ok (aNil ρ c) ks = ks [] c := ok_pure
theorem ok_cons : Ok (aCons fa fs ρ c) ks = Ok (fa ρ c) fun x c1 => Ok (fs ρ c1) fun xs c2 => ks (x :: xs) c2 := by
  unfold aCons; simp only [ok_bind, ok_pure]
theorem ok_args {g : List D → Option D} : Ok (eArgs g fs ρ c) k = Ok (fs ρ c) fun xs c1 => ∃ z, g xs = some z ∧ k z c1 := by
  unfold eArgs; simp only [ok_bind, ok_lift]
theorem ok_tru : Ok (cTru fa ρ c) kb = Ok (fa ρ c) fun x c1 => ∃ b, truD x = some b ∧ kb b c1 := by
  unfold cTru; simp only [ok_bind, ok_lift]
theorem ok_not : Ok (cNot c1 ρ c) kb = Ok (c1 ρ c) fun b c1 => kb (!b) c1 := by
  unfold cNot; simp only [ok_bind, ok_pure]
theorem ok_and : Ok (cAnd c1 c2 ρ c) kb = Ok (c1 ρ c) fun b c1 => if b = true then Ok (c2 ρ c1) kb else kb false c1 := by
  unfold cAnd; simp only [ok_bind, ok_ite, ok_pure]
theorem ok_or : Ok (cOr c1 c2 ρ c) kb = Ok (c1 ρ c) fun b c1 => if b = true then kb true c1 else Ok (c2 ρ c1) kb := by
  unfold cOr; simp only [ok_bind, ok_ite, ok_pure]
theorem ok_eNot : Ok (eNot fa ρ c) k = Ok (fa ρ c) fun x c1 => ∃ b, truD x = some b ∧ k (.bl !b) c1 := by
  unfold eNot; simp only [ok_bind, ok_lift, ok_pure]
theorem ok_eAnd : Ok (eAnd fa fb ρ c) k = Ok (fa ρ c) fun x c1 => ∃ b, truD x = some b ∧ if b = true then Ok (fb ρ c1) k else k x c1 := by
  unfold eAnd; simp only [ok_bind, ok_lift, ok_ite, ok_pure]
theorem ok_eOr : Ok (eOr fa fb ρ c) k = Ok (fa ρ c) fun x c1 => ∃ b, truD x = some b ∧ if b = true then k x c1 else Ok (fb ρ c1) k := by
  unfold eOr; simp only [ok_bind, ok_lift, ok_ite, ok_pure]
theorem ok_if : Ok (eIf c1 fa fb ρ c) k = Ok (c1 ρ c) fun b c1 => if b = true then Ok (fa ρ c1) k else Ok (fb ρ c1) k := by
  unfold eIf; simp only [ok_bind, ok_ite]
theorem ok_cmp {g : D → D → Option Bool} : Ok (cCmp g fa fb ρ c) kb = Ok (fa ρ c) fun x c1 => Ok (fb ρ c1) fun y c2 => ∃ z, g x y = some z ∧ kb z c2 := by
  unfold cCmp; simp only [ok_bind, ok_lift]
theorem ok_chain {g g' : D → D → Option Bool} : Ok (cChain g g' fa fb fc ρ c) kb = Ok (fa ρ c) fun x c1 => Ok (fb ρ c1) fun y c2 => ∃ z, g x y = some z ∧ if z = true then Ok (fc ρ c2) (fun w c3 => ∃ u, g' y w = some u ∧ kb u c3) else kb false c2 := by
  unfold cChain; simp only [ok_bind, ok_lift, ok_ite, ok_pure]
theorem ok_ofC : Ok (eOfC c1 ρ c) k = Ok (c1 ρ c) fun b c1 => k (.bl b) c1 := by
  unfold eOfC; simp only [ok_bind, ok_pure]
theorem ok_oNone {ko : Option Int → Churn → Prop} : Ok (oNone ρ c) ko = ko none c := ok_pure
theorem ok_oSome {ko : Option Int → Churn → Prop} : Ok (oSome fa ρ c) ko = Ok (fa ρ c) fun x c1 => ∃ i, intO x = some i ∧ ko (some i) c1 := by
  unfold oSome; simp only [ok_bind, ok_lift, ok_pure]
theorem ok_sl {g : D → Option Int → Option Int → Option D} {l u : Ev → M (Option Int)} : Ok (eSl g fa l u ρ c) k = Ok (fa ρ c) fun x c1 => Ok (l ρ c1) fun i c2 => Ok (u ρ c2) fun j c3 => ∃ z, g x i j = some z ∧ k z c3 := by
  unfold eSl; simp only [ok_bind, ok_lift]
theorem ok_met {T : String} {g : D → List D → Option D} : Ok (eMet T g fa fs ρ c) k = Ok (fa ρ c) fun x c1 => tyD T x = true ∧ Ok (fs ρ c1) fun xs c2 => ∃ z, g x xs = some z ∧ k z c2 := by
  unfold eMet; simp only [ok_bind, ok_lift]
  congr 1; funext x c1; apply propext
  by_cases h : tyD T x = true <;> simp [h]
theorem ok_call {n : Nat} {F : List D → M D} {dds : List D} : Ok (eCall n F dds fs ρ c) k = Ok (fs ρ c) fun xs c1 => (xs ++ dds).length = n ∧ Ok (F (xs ++ dds) c1) k := by
  unfold eCall; simp only [ok_bind, ok_ite, ok_stuck]
  congr 1; funext x c1; apply propext
  by_cases h : (x ++ dds).length = n <;> simp [h]
theorem ok_callK {n m j : Nat} {ix : List Nat} {F : List D → M D} {gs : Ev → M (List D)} : Ok (eCallK n m j ix F fs gs ρ c) k = Ok (fs ρ c) fun xs c1 => Ok (gs ρ c1) fun zs c2 => (xs.length = m ∧ zs.length = j ∧ (pick ix (xs ++ zs)).length = n) ∧ Ok (F (pick ix (xs ++ zs)) c2) k := by
  unfold eCallK; simp only [ok_bind, ok_ite, ok_stuck]
  congr 1; funext x c1; congr 1; funext z c2; apply propext
  by_cases h : x.length = m ∧ z.length = j ∧ (pick ix (x ++ z)).length = n <;> simp [h]
def revD : D → Option D
  | .lst xs => some (.lst xs.reverse)
  | _ => none
def itmD : D → Option D
  | .dic ks vs => some (.lst (itemsD ks vs))
  | _ => none
theorem ok_rev : Ok (eRev fa ρ c) k = Ok (fa ρ c) fun x c1 => ∃ z, revD x = some z ∧ k z c1 := by
  unfold eRev; simp only [ok_bind, ok_lift]
  rfl
theorem ok_items : Ok (eItems fa ρ c) k = Ok (fa ρ c) fun x c1 => ∃ z, itmD x = some z ∧ k z c1 := by
  unfold eItems; simp only [ok_bind, ok_lift]
  rfl
theorem ok_lenSet : Ok (eLenSet fa ρ c) k = Ok (fa ρ c) fun x c1 => ∃ z, gLenSet x = some z ∧ k z c1 := by
  unfold eLenSet; simp only [ok_bind, ok_lift]
theorem ok_chn {j : Int} {i : Nat} : Ok (eChn j i ρ c) k = ((∃ d, ρ[i]? = some (.val d) ∧ isChn d = some ()) ∧ ∃ z, chnItem j c = some z ∧ k z c) := by
  unfold eChn; simp only [ok_bind, ok_lift, ok_var]
  apply propext
  constructor
  · rintro ⟨d, h, ⟨u, hu, h2⟩⟩
    refine ⟨⟨d, h, hu⟩, ?_⟩
    simpa [getC, ok_ok, ok_lift] using h2
  · rintro ⟨⟨d, h, hu⟩, h2⟩
    refine ⟨d, h, (), hu, ?_⟩
    simpa [getC, ok_ok, ok_lift] using h2
theorem ok_pairs0 {kk : List (Key × D) → Churn → Prop} : Ok (ePairs [] ρ c) kk = kk [] c := ok_pure
theorem ok_pairs {fk fv : Ev → M D} {r} {kk : List (Key × D) → Churn → Prop} : Ok (ePairs ((fk, fv) :: r) ρ c) kk = Ok (fk ρ c) fun x c1 => ∃ y, keyD x = some y ∧ Ok (fv ρ c1) fun v c2 => Ok (ePairs r ρ c2) fun ps c3 => kk ((y, v) :: ps) c3 := by
  simp only [ePairs, ok_bind, ok_lift, ok_pure]
theorem ok_dict {ps} : Ok (eDict ps ρ c) k = Ok (ePairs ps ρ c) fun kvs c1 => kvs.length ≤ 15 ∧ k (mkDic kvs) c1 := by
  unfold eDict; simp only [ok_bind, ok_ite, ok_stuck, ok_pure]
  congr 1; funext x c1; apply propext
  by_cases h : x.length ≤ 15 <;> simp [h]
/-! what is walked, comprehensions -/
theorem ok_iSeq : Ok (iSeq fa ρ c) ks = Ok (fa ρ c) fun x c1 => ∃ z, walkD x = some z ∧ ks z c1 := by
  unfold iSeq; simp only [ok_bind, ok_lift]
theorem ok_rng1 : Ok (iRange1 fs ρ c) ks = Ok (fs ρ c) fun x c1 => ∃ z, rng1 x = some z ∧ ks z c1 := by
  unfold iRange1; simp only [ok_bind, ok_lift]
theorem ok_rng2 : Ok (iRange2 fs ρ c) ks = Ok (fs ρ c) fun x c1 => ∃ z, rng2 x = some z ∧ ks z c1 := by
  unfold iRange2; simp only [ok_bind, ok_lift]
theorem ok_comp {t : Tg} {it : Ev → M (List D)} {vs : List Nat} : Ok (eComp t it c1 fa vs ρ c) k = Ok (it ρ c) fun ds c2 => ds.length ≤ sizeLine ∧ Ok (compM t c1 fa (wipeE ρ vs) ds c2) fun ys c3 => k (.lst ys) c3 := by
  unfold eComp; simp only [ok_bind, ok_ite, ok_stuck, ok_pure, ok_nx]
  congr 1; funext x c3; apply propext
  by_cases h : x.length ≤ sizeLine <;> simp [h]
theorem ok_comp0 {t : Tg} : Ok (compM t c1 fa ρ [] c) ks = ks [] c := ok_pure
theorem ok_compS {t : Tg} {d : D} {ds : List D} : Ok (compM t c1 fa ρ (d :: ds) c) ks = ∃ ρ1, t d ρ = some ρ1 ∧ Ok (c1 ρ1 c) fun b c2 => if b = true then (Ok (fa ρ1 c2) fun y c3 => Ok (compM t c1 fa ρ ds c3) fun ys c4 => ks (y :: ys) c4) else Ok (compM t c1 fa ρ ds c2) ks := by
  simp only [compM, ok_bind, ok_lift, ok_ite, ok_pure]
/-! statements -/
theorem ok_seq : Ok (sSeq s t ρ c) kp = Ok (s ρ c) fun p c1 => match p.2 with | .nx => Ok (t p.1 c1) kp | _ => kp p c1 := by
  unfold sSeq; simp only [ok_bind]
  congr 1; funext p c1
  obtain ⟨ρ1, ctl⟩ := p
  cases ctl <;> simp only [ok_pure]
theorem ok_sNil : Ok (sNil ρ c) kp = kp (ρ, .nx) c := ok_pure
theorem ok_ret : Ok (sRet fa ρ c) kp = Ok (fa ρ c) fun d c1 => kp (ρ, .ret d) c1 := by
  unfold sRet; simp only [ok_bind, ok_pure]
theorem ok_retN : Ok (sRetN ρ c) kp = kp (ρ, .ret .non) c := ok_pure
theorem ok_sIf : Ok (sIf c1 s t ρ c) kp = Ok (c1 ρ c) fun b c2 => if b = true then Ok (s ρ c2) kp else Ok (t ρ c2) kp := by
  unfold sIf; simp only [ok_bind, ok_ite]
theorem ok_asg {t : Tg} : Ok (sAsg t fa ρ c) kp = Ok (fa ρ c) fun d c1 => ∃ ρ1, t d ρ = some ρ1 ∧ kp (ρ1, .nx) c1 := by
  unfold sAsg; simp only [ok_bind, ok_lift, ok_pure]
theorem ok_par {i j : Nat} : Ok (sPar i j fs ρ c) kp = Ok (fs ρ c) fun ds c1 => ∃ d e, ds = [d, e] ∧ kp ((ρ.set i (.val d)).set j (.val e), .nx) c1 := by
  unfold sPar; simp only [ok_bind]
  congr 1; funext ds c1; apply propext
  match ds with
  | [d, e] => exact ⟨fun h => ⟨d, e, rfl, h⟩, fun ⟨_, _, h, q⟩ => by cases h; exact q⟩
  | [] => simp [ok_stuck]
  | [_] => simp [ok_stuck]
  | _ :: _ :: _ :: _ => simp [ok_stuck]
theorem ok_sChn {j : Int} {i : Nat} : Ok (sChn j i fa ρ c) kp = Ok (fa ρ c) fun d c1 => (∃ h, ρ[i]? = some (.val h) ∧ isChn h = some ()) ∧ ∃ c2, chnPut j d c1 = some c2 ∧ kp (ρ, .nx) c2 := by
  unfold sChn; simp only [ok_bind, ok_lift, ok_var, ok_pure]
  congr 1; funext d c1; apply propext
  constructor
  · rintro ⟨h, h1, u, hu, h2⟩
    refine ⟨⟨h, h1, hu⟩, ?_⟩
    simpa [getC, putC, ok_ok, ok_lift] using h2
  · rintro ⟨⟨h, h1, hu⟩, h2⟩
    refine ⟨h, h1, (), hu, ?_⟩
    simpa [getC, putC, ok_ok, ok_lift] using h2
theorem ok_for {t : Tg} {it : Ev → M (List D)} : Ok (sFor t it s ρ c) kp = Ok (it ρ c) fun ds c1 => Ok (forM' t s ds ρ c1) kp := by
  unfold sFor; simp only [ok_bind]
theorem ok_forS {t : Tg} {d : D} {ds : List D} : Ok (forM' t s (d :: ds) ρ c) kp = ∃ ρ1, t d ρ = some ρ1 ∧ Ok (s ρ1 c) fun p c1 => match p.2 with
    | .nx => Ok (forM' t s ds p.1 c1) kp
    | .ct => Ok (forM' t s ds p.1 c1) kp
    | .bk => kp (p.1, .nx) c1
    | .ret d => kp (p.1, .ret d) c1 := by
  simp only [forM', ok_bind, ok_lift]
  congr 1; funext ρ1; congr 1; congr 1; funext p c1
  obtain ⟨ρ2, ctl⟩ := p
  cases ctl <;> simp only [ok_pure]
theorem ok_def {N : Nat} {g : Sm} {ds : List D} : Ok (G.nx (runDef N g ds) c) k = Ok (g (ds.map Sl.val ++ List.replicate (N - ds.length) Sl.no) c) fun p c1 => match p.2 with | .ret d => k d c1 | .nx => k .non c1 | _ => False := by
  rw [ok_nx]
  unfold runDef; simp only [ok_bind]
  congr 1; funext p c1
  obtain ⟨ρ2, ctl⟩ := p
  cases ctl <;> simp only [ok_pure, ok_stuck]
end
theorem LawTrue.of {n : Nat} {g : Sm} (h : ∀ ns : List Int, ns.length ≤ 63 → Ok (g (.val (.scr ns) :: .val .chn :: List.replicate (n - 2) .no) ⟨ns.take 60, 0, 0⟩) fun p _ => p.2 = .ret (.bl true)) : LawTrue n g := fun cells hc => by
  obtain ⟨⟨ρ, ctl⟩, c, e, q⟩ := (h cells hc).ex
  cases q
  exact ⟨ρ, c, e⟩
end G
set_option Elab.async false
set_option linter.all false
set_option maxRecDepth 100000
set_option maxHeartbeats 8000000
/-! GJ: draws. -/
namespace G
open PySem PySem.Spec PyProof.Rows L2
def gDraw1 (m1 a b m2 d f m3 : Int) : Sm := (sSeq (sIf (cCmp (gEqX false) (eChn 0 0) (eArgs gLst aNil)) (sRet (eC (.int 0))) sNil)
  (sSeq (sIf (cCmp (gCmpI gtI) (eChn 2 0) (eC (.int 0))) (sSeq (sAsg (gN 2) (eArgs gInt (aCons (eChn 2 0) aNil)))
  (sSeq (sChn 2 0 (eBin gDiv (eVar 2) (eVar 1)))
  (sRet (eBin gMod (eArgs gInt (aCons (eVar 2) aNil)) (eVar 1))))) sNil)
  (sSeq (sAsg (gN 3) (eChn 1 0))
  (sSeq (sChn 1 0 (eBin gAdd (eVar 3) (eC (.int 1))))
  (sSeq (sAsg (gN 4) (eBin gIx (eChn 0 0) (eBin gMod (eArgs gInt (aCons (eVar 3) aNil)) (eArgs gLen (aCons (eChn 0 0) aNil)))))
  (sSeq (sIf (cAnd (cCmp (gCmpI ltI) (eVar 3) (eArgs gLen (aCons (eChn 0 0) aNil))) (cCmp (gCmpI geI) (eArgs gAbs (aCons (eVar 4) aNil)) (eBin gPow (eC (.int 10)) (eC (.int 18))))) (sSeq (sAsg (gN 2) (eBin gAdd (eBin gMul (eC (.int 2)) (eBin gSub (eArgs gAbs (aCons (eVar 4) aNil)) (eBin gPow (eC (.int 10)) (eC (.int 18))))) (eArgs gInt (aCons (eBin (gBl (gCmpI ltI)) (eVar 4) (eC (.int 0))) aNil))))
  (sSeq (sChn 2 0 (eBin gDiv (eArgs gInt (aCons (eVar 2) aNil)) (eVar 1)))
  (sRet (eBin gMod (eArgs gInt (aCons (eVar 2) aNil)) (eVar 1))))) sNil)
  (sSeq (sAsg (gN 5) (eBin gMod (eArgs gInt (aCons (eBin gPow (eBin gAdd (eBin gAdd (eBin gMod (eArgs gInt (aCons (eVar 4) aNil)) (eC (.int m1))) (eBin gMul (eC (.int a)) (eVar 3))) (eC (.int b))) (eC (.int 5))) aNil)) (eC (.int m2))))
  (sSeq (sAsg (gN 5) (eBin gMod (eArgs gInt (aCons (eBin gPow (eBin gAdd (eBin gAdd (eBin gMul (eVar 5) (eBin gAdd (eBin gMul (eC (.int 2)) (eVar 3)) (eC (.int d)))) (eBin gMul (eBin gMul (eC (.int f)) (eVar 3)) (eVar 3))) (eC (.int a))) (eC (.int 3))) aNil)) (eC (.int m3))))
  (sRet (eBin gMod (eArgs gInt (aCons (eBin gDiv (eVar 5) (eC (.int 64))) aNil)) (eVar 1)))))))))))
structure Good (n : Nat) (c : Churn) : Prop where
  lo : 0 ≤ c.at_
  hi : c.at_ ≤ n
  left : 0 ≤ c.left
  few : c.cells.length ≤ 63
theorem Good.mono {n n' : Nat} {c : Churn} (h : Good n c) (e : n ≤ n') : Good n' c := ⟨h.lo, by have := h.hi; omega, h.left, h.few⟩
theorem toPyA_ints : ∀ ns : List Int, toPyA (ns.map D.int) = some (ns.map PyData.int)
  | [] => rfl
  | n :: ns => by rw [List.map_cons]; unfold toPyA; rw [toPyA_ints ns]; rfl
theorem eq_nil_ints (ns : List Int) : gEqX false (.lst (ns.map D.int)) (.lst []) = some ns.isEmpty := by
  show gEq false (.lst (ns.map D.int)) (.lst []) = some ns.isEmpty
  have h1 : toPy (.lst (ns.map D.int)) = some (.list (ns.map PyData.int)) := by unfold toPy; rw [toPyA_ints]; rfl
  have h2 : toPy (.lst []) = some (.list []) := rfl
  have s1 : SeqAt.shaped (.list (ns.map PyData.int)) = true := by
    unfold SeqAt.shaped
    simp only [PyData.canLay0, PyData.depth, canAll_ints, depth_ints]
    decide
  have s2 : SeqAt.shaped (.list []) = true := by decide
  unfold gEq
  rw [h1, h2]
  simp only [Option.bind_some, s1, s2, and_self, if_true]
  cases ns <;> rfl
theorem atI_ints (ns : List Int) {i : Nat} (h : i < ns.length) : atI (ns.map D.int) (i : Int) = some (.int ns[i]) := by
  have e : ixN (ns.map D.int).length (i : Int) = some i := by
    unfold ixN
    have h0 : (0 : Int) ≤ (i : Int) := Int.natCast_nonneg i
    have h1 : (i : Int) < ((ns.map D.int).length : Int) := by rw [List.length_map]; exact Int.ofNat_lt.mpr h
    rw [if_pos h0, if_pos h1]
    simp
  unfold atI
  rw [e]
  simp [h]
theorem ite_t {b : Bool} {A B : Prop} (h : b = true) (q : A) : if b = true then A else B := by rw [if_pos h]; exact q
theorem ite_f {b : Bool} {A B : Prop} (h : b = false) (q : B) : if b = true then A else B := by rw [h, if_neg (by decide)]; exact q
theorem gMod_ok {i j : Int} (h : 0 < j) : gMod (.int i) (.int j) = some (.int (i % j)) := if_pos (decide_eq_true h)
theorem log_lt {j : Int} {k : Nat} (h : j.natAbs < 2 ^ k) (hk : 0 < k) : j.natAbs.log2 < k := by
  by_cases z : j.natAbs = 0
  · rw [z]; simpa using hk
  · exact (Nat.log2_lt z).mpr h
theorem gDiv_ok {i j : Int} (h : 0 < j) (h2 : j ≤ 2 ^ 62) : gDiv (.int i) (.int j) = some (.int (i / j)) :=
  if_pos (Bool.and_eq_true_iff.mpr ⟨decide_eq_true h, decide_eq_true (Nat.lt_trans (log_lt (k := 63) (by omega) (by decide)) (by decide))⟩)
theorem gMul_l {i j : Int} (h1 : -(2 ^ 64) < i) (h2 : i < 2 ^ 64) : gMul (.int i) (.int j) = some (.int (i * j)) :=
  if_pos (by unfold okMul; rw [decide_eq_true h1, decide_eq_true h2]; rfl)
theorem gPow_ok {i j : Int} (h0 : 0 ≤ j) (h1 : j ≤ 1000000) (h : i.natAbs < 2 ^ 64) : gPow (.int i) (.int j) = some (.int (i ^ j.toNat)) :=
  if_pos (by unfold okPow; rw [decide_eq_true h0, decide_eq_true h1, decide_eq_true h]; rfl)
theorem draw1 {m1 a b m2 d f m3 j : Int} {n : Nat} {c : Churn} {k : D → Churn → Prop} (hm1 : 0 < m1 ∧ m1 ≤ 2 ^ 31) (ha : 0 ≤ a ∧ a ≤ 2 ^ 20) (hb : 0 ≤ b ∧ b ≤ 2 ^ 20) (hm2 : 0 < m2 ∧ m2 ≤ 2 ^ 31) (hd : 0 ≤ d ∧ d ≤ 2 ^ 20) (hf : 0 ≤ f ∧ f ≤ 2 ^ 20) (hm3 : 0 < m3)
    (g : Good n c) (hn : n + 1 ≤ 2 ^ 20) (hj : 1 ≤ j) (hj2 : j ≤ 2 ^ 62) (q : ∀ r c', 0 ≤ r → r < j → Good (n + 1) c' → k (.int r) c') : Ok (G.nx (runDef 6 (gDraw1 m1 a b m2 d f m3) [.chn, .int j]) c) k := by
  obtain ⟨cells, at_, left⟩ := c
  rw [ok_def]
  show Ok (gDraw1 m1 a b m2 d f m3 [.val .chn, .val (.int j), .no, .no, .no, .no] _) _
  unfold gDraw1
  rw [ok_seq, ok_sIf, ok_cmp, ok_chn]
  refine ⟨⟨.chn, rfl, rfl⟩, _, rfl, ?_⟩
  rw [ok_args, ok_nil]
  refine ⟨_, rfl, _, eq_nil_ints cells, ?_⟩
  have hlo := g.lo
  have hhi := g.hi
  have hl := g.left
  simp only at hlo hhi hl
  have fin : ∀ r c', 0 ≤ r → r < j → Good (n + 1) c' → k (.int r) c' := q
  cases hc : cells with
  | nil =>
    subst hc
    rw [if_pos (by rfl), ok_ret, ok_C]
    exact q 0 _ (by omega) (by omega) (g.mono (by omega))
  | cons c0 cs =>
    rw [← hc]
    have hlen : 0 < cells.length := by rw [hc]; exact Nat.succ_pos _
    refine ite_f (by rw [hc]; rfl) ?_
    rw [ok_sNil]
    show Ok _ _
    rw [ok_seq, ok_sIf, ok_cmp, ok_chn]
    refine ⟨⟨.chn, rfl, rfl⟩, _, rfl, ?_⟩
    rw [ok_C]
    refine ⟨_, rfl, ?_⟩
    by_cases hz : 0 < left
    · refine ite_t (decide_eq_true hz) ?_
      rw [ok_seq, ok_asg, ok_args, ok_cons, ok_chn]
      refine ⟨⟨.chn, rfl, rfl⟩, _, rfl, ?_⟩
      rw [ok_nil]
      refine ⟨_, rfl, _, rfl, ?_⟩
      show Ok _ _
      rw [ok_seq, ok_sChn, ok_bin, ok_var]
      refine ⟨_, rfl, ?_⟩
      rw [ok_var]
      refine ⟨_, rfl, _, gDiv_ok (by omega) hj2, ⟨.chn, rfl, rfl⟩, _, rfl, ?_⟩
      show Ok _ _
      rw [ok_ret, ok_bin, ok_args, ok_cons, ok_var]
      refine ⟨_, rfl, ?_⟩
      rw [ok_nil]
      refine ⟨_, rfl, ?_⟩
      rw [ok_var]
      refine ⟨_, rfl, _, gMod_ok (by omega), ?_⟩
      refine q _ _ (Int.emod_nonneg _ (by omega)) (Int.emod_lt_of_pos _ (by omega)) ⟨g.lo, ?_, Int.ediv_nonneg hl (by omega), g.few⟩
      show at_ ≤ _
      omega
    · refine ite_f (decide_eq_false hz) ?_
      rw [ok_sNil]
      show Ok _ _
      rw [ok_seq, ok_asg, ok_chn]
      refine ⟨⟨.chn, rfl, rfl⟩, _, rfl, _, rfl, ?_⟩
      show Ok _ _
      rw [ok_seq, ok_sChn, ok_bin, ok_var]
      refine ⟨_, rfl, ?_⟩
      rw [ok_C]
      refine ⟨_, rfl, ⟨.chn, rfl, rfl⟩, _, rfl, ?_⟩
      show Ok _ _
      rw [ok_seq, ok_asg, ok_bin, ok_chn]
      refine ⟨⟨.chn, rfl, rfl⟩, _, rfl, ?_⟩
      rw [ok_bin, ok_args, ok_cons, ok_var]
      refine ⟨_, rfl, ?_⟩
      rw [ok_nil]
      refine ⟨_, rfl, ?_⟩
      rw [ok_args, ok_cons, ok_chn]
      refine ⟨⟨.chn, rfl, rfl⟩, _, rfl, ?_⟩
      rw [ok_nil]
      have hll : (0 : Int) < ((cells.map D.int).length : Int) := by rw [List.length_map]; exact Int.ofNat_lt.mpr hlen
      refine ⟨_, rfl, _, gMod_ok hll, ?_⟩
      have hi1 := Int.emod_nonneg at_ (by omega : ((cells.map D.int).length : Int) ≠ 0)
      have hi2 := Int.emod_lt_of_pos at_ hll
      obtain ⟨i, ei⟩ := Int.eq_ofNat_of_zero_le hi1
      rw [ei, List.length_map] at hi2
      have hi3 : i < cells.length := Int.ofNat_lt.mp hi2
      refine ⟨_, (by rw [ei]; exact atI_ints cells hi3), _, rfl, ?_⟩
      generalize cells[i] = cell
      have at1 : at_ + 1 ≤ ((n + 1 : Nat) : Int) := by omega
      have g1 : Good (n + 1) ⟨cells, at_ + 1, left⟩ := ⟨by show (0 : Int) ≤ at_ + 1; omega, at1, hl, g.few⟩
      show Ok _ _
      rw [ok_seq, ok_sIf, ok_and, ok_cmp, ok_var]
      refine ⟨_, rfl, ?_⟩
      rw [ok_args, ok_cons, ok_chn]
      refine ⟨⟨.chn, rfl, rfl⟩, _, rfl, ?_⟩
      rw [ok_nil]
      refine ⟨_, rfl, _, rfl, ?_⟩
      have hat : ∃ m : Int, at_ = m ∧ 0 ≤ m ∧ m < 2 ^ 20 := ⟨at_, rfl, hlo, by omega⟩
      have rest : ∀ (s2 : Sl), Ok (sSeq (sAsg (gN 5) (eBin gMod (eArgs gInt (aCons (eBin gPow (eBin gAdd (eBin gAdd (eBin gMod (eArgs gInt (aCons (eVar 4) aNil)) (eC (.int m1))) (eBin gMul (eC (.int a)) (eVar 3))) (eC (.int b))) (eC (.int 5))) aNil)) (eC (.int m2))))
  (sSeq (sAsg (gN 5) (eBin gMod (eArgs gInt (aCons (eBin gPow (eBin gAdd (eBin gAdd (eBin gMul (eVar 5) (eBin gAdd (eBin gMul (eC (.int 2)) (eVar 3)) (eC (.int d)))) (eBin gMul (eBin gMul (eC (.int f)) (eVar 3)) (eVar 3))) (eC (.int a))) (eC (.int 3))) aNil)) (eC (.int m3))))
  (sRet (eBin gMod (eArgs gInt (aCons (eBin gDiv (eVar 5) (eC (.int 64))) aNil)) (eVar 1)))) [.val .chn, .val (.int j), s2, .val (.int at_), .val (.int cell), .no] ⟨cells, at_ + 1, left⟩) fun p c1 => match p.2 with | .ret d => k d c1 | .nx => k .non c1 | _ => False := by
        intro s2
        have hat2 : at_ < 2 ^ 20 := by omega
        have p1 : 0 ≤ a * at_ ∧ a * at_ ≤ 2 ^ 40 := ⟨Int.mul_nonneg ha.1 hlo, by
          have := Int.mul_le_mul ha.2 (Int.le_of_lt hat2) hlo (by decide : (0 : Int) ≤ 2 ^ 20)
          have e : (2 : Int) ^ 20 * 2 ^ 20 = 2 ^ 40 := by decide
          omega⟩
        have q1 : 0 ≤ cell % m1 ∧ cell % m1 < 2 ^ 31 := ⟨Int.emod_nonneg _ (by omega), Int.lt_of_lt_of_le (Int.emod_lt_of_pos _ hm1.1) hm1.2⟩
        rw [ok_seq, ok_asg, ok_bin, ok_args, ok_cons, ok_bin, ok_bin, ok_bin, ok_bin, ok_args, ok_cons, ok_var]
        refine ⟨_, rfl, ?_⟩
        rw [ok_nil]
        refine ⟨_, rfl, ?_⟩
        rw [ok_C]
        refine ⟨_, gMod_ok hm1.1, ?_⟩
        rw [ok_bin, ok_C, ok_var]
        refine ⟨_, rfl, _, gMul_l (by omega) (by omega), _, rfl, ?_⟩
        rw [ok_C]
        refine ⟨_, rfl, ?_⟩
        rw [ok_C]
        refine ⟨_, gPow_ok (by decide) (by decide) (by omega), ?_⟩
        rw [ok_nil]
        refine ⟨_, rfl, ?_⟩
        rw [ok_C]
        refine ⟨_, gMod_ok hm2.1, _, rfl, ?_⟩
        have q2 : ∀ y : Int, 0 ≤ y % m2 ∧ y % m2 < 2 ^ 31 := fun y => ⟨Int.emod_nonneg _ (by omega), Int.lt_of_lt_of_le (Int.emod_lt_of_pos _ hm2.1) hm2.2⟩
        generalize hx : (cell % m1 + a * at_ + b) ^ (Int.toNat 5) = xx
        have q3 := q2 xx
        generalize xx % m2 = x5 at q3 ⊢
        show Ok _ _
        have p2 : 0 ≤ x5 * (2 * at_ + d) ∧ x5 * (2 * at_ + d) ≤ 2 ^ 31 * 2 ^ 22 := ⟨Int.mul_nonneg q3.1 (by omega), Int.mul_le_mul (by omega) (by omega) (by omega) (by decide)⟩
        have p3 : 0 ≤ f * at_ ∧ f * at_ ≤ 2 ^ 40 := ⟨Int.mul_nonneg hf.1 hlo, by
          have := Int.mul_le_mul hf.2 (Int.le_of_lt hat2) hlo (by decide : (0 : Int) ≤ 2 ^ 20)
          have e : (2 : Int) ^ 20 * 2 ^ 20 = 2 ^ 40 := by decide
          omega⟩
        have p4 : 0 ≤ f * at_ * at_ ∧ f * at_ * at_ ≤ 2 ^ 60 := ⟨Int.mul_nonneg p3.1 hlo, by
          have := Int.mul_le_mul p3.2 (Int.le_of_lt hat2) hlo (by decide : (0 : Int) ≤ 2 ^ 40)
          have e : (2 : Int) ^ 40 * 2 ^ 20 = 2 ^ 60 := by decide
          omega⟩
        rw [ok_seq, ok_asg, ok_bin, ok_args, ok_cons, ok_bin, ok_bin, ok_bin, ok_bin, ok_var]
        refine ⟨_, rfl, ?_⟩
        rw [ok_bin, ok_bin, ok_C, ok_var]
        refine ⟨_, rfl, _, gMul_l (by decide) (by decide), ?_⟩
        rw [ok_C]
        refine ⟨_, rfl, _, gMul_l (by omega) (by omega), ?_⟩
        rw [ok_bin, ok_bin, ok_C, ok_var]
        refine ⟨_, rfl, _, gMul_l (by omega) (by omega), ?_⟩
        rw [ok_var]
        refine ⟨_, rfl, _, gMul_l (by omega) (by omega), _, rfl, ?_⟩
        rw [ok_C]
        refine ⟨_, rfl, ?_⟩
        rw [ok_C]
        have e53 : (2 : Int) ^ 31 * 2 ^ 22 = 2 ^ 53 := by decide
        refine ⟨_, gPow_ok (by decide) (by decide) (by omega), ?_⟩
        rw [ok_nil]
        refine ⟨_, rfl, ?_⟩
        rw [ok_C]
        refine ⟨_, gMod_ok hm3, _, rfl, ?_⟩
        show Ok _ _
        rw [ok_ret, ok_bin, ok_args, ok_cons, ok_bin, ok_var]
        refine ⟨_, rfl, ?_⟩
        rw [ok_C]
        refine ⟨_, gDiv_ok (by decide) (by decide), ?_⟩
        rw [ok_nil]
        refine ⟨_, rfl, ?_⟩
        rw [ok_var]
        refine ⟨_, rfl, _, gMod_ok (by omega), ?_⟩
        exact q _ _ (Int.emod_nonneg _ (by omega)) (Int.emod_lt_of_pos _ (by omega)) g1
      by_cases h1 : at_ < ((cells.map D.int).length : Int)
      · refine ite_t (decide_eq_true h1) ?_
        rw [ok_cmp, ok_args, ok_cons, ok_var]
        refine ⟨_, rfl, ?_⟩
        rw [ok_nil]
        refine ⟨_, rfl, ?_⟩
        rw [ok_bin, ok_C, ok_C]
        refine ⟨_, gPow_ok (by decide) (by decide) (by decide), _, rfl, ?_⟩
        by_cases h2 : (10 : Int) ^ (Int.toNat 18) ≤ (if cell < 0 then -cell else cell)
        · refine ite_t (decide_eq_true h2) ?_
          rw [ok_seq, ok_asg, ok_bin, ok_bin, ok_C, ok_bin, ok_args, ok_cons, ok_var]
          refine ⟨_, rfl, ?_⟩
          rw [ok_nil]
          refine ⟨_, rfl, ?_⟩
          rw [ok_bin, ok_C, ok_C]
          refine ⟨_, gPow_ok (by decide) (by decide) (by decide), _, rfl, _, gMul_l (by decide) (by decide), ?_⟩
          rw [ok_args, ok_cons, ok_bin, ok_var]
          refine ⟨_, rfl, ?_⟩
          rw [ok_C]
          refine ⟨_, rfl, ?_⟩
          rw [ok_nil]
          refine ⟨_, rfl, _, rfl, _, rfl, ?_⟩
          show Ok _ _
          have hb01 : (0 : Int) ≤ (if ltI cell 0 then 1 else 0) := by split <;> decide
          have hr : 0 ≤ 2 * ((if cell < 0 then -cell else cell) - (10 : Int) ^ (Int.toNat 18)) + (if ltI cell 0 then 1 else 0) := by omega
          generalize 2 * ((if cell < 0 then -cell else cell) - (10 : Int) ^ (Int.toNat 18)) + (if ltI cell 0 then 1 else 0) = rr at hr ⊢
          rw [ok_seq, ok_sChn, ok_bin, ok_args, ok_cons, ok_var]
          refine ⟨_, rfl, ?_⟩
          rw [ok_nil]
          refine ⟨_, rfl, ?_⟩
          rw [ok_var]
          refine ⟨_, rfl, _, gDiv_ok (by omega) hj2, ⟨.chn, rfl, rfl⟩, _, rfl, ?_⟩
          show Ok _ _
          rw [ok_ret, ok_bin, ok_args, ok_cons, ok_var]
          refine ⟨_, rfl, ?_⟩
          rw [ok_nil]
          refine ⟨_, rfl, ?_⟩
          rw [ok_var]
          refine ⟨_, rfl, _, gMod_ok (by omega), ?_⟩
          exact q _ _ (Int.emod_nonneg _ (by omega)) (Int.emod_lt_of_pos _ (by omega)) ⟨g1.lo, g1.hi, Int.ediv_nonneg hr (by omega), g.few⟩
        · refine ite_f (decide_eq_false h2) ?_
          rw [ok_sNil]
          exact rest .no
      · refine ite_f (decide_eq_false h1) (ite_f rfl ?_)
        rw [ok_sNil]
        exact rest .no
end G
set_option Elab.async false
set_option linter.all false
set_option maxRecDepth 100000
set_option maxHeartbeats 8000000
/-! GK: small equations for running mirrors; what can be shown. -/
namespace G
open PySem PySem.Spec PyProof.Rows L2
theorem Ok.of_eq {α : Type} {r : R α} {a : α} {c : Churn} {k : α → Churn → Prop} (e : r = .ok a c) (q : k a c) : Ok r k := by rw [e]; exact q
theorem gAdd_i {i j : Int} : gAdd (.int i) (.int j) = some (.int (i + j)) := rfl
theorem gSub_i {i j : Int} : gSub (.int i) (.int j) = some (.int (i - j)) := rfl
theorem gNeg_i {i : Int} : gNeg (.int i) = some (.int (-i)) := rfl
theorem gBl_e {g : D → D → Option Bool} {x y : D} : gBl g x y = (g x y).map D.bl := rfl
theorem gCmpI_i {f : Int → Int → Bool} {i j : Int} : gCmpI f (.int i) (.int j) = some (f i j) := rfl
theorem gLst_o {xs : List D} (h : xs.length ≤ 1000) : gLst xs = some (.lst xs) := if_pos (Nat.le_trans h (by decide))
theorem gTup_o {xs : List D} (h : xs.length ≤ 1000) : gTup xs = some (.tup xs) := if_pos (Nat.le_trans h (by decide))
theorem gN_e {i : Nat} {d : D} {ρ : Ev} : gN i d ρ = some (ρ.set i (.val d)) := rfl
theorem truD_b {b : Bool} : truD (.bl b) = some b := rfl
theorem gIsN_n {neg : Bool} {d : D} : gIsN neg d .non = some (if neg then !isNonD d else isNonD d) := rfl
theorem gLen_l {xs : List D} : gLen [.lst xs] = some (.int xs.length) := rfl
theorem gInt_b {b : Bool} : gInt [.bl b] = some (.int (if b then 1 else 0)) := rfl
theorem gInt_i {i : Int} : gInt [.int i] = some (.int i) := rfl
theorem atI_mem {xs : List D} {r : Int} (h0 : 0 ≤ r) (h1 : r < xs.length) : ∃ x ∈ xs, atI xs r = some x := by
  obtain ⟨i, rfl⟩ := Int.eq_ofNat_of_zero_le h0
  have hi : i < xs.length := Int.ofNat_lt.mp h1
  refine ⟨xs[i], List.getElem_mem hi, ?_⟩
  have e : ixN xs.length (i : Int) = some i := by
    unfold ixN
    rw [if_pos h0, if_pos h1]
    simp
  unfold atI
  rw [e]
  simp [hi]
theorem rng1_i {j : Int} (h0 : 0 ≤ j) (h1 : j < 2 ^ 62) : rng1 [.int j] = some (rangeD 0 j) := if_pos ⟨by omega, h1⟩
/-! what is plain: no class, no object -/
/-! ### repr -/
def sizI (i : Int) : Bool := decide (i.natAbs < 10 ^ 60)
def sizS (x : Str) : Bool := (x.cps.toList.all fun c => decide (c < 16 ^ 8)) && decide (x.cps.size ≤ 1000)
mutual
/-- small at its leaves -/
def tame : D → Bool
  | .non => true
  | .bl _ => true
  | .int i => sizI i
  | .str x => sizS x
  | .lst xs => tameA xs
  | .tup xs => tameA xs
  | .dic ks vs => (ks.all fun k => match k with | .inl i => sizI i | .inr x => sizS x) && tameA vs
  | _ => false
def tameA : List D → Bool
  | [] => true
  | d :: ds => tame d && tameA ds
end
mutual
/-- how many leaves and boxes -/
def cnt : D → Nat
  | .lst xs => 1 + cntA xs
  | .tup xs => 1 + cntA xs
  | .dic ks vs => 1 + 2 * ks.length + cntA vs
  | _ => 1
def cntA : List D → Nat
  | [] => 0
  | d :: ds => cnt d + cntA ds
end
mutual
def hgt : D → Nat
  | .lst xs => 1 + hgtA xs
  | .tup xs => 1 + hgtA xs
  | .dic _ vs => 1 + hgtA vs
  | _ => 0
def hgtA : List D → Nat
  | [] => 0
  | d :: ds => max (hgt d) (hgtA ds)
end
theorem int_short {i : Int} (h : sizI i = true) : (PyData.shown (.int i)).length ≤ 61 ∧ i.natAbs.log2 < 1920 ∧ PyData.weight (.int i) ≤ 1000 := by
  have h : i.natAbs < 10 ^ 60 := of_decide_eq_true h
  have e := int_text_length_le10 (k := 60) (by decide) h
  have hl : i.natAbs.log2 < 200 := log_lt (Nat.lt_of_lt_of_le h (by decide)) (by decide)
  refine ⟨?_, by omega, ?_⟩
  · show (Str.ofString (toString i)).length ≤ 61
    rw [PySem.ofString_length]; exact e
  · unfold PyData.weight
    split <;> omega
theorem str_short {x : Str} (h : sizS x = true) : (x.cps.toList.all fun c => decide (c < 16 ^ 8)) = true ∧ PyData.weight (.str x) ≤ 1000 := by
  obtain ⟨h1, h2⟩ := Bool.and_eq_true_iff.mp h
  exact ⟨h1, by unfold PyData.weight; exact of_decide_eq_true h2⟩
/-- what a tame tree's data are like -/
structure Fine (p : PyData) (n h : Nat) : Prop where
  show_ : p.showable = true
  leaf : p.leavesShort 61 = true
  wt : p.weight + 1 ≤ 1002 * n
  dep : p.depth ≤ h
structure FineA (ps : List PyData) (n h : Nat) : Prop where
  show_ : PyData.showableAll ps = true
  leaf : PyData.leavesShortAll 61 ps = true
  wt : PyData.weightAll ps ≤ 1002 * n
  dep : PyData.depthAll ps ≤ h
theorem fine_int {i : Int} (h : sizI i = true) : Fine (.int i) 1 0 := by
  obtain ⟨h1, h2, h3⟩ := int_short h
  exact ⟨by unfold PyData.showable; exact decide_eq_true h2, by unfold PyData.leavesShort; exact decide_eq_true h1, by omega, Nat.le_refl _⟩
theorem fine_str {x : Str} (h : sizS x = true) : Fine (.str x) 1 0 := by
  obtain ⟨h1, h2⟩ := str_short h
  exact ⟨rfl, by unfold PyData.leavesShort; exact h1, by omega, Nat.le_refl _⟩
def keyT (k : Key) : Bool := match k with | .inl i => sizI i | .inr x => sizS x
theorem fine_key {k : Key} (h : keyT k = true) : Fine (encK k) 1 0 := by
  cases k with
  | inl i => exact fine_int h
  | inr x => exact fine_str h
theorem fine_kv : ∀ {ks : List Key} {ps : List PyData} {n h : Nat}, (ks.all keyT) = true → FineA ps n h →
    PyData.showableKv ((ks.map encK).zip ps) = true ∧ PyData.leavesShortKv 61 ((ks.map encK).zip ps) = true ∧ PyData.weightKv ((ks.map encK).zip ps) ≤ 2000 * ks.length + PyData.weightAll ps ∧ PyData.depthKv ((ks.map encK).zip ps) ≤ PyData.depthAll ps
  | [], ps, n, h, _, _ => ⟨rfl, rfl, Nat.zero_le _, Nat.zero_le _⟩
  | k :: ks, [], n, h, _, _ => ⟨rfl, rfl, Nat.zero_le _, Nat.zero_le _⟩
  | k :: ks, p :: ps, n, h, hk, f => by
    obtain ⟨k1, k2⟩ := Bool.and_eq_true_iff.mp (show (keyT k && ks.all keyT) = true from hk)
    obtain ⟨s1, s2, s3, s4⟩ := f
    simp only [PyData.showableAll, PyData.leavesShortAll, Bool.and_eq_true] at s1 s2
    have f' : FineA ps (PyData.weightAll ps) (PyData.depthAll ps) := ⟨s1.2, s2.2, by omega, Nat.le_refl _⟩
    obtain ⟨q1, q2, q3, q4⟩ := fine_kv k2 f'
    obtain ⟨r1, r2, r3, r4⟩ := fine_key k1
    refine ⟨?_, ?_, ?_, ?_⟩
    · show PyData.showableKv ((encK k, p) :: (ks.map encK).zip ps) = true
      unfold PyData.showableKv
      rw [r1, s1.1, q1]; rfl
    · show PyData.leavesShortKv 61 ((encK k, p) :: (ks.map encK).zip ps) = true
      unfold PyData.leavesShortKv
      rw [r2, s2.1, q2]; rfl
    · show PyData.weightKv ((encK k, p) :: (ks.map encK).zip ps) ≤ _
      unfold PyData.weightKv PyData.weightAll
      rw [List.length_cons]
      omega
    · show PyData.depthKv ((encK k, p) :: (ks.map encK).zip ps) ≤ _
      unfold PyData.depthKv PyData.depthAll
      omega
mutual
theorem fine_of : ∀ {d : D}, tame d = true → ∃ p, toPyR d = some p ∧ Fine p (cnt d) (hgt d)
  | .non, _ => ⟨.none, by simp only [toPyR], rfl, rfl, by unfold PyData.weight cnt; omega, Nat.le_refl _⟩
  | .bl b, _ => ⟨.bool b, by simp only [toPyR], rfl, rfl, by unfold PyData.weight cnt; omega, Nat.le_refl _⟩
  | .int i, h => ⟨.int i, by simp only [toPyR], by simpa only [cnt, hgt] using fine_int (by simpa only [tame] using h)⟩
  | .str x, h => ⟨.str x, by simp only [toPyR], by simpa only [cnt, hgt] using fine_str (by simpa only [tame] using h)⟩
  | .lst xs, h => by
    obtain ⟨ps, e, f⟩ := fineA_of (ds := xs) (by simpa only [tame] using h)
    refine ⟨.list ps, by simp only [toPyR, e, Option.map_some], ?_, ?_, ?_, ?_⟩
    · unfold PyData.showable; exact f.show_
    · unfold PyData.leavesShort; exact f.leaf
    · unfold PyData.weight cnt; have := f.wt; omega
    · unfold PyData.depth hgt; have := f.dep; omega
  | .tup xs, h => by
    obtain ⟨ps, e, f⟩ := fineA_of (ds := xs) (by simpa only [tame] using h)
    refine ⟨.tuple ps, by simp only [toPyR, e, Option.map_some], ?_, ?_, ?_, ?_⟩
    · unfold PyData.showable; exact f.show_
    · unfold PyData.leavesShort; exact f.leaf
    · unfold PyData.weight cnt; have := f.wt; omega
    · unfold PyData.depth hgt; have := f.dep; omega
  | .dic ks vs, h => by
    obtain ⟨h1, h2⟩ := Bool.and_eq_true_iff.mp (show ((ks.all fun k => match k with | .inl i => sizI i | .inr x => sizS x) && tameA vs) = true by simpa only [tame] using h)
    obtain ⟨ps, e, f⟩ := fineA_of (ds := vs) h2
    obtain ⟨q1, q2, q3, q4⟩ := fine_kv (ks := ks) (show ks.all keyT = true from h1) f
    refine ⟨.dict ((ks.map encK).zip ps), by simp only [toPyR, e, Option.map_some], ?_, ?_, ?_, ?_⟩
    · unfold PyData.showable; exact q1
    · unfold PyData.leavesShort; exact q2
    · unfold PyData.weight cnt; have := f.wt; omega
    · unfold PyData.depth hgt; have := f.dep; omega
  | .obj _, h => by simp [tame] at h
  | .ty _, h => by simp [tame] at h
  | .chn, h => by simp [tame] at h
theorem fineA_of : ∀ {ds : List D}, tameA ds = true → ∃ ps, toPyRA ds = some ps ∧ FineA ps (cntA ds) (hgtA ds)
  | [], _ => ⟨[], by simp only [toPyRA], rfl, rfl, Nat.zero_le _, Nat.zero_le _⟩
  | d :: ds, h => by
    obtain ⟨h1, h2⟩ := Bool.and_eq_true_iff.mp (show (tame d && tameA ds) = true by simpa only [tameA] using h)
    obtain ⟨p, e, f⟩ := fine_of h1
    obtain ⟨ps, e2, f2⟩ := fineA_of h2
    refine ⟨p :: ps, by simp only [toPyRA, e, e2, Option.bind_some, Option.map_some], ?_, ?_, ?_, ?_⟩
    · unfold PyData.showableAll; rw [f.show_, f2.show_]; rfl
    · unfold PyData.leavesShortAll; rw [f.leaf, f2.leaf]; rfl
    · unfold PyData.weightAll cntA; have := f.wt; have := f2.wt; omega
    · unfold PyData.depthAll hgtA; have := f.dep; have := f2.dep; omega
end
/-- the text of a tree -/
def shw (d : D) : Str := ((toPyR d).getD .none).shown
theorem gRepr_o {d : D} (t : tame d = true) (hc : cnt d ≤ 200) (hh : hgt d ≤ 60) : gRepr [d] = some (.str (shw d)) := by
  obtain ⟨p, e, f⟩ := fine_of t
  have hs := PyData.shown_le 61 (by decide) p f.leaf
  have w := f.wt
  have dp := f.dep
  have k : okShow p = true := by
    unfold okShow
    rw [f.show_, decide_eq_true (show p.shown.length ≤ sizeLine from ?_), decide_eq_true (show p.depth ≤ 64 by omega)]
    · rfl
    · have : sizeLine = 16777216 := by decide
      omega
  show (toPyR d).bind (fun p => if okShow p = true then some (D.str p.shown) else none) = _
  unfold shw
  rw [e]
  show (if okShow p = true then some (D.str p.shown) else none) = some (D.str p.shown)
  rw [if_pos k]
end G
set_option Elab.async false
set_option linter.all false
set_option maxRecDepth 100000
set_option maxHeartbeats 8000000
/-! GL: comprehensions, run; == with []. -/
namespace G
open PySem PySem.Spec PyProof.Rows L2
section
variable {t : Tg} {cnd : Ev → M Bool} {f : Ev → M D} {ρ : Ev} {c : Churn} {ks : List D → Churn → Prop}
/-- each item by itself, no draws -/
theorem comp_map (h : D → D) : ∀ {ds : List D} {ks : List D → Churn → Prop}, (∀ d ∈ ds, ∀ c, ∃ ρ1, t d ρ = some ρ1 ∧ cnd ρ1 c = .ok true c ∧ f ρ1 c = .ok (h d) c) → ks (ds.map h) c → Ok (compM t cnd f ρ ds c) ks
  | [], _, _, q => q
  | d :: ds, ks, hs, q => by
    rw [ok_compS]
    obtain ⟨ρ1, e1, e2, e3⟩ := hs d (List.mem_cons_self ..) c
    refine ⟨ρ1, e1, Ok.of_eq e2 (ite_t rfl (Ok.of_eq e3 ?_))⟩
    exact comp_map h (fun d hd => hs d (List.mem_cons_of_mem _ hd)) q
inductive F2 (R : D → D → Prop) : List D → List D → Prop
  | nil : F2 R [] []
  | cons {d y : D} {ds ys : List D} : R d y → F2 R ds ys → F2 R (d :: ds) (y :: ys)
theorem F2.length {R : D → D → Prop} : ∀ {ds ys : List D}, F2 R ds ys → ys.length = ds.length
  | _, _, .nil => rfl
  | _, _, .cons _ r => congrArg Nat.succ (F2.length r)
theorem F2.all {R : D → D → Prop} {p : D → Prop} (h : ∀ d y, R d y → p y) : ∀ {ds ys : List D}, F2 R ds ys → ∀ y ∈ ys, p y
  | _, _, .nil, y, hy => by cases hy
  | _, _, .cons r rs, y, hy => (List.mem_cons.mp hy).elim (fun e => e ▸ h _ _ r) fun hy => F2.all h rs y hy
end
theorem eqX_str {neg : Bool} {a b : Str} : gEqX neg (.str a) (.str b) = some (if neg then !decide (a = b) else decide (a = b)) := rfl
end G
set_option Elab.async false
set_option linter.all false
set_option maxRecDepth 100000
set_option maxHeartbeats 8000000
/-! GM: for, texts cut. -/
namespace G
open PySem PySem.Spec PyProof.Rows L2
/-- with a number that grows by s at each turn -/
theorem for_count {t : Tg} {b : Sm} (I : Nat → Ev → Churn → Prop) (s : Nat) : ∀ {ds : List D} {n : Nat} {ρ : Ev} {c : Churn} {kp : Ev × Ctl → Churn → Prop} {B : Nat},
    (∀ d ∈ ds, ∀ n ρ c, n + s ≤ B → I n ρ c → ∃ ρ1, t d ρ = some ρ1 ∧ Ok (b ρ1 c) fun p c1 => p.2 = .nx ∧ I (n + s) p.1 c1) → I n ρ c → n + s * ds.length ≤ B → (∀ ρ c, I (n + s * ds.length) ρ c → kp (ρ, .nx) c) → Ok (forM' t b ds ρ c) kp
  | [], n, ρ, c, kp, B, _, i, _, q => q ρ c i
  | d :: ds, n, ρ, c, kp, B, hs, i, hB, q => by
    rw [ok_forS]
    rw [List.length_cons, Nat.mul_succ] at hB q
    obtain ⟨ρ1, e1, h⟩ := hs d (List.mem_cons_self ..) n ρ c (by omega) i
    refine ⟨ρ1, e1, h.mono fun p c1 ⟨e2, i2⟩ => ?_⟩
    obtain ⟨ρ2, ctl⟩ := p
    cases e2
    have e : n + (s * ds.length + s) = n + s + s * ds.length := by omega
    rw [e] at q
    exact for_count I s (B := B) (fun d hd => hs d (List.mem_cons_of_mem _ hd)) i2 (by omega) q
/-- one statement, then the rest: what holds between them -/
theorem ok_step {s t : Sm} {ρ : Ev} {c : Churn} {kp : Ev × Ctl → Churn → Prop} (mid : Ev → Churn → Prop) (h1 : Ok (s ρ c) fun p c1 => p.2 = .nx ∧ mid p.1 c1) (h2 : ∀ ρ c, mid ρ c → Ok (t ρ c) kp) : Ok (sSeq s t ρ c) kp := by
  rw [ok_seq]
  refine h1.mono fun p c1 ⟨e, m⟩ => ?_
  obtain ⟨ρ1, ctl⟩ := p
  cases e
  exact h2 ρ1 c1 m
end G
set_option Elab.async false
set_option linter.all false
set_option maxRecDepth 100000
set_option maxHeartbeats 8000000
/-! GX: small things for the printer. -/
namespace G
open PySem PySem.Spec PyProof.Rows L2
theorem roomI {k : Nat} {A : Around} (r : Room k A) : A.units + 1 < cLine := by have := r.un; omega
/-- where the surroundings are not known yet -/
theorem DefG.here {X : Cx} {P : Program} {w : World} {K : PySem.W.Frag} {mg : Str → Option Value} {base : Heap} {k : Nat} {x : Str} {st : Stmt} {ps : List Str} {F : List D → M D} (h : DefG P w K mg base k x st ps F) (e1 : X.prog = P := by rfl) (e2 : X.w = w := by rfl) (e3 : X.K = K := by rfl) (e4 : X.mg = mg := by rfl) (e5 : X.base = base := by rfl) :
    DefG X.prog X.w X.K X.mg X.base k x st ps F := by
  subst e1 e2 e3 e4 e5
  exact h
end G
set_option Elab.async false
set_option linter.all false
set_option maxRecDepth 100000
set_option maxHeartbeats 8000000
/-! GW: running mirrors: the newer forms. -/
namespace G
open PySem PySem.Spec PyProof.Rows L2
section
variable {α : Type} {ρ : Ev} {c : Churn} {fa fb fc fi : Ev → M D} {c1 c2 : Ev → M Bool} {fs : Ev → M (List D)} {gx : AX} {k : D → Churn → Prop} {kb : Bool → Churn → Prop} {ks : List D → Churn → Prop} {kx : List Sl → Churn → Prop} {kp : Ev × Ctl → Churn → Prop} {s t : Sm} {i j l : Nat} {T : String}
theorem ok_sOwn : Ok (sOwn i fa ρ c) kp = Ok (fa ρ c) fun d c1 => kp (ρ.set i (.own d), .nx) c1 := by
  unfold sOwn; simp only [ok_bind, ok_pure]
theorem ok_sFz : Ok (sFz i s ρ c) kp = Ok (s (frzE i ρ) c) kp := rfl
theorem ok_cBor : Ok (cBor i c1 ρ c) kb = Ok (c1 (frzE i ρ) c) kb := by unfold cBor; rw [ok_nx]
theorem ok_eBor : Ok (eBor i fa ρ c) k = Ok (fa (frzE i ρ) c) fun d c1 => isFlat d = true ∧ k d c1 := by
  unfold eBor; simp only [ok_bind, ok_nx, ok_ite, ok_pure, ok_stuck]
  congr 1; funext d c1; apply propext
  by_cases h : isFlat d = true <;> simp [h]
theorem ok_sMut {gm : D → List D → Option (D × D)} : Ok (sMut i T gm fs ρ c) kp = ∃ d, ρ[i]? = some (.own d) ∧ tyD T d = true ∧ Ok (fs ρ c) fun xs c1 => ∃ y d', gm d xs = some (y, d') ∧ kp (ρ.set i (.own d'), .nx) c1 := by
  apply propext
  unfold sMut
  cases e : ρ[i]? with
  | none => exact ⟨fun h => h.elim, fun ⟨d, h, _⟩ => by cases h⟩
  | some sl =>
    cases sl with
    | no => exact ⟨fun h => h.elim, fun ⟨d, h, _⟩ => by cases h⟩
    | val d => exact ⟨fun h => h.elim, fun ⟨d, h, _⟩ => by cases h⟩
    | own d =>
      by_cases ht : tyD T d = true
      · simp only [ht, if_true, ok_bind, ok_lift, ok_pure]
        constructor
        · intro h
          exact ⟨d, rfl, ht, h.mono fun xs c1 ⟨p, h1, h2⟩ => ⟨p.1, p.2, h1, h2⟩⟩
        · rintro ⟨d', h, _, q⟩
          cases h
          exact q.mono fun xs c1 ⟨y, d', h1, h2⟩ => ⟨(y, d'), h1, h2⟩
      · constructor
        · intro h
          have h : Ok ((if tyD T d = true then fs ρ >>= fun xs => liftO (gm d xs) >>= fun p => (pure (ρ.set i (.own p.2), Ctl.nx) : M (Ev × Ctl)) else stuck) c) kp := h
          rw [if_neg ht] at h
          exact h.elim
        · rintro ⟨d', h, h2, _⟩
          cases h; exact absurd h2 ht
theorem ok_sPut {gp : D → D → D → Option D} : Ok (sPut i gp fa fi ρ c) kp = Ok (fa ρ c) fun v c1 => ∃ d, ρ[i]? = some (.own d) ∧ Ok (fi ρ c1) fun x c2 => ∃ d', gp d x v = some d' ∧ kp (ρ.set i (.own d'), .nx) c2 := by
  unfold sPut
  rw [ok_bind]
  congr 1; funext v c1; apply propext
  cases e : ρ[i]? with
  | none => exact ⟨fun h => h.elim, fun ⟨d, h, _⟩ => by cases h⟩
  | some sl =>
    cases sl with
    | no => exact ⟨fun h => h.elim, fun ⟨d, h, _⟩ => by cases h⟩
    | val d => exact ⟨fun h => h.elim, fun ⟨d, h, _⟩ => by cases h⟩
    | own d =>
      simp only [ok_bind, ok_lift, ok_pure]
      exact ⟨fun h => ⟨d, rfl, h⟩, fun ⟨d', h, q⟩ => by cases h; exact q⟩
theorem ok_xNil : Ok (xNil ρ c) kx = kx [] c := ok_pure
theorem ok_xVal : Ok (xVal fa gx ρ c) kx = Ok (fa ρ c) fun d c1 => Ok (gx ρ c1) fun sl c2 => kx (.val d :: sl) c2 := by
  unfold xVal; simp only [ok_bind, ok_pure]
theorem ok_xOwn : Ok (xOwn fa gx ρ c) kx = Ok (fa ρ c) fun d c1 => Ok (gx ρ c1) fun sl c2 => kx (.own d :: sl) c2 := by
  unfold xOwn; simp only [ok_bind, ok_pure]
theorem ok_parX : Ok (sParX i j gx ρ c) kp = Ok (gx ρ c) fun sls c1 => ∃ a b, sls = [a, b] ∧ kp ((ρ.set i a).set j b, .nx) c1 := by
  unfold sParX; simp only [ok_bind]
  congr 1; funext ds c1; apply propext
  match ds with
  | [d, e] => exact ⟨fun h => ⟨d, e, rfl, h⟩, fun ⟨_, _, h, q⟩ => by cases h; exact q⟩
  | [] => simp [ok_stuck]
  | [_] => simp [ok_stuck]
  | _ :: _ :: _ :: _ => simp [ok_stuck]
theorem ok_parX3 : Ok (sParX3 i j l gx ρ c) kp = Ok (gx ρ c) fun sls c1 => ∃ a b d, sls = [a, b, d] ∧ kp (((ρ.set i a).set j b).set l d, .nx) c1 := by
  unfold sParX3; simp only [ok_bind]
  congr 1; funext ds c1; apply propext
  match ds with
  | [d, e, f] => exact ⟨fun h => ⟨d, e, f, rfl, h⟩, fun ⟨_, _, _, h, q⟩ => by cases h; exact q⟩
  | [] => simp [ok_stuck]
  | [_] => simp [ok_stuck]
  | [_, _] => simp [ok_stuck]
  | _ :: _ :: _ :: _ :: _ => simp [ok_stuck]
theorem ok_zip : Ok (iZipM fs ρ c) ks = Ok (fs ρ c) fun x c1 => ∃ z, zipD x = some z ∧ ks z c1 := by
  unfold iZipM; simp only [ok_bind, ok_lift]
theorem ok_enum : Ok (iEnumM fs ρ c) ks = Ok (fs ρ c) fun x c1 => ∃ z, enumD x = some z ∧ ks z c1 := by
  unfold iEnumM; simp only [ok_bind, ok_lift]
theorem ok_star : Ok (aStar fa fs ρ c) ks = Ok (fa ρ c) fun x c1 => ∃ xs, seqOf x = some xs ∧ Ok (fs ρ c1) fun ys c2 => ks (xs ++ ys) c2 := by
  unfold aStar; simp only [ok_bind, ok_lift, ok_pure]
def sortItemsD : D → Option D
  | .dic ks vs => if sortOk (itemsD ks vs) = true then some (.lst (sortD (itemsD ks vs))) else none
  | _ => none
theorem ok_sortItems : Ok (eSortItems fa ρ c) k = Ok (fa ρ c) fun x c1 => ∃ z, sortItemsD x = some z ∧ k z c1 := by
  unfold eSortItems; simp only [ok_bind, ok_lift]; rfl
theorem ok_dict0 : Ok (eDict0 ρ c) k = k (.dic [] []) c := ok_pure
theorem ok_ixO : Ok (eIxO i fa ρ c) k = ∃ xs, ρ[i]? = some (.own (.lst xs)) ∧ Ok (fa ρ c) fun x c1 => ∃ n, intO x = some n ∧ ∃ d, atI xs n = some d ∧ k d c1 := by
  apply propext
  unfold eIxO
  cases e : ρ[i]? with
  | none => exact ⟨fun h => h.elim, fun ⟨d, h, _⟩ => by cases h⟩
  | some sl =>
    cases sl with
    | no => exact ⟨fun h => h.elim, fun ⟨d, h, _⟩ => by cases h⟩
    | val d => exact ⟨fun h => h.elim, fun ⟨d, h, _⟩ => by cases h⟩
    | own d =>
      cases d with
      | lst xs =>
        simp only [ok_bind, ok_lift]
        exact ⟨fun h => ⟨xs, rfl, h⟩, fun ⟨d', h, q⟩ => by cases h; exact q⟩
      | _ => exact ⟨fun h => h.elim, fun ⟨d, h, _⟩ => by cases h⟩
end
end G
set_option Elab.async false
set_option linter.all false
set_option maxRecDepth 100000
set_option maxHeartbeats 8000000
/-! GY: == of things of unlike kinds, dicts among them; of lists of unlike lengths. -/
namespace G
open PySem PySem.Spec PyProof.Rows L2 MeetsSeq MeetsSeq2 MeetsSeq3 SeqRoads2 Calls
open AutoSeq1 (wpAny_loadPart')
section
variable {M : Model} {prog : Program} {w : World} {A : Around} {E : Value → Shared → Prop} {s : Shared} {Q : Value → Shared → Prop}
theorem dict_declines {d u : Value} {T : String} (hd : s.TypeIs d "dict") (hu : s.TypeIs u T) (hsub : isSubtype (.type T) (.type "dict") = pure false) (id : Value) {slot : Str} (hslot : Slot "dict" slot "dict.__eq__") (h : Q .notImplemented s) :
    wpAny (model prog w) A (call (.builtin "dict.__eq__") [d, u]) Q E s := by
  refine wpAny_call_entry hslot hd PySem.F.entry_dict_eq ?_ (PySem.F.args_dict_eq_2 _ _)
  show wpAny _ _ (Builtin.Dict.dictSlotArgs "__eq__" ⟨[d, u], []⟩ >>= _) _ _ s
  refine wpAny_bind ?_
  unfold Builtin.Dict.dictSlotArgs
  refine wpAny_bind (wpAny_notOrdered_dict hd ?_)
  show wpAny _ _ (pure (d, u)) _ _ s
  refine wpAny_pure ?_
  refine wpAny_bind (wpAny_isInstance (T := T) hu hsub ?_)
  simp only [Bool.not_false, if_true]
  refine wpAny_bind (wpAny_rule ?_)
  exact wpAny_bind (wpAny_pure (wpAny_pure ⟨_, rfl, h⟩))
variable {l d : Addr} {items : Array Value} {o : Obj}
theorem str_decl (b : Str) (u : Tok) (l : Addr) (es : Array DictEntry) (ep : Nat) (dd : Option Addr) (sl : Array (Option Value)) :
    Meets (Builtin.«str.__eq__» ⟨[.str b u, .ref l], []⟩) (fun _ R s => s.heap.get? l = some { cls := .type "dict", dict := dd, data := .dict es ep, slots := sl } ∧ R (.ok (.ret .notImplemented)) s) :=
  .of_wp fun prog w A R s h => by obtain ⟨hp, g, d, tk, os⟩ := s; obtain ⟨hl, h⟩ := h; wp_walk using wpAny_loadPart' hl, wpAny_load hl; exact ⟨_, rfl, h⟩
theorem int_decl (b : Int) (u : Tok) (l : Addr) (es : Array DictEntry) (ep : Nat) (dd : Option Addr) (sl : Array (Option Value)) :
    Meets (Builtin.«int.__eq__» ⟨[.int b u, .ref l], []⟩) (fun _ R s => s.heap.get? l = some { cls := .type "dict", dict := dd, data := .dict es ep, slots := sl } ∧ R (.ok (.ret .notImplemented)) s) :=
  .of_wp fun prog w A R s h => by obtain ⟨hp, g, d, tk, os⟩ := s; obtain ⟨hl, h⟩ := h; wp_walk using wpAny_loadPart' hl, wpAny_load hl; exact ⟨_, rfl, h⟩
theorem bool_decl (b : Bool) (l : Addr) (es : Array DictEntry) (ep : Nat) (dd : Option Addr) (sl : Array (Option Value)) :
    Meets (Builtin.«int.__eq__» ⟨[.bool b, .ref l], []⟩) (fun _ R s => s.heap.get? l = some { cls := .type "dict", dict := dd, data := .dict es ep, slots := sl } ∧ R (.ok (.ret .notImplemented)) s) :=
  .of_wp fun prog w A R s h => by obtain ⟨hp, g, d, tk, os⟩ := s; obtain ⟨hl, h⟩ := h; wp_walk using wpAny_loadPart' hl, wpAny_load hl; exact ⟨_, rfl, h⟩
theorem list_decl (l b : Addr) (items : Array Value) (n : Nat) (es : Array DictEntry) (ep : Nat) (dd dd2 : Option Addr) (sl sl2 : Array (Option Value)) :
    Meets (Builtin.«list.__eq__» ⟨[.ref l, .ref b], []⟩) (fun _ R s => s.heap.get? l = some { cls := .type "list", dict := dd, data := .seq items n, slots := sl } ∧ s.heap.get? b = some { cls := .type "dict", dict := dd2, data := .dict es ep, slots := sl2 } ∧ R (.ok (.ret .notImplemented)) s) :=
  .of_wp fun prog w A R s h => by obtain ⟨hp, g, d, tk, os⟩ := s; obtain ⟨hl, hb, h⟩ := h; have f1 := F.sub_dict_list; wp_walk using wpAny_loadPart' hl, wpAny_loadPart' hb; exact ⟨_, rfl, h⟩
theorem tuple_decl (l b : Addr) (items : Array Value) (n : Nat) (es : Array DictEntry) (ep : Nat) (dd dd2 : Option Addr) (sl sl2 : Array (Option Value)) :
    Meets (Builtin.«tuple.__eq__» ⟨[.ref l, .ref b], []⟩) (fun _ R s => s.heap.get? l = some { cls := .type "tuple", dict := dd, data := .seq items n, slots := sl } ∧ s.heap.get? b = some { cls := .type "dict", dict := dd2, data := .dict es ep, slots := sl2 } ∧ R (.ok (.ret .notImplemented)) s) :=
  .of_wp fun prog w A R s h => by obtain ⟨hp, g, d, tk, os⟩ := s; obtain ⟨hl, hb, h⟩ := h; have f1 := F.sub_dict_tuple; wp_walk using wpAny_loadPart' hl, wpAny_loadPart' hb; exact ⟨_, rfl, h⟩
/-- what sort of thing a value is -/
inductive KindS (s : Shared) : Value → Nat → Prop
  | non : KindS s .none 0
  | bool (b : Bool) : KindS s (.bool b) 1
  | int (i : Int) (t : Tok) : KindS s (.int i t) 1
  | str (x : Str) (t : Tok) : KindS s (.str x t) 2
  | lst {l : Addr} {items : Array Value} : s.heap.IsList l items → KindS s (.ref l) 3
  | tup {l : Addr} {items : Array Value} : s.heap.IsTuple l items → KindS s (.ref l) 4
  | dic {l : Addr} {es : Array DictEntry} {ep : Nat} {dd : Option Addr} {sl : Array (Option Value)} : s.heap.get? l = some { cls := .type "dict", dict := dd, data := .dict es ep, slots := sl } → KindS s (.ref l) 5
theorem tdict {l : Addr} {es : Array DictEntry} {ep : Nat} {dd : Option Addr} {sl : Array (Option Value)} (h : s.heap.get? l = some { cls := .type "dict", dict := dd, data := .dict es ep, slots := sl }) : s.TypeIs (.ref l) "dict" := ⟨_, h, rfl⟩
theorem rc_d_other {l : Addr} {es : Array DictEntry} {ep : Nat} {dd : Option Addr} {sl : Array (Option Value)} {u : Value} {i : Nat} (h : s.heap.get? l = some { cls := .type "dict", dict := dd, data := .dict es ep, slots := sl }) (hu : A.units < cLine) (k : KindS s u i) (n : i ≠ 5) :
    SeqAt.RcAt A s (.ref l) u false ∧ SeqAt.RcAt A s u (.ref l) false := by
  have td := tdict h
  cases k with
  | non =>
    refine ⟨fun prog w E Q q => ?_, fun prog w E Q q => ?_⟩
    · exact SeqAt.rc_eq_decline_or (k := false) td rfl (by decide) F.sub_NoneType_dict F.slot_dict_eq F.slot_NoneType_eq_refl (fun _ hq => dict_declines td rfl F.sub_NoneType_dict .none F.slot_dict_eq hq)
        (fun _ hq => call_gives F.slot_NoneType_eq_refl rfl F.entry_NoneType_eq (F.args_NoneType_eq_2 _ _) (SeqAt.NoneType___eq___none_ref_0 l) hq) (fun _ hq => wpAny_of_eq (rfl : isSame (.ref l) .none = pure false) hq) (.inr hu) q
    · exact SeqAt.rc_eq_decline_or (k := false) rfl td (by decide) F.sub_dict_NoneType F.slot_NoneType_eq F.slot_dict_eq_refl
        (fun _ hq => call_gives F.slot_NoneType_eq rfl F.entry_NoneType_eq (F.args_NoneType_eq_2 _ _) (SeqAt.NoneType___eq___none_ref_0 l) hq) (fun _ hq => dict_declines td rfl F.sub_NoneType_dict .none F.slot_dict_eq_refl hq) (fun _ hq => wpAny_of_eq (rfl : isSame .none (.ref l) = pure false) hq) (.inr hu) q
  | bool b =>
    refine ⟨fun prog w E Q q => ?_, fun prog w E Q q => ?_⟩
    · exact SeqAt.rc_eq_decline_or (k := false) td rfl (by decide) F.sub_bool_dict F.slot_dict_eq F.slot_bool_eq_refl (fun _ hq => dict_declines td rfl F.sub_bool_dict .none F.slot_dict_eq hq)
        (fun _ hq => call_meets F.slot_bool_eq_refl rfl F.entry_int_eq (F.args_int_eq_2 _ _) (bool_decl b l es ep dd sl) ⟨h, hq⟩) (fun _ hq => wpAny_of_eq (rfl : isSame (.ref l) (.bool b) = pure false) hq) (.inr hu) q
    · exact SeqAt.rc_eq_decline_or (k := false) rfl td (by decide) F.sub_dict_bool F.slot_bool_eq F.slot_dict_eq_refl
        (fun _ hq => call_meets F.slot_bool_eq rfl F.entry_int_eq (F.args_int_eq_2 _ _) (bool_decl b l es ep dd sl) ⟨h, hq⟩) (fun _ hq => dict_declines td rfl F.sub_bool_dict .none F.slot_dict_eq_refl hq) (fun _ hq => wpAny_of_eq (rfl : isSame (.bool b) (.ref l) = pure false) hq) (.inr hu) q
  | int b t =>
    refine ⟨fun prog w E Q q => ?_, fun prog w E Q q => ?_⟩
    · exact SeqAt.rc_eq_decline_or (k := false) td (typeIs_int s b t) (by decide) F.sub_int_dict F.slot_dict_eq F.slot_int_eq_refl (fun _ hq => dict_declines td (typeIs_int s b t) F.sub_int_dict .none F.slot_dict_eq hq)
        (fun _ hq => call_meets F.slot_int_eq_refl (typeIs_int s b t) F.entry_int_eq (F.args_int_eq_2 _ _) (int_decl b t l es ep dd sl) ⟨h, hq⟩) (fun _ hq => wpAny_of_eq (rfl : isSame (.ref l) (.int b t) = pure false) hq) (.inr hu) q
    · exact SeqAt.rc_eq_decline_or (k := false) (typeIs_int s b t) td (by decide) F.sub_dict_int F.slot_int_eq F.slot_dict_eq_refl
        (fun _ hq => call_meets F.slot_int_eq (typeIs_int s b t) F.entry_int_eq (F.args_int_eq_2 _ _) (int_decl b t l es ep dd sl) ⟨h, hq⟩) (fun _ hq => dict_declines td (typeIs_int s b t) F.sub_int_dict .none F.slot_dict_eq_refl hq) (fun _ hq => wpAny_of_eq (rfl : isSame (.int b t) (.ref l) = pure false) hq) (.inr hu) q
  | str b t =>
    refine ⟨fun prog w E Q q => ?_, fun prog w E Q q => ?_⟩
    · exact SeqAt.rc_eq_decline_or (k := false) td (typeIs_str s b t) (by decide) F.sub_str_dict F.slot_dict_eq F.slot_str_eq_refl (fun _ hq => dict_declines td (typeIs_str s b t) F.sub_str_dict .none F.slot_dict_eq hq)
        (fun _ hq => call_meets F.slot_str_eq_refl (typeIs_str s b t) F.entry_str_eq (F.args_str_eq_2 _ _) (str_decl b t l es ep dd sl) ⟨h, hq⟩) (fun _ hq => wpAny_of_eq (rfl : isSame (.ref l) (.str b t) = pure false) hq) (.inr hu) q
    · exact SeqAt.rc_eq_decline_or (k := false) (typeIs_str s b t) td (by decide) F.sub_dict_str F.slot_str_eq F.slot_dict_eq_refl
        (fun _ hq => call_meets F.slot_str_eq (typeIs_str s b t) F.entry_str_eq (F.args_str_eq_2 _ _) (str_decl b t l es ep dd sl) ⟨h, hq⟩) (fun _ hq => dict_declines td (typeIs_str s b t) F.sub_str_dict .none F.slot_dict_eq_refl hq) (fun _ hq => wpAny_of_eq (rfl : isSame (.str b t) (.ref l) = pure false) hq) (.inr hu) q
  | @lst b items hl =>
    obtain ⟨⟨cls2, dd2, data2, sl2⟩, ho2, hc2, n2, hd2⟩ := id hl
    simp only at hc2 hd2
    subst hc2 hd2
    have tl : s.TypeIs (.ref b) "list" := ⟨_, ho2, rfl⟩
    have hne : l ≠ b := fun z => by rw [z, ho2] at h; simp at h
    refine ⟨fun prog w E Q q => ?_, fun prog w E Q q => ?_⟩
    · exact SeqAt.rc_eq_decline_or (k := false) td tl (by decide) F.sub_list_dict F.slot_dict_eq F.slot_list_eq_refl (fun _ hq => dict_declines td tl F.sub_list_dict .none F.slot_dict_eq hq)
        (fun _ hq => call_meets F.slot_list_eq_refl tl F.entry_list_eq (F.args_list_eq_2 _ _) (list_decl b l items n2 es ep dd2 dd sl2 sl) ⟨ho2, h, hq⟩) (fun _ hq => wpAny_isSame_ref_other hne h ho2 (by simp) hq) (.inr hu) q
    · exact SeqAt.rc_eq_decline_or (k := false) tl td (by decide) F.sub_dict_list F.slot_list_eq F.slot_dict_eq_refl
        (fun _ hq => call_meets F.slot_list_eq tl F.entry_list_eq (F.args_list_eq_2 _ _) (list_decl b l items n2 es ep dd2 dd sl2 sl) ⟨ho2, h, hq⟩) (fun _ hq => dict_declines td tl F.sub_list_dict .none F.slot_dict_eq_refl hq) (fun _ hq => wpAny_isSame_ref_other hne.symm ho2 h (by simp) hq) (.inr hu) q
  | @tup b items hl =>
    obtain ⟨⟨cls2, dd2, data2, sl2⟩, ho2, hc2, n2, hd2⟩ := id hl
    simp only at hc2 hd2
    subst hc2 hd2
    have tl : s.TypeIs (.ref b) "tuple" := ⟨_, ho2, rfl⟩
    have hne : l ≠ b := fun z => by rw [z, ho2] at h; simp at h
    refine ⟨fun prog w E Q q => ?_, fun prog w E Q q => ?_⟩
    · exact SeqAt.rc_eq_decline_or (k := false) td tl (by decide) F.sub_tuple_dict F.slot_dict_eq F.slot_tuple_eq_refl (fun _ hq => dict_declines td tl F.sub_tuple_dict .none F.slot_dict_eq hq)
        (fun _ hq => call_meets F.slot_tuple_eq_refl tl F.entry_tuple_eq (F.args_tuple_eq_2 _ _) (tuple_decl b l items n2 es ep dd2 dd sl2 sl) ⟨ho2, h, hq⟩) (fun _ hq => wpAny_isSame_ref_other hne h ho2 (by simp) hq) (.inr hu) q
    · exact SeqAt.rc_eq_decline_or (k := false) tl td (by decide) F.sub_dict_tuple F.slot_tuple_eq F.slot_dict_eq_refl
        (fun _ hq => call_meets F.slot_tuple_eq tl F.entry_tuple_eq (F.args_tuple_eq_2 _ _) (tuple_decl b l items n2 es ep dd2 dd sl2 sl) ⟨ho2, h, hq⟩) (fun _ hq => dict_declines td tl F.sub_tuple_dict .none F.slot_dict_eq_refl hq) (fun _ hq => SeqAt.wpAny_isSame_ref_other' hne.symm ho2 h (by simp) hq) (.inr hu) q
  | dic => exact absurd rfl n
end
end G
set_option Elab.async false
set_option linter.all false
set_option maxRecDepth 100000
set_option maxHeartbeats 8000000
/-! GZ: == and in of things of unlike kinds, as rules. -/
namespace G
open PySem PySem.Spec PyProof.Rows L2
section
variable {A : Around} {s : Shared}
theorem rc_kinds {u v : Value} {i j : Nat} (hu : A.units < cLine) (a : KindS s u i) (b : KindS s v j) (n : i ≠ j) : SeqAt.RcAt A s u v false := by
  cases a with
  | non =>
    cases b with
    | non => exact absurd rfl n
    | bool b => exact SeqAt.RcAt.none_bool b
    | int b t => exact SeqAt.RcAt.none_int b t
    | str b t => exact SeqAt.RcAt.none_str b t
    | lst h => exact SeqAt.RcAt.none_list h hu
    | tup h => exact SeqAt.RcAt.none_tuple h hu
    | dic h => exact (rc_d_other h hu .non (by decide)).2
  | bool x =>
    cases b with
    | non => exact SeqAt.RcAt.bool_none x
    | bool b => exact absurd rfl n
    | int b t => exact absurd rfl n
    | str b t => exact SeqAt.RcAt.bool_str x b t
    | lst h => exact SeqAt.RcAt.bool_list x h hu
    | tup h => exact SeqAt.RcAt.bool_tuple x h hu
    | dic h => exact (rc_d_other h hu (.bool x) (by decide)).2
  | int x t0 =>
    cases b with
    | non => exact SeqAt.RcAt.int_none x t0
    | bool b => exact absurd rfl n
    | int b t => exact absurd rfl n
    | str b t => exact SeqAt.RcAt.int_str x t0 b t
    | lst h => exact SeqAt.RcAt.int_list x t0 h hu
    | tup h => exact SeqAt.RcAt.int_tuple x t0 h hu
    | dic h => exact (rc_d_other h hu (.int x t0) (by decide)).2
  | str x t0 =>
    cases b with
    | non => exact SeqAt.RcAt.str_none x t0
    | bool b => exact SeqAt.RcAt.str_bool x t0 b
    | int b t => exact SeqAt.RcAt.str_int x t0 b t
    | str b t => exact absurd rfl n
    | lst h => exact SeqAt.RcAt.str_list x t0 h hu
    | tup h => exact SeqAt.RcAt.str_tuple x t0 h hu
    | dic h => exact (rc_d_other h hu (.str x t0) (by decide)).2
  | lst h0 =>
    cases b with
    | non => exact SeqAt.RcAt.list_none h0 hu
    | bool b => exact SeqAt.RcAt.list_bool b h0 hu
    | int b t => exact SeqAt.RcAt.list_int b t h0 hu
    | str b t => exact SeqAt.RcAt.list_str b t h0 hu
    | lst h => exact absurd rfl n
    | tup h => exact SeqAt.RcAt.list_tuple h0 h hu
    | dic h => exact (rc_d_other h hu (.lst h0) (by decide)).2
  | tup h0 =>
    cases b with
    | non => exact SeqAt.RcAt.tuple_none h0 hu
    | bool b => exact SeqAt.RcAt.tuple_bool b h0 hu
    | int b t => exact SeqAt.RcAt.tuple_int b t h0 hu
    | str b t => exact SeqAt.RcAt.tuple_str b t h0 hu
    | lst h => exact SeqAt.RcAt.tuple_list h0 h hu
    | tup h => exact absurd rfl n
    | dic h => exact (rc_d_other h hu (.tup h0) (by decide)).2
  | dic h0 => exact (rc_d_other h0 hu b fun z => n z.symm).1
end
/-- sorts of values -/
inductive KindV (K : PySem.W.Frag) (H : Hp) : V → Nat → Prop
  | non : KindV K H .non 0
  | bl (b : Bool) : KindV K H (.bl b) 1
  | int (i : Int) : KindV K H (.int i) 1
  | str (x : Str) : KindV K H (.str x) 2
  | lst {a : Addr} {xs : List V} : SqL K H a xs → KindV K H (.ref a) 3
  | tup {a : Addr} {xs : List V} : SqT K H a xs → KindV K H (.ref a) 4
  | dic {a : Addr} {kvs : List (Key × V)} : H a = some (.dK kvs) → KindV K H (.ref a) 5
section
variable {X : Cx} {K : PySem.W.Frag} {ca : Dr} {pins : List (Addr × Obj)} {σ : L2.St} {H : Hp} {s : Shared}
theorem kind_of {v : V} {u : Value} {i : Nat} (I : L2.Inv X pins σ H s) (r : RelV v u) (k : KindV X.K H v i) : KindS s u i := by
  cases k with
  | non => cases r; exact .non
  | bl b => cases r; exact .bool b
  | int i => obtain ⟨t, rfl⟩ := r; exact .int i t
  | str x => obtain ⟨t, rfl⟩ := r; exact .str x t
  | lst h => cases r; obtain ⟨its, _, pl, _⟩ := I.list h; exact .lst pl.isList
  | tup h => cases r; obtain ⟨its, _, pl, _⟩ := I.tuple h; exact .tup pl
  | dic h =>
    cases r
    obtain ⟨_, _, vs, _, o, es, ep, ho, ex, hd, _⟩ := dk_of I.hok h
    obtain ⟨cls, dd, data, sl⟩ := o
    simp only at hd
    subst hd
    obtain ⟨e1, e2⟩ := ex
    simp only at e1
    subst e1
    exact .dic ho
def rEqN (K : PySem.W.Frag) : R2 := fun x y H Q => (∃ i j, KindV K H x i ∧ KindV K H y j ∧ i ≠ j ∧ Q (.bl false) H) ∨ ∃ a b xs ys, x = .ref a ∧ y = .ref b ∧ SqL K H a xs ∧ SqL K H b ys ∧ xs.length ≠ ys.length ∧ Q (.bl false) H
theorem op_eqN (hu : X.A.units + 1 < cLine) : OpR X (compareOp .Eq) (rEqN X.K) := by
  intro pins s σ H x y v u Q I rx ry h
  rcases h with ⟨i, j, k1, k2, n, q⟩ | ⟨a, b, xs, ys, rfl, rfl, h1, h2, n, q⟩
  · exact rc_kinds (by omega) (kind_of I rx k1) (kind_of I ry k2) n X.prog X.w X.xe _ ⟨.bl false, H, I, rfl, q⟩
  · cases rx; cases ry
    obtain ⟨its, r1, p1, _⟩ := I.list h1
    obtain ⟨its2, r2, p2, _⟩ := I.list h2
    refine SeqAt.eq_list_lengthsAt p1.isList p2.isList ?_ (by omega) ⟨.bl false, H, I, rfl, q⟩
    have e1 := r1.length
    have e2 := r2.length
    simp only [List.size_toArray]
    exact bne_iff_ne.mpr (by omega)
/-! ### over trees -/
def kindD : D → Option Nat
  | .non => some 0
  | .bl _ => some 1
  | .int _ => some 1
  | .str _ => some 2
  | .lst _ => some 3
  | .tup _ => some 4
  | .dic _ _ => some 5
  | _ => none
theorem kind_rl {Z : Addr → Prop} {v : V} {d : D} {i : Nat} (r : Rl K ca Z H v d) (h : kindD d = some i) : KindV K H v i := by
  cases r <;> first | (cases h; done) | skip
  · cases h; exact .non
  · cases h; exact .bl _
  · cases h; exact .int _
  · cases h; exact .str _
  · cases h; exact .lst (SqL.of (by assumption))
  · cases h; rename_i h _; exact .tup h.s
  · cases h; exact .dic (by assumption)
/-- lists of unlike lengths, things of unlike sorts -/
def apart (x y : D) : Bool := match x, y with
  | .lst xs, .lst ys => xs.length != ys.length
  | x, y => match kindD x, kindD y with
    | some i, some j => i != j
    | _, _ => false
theorem apart_V {Z : Addr → Prop} {x y : V} {d e : D} (r1 : Rl K ca Z H x d) (r2 : Rl K ca Z H y e) (h : apart d e = true) (Q : VK) (q : Q (.bl false) H) : rEqN K x y H Q := by
  unfold apart at h
  split at h
  · cases r1 with | lst n1 h1 a1 => cases r2 with | lst n2 h2 a2 =>
    exact .inr ⟨_, _, _, _, rfl, rfl, SqL.of h1, SqL.of h2, by rw [a1.length, a2.length]; exact bne_iff_ne.mp h, q⟩
  · split at h
    · rename_i i j e1 e2
      exact .inl ⟨i, j, kind_rl r1 e1, kind_rl r2 e2, bne_iff_ne.mp h, q⟩
    · cases h
/-- any == -/
def gEqA : D → D → Option Bool := fun x y => if apart x y = true then some false else gEqX false x y
theorem op_eqA (hu : X.A.units + 64 < cLine) : OpR X (compareOp .Eq) (fun x y H Q => rEqN X.K x y H Q ∨ rEqX X.K x y H Q) := (op_eqN (by omega)).or (op_eqX hu)
theorem cmp_eqA : BinB K ca (fun x y H Q => rEqN K x y H Q ∨ rEqX K x y H Q) gEqA := fun Z H c x y d e k Q z co r1 r2 hg q => by
  unfold gEqA at hg
  split at hg
  · rename_i h
    cases hg
    exact .inl (apart_V r1 r2 h Q (q H .refl co))
  · exact .inr (cmp_eqX Z H c x y d e k Q z co r1 r2 hg q)
/-- any in -/
def big (x : D) : Bool := match kindD x with
  | some i => decide (3 ≤ i)
  | none => false
/-- order, of numbers and of texts -/
def ltL (a b : List Nat) : Bool := decide (a < b)
def leL (a b : List Nat) : Bool := !decide (b < a)
def gtL (a b : List Nat) : Bool := decide (b < a)
def gCmpO (f : Int → Int → Bool) (g : List Nat → List Nat → Bool) : D → D → Option Bool
  | .int i, .int j => some (f i j)
  | .str a, .str b => some (g a.cps.toList b.cps.toList)
  | _, _ => none
theorem cmp_ord {f : Int → Int → Bool} {g : List Nat → List Nat → Bool} : BinB K ca (fun x y H Q => rI0 (fun i j => .bl (f i j)) x y H Q ∨ ∃ i j, x = .str i ∧ y = .str j ∧ Q (.bl (g i.cps.toList j.cps.toList)) H) (gCmpO f g) := fun Z H c x y d e k Q z co r1 r2 hg q => by
  unfold gCmpO at hg
  split at hg
  · cases hg; cases r1; cases r2
    exact .inl ⟨_, _, rfl, rfl, q H .refl co⟩
  · cases hg; cases r1; cases r2
    exact .inr ⟨_, _, rfl, rfl, q H .refl co⟩
  · cases hg
theorem op_ltO : OpR X (compareOp .Lt) (fun x y H Q => rI0 (fun i j => .bl (ltI i j)) x y H Q ∨ ∃ i j, x = .str i ∧ y = .str j ∧ Q (.bl (ltL i.cps.toList j.cps.toList)) H) := op_lt.or op_lt_str
theorem op_leO : OpR X (compareOp .LtE) (fun x y H Q => rI0 (fun i j => .bl (leI i j)) x y H Q ∨ ∃ i j, x = .str i ∧ y = .str j ∧ Q (.bl (leL i.cps.toList j.cps.toList)) H) := op_le.or op_le_str
theorem op_gtO : OpR X (compareOp .Gt) (fun x y H Q => rI0 (fun i j => .bl (gtI i j)) x y H Q ∨ ∃ i j, x = .str i ∧ y = .str j ∧ Q (.bl (gtL i.cps.toList j.cps.toList)) H) := op_gt.or op_gt_str
end
end G
set_option Elab.async false
set_option linter.all false
set_option maxRecDepth 100000
set_option maxHeartbeats 8000000
/-! HA: small equations for the newer operations. -/
namespace G
open PySem PySem.Spec PyProof.Rows L2
theorem gIxA_l {xs : List D} {i : Int} : gIxA (.lst xs) (.int i) = atI xs i := rfl
theorem gIxA_t {xs : List D} {i : Int} : gIxA (.tup xs) (.int i) = atI xs i := rfl
theorem atI_nat {α : Type} {xs : List α} {i : Nat} (h : i < xs.length) : atI xs (i : Int) = some xs[i] := by
  have e : ixN xs.length (i : Int) = some i := by
    unfold ixN
    rw [if_pos (Int.natCast_nonneg i), if_pos (Int.ofNat_lt.mpr h)]
    simp
  unfold atI
  rw [e]
  simp [h]
theorem atI_0 {α : Type} {x : α} {xs : List α} : atI (x :: xs) (0 : Int) = some x := atI_nat (xs := x :: xs) (i := 0) (by simp)
theorem atI_1 {α : Type} {x y : α} {xs : List α} : atI (x :: y :: xs) (1 : Int) = some y := atI_nat (xs := x :: y :: xs) (i := 1) (by simp)
theorem atI_2 {α : Type} {x y z : α} {xs : List α} : atI (x :: y :: z :: xs) (2 : Int) = some z := atI_nat (xs := x :: y :: z :: xs) (i := 2) (by simp)
theorem atI_3 {α : Type} {x y z w : α} {xs : List α} : atI (x :: y :: z :: w :: xs) (3 : Int) = some w := atI_nat (xs := x :: y :: z :: w :: xs) (i := 3) (by simp)
theorem gEqA_i {i j : Int} : gEqA (.int i) (.int j) = some (i == j) := by kernel_rfl
theorem gEqA_s {a b : Str} : gEqA (.str a) (.str b) = some (decide (a = b)) := rfl
theorem gCmpO_i {f : Int → Int → Bool} {g : List Nat → List Nat → Bool} {i j : Int} : gCmpO f g (.int i) (.int j) = some (f i j) := rfl
end G
set_option Elab.async false
set_option linter.all false
set_option maxRecDepth 100000
set_option maxHeartbeats 8000000
/-! HB: a, b = x, x a list or a tuple. -/
namespace G
open PySem PySem.Spec PyProof.Rows L2
def gUnp (K : PySem.W.Frag) (n : Nat) (t : TGs) : TG := fun v σ H Q => L2.gTup K n t v σ H Q ∨ L2.gUnl K n t v σ H Q
def gS (ts : List Tg) : Tg := fun d ρ => match d with
  | .tup ds => gNs ts ds ρ
  | .lst ds => gNs ts ds ρ
  | _ => none
section
variable {X : Cx} {ca : Dr} {es : List Expr} {k : Nat} {t : TGs} {n : Nat} {pos : Pos}
theorem pg_unp (hc : X.calm = true) (h : PGs X es t) (hn : (assignEach es X.env).length = n := by rfl) (hst : (assignEach es X.env).findIdx? (·.1) = none := by rfl) : PG X (.Tuple es k pos) (gUnp X.K n t) :=
  ⟨fun pins s σ H v u Q I r hw => hw.elim (fun hw => (pg_tup hc h hn hst).run pins s σ H v u Q I r hw) fun hw => (L2.pg_unl hc h hn hst).run pins s σ H v u Q I r hw⟩
theorem tg_unp {gs : TGs} {ts : List Tg} {is : List Nat} {n : Nat} (h : TgsD X.K ca gs ts is) (hn : ts.length = n := by rfl) : TgD X.K ca (gUnp X.K n gs) (gS ts) is := fun Z Y H σ ρ ρ' v d Q eo r e q => by
  cases r with
  | tup hs ra => exact .inl ⟨_, _, rfl, hs.s, by rw [ra.length, gNs_len e, hn], h Z Y H σ ρ ρ' _ _ Q eo ra e q⟩
  | lst n0 hs ra => exact .inr ⟨_, _, rfl, SqL.of hs, by rw [ra.length, gNs_len e, hn], h Z Y H σ ρ ρ' _ _ Q eo ra e q⟩
  | _ => cases e
end
end G
set_option Elab.async false
set_option linter.all false
set_option maxRecDepth 100000
set_option maxHeartbeats 4000000
/-! HC: defs with defaults. -/
namespace G
open PySem PySem.Spec PyProof.Rows L2
/-- the def x, with defaults, at its place does F -/
structure DefH (P : Program) (w : World) (K : PySem.W.Frag) (mg : Str → Option Value) (base : Heap) (k : Nat) (x : Str) (st : Stmt) (ps : List Str) (dfl : List He.Dv) (F : List D → M D) : Prop where
  ex : ∃ fd, FunD K x x (defArgs st) (defBody st) (defScope st) (dfl.map (He.Dv.v K)) [] (He.ga K x) fd ∧ mg x = some (.ref (He.ga K x)) ∧ FnG P w K mg base CX0 k (He.ga K x) fd ps (spD K ps.length F)
section
variable {P : Program} {w : World} {K : PySem.W.Frag} {mg : Str → Option Value} {base : Heap} {k : Nat} {x : Str} {st : Stmt} {N ps : List Str} {g : Sm} {dfl : List He.Dv}
theorem DefH.here {X : Cx} {F : List D → M D} (h : DefH P w K mg base k x st ps dfl F) (e1 : X.prog = P := by rfl) (e2 : X.w = w := by rfl) (e3 : X.K = K := by rfl) (e4 : X.mg = mg := by rfl) (e5 : X.base = base := by rfl) :
    DefH X.prog X.w X.K X.mg X.base k x st ps dfl F := by
  subst e1 e2 e3 e4 e5
  exact h
end
section
variable {X : Cx} {ca : Dr} {pos : Pos} {k j : Nat} {ps kn : List Str} {F : List D → M D} {x : Str} {st : Stmt} {p : Pos} {e : Expr} {es : List Expr} {fs ks : Ev → M (List D)} {kws : List Keyword} {dfl : List He.Dv}
theorem flA_dfl {K : PySem.W.Frag} {vs : List V} {dds : List D} (h : flA dds = some vs) : ∀ Z H, RlA K ca Z H vs dds := fun Z H => flA_rl h
variable {E : XK}
end
end G
set_option Elab.async false
set_option linter.all false
set_option maxRecDepth 100000
set_option maxHeartbeats 4000000
/-! HD: d.get(k), d.get(k, x). -/
set_option Elab.async false
set_option linter.all false
set_option maxRecDepth 100000
set_option maxHeartbeats 8000000
/-! HE: sets of ints and texts that can be walked. -/
namespace G
open PySem PySem.Spec PyProof.Rows L2
section
variable {P : Program} {w : World}
/-- no key is at both -/
def Apart2 (P : Program) (w : World) (e f : Int × Value) : Prop := ∀ k, (mixKind P w).is k e.2 = true → (mixKind P w).is k f.2 = true → False
theorem Apart2.symm {e f : Int × Value} (h : Apart2 P w e f) : Apart2 P w f e := fun k a b => h k b a
variable {A : Around} {E : Value → Shared → Prop} {s : Shared} {a : Addr} {S : Key → Bool} {n : Nat}
end
end G
set_option Elab.async false
set_option linter.all false
set_option maxRecDepth 100000
set_option maxHeartbeats 8000000
/-! HF: set(xs) as a set that can be walked; sorted of it. -/
set_option Elab.async false
set_option linter.all false
set_option maxRecDepth 100000
set_option maxHeartbeats 4000000
/-! HG: sorted(set(xs)), xs a list or a tuple of texts, or of ints. -/
set_option Elab.async false
set_option linter.all false
set_option maxRecDepth 100000
set_option maxHeartbeats 8000000
/-! HH: sorted(set(xs)) as an expression. -/
set_option Elab.async false
set_option linter.all false
set_option maxRecDepth 100000
set_option maxHeartbeats 4000000
/-! HI: is, between truths. -/
set_option Elab.async false
set_option linter.all false
set_option maxRecDepth 100000
set_option maxHeartbeats 8000000
/-! HJ: dict(xs) of a tuple of pairs. -/
set_option Elab.async false
set_option linter.all false
set_option maxRecDepth 100000
set_option maxHeartbeats 8000000
/-! HK: {k: v for a in xs for b in ys}: a dict by two clauses, on the kit's own level. -/
set_option Elab.async false
set_option linter.all false
set_option maxRecDepth 100000
set_option maxHeartbeats 8000000
/-! HL: {k: v for a in xs if .. for b in ys if ..} as an expression rule over the abstract heap. -/
set_option Elab.async false
set_option linter.all false
set_option maxRecDepth 100000
set_option maxHeartbeats 8000000
/-! HM: {k: v for a in xs if .. for b in ys if ..}: what it does, as a new dict. -/
set_option Elab.async false
set_option linter.all false
set_option maxRecDepth 100000
set_option maxHeartbeats 8000000
/-! HN: f-strings; x = {..} uses its value at once. -/
set_option Elab.async false
set_option linter.all false
set_option maxRecDepth 100000
set_option maxHeartbeats 8000000
/-! HP: for k in d, d any dict: it is locked while the loop runs; what the slots hold has no dict in it. -/
namespace G
open PySem PySem.Spec PyProof.Rows L2
/-! ### on the kit's level -/
/-! ### trees without dicts -/
/-- the thing at a is a dict -/
def DicAt (H : Hp) (a : Addr) : Prop := ∃ kvs : List (Key × V), H a = some (.dK kvs) ∨ ∃ o, H a = some (.frz o (.dK kvs))
section
variable {K : PySem.W.Frag} {ca : Dr} {Z Y : Addr → Prop} {H : Hp} {a : Addr} {x : HO} {σ : L2.St} {ρ : Ev}
theorem DicAt.ne {b : Addr} {o : HO} (d : DicAt H a) (h : H b = some o) (n1 : ∀ kvs : List (Key × V), o ≠ .dK kvs) (n2 : ∀ (ob : Obj) (kvs : List (Key × V)), o ≠ .frz ob (.dK kvs)) : b ≠ a := fun z => by
  subst z
  obtain ⟨kvs, e | ⟨ob, e⟩⟩ := d
  · rw [h] at e; exact n1 _ (Option.some.inj e)
  · rw [h] at e; exact n2 _ _ (Option.some.inj e)
end
/-! ### the loop -/
end G
set_option Elab.async false
set_option linter.all false
set_option maxRecDepth 100000
set_option maxHeartbeats 4000000
/-! JA: an own exception's __init__ that says super().__init__("..") and self.f = v: kept as a def's promise. -/
namespace G
open PySem PySem.Spec PyProof.Rows L2
/-- the context of an __init__ that closes over __class__ -/
def iniCx (CX : CXT) (P : Program) (w : World) (K : PySem.W.Frag) (mg : Str → Option Value) (base : Heap) (N : List Str) (qual : Str) (scope : Scope) (f : Addr) (cd : Value) (cc : Addr) (A : Around) (outer : List Env) (s : Shared) (H : Hp) (E : XK) : Cx where
  prog := P
  w := w
  K := K
  mg := mg
  base := base
  A := A.deeper (PySem.W.ksEnv qual scope s.heap.objs.size f cd cc)
  N := N
  s_0 := s
  H_0 := H
  env := PySem.W.ksEnv qual scope s.heap.objs.size f cd cc
  outer := outer
  stack := PySem.W.ksEnv qual scope s.heap.objs.size f cd cc :: outer
  ex := []
  calm := true
  fn := fun _ => false
  pn := []
  xe := fun e s' => wpAny (model P w) (A.deeper (PySem.W.ksEnv qual scope s.heap.objs.size f cd cc)) (leaving (PySem.W.ksEnv qual scope s.heap.objs.size f cd cc) e) (fun _ s'' => CX outer H s E e s'') (fun e' s'' => CX outer H s E e' s'') s'
theorem cls_cell {cc c : Addr} {y : Str} (h : ([("__class__", cc)] : List (Str × Addr)).lookup y = some c) : y = "__class__" ∧ c = cc := by
  by_cases e : y = "__class__"
  · subst e
    simp at h
    exact ⟨rfl, h.symm⟩
  · have : (y == ("__class__" : Str)) = false := by simpa using e
    simp [List.lookup, this] at h
/-- the names of such an __init__ -/
structure IniS (sc : Scope) (x0 x1 : Str) : Prop where
  kind : sc.kind = .function
  co : sc.isCoroutine = false
  gen : sc.isGenerator = false
  l0 : sc.names.lookup x0 = some .local
  l1 : sc.names.lookup x1 = some .local
  ne : x0 ≠ x1
  nocell : ∀ y ∈ sc.names, y.2 ≠ .cell
  fr : ∀ y ∈ sc.names, y.2 = .free → y.1 = "__class__"
  cls : sc.names.lookup ("__class__" : Str) = some .free
  sup : sc.names.lookup ("super" : Str) = some .globalImplicit
section
variable {CX : CXT} {P : Program} {w : World} {K : PySem.W.Frag} {mg : Str → Option Value} {base : Heap} {x0 x1 qual : Str} {scope : Scope} {f cc D : Addr} {cd : Value} {A : Around} {outer : List Env} {s : Shared} {H : Hp} {E : XK}
theorem ini_start {h₁ : Heap} {tk : Nat} {u0 u1 cl : Value} {v0 v1 : V} {cld : Option Addr} {csl : Array (Option Value)} (S : IniS scope x0 x1) (hd : A.handled = none) (e0 : Env0 P w K mg base A outer s H)
    (hcell : K.lookup cc = some ⟨cl, cld, .cell (some (.ref D)), csl⟩) (r0 : RelV v0 u0) (r1 : RelV v1 u1) (hns : h₁.Ns s.heap.objs.size fun y => ([(x0, u0), (x1, u1)] : List (Str × Value)).reverse.lookup y) (kp : ∀ b o, s.heap.get? b = some o → h₁.get? b = some o) :
    Inv (iniCx CX P w K mg base [x0, x1] qual scope f cd cc A outer s H E) [] [some v0, some v1] H { s with heap := h₁, toks := tk } := by
  have noA : ∀ b : Addr, b ∉ (iniCx CX P w K mg base [x0, x1] qual scope f cd cc A outer s H E).ex := fun b z => absurd (show b ∈ ([] : List Addr) from z) (by simp)
  have kc := e0.mod.kin _ _ hcell
  obtain ⟨kc2, hcN⟩ := e0.bs _ _ kc
  refine ⟨⟨e0.mod, S.kind, rfl, rfl, Nat.le_refl _, fun y z c h1 h2 => ((cls_cell h1).1).trans (cls_cell h2).1.symm, fun y hy => ?_, fun y c z _ => ?_, fun _ => hd, Around.frames_deeper e0.frames, .inr ⟨rfl, rfl⟩, fun b z => absurd z (noA b), e0.bs, e0.bsz, fun b _ _ => noA b, fun b z => absurd z (noA b), e0.funs, e0.frf⟩,
    rfl, e0.bare, Un.kept kp, ⟨_, hns, fun i y v h1 h2 h3 => ?_⟩, fun y c h => ⟨some (.ref D), ?_⟩, e0.hok.fresh (Nat.le_refl _), fun y c h => ?_, fun p hp => absurd (show p ∈ ([] : List (Addr × Obj)) from hp) (by simp), e0.hok.kept kp, rfl⟩
  · have hy : scope.names.lookup y = some .cell ∨ scope.names.lookup y = some .free := hy
    rcases hy with hy | hy
    · exact absurd rfl (S.nocell _ (PySem.mem_of_lookup hy))
    · obtain rfl := S.fr _ (PySem.mem_of_lookup hy) rfl
      exact ⟨cc, rfl⟩
  · have z : false = true := z
    cases z
  · have h1 : ([x0, x1] : List Str)[i]? = some y := h1
    have ne : (x1 == x0) = false := by simpa using fun z : x1 = x0 => S.ne z.symm
    have ne2 : (x0 == x1) = false := by simpa using S.ne
    match i, h1, h2 with
    | 0, h1, h2 =>
      simp at h1 h2
      subst h1 h2
      exact ⟨u0, r0, .inl ⟨S.l0, by simp [List.lookup, ne2]⟩⟩
    | 1, h1, h2 =>
      simp at h1 h2
      subst h1 h2
      exact ⟨u1, r1, .inl ⟨S.l1, by simp [List.lookup]⟩⟩
    | i + 2, h1, h2 => simp at h1
  · obtain ⟨_, rfl⟩ := cls_cell h
    exact ⟨_, kp _ _ kc2, rfl⟩
  · obtain ⟨_, rfl⟩ := cls_cell h
    exact hcN
end
end G
set_option Elab.async false
set_option linter.all false
set_option maxRecDepth 100000
set_option maxHeartbeats 4000000
/-! JB: super().__init__("..") run. -/
namespace G
open PySem PySem.Spec PyProof.Rows L2
/-- what the class C says of an __init__ of the class D -/
structure IniC (K : PySem.W.Frag) (C D : Addr) : Prop where
  T : OexC K C
  sup : PySem.W.ks_superIn K C D "__init__" = some (some (.builtin "ValueError.__init__"))
  sub : PySem.W.subIn K (.ref C) (.type "ValueError") = some true
  mro : PySem.W.mroIn K C (.ref D) = some true
/-- what the text says of the def -/
structure IniT (P : Program) (K : PySem.W.Frag) (mg : Str → Option Value) (f cda cc D : Addr) (x0 : Str) : Prop where
  fn : ∃ oc od fd osl ar, K.lookup f = some ⟨oc, od, .func fd, osl⟩ ∧ (fd.params.posonlyargs ++ fd.params.args).head? = some ar ∧ ar.arg = x0
  code : ∃ ccl cdd vs ccs file tf, K.lookup cda = some ⟨ccl, cdd, .fields vs, ccs⟩ ∧ vs[2]? = some (.str file tf) ∧ ((P.main.file : Str) == file) = true
  cell : ∃ cl cld csl, K.lookup cc = some ⟨cl, cld, .cell (some (.ref D)), csl⟩
  cls : ∃ cdD, PySem.W.clsIn K D = some cdD
  third : PySem.W.nsIn K cStatics "thirdparty.any" = some none
  top : (P.main.scope.names.lookup ("super" : Str)).isSome = false
  mgs : mg "super" = none
  boot : bootBuiltins "super" = some (.type "super")
section
variable {X : Cx} {pins : List (Addr × Obj)} {σ : L2.St} {H : Hp} {s : Shared} {a C D f cda cc : Addr} {x0 x1 q m : Str} {scope : Scope} {body : List Stmt} {p0 p1 p2 p3 p4 p5 : Pos} {j : Nat} {E : Value → Shared → Prop} {Q : Flow → Shared → Prop}
theorem call_mw {u : Addr} {us : List Value} {Q : Value → Shared → Prop} (T : OexC X.K C) (I : L2.Inv X pins σ H s) (hu : s.heap.get? u = some (PySem.W.kxs_mw "ValueError.__init__" a)) (e : H a = some (exo a C none)) (hl : us.length ≤ sizeLine)
    (h : ∀ s', L2.Inv X pins σ H s' → Q .none s') : wpAny (model X.prog X.w) X.A (call (.ref u) us) Q E s := by
  obtain ⟨nm, qn, N, bs, bm, sn, sub, ab, col, dd, k0, k1, k2, k3, k5, hC, hbm⟩ := T.cls
  obtain ⟨t1, he⟩ := exo_at I.hok e
  have hC' := I.kIn _ _ hC
  obtain ⟨hh, g, d, tk, os⟩ := s
  refine wpAny_call (codeAny_of_tree ?_)
  show wpAny _ X.A.in1 (callAny (.ref u) ⟨us, []⟩) _ _ _
  simp only [callAny]
  refine wpAny_bind (wpAny_load hu ?_)
  simp only [PySem.W.kxs_mw, show (Value.type "method-wrapper" == Value.type "method" || Value.type "method-wrapper" == Value.type "builtin_function_or_method" || Value.type "method-wrapper" == Value.type "method-wrapper") = true by decide, if_true]
  refine PySem.W.KFB.if_so (by decide) ?_
  refine wpAny_bind (PySem.W.check_bound_init F.excBase_ValueError.toExcCallFacts hC' he rfl ?_)
  refine wpAny_bind (wpAny_pure (wpAny_pure ?_))
  refine ⟨plainId_quiet F.excBase_ValueError.init.plain _, codeAny_builtin F.excBase_ValueError.initEntry ?_⟩
  refine PySem.W.exc_init_tree (cls := .ref C) (t0 := t1) (dv := none) (c2 := .none) (c3 := .none) (b4 := .bool false) he hl fun h' k hx ht => ?_
  have J := I.write (t' := tk) (x := a) (e := a) (o := exo a C none) (by rw [e]; exact True.intro) (.inl rfl) k ⟨_, hx⟩ (exo_ok hx)
  have eu : upd H a (exo a C none) = H := by
    funext b
    by_cases hb : b = a
    · rw [hb, upd_same, e]
    · rw [upd_ne hb]
  rw [eu] at J
  exact h _ J
theorem super_run {pl : Sem Bool} (TT : IniT X.prog X.K X.mg f cda cc D x0) (S : IniS scope x0 x1) (TC : IniC X.K C D) (henv : X.env = PySem.W.ksEnv q scope X.env.locals f (.ref cda) cc) (hN : X.N[0]? = some x0)
    (hi : interactive X.env = false) (hsw : swapsWith (.Call (.Attribute (.Call (.Name "super" p0) [] [] p1) "__init__" p2) [.Constant (.str m) j p3] [] p4) none p5.line X.env = pure false)
    (hev : eval (.Call (.Attribute (.Call (.Name "super" p0) [] [] p1) "__init__" p2) [.Constant (.str m) j p3] [] p4) X.env = (do
      let ov ← attributeBase (.Call (.Name "super" p0) [] [] p1) "__init__" X.env (eval (.Call (.Name "super" p0) [] [] p1) X.env)
      standAt p2.atName
      let (f, first) ← holding [ov] (getMethod ov "__init__" pl)
      callWith p4 f first (backTo p4 (starEach [.Constant (.str m) j p3] X.env)) []))
    (hst : starEach [.Constant (.str m) j p3] X.env = (false, eval (.Constant (.str m) j p3) X.env) :: starEach [] X.env) (hpl : (backTo p4 (starEach [] X.env)).any (·.1) = false)
    (I : L2.Inv X pins σ H s) (h0 : σ[0]? = some (some (.ref a))) (e : H a = some (exo a C none)) (h : ∀ s', L2.Inv X pins σ H s' → Q .next s') :
    PySem.wpAt (model X.prog X.w) X.A (.func body X.env) (exec (.Expr (.Call (.Attribute (.Call (.Name "super" p0) [] [] p1) "__init__" p2) [.Constant (.str m) j p3] [] p4) p5) X.env) Q X.xe s := by
  obtain ⟨oc, od, fd, osl, ar, hf, hp, har⟩ := TT.fn
  obtain ⟨ccl, cdd, vs, ccs, file, tf, hcode, hvs, hfile⟩ := TT.code
  obtain ⟨cl, cld, csl, hcell⟩ := TT.cell
  obtain ⟨cdD, hD⟩ := TT.cls
  obtain ⟨nm, qn, N, bs, bm, sn, sub1, ab, col, dd, k0, k1, k2, k3, k5, hC, hbm⟩ := TC.T.cls
  have KX : X.K.In s.heap := I.kIn
  obtain ⟨t1, he⟩ := exo_at I.hok e
  obtain ⟨m0, hns, hl⟩ := I.loc
  obtain ⟨u, ru, lk⟩ := hl 0 x0 (.ref a) hN h0 (.inl (by rw [henv]; exact S.l0))
  obtain rfl : u = Value.ref a := ru
  have hm0 : m0 x0 = some (.ref a) := by
    rcases lk with ⟨_, z⟩ | ⟨z, _⟩
    · exact z
    · rw [henv] at z
      have z : scope.names.lookup x0 = some .cell ∨ scope.names.lookup x0 = some .free := z
      rw [S.l0] at z
      rcases z with z | z <;> cases z
  obtain ⟨oD, hD1, hD2⟩ : ∃ oD, s.heap.get? D = some oD ∧ oD.data = .cls cdD := by
    unfold PySem.W.clsIn at hD
    split at hD
    · rename_i c d cd' sl ho
      cases hD
      exact ⟨_, KX _ _ ho, rfl⟩
    · cases hD
  obtain ⟨mb, b1, b2⟩ := I.mod.blt
  have bg := I.ok.glob
  have bb := I.ok.blt
  have kS : X.env.scope.kind = .function := by rw [henv]; exact S.kind
  have k0' : X.env.kindOf x0 = some .local := by rw [henv]; exact S.l0
  have kC : X.env.kindOf "__class__" = some .free := by rw [henv]; exact S.cls
  have kU : X.env.kindOf "super" = some .globalImplicit := by rw [henv]; exact S.sup
  have eF : X.env.func = some f := by rw [henv]
  have eK : X.env.code = .ref cda := by rw [henv]
  have eC : X.env.cells.lookup ("__class__" : Str) = some cc := by rw [henv]; rfl
  refine PySem.ks_wpAt_Expr_any (PySem.ks_wpAt_MethodCall (pl := pl) ?_ hev) hi hsw
  refine PySem.ks_wpAt_super_base (env := X.env) kU kC (by decide) eF (KX _ _ hf) rfl hp eK (KX _ _ hcode) rfl hvs hfile TT.top ?_
  refine PySem.W.ks_loadName_global kS kU (Calls.loadGlobal_builtin (env := X.env) (by rw [bg]; exact I.mod.glob.keeps I.bk) TT.mgs (by rw [bb]; exact b1.keeps I.bk) ((b2 _ (by decide)).trans TT.boot) ⟨rfl, ?_⟩)
  refine wpAny_loadName_free kS kC eC ⟨_, KX _ _ hcell, rfl⟩ ?_
  rw [har]
  refine wpAny_loadName_local kS k0' hns hm0 ?_
  obtain ⟨hh, g, d, tk, os⟩ := s
  refine PySem.ks_wpAny_isType_cls hD1 hD2 ⟨rfl, ?_⟩
  refine PySem.ks_wpAny_call_super hD1 hD2 he rfl (fun c z => by cases z) (PySem.W.looks_mroIn KX TC.mro) (fun h' e1 k1 => ?_)
  have I1 : L2.Inv X pins σ H ⟨h', g, d, tk, os⟩ := I.kept k1
  have KX1 := I1.kIn
  have he1 : h'.get? a = some ({ cls := .ref C, dict := none, data := .fields #[.ref t1, .none, .none, .none, .bool false, .none] } : Obj) := k1 _ _ he
  have hcl : PySem.W.clsIn X.K C = some { name := nm, bases := bs, mro := .ref C :: bm, ns := N, qualname := qn, hasDict := true, slotNames := sn, subclasses := sub1, abstract := ab, collection := col, hasDel := false } := by unfold PySem.W.clsIn; rw [hC] <;> rfl
  have IA : PySem.W.InstAt h' a { cls := .ref C, dict := none, data := .fields #[.ref t1, .none, .none, .none, .bool false, .none] } C none := ⟨he1, rfl, rfl, trivial⟩
  have hal := TC.sup
  unfold PySem.W.ks_superIn at hal
  rw [hcl] at hal
  refine PySem.W.kxs_getMethod PySem.W.kxs_ValueError e1 (PySem.W.looks_opaque KX1 TT.third) (l₀ := .ref C :: bm) (fun A Q E s k q => wpAny_bind ((PySem.W.looks_clsIn KX1 hcl) A _ E s k (wpAny_pure q))) rfl KX1 hal (IA.type.andThen (PySem.W.looks_subIn KX1 TC.sub)) (PySem.W.ks_ne KX1 IA hcl) (by decide) ?_
  have k2 : ∀ b o, h'.get? b = some o → (h'.push (PySem.W.kxs_mw "ValueError.__init__" a)).get? b = some o := fun b o z => Heap.get?_push_of_some _ z
  have I2 : L2.Inv X pins σ H ⟨h'.push (PySem.W.kxs_mw "ValueError.__init__" a), g, d, tk + 1, os⟩ := I1.kept k2
  have hu : (h'.push (PySem.W.kxs_mw "ValueError.__init__" a)).get? h'.objs.size = some (PySem.W.kxs_mw "ValueError.__init__" a) := Heap.get?_push_at rfl rfl
  rw [hst]
  refine PySem.W.kxs_callWith (i := "ValueError.__init__") (x := a) (by show (false || (backTo p4 (starEach [] X.env)).any (·.1)) = false; rw [hpl]; rfl) ?_
  rw [← hst]
  rw [hst]
  refine PySem.Calls.evalArgs_plain ?_
  show wpAny _ _ (spliced ((false, eval (.Constant (.str m) j p3) X.env) :: backTo p4 (starEach [] X.env))) _ _ _
  refine Calls.spliced_cons (Calls.Constant_str ?_)
  refine Calls.spliced_nil ⟨hu, ?_⟩
  exact call_mw TC.T (I2.tok _) hu e (by show 1 ≤ sizeLine; decide) h
end
end G
set_option Elab.async false
set_option linter.all false
set_option maxRecDepth 100000
set_option maxHeartbeats 4000000
/-! JC: the promise of such an __init__. -/
namespace G
open PySem PySem.Spec PyProof.Rows L2
/-- made: the field is kept -/
def spIni (K : PySem.W.Frag) (D : Addr) (fld : Str) : Sp := fun vs H Q _ => ∃ (a C : Addr) (y : V), vs = [.ref a, y] ∧ IniC K C D ∧ H a = some (exo a C none) ∧ PySem.W.findIn K (.ref C) fld = some none ∧
  ∀ dx, H dx = none → dx ≠ a → Q .non (upd (upd H dx (exd dx [(fld, y)])) a (exo a C (some dx)))
theorem ini_ok {CX : CXT} {P : Program} {w : World} {K : PySem.W.Frag} {mg : Str → Option Value} {base : Heap} {k : Nat} {f cc cda D : Addr} {x0 x1 name qual fld m : Str} {params : Arguments} {scope : Scope} {dV kV doc pm ct oc : Value} {an od : Option Addr} {osl : Array (Option Value)}
    {p0 p1 p2 p3 p4 p5 p6 p7 p8 p9 : Pos} {j : Nat} {pl : Addr → Sem Bool}
    (lk : K.lookup f = some ⟨oc, od, .func (PySem.W.ksFn name qual params [.Expr (.Call (.Attribute (.Call (.Name "super" p0) [] [] p1) "__init__" p2) [.Constant (.str m) j p3] [] p4) p5, .Assign [.Attribute (.Name x0 p6) fld p7] (.Name x1 p8) p9] scope dV kV doc pm an (.ref cda) ct cc), osl⟩)
    (hcd : PySem.W.codeIn K (.ref cda) qual = true) (TT : IniT P K mg f cda cc D x0) (S : IniS scope x0 x1)
    (hi : ∀ L : Addr, interactive (PySem.W.ksEnv qual scope L f (.ref cda) cc) = false)
    (hsw : ∀ L : Addr, swapsWith (.Call (.Attribute (.Call (.Name "super" p0) [] [] p1) "__init__" p2) [.Constant (.str m) j p3] [] p4) none p5.line (PySem.W.ksEnv qual scope L f (.ref cda) cc) = pure false)
    (hev : ∀ L : Addr, eval (.Call (.Attribute (.Call (.Name "super" p0) [] [] p1) "__init__" p2) [.Constant (.str m) j p3] [] p4) (PySem.W.ksEnv qual scope L f (.ref cda) cc) = (do
      let ov ← attributeBase (.Call (.Name "super" p0) [] [] p1) "__init__" (PySem.W.ksEnv qual scope L f (.ref cda) cc) (eval (.Call (.Name "super" p0) [] [] p1) (PySem.W.ksEnv qual scope L f (.ref cda) cc))
      standAt p2.atName
      let (ff, first) ← holding [ov] (getMethod ov "__init__" (pl L))
      callWith p4 ff first (backTo p4 (starEach [.Constant (.str m) j p3] (PySem.W.ksEnv qual scope L f (.ref cda) cc))) []))
    (hst : ∀ L : Addr, starEach [.Constant (.str m) j p3] (PySem.W.ksEnv qual scope L f (.ref cda) cc) = (false, eval (.Constant (.str m) j p3) (PySem.W.ksEnv qual scope L f (.ref cda) cc)) :: starEach [] (PySem.W.ksEnv qual scope L f (.ref cda) cc))
    (hpl : ∀ L : Addr, (backTo p4 (starEach [] (PySem.W.ksEnv qual scope L f (.ref cda) cc))).any (·.1) = false)
    (hs2 : ∀ L : Addr, swapsWith (.Name x1 p8) (some (.Attribute (.Name x0 p6) fld p7)) p9.line (PySem.W.ksEnv qual scope L f (.ref cda) cc) = pure false)
    (d0 : (x0 == ("__debug__" : Str)) = false) (d0' : (x0 == ("__classdict__" : Str)) = false) (d1 : (x1 == ("__debug__" : Str)) = false) (d1' : (x1 == ("__classdict__" : Str)) = false) :
    FnOk P w K mg base CX (k + 1) f (PySem.W.ksFn name qual params [.Expr (.Call (.Attribute (.Call (.Name "super" p0) [] [] p1) "__init__" p2) [.Constant (.str m) j p3] [] p4) p5, .Assign [.Attribute (.Name x0 p6) fld p7] (.Name x1 p8) p9] scope dV kV doc pm an (.ref cda) ct cc) [x0, x1] (spIni K D fld) := by
  refine ⟨fun vs H Q E h => ?_, fun A outer s H args us vs Q E hr e0 hb r hsp => ?_⟩
  · obtain ⟨a, C, y, rfl, _⟩ := h
    rfl
  obtain ⟨a, C, y, rfl, TC, ea, hno, q⟩ := hsp
  have KX : K.In s.heap := e0.mod.kin.keeps fun b o e => (e0.bs b o e).1
  have lim : s.heap.NoLimit := e0.mod.nolimit.keeps fun b o e => (e0.bs b o e).1
  obtain ⟨cl, cld, csl, hcell⟩ := TT.cell
  match us, r with
  | [u0, u1], .cons r0 (.cons r1 .nil) =>
    refine PySem.ks_codeAny_call_defAt (binds := [(x0, u0), (x1, u1)]) hr.depth (KX _ _ lk) rfl lim (PySem.W.codeRec_of KX hcd) rfl hb S.nocell (fun z hz => ?_) (fun h₁ hns hk₁ => ?_) S.co S.gen S.kind
    · simp only [List.mem_cons, List.not_mem_nil, or_false] at hz
      rcases hz with rfl | rfl
      · exact S.l0
      · exact S.l1
    have I : L2.Inv (iniCx CX P w K mg base [x0, x1] qual scope f (.ref cda) cc A outer s H E) [] [some (.ref a), some y] H { s with heap := h₁, toks := s.toks + 2 } := ini_start S hr.hd e0 hcell r0 r1 hns hk₁
    have L := s.heap.objs.size
    refine PySem.ks_wpAt_execs_cons ?_
    refine super_run (X := iniCx CX P w K mg base [x0, x1] qual scope f (.ref cda) cc A outer s H E) (q := qual) (scope := scope) (x1 := x1) TT S TC rfl rfl (hi _) (hsw _) (hev _) (hst _) (hpl _) I rfl ea fun s2 I2 => ?_
    refine PySem.wpAt_of_wpAny ?_
    have R := pss_one (ps_ost (X := iniCx CX P w K mg base [x0, x1] qual scope f (.ref cda) cc A outer s H E) (p' := p7) (pos := p9) (f := fld) (pe_var (pos := p6) (i := 0) rfl (.inl S.l0) d0 d0') (pe_var (pos := p8) (i := 1) rfl (.inl S.l1) d1 d1') (hs2 _))
    refine wpAny_mono (R.run [] s2 [some (.ref a), some y] H { nx := fun _ H' => Q .non H', rt := Q } I2 ⟨y, rfl, .ref a, rfl, a, C, rfl, TC.T, hno, .inl ⟨ea, fun dx n ne => q dx n ne⟩⟩) (fun fl s' hs => ?_) fun e s' hs => hs
    have fin : ∀ {σ' : L2.St} {H' : Hp} {v : V} {u : Value}, L2.Inv (iniCx CX P w K mg base [x0, x1] qual scope f (.ref cda) cc A outer s H E) [] σ' H' s' → L2.RelV v u → Q v H' → CE outer P w H s Q u s' :=
      fun {σ' H' v u} J rv q => ⟨v, H', J.os, J.bare, J.base, J.hok, rv, q⟩
    cases fl with
    | ret u =>
      obtain ⟨v, σ', H', J, rv, q⟩ := hs
      exact fin J rv q
    | next =>
      obtain ⟨σ', H', J, q⟩ := hs
      exact fin (v := V.non) (u := Value.none) J rfl q
    | brk =>
      obtain ⟨_, _, _, q⟩ := hs
      exact False.elim q
    | cont =>
      obtain ⟨_, _, _, q⟩ := hs
      exact False.elim q
end G
set_option Elab.async false
set_option linter.all false
set_option maxRecDepth 100000
set_option maxHeartbeats 4000000
/-! JD: what the head says of an own error class with one field, read off the written part. -/
namespace G
open PySem PySem.Spec PyProof.Rows L2
theorem ba2 {a b : Bool} (h : (a && b) = true) : a = true ∧ b = true := Bool.and_eq_true_iff.mp h
def oexB (K : PySem.W.Frag) (C : Addr) : Bool := (match K.lookup C with
  | some ⟨.type t, _, .cls cd, sl⟩ => decide (t = "type") && (match cd.mro, sl.toList with
    | .ref C' :: bm, [_, _, _, _, some (.builtin n), _] => decide (C' = C) && (decide (n = "ValueError.__new__") && (!cd.hasDel && (cd.hasDict && PySem.HandSPX.refsVE bm)))
    | _, _ => false)
  | _ => false) && (decide (PySem.W.findIn K (.ref C) "__setattr__" = some (some (.builtin "object.__setattr__"))) && (decide (PySem.W.subIn K (.ref C) (.type "BaseException") = some true) && (decide (PySem.W.typeIn K (.ref C) = some (.type "type")) && PySem.W.keepIn K (.ref C))))
theorem oexB_ok {K : PySem.W.Frag} {C : Addr} (h : oexB K C = true) : OexC K C := by
  obtain ⟨h0, h⟩ := ba2 h
  obtain ⟨h1, h⟩ := ba2 h
  obtain ⟨h2, h⟩ := ba2 h
  obtain ⟨h3, h4⟩ := ba2 h
  refine ⟨?_, of_decide_eq_true h1, of_decide_eq_true h2, of_decide_eq_true h3, h4⟩
  split at h0
  · rename_i t dd cd sl hk
    obtain ⟨a1, a2⟩ := ba2 h0
    split at a2
    · rename_i C' bm x0 x1 x2 x3 n x5 e1 e2
      obtain ⟨b1, r1⟩ := ba2 a2
      obtain ⟨b2, r2⟩ := ba2 r1
      obtain ⟨b3, r3⟩ := ba2 r2
      obtain ⟨b4, b5⟩ := ba2 r3
      clear a2 r1 r2 r3
      obtain ⟨c1, c2, c3, c4, c5, c6, c7, c8, c9, c10, c11⟩ := cd
      have e1 : c3 = .ref C' :: bm := e1
      have b3 : (!c11) = true := b3
      have b4 : c6 = true := b4
      have e3 : sl = #[x0, x1, x2, x3, some (.builtin n), x5] := by rw [← Array.toArray_toList (xs := sl), e2]
      cases of_decide_eq_true a1
      cases of_decide_eq_true b1
      cases of_decide_eq_true b2
      subst e1 b4 e3
      have e4 : c11 = false := by simpa using b3
      subst e4
      exact ⟨_, _, _, _, _, _, _, _, _, _, _, _, _, _, _, hk, b5⟩
    · cases a2
  · cases h0
/-- the parts of a def's scope that IniS wants -/
def iniSB (sc : Scope) (x0 x1 : Str) : Bool := decide (sc.kind = .function) && (!sc.isCoroutine && (!sc.isGenerator && (decide (sc.names.lookup x0 = some .local) && (decide (sc.names.lookup x1 = some .local) && (!decide (x0 = x1) &&
  ((sc.names.all fun y => !decide (y.2 = .cell)) && ((sc.names.all fun y => !decide (y.2 = .free) || decide (y.1 = "__class__")) && (decide (sc.names.lookup ("__class__" : Str) = some .free) && decide (sc.names.lookup ("super" : Str) = some .globalImplicit)))))))))
theorem iniSB_ok {sc : Scope} {x0 x1 : Str} (h : iniSB sc x0 x1 = true) : IniS sc x0 x1 := by
  obtain ⟨h1, h⟩ := ba2 h
  obtain ⟨h2, h⟩ := ba2 h
  obtain ⟨h3, h⟩ := ba2 h
  obtain ⟨h4, h⟩ := ba2 h
  obtain ⟨h5, h⟩ := ba2 h
  obtain ⟨h6, h⟩ := ba2 h
  obtain ⟨h7, h⟩ := ba2 h
  obtain ⟨h8, h⟩ := ba2 h
  obtain ⟨h9, h10⟩ := ba2 h
  refine ⟨of_decide_eq_true h1, by simpa using h2, by simpa using h3, of_decide_eq_true h4, of_decide_eq_true h5, by simpa using h6, fun y hy => ?_, fun y hy e => ?_, of_decide_eq_true h9, of_decide_eq_true h10⟩
  · have z := List.all_eq_true.mp h7 y hy
    simpa using z
  · have z := List.all_eq_true.mp h8 y hy
    rw [e] at z
    simpa using z
/-- the cell of __class__, the class in it -/
def cellD (K : PySem.W.Frag) (cc : Addr) : Option Addr := match K.lookup cc with
  | some ⟨_, _, .cell (some (.ref D)), _⟩ => some D
  | _ => none
theorem cellD_ok {K : PySem.W.Frag} {cc D : Addr} (h : cellD K cc = some D) : ∃ cl cld csl, K.lookup cc = some ⟨cl, cld, .cell (some (.ref D)), csl⟩ := by
  unfold cellD at h
  split at h
  · rename_i a b D' d e
    cases h
    exact ⟨_, _, _, e⟩
  · cases h
def fileB (K : PySem.W.Frag) (cda : Addr) (file : Str) : Bool := match K.lookup cda with
  | some ⟨_, _, .fields vs, _⟩ => (match (vs[2]? : Option Value) with
    | some (.str f _) => file == f
    | _ => false)
  | _ => false
theorem fileB_ok {K : PySem.W.Frag} {cda : Addr} {file : Str} (h : fileB K cda file = true) : ∃ ccl cdd vs ccs f tf, K.lookup cda = some ⟨ccl, cdd, .fields vs, ccs⟩ ∧ vs[2]? = some (.str f tf) ∧ (file == f) = true := by
  unfold fileB at h
  split at h
  · rename_i a b vs d e
    split at h
    · rename_i f tf e2
      exact ⟨_, _, _, _, _, _, e, e2, h⟩
    · cases h
  · cases h
def nameB (x : Str) : Bool := !(x == ("__debug__" : Str)) && !(x == ("__classdict__" : Str))
/-- the def __init__ of a class: super().__init__("..") and one field -/
def iniF (file : Str) (K : PySem.W.Frag) (C : Addr) (fld : Str) (fd : FuncData) : Bool := match fd with
  | ⟨_, qual, ⟨[], [⟨x0, _, _⟩, ⟨x1, _, _⟩], none, [], [], none, []⟩, .stmts [.Expr (.Call (.Attribute (.Call (.Name n1 _) [] [] _) n2 p2) [.Constant (.str _) _ _] [] p4) _, .Assign [.Attribute (.Name y0 _) f' _] (.Name y1 _) _], scope, gl, [(n3, cc)], .none, _, _, _, _, .ref cda, _, bl⟩ =>
    ((decide (n1 = "super") && (decide (n2 = "__init__") && (decide (n3 = "__class__") && (decide (f' = fld) && (decide (y0 = x0) && (decide (y1 = x1) && (decide (gl = mainGlobals) && (decide (bl = builtinsNs) && ((p2.endLine == p4.line) && (decide (x0 = "self") && decide (x1 ∈ errF))))))))))) &&
    (PySem.W.codeIn K (.ref cda) qual && (fileB K cda file && (iniSB scope x0 x1 && (nameB x0 && (nameB x1 && decide (PySem.W.nsIn K cStatics "thirdparty.any" = some none))))))) &&
    (match cellD K cc with
    | some D => (PySem.W.clsIn K D).isSome && (decide (PySem.W.ks_superIn K C D "__init__" = some (some (.builtin "ValueError.__init__"))) && (decide (PySem.W.subIn K (.ref C) (.type "ValueError") = some true) && decide (PySem.W.mroIn K C (.ref D) = some true)))
    | none => false)
  | _ => false
def iniB (file : Str) (K : PySem.W.Frag) (c fld : Str) : Bool := (oexB K (clsOf K c) && (excKB K c && (decide (PySem.W.nsIn K mainGlobals c = some (some (.ref (clsOf K c)))) && decide (PySem.W.findIn K (.ref (clsOf K c)) fld = some none)))) &&
  (match PySem.W.findIn K (.ref (clsOf K c)) "__init__" with
  | some (some (.ref f)) => decide (PySem.W.typeIn K (.ref f) = some (.type "function")) && (match K.lookup f with
    | some ⟨_, _, .func fd, _⟩ => iniF file K (clsOf K c) fld fd
    | _ => false)
  | _ => false)
/-- what a raise of such an error leans on -/
structure IniX (P : Program) (w : World) (K : PySem.W.Frag) (mg : Str → Option Value) (base : Heap) (c fld : Str) : Prop where
  mgc : mg c = some (.ref (clsOf K c))
  exk : ExcK K c
  oex : OexC K (clsOf K c)
  no : PySem.W.findIn K (.ref (clsOf K c)) fld = some none
  ini : ∃ (f D : Addr) (fd : FuncData) (ps : List Str), PySem.W.findIn K (.ref (clsOf K c)) "__init__" = some (some (.ref f)) ∧ PySem.W.typeIn K (.ref f) = some (.type "function") ∧ IniC K (clsOf K c) D ∧ FnOk P w K mg base CX0 1 f fd ps (spIni K D fld) ∧ Binds K fd ps []
theorem boot_super : bootBuiltins "super" = some (.type "super") := by decide +kernel
theorem hev_ok {env : Env} {p0 p1 p2 p3 p4 : Pos} {m : Str} {j : Nat} (h : (p2.endLine == p4.line) = true) :
    eval (.Call (.Attribute (.Call (.Name "super" p0) [] [] p1) "__init__" p2) [.Constant (.str m) j p3] [] p4) env = (do
      let ov ← attributeBase (.Call (.Name "super" p0) [] [] p1) "__init__" env (eval (.Call (.Name "super" p0) [] [] p1) env)
      standAt p2.atName
      let (ff, first) ← holding [ov] (getMethod ov "__init__" (do return (← importBound (.Call (.Name "super" p0) [] [] p1) env).getD true))
      callWith p4 ff first (backTo p4 (starEach [.Constant (.str m) j p3] env)) []) := by
  have e : methodCallPos true (.Call (.Name "super" p0) [] [] p1) env p2 p4 = pure p4 := by
    unfold methodCallPos
    exact if_pos (by rw [h]; rfl)
  have key : ∀ (ov : Value) (x : Sem Pos), x = pure p4 → (do
      let (ff, first) ← holding [ov] (getMethod ov "__init__" (do return (← importBound (.Call (.Name "super" p0) [] [] p1) env).getD true))
      let callPos ← x
      callWith callPos ff first (backTo p4 (starEach [.Constant (.str m) j p3] env)) []) = (do
      let (ff, first) ← holding [ov] (getMethod ov "__init__" (do return (← importBound (.Call (.Name "super" p0) [] [] p1) env).getD true))
      callWith p4 ff first (backTo p4 (starEach [.Constant (.str m) j p3] env)) []) := fun ov x hx => by subst hx; rfl
  have key2 : ∀ ov : Value, methodCall (.Call (.Name "super" p0) [] [] p1) "__init__" p2 p4 env ov 1 (backTo p4 (starEach [.Constant (.str m) j p3] env)) [] = (do
      let (ff, first) ← holding [ov] (getMethod ov "__init__" (do return (← importBound (.Call (.Name "super" p0) [] [] p1) env).getD true))
      callWith p4 ff first (backTo p4 (starEach [.Constant (.str m) j p3] env)) []) := fun ov => key ov _ e
  have key3 : ∀ (F G : Value → Sem Value), (∀ ov, F ov = G ov) → (do
      let ov ← attributeBase (.Call (.Name "super" p0) [] [] p1) "__init__" env (eval (.Call (.Name "super" p0) [] [] p1) env)
      standAt p2.atName
      F ov) = (do
      let ov ← attributeBase (.Call (.Name "super" p0) [] [] p1) "__init__" env (eval (.Call (.Name "super" p0) [] [] p1) env)
      standAt p2.atName
      G ov) := fun F G hFG => by rw [funext hFG]
  exact key3 _ _ key2
theorem bind2 {nm qual x0 x1 : Str} {a0 a1 : Option Expr} {s0 s1 : Pos} {body : List Stmt} {scope : Scope} {kV doc pm ct cd : Value} {an : Option Addr} {cc : Addr} {a b : Value} (h0 : x0 = "self") (h1 : x1 ∈ errF) :
    bindArgs (PySem.W.ksFn nm qual ⟨[], [⟨x0, a0, s0⟩, ⟨x1, a1, s1⟩], none, [], [], none, []⟩ body scope .none kV doc pm an cd ct cc) ⟨[a, b], []⟩ = pure ([x0, x1].zip [a, b]) := by
  subst h0
  simp only [errF, List.mem_cons, List.not_mem_nil, or_false] at h1
  rcases h1 with rfl | rfl | rfl | rfl | rfl | rfl | rfl <;> rfl
theorem iniX {P : Program} {w : World} {K : PySem.W.Frag} {mg : Str → Option Value} {base : Heap} {file : Str} {h : Heap} {c fld : Str} (KX : K.In h) (G : h.Ns mainGlobals mg) (e : iniB file K c fld = true) (hf : (P.main.file : Str) = file)
    (hs : (P.main.scope.names.lookup ("super" : Str)).isSome = false) (hm : mg "super" = none) : IniX P w K mg base c fld := by
  obtain ⟨e0, e⟩ := ba2 e
  obtain ⟨e1, e0⟩ := ba2 e0
  obtain ⟨e2, e0⟩ := ba2 e0
  obtain ⟨e3, e4⟩ := ba2 e0
  have oex := oexB_ok e1
  have no := of_decide_eq_true e4
  refine ⟨PySem.W.mg_of KX G (of_decide_eq_true e3), e2, oex, no, ?_⟩
  split at e
  · rename_i f hi
    obtain ⟨t1, t2⟩ := ba2 e
    split at t2
    · rename_i oc od fd osl hk
      unfold iniF at t2
      split at t2
      · rename_i nm qual x0 an0 ps0 x1 an1 ps1 n1 p0 p1 n2 p2 m j p3 p4 p5 y0 p6 f' p7 y1 p8 p9 scope gl n3 cc kV doc pm an cda ct bl
        obtain ⟨u1, u2⟩ := ba2 t2
        obtain ⟨v1, v2⟩ := ba2 u1
        obtain ⟨q1, v1⟩ := ba2 v1
        obtain ⟨q2, v1⟩ := ba2 v1
        obtain ⟨q3, v1⟩ := ba2 v1
        obtain ⟨q4, v1⟩ := ba2 v1
        obtain ⟨q5, v1⟩ := ba2 v1
        obtain ⟨q6, v1⟩ := ba2 v1
        obtain ⟨q7, v1⟩ := ba2 v1
        obtain ⟨q8, v1⟩ := ba2 v1
        obtain ⟨q9, v1⟩ := ba2 v1
        obtain ⟨q10, q11⟩ := ba2 v1
        obtain ⟨r1, v2⟩ := ba2 v2
        obtain ⟨r2, v2⟩ := ba2 v2
        obtain ⟨r3, v2⟩ := ba2 v2
        obtain ⟨r4, v2⟩ := ba2 v2
        obtain ⟨r5, r6⟩ := ba2 v2
        obtain ⟨d0, d0'⟩ := ba2 r4
        obtain ⟨d1, d1'⟩ := ba2 r5
        cases of_decide_eq_true q1
        cases of_decide_eq_true q2
        cases of_decide_eq_true q3
        cases of_decide_eq_true q4
        cases of_decide_eq_true q5
        cases of_decide_eq_true q6
        cases of_decide_eq_true q7
        cases of_decide_eq_true q8
        cases hD : cellD K cc with
        | none => rw [hD] at u2; cases u2
        | some D =>
          rw [hD] at u2
          obtain ⟨w1, u2⟩ := ba2 u2
          obtain ⟨w2, u2⟩ := ba2 u2
          obtain ⟨w3, w4⟩ := ba2 u2
          obtain ⟨cdD, w1⟩ := Option.isSome_iff_exists.mp w1
          have S := iniSB_ok r3
          have TC : IniC K (clsOf K c) D := ⟨oex, of_decide_eq_true w2, of_decide_eq_true w3, of_decide_eq_true w4⟩
          obtain ⟨z1, z2, z3, z4, z5, z6, z7, z8, z9⟩ := fileB_ok r2
          have TT : IniT P K mg f cda cc D x0 := ⟨⟨_, _, _, _, _, hk, rfl, rfl⟩, ⟨z1, z2, z3, z4, z5, z6, z7, z8, by rw [hf]; exact z9⟩, cellD_ok hD, ⟨cdD, w1⟩, of_decide_eq_true r6, hs, hm, boot_super⟩
          refine ⟨f, D, _, [x0, x1], hi, of_decide_eq_true t1, TC, ini_ok (x0 := x0) (x1 := x1) hk r1 TT S (fun L => ?_) (fun L => rfl) (fun L => hev_ok q9) (fun L => rfl) (fun L => rfl) (fun L => rfl) (by simpa using d0) (by simpa using d0') (by simpa using d1) (by simpa using d1'), Binds.all fun us hl => ?_⟩
          · have k := S.kind
            unfold interactive
            show (scope.kind == .module && _) = false
            rw [k]
            rfl
          · have q10 := of_decide_eq_true q10
            have q11 := of_decide_eq_true q11
            match us, hl with
            | [a, b], _ => exact bind2 q10 q11
      · cases t2
    · cases t2
  · cases e
end G
set_option Elab.async false
set_option linter.all false
set_option maxRecDepth 100000
set_option maxHeartbeats 4000000
/-! JE: raise, isinstance by own classes, fields of exceptions. -/
namespace G
open PySem PySem.Spec PyProof.Rows L2
/-! ### raise -/
def sRaise (c fld : Str) (f : Ev → M D) : Sm := fun ρ => f ρ >>= fun d => raiseM ⟨c, [(fld, d)]⟩
section
variable {X : Cx} {ca : Dr} {E : XK} {e : Expr} {f : Ev → M D} {p p2 pos : Pos} {c fld : Str} {k : Nat}
theorem s_raise (x : IniX X.prog X.w X.K X.mg X.base c fld) (tk : Takes X (fun cls d _ H => E cls d H)) (hc : X.calm = true) (hr : Room k X.A) (he : PE X e (tD X.K ca E f)) (hk : 2 ≤ k := by decide) (hg : Gl X c := by rfl)
    (hdb : (c == ("__debug__" : Str)) = false := by decide) (hs : starEach [e] X.env = (false, eval e X.env) :: starEach [] X.env := by rfl) (hpl : (backTo p2 (starEach [] X.env)).any (·.1) = false := by rfl) :
    PS X (.Raise (some (.Call (.Name c p) [e] [] p2)) none pos) (tS X.K ca E (sRaise c fld f)) := by
  obtain ⟨fI, Dd, fd, ps, i1, i2, TC, F1, hb⟩ := x.ini
  have R := ps_raise (pos := pos) hc tk (pmk_oex (CX := CX0) (p := p) (pos := p2) x.oex i1 i2 F1 (hr.mono hk) hb .nil passA hg x.mgc (da_cons he (da_nil (E := E)) hs) hdb hs hpl)
  refine ⟨fun pins s σ H Dn I h => R.run pins s σ H Dn I ?_⟩
  obtain ⟨Z, Y, ρ, c0, eo, co, h⟩ := h
  refine ⟨Z, Y, ρ, c0, eo, co, At.bind.mpr (At.mono (DoS.expr h) (fun d c1 h1 => ?_) fun _ _ z => z)⟩
  show ∀ vs H1, Ext ca H H1 → RlA X.K ca (U Z Y) H1 vs [d] → ChOk X.K ca H1 c1 → _
  intro vs H1 e1 r1 co1
  match vs, r1 with
  | [v], .cons r1 .nil =>
    refine ⟨(by show 1 ≤ 1000; decide), fun a na => ⟨a, clsOf X.K c, v, rfl, TC, upd_same, x.no, fun dx hdx ne => ⟨rfl, dx, [(fld, v)], upd_same, ?_, ?_, ?_⟩⟩⟩
    · rw [upd_ne ne, upd_same]
    · rw [upd_ne ne] at hdx; exact hdx
    · rw [upd_ne ne] at hdx
      have e3 : upd (del (upd (upd (upd H1 a (exo a (clsOf X.K c) none)) dx (exd dx [(fld, v)])) a (exo a (clsOf X.K c) (some dx))) a) dx (.xd [(fld, v)]) = upd H1 dx (.xd [(fld, v)]) := by
        funext b
        by_cases hb : b = dx
        · rw [hb, upd_same, upd_same]
        · rw [upd_ne hb, upd_ne hb]
          by_cases hb2 : b = a
          · rw [hb2, del_same, na]
          · rw [del_ne hb2, upd_ne hb2, upd_ne hb, upd_ne hb2]
      rw [e3]
      have x2 : Ext ca H1 (upd H1 dx (.xd [(fld, v)])) := ExtP.new hdx
      exact h1 Y _ _ _ (.of (e1.trans x2)) ⟨x.exk, rfl, dx, [(fld, v)], rfl, upd_same, rfl, .cons (r1.ext x2 eo.zc) .nil⟩ (co1.new hdx)
end
/-! ### isinstance by own classes -/
/-- of which of these classes a value is -/
def isXb (ns : List Str) : D → Option Bool
  | .exc c _ _ => some (ns.any (errSub c))
  | d => (tyName d).map fun _ => false
def clsKB (K : PySem.W.Frag) (n : Str) : Bool := decide (n ∈ errN) && (decide (PySem.W.nsIn K mainGlobals n = some (some (.ref (clsOf K n)))) && (tyAs.all fun T => decide (PySem.W.kitOne K (.type T) (.ref (clsOf K n)) = some false)))
theorem ExcK.kit {K : PySem.W.Frag} {c n : Str} (x : ExcK K c) (h : clsKB K n = true) : PySem.W.kitOne K (.ref (clsOf K c)) (.ref (clsOf K n)) = some (errSub c n) ∧ PySem.W.exmOne K (.ref (clsOf K c)) (.ref (clsOf K n)) = some (errSub c n) := by
  obtain ⟨h1, h2⟩ := ba2 h
  obtain ⟨h2, h3⟩ := ba2 h2
  obtain ⟨x1, x2⟩ := ba2 x
  obtain ⟨x2, x3⟩ := ba2 x2
  have z := List.all_eq_true.mp x3 n (of_decide_eq_true h1)
  rw [of_decide_eq_true h2] at z
  obtain ⟨z1, z2⟩ := ba2 z
  exact ⟨of_decide_eq_true z2, of_decide_eq_true z1⟩
theorem InsK.cls {K : PySem.W.Frag} {c : Str} (x : InsK K c) : Cls K (clsOf K c) ∧ PySem.W.findIn K (.ref (clsOf K c)) "__class__" = some (some (.builtin "object.__class__")) ∧ PySem.W.specialIn K (.builtin "object.__class__") "__get__" = some (some (.builtin "getset_descriptor.__get__")) ∧
    PySem.W.takesIn K (.builtin "object.__class__") = some true ∧ PySem.W.mroIn K (clsOf K c) (.type "object") = some true := by
  obtain ⟨x1, _⟩ := ba2 (show insKB K c = true from x)
  obtain ⟨_, x1⟩ := ba2 x1
  obtain ⟨y1, x1⟩ := ba2 x1
  obtain ⟨y2, x1⟩ := ba2 x1
  obtain ⟨y3, x1⟩ := ba2 x1
  obtain ⟨y4, x1⟩ := ba2 x1
  obtain ⟨y5, x1⟩ := ba2 x1
  obtain ⟨y6, x1⟩ := ba2 x1
  obtain ⟨y7, y8⟩ := ba2 x1
  exact ⟨⟨y1, y2, y3, of_decide_eq_true y4⟩, of_decide_eq_true y5, of_decide_eq_true y6, of_decide_eq_true y7, of_decide_eq_true y8⟩
theorem InsK.inN {K : PySem.W.Frag} {c : Str} (x : InsK K c) : c ∈ insN := by
  obtain ⟨x1, _⟩ := ba2 (show insKB K c = true from x)
  exact of_decide_eq_true (ba2 x1).1
theorem InsK.fld {K : PySem.W.Frag} {c f : Str} (x : InsK K c) (h : f ∈ errF ++ insF c) : NoAttr K (clsOf K c) f := by
  obtain ⟨_, x1⟩ := ba2 (show insKB K c = true from x)
  have z := List.all_eq_true.mp (ba2 x1).1 f h
  exact of_decide_eq_true (p := PySem.W.findIn K (.ref (clsOf K c)) f = some none) z
theorem ins_no {c : Str} (h : c ∈ errN) : ¬ c ∈ insN := fun z => absurd (List.all_eq_true.mp (show (errN.all fun c => !decide (c ∈ insN)) = true by decide +kernel) c h) (by rw [decide_eq_true z]; decide)
theorem InsK.err {K : PySem.W.Frag} {c n : Str} (x : InsK K c) (h : clsKB K n = true) : PySem.W.kitOne K (.ref (clsOf K c)) (.ref (clsOf K n)) = some false := by
  obtain ⟨_, x1⟩ := ba2 (show insKB K c = true from x)
  obtain ⟨_, x1⟩ := ba2 x1
  obtain ⟨_, x1⟩ := ba2 x1
  obtain ⟨x1, _⟩ := ba2 x1
  obtain ⟨h1, h2⟩ := ba2 h
  obtain ⟨h2, _⟩ := ba2 h2
  have z := List.all_eq_true.mp x1 n (of_decide_eq_true h1)
  rw [of_decide_eq_true h2] at z
  exact of_decide_eq_true z
theorem InsK.own {K : PySem.W.Frag} {c n : Str} {C : Addr} (x : InsK K c) (h : n ∈ insN) (h2 : PySem.W.nsIn K mainGlobals n = some (some (.ref C))) : PySem.W.kitOne K (.ref (clsOf K c)) (.ref C) = some (decide (c = n)) := by
  obtain ⟨_, x1⟩ := ba2 (show insKB K c = true from x)
  obtain ⟨_, x1⟩ := ba2 x1
  obtain ⟨x1, _⟩ := ba2 x1
  have z := List.all_eq_true.mp x1 n h
  rw [h2] at z
  exact of_decide_eq_true z
theorem clsKB.no {K : PySem.W.Frag} {n : Str} (h : clsKB K n = true) {T : String} (hT : T ∈ tyAs) : PySem.W.kitOne K (.type T) (.ref (clsOf K n)) = some false := by
  obtain ⟨h1, h2⟩ := ba2 h
  obtain ⟨h2, h3⟩ := ba2 h2
  exact of_decide_eq_true (List.all_eq_true.mp h3 T hT)
theorem kitAny_cls {K : PySem.W.Frag} {t : Value} {f : Str → Bool} : ∀ {ns : List Str}, (∀ n ∈ ns, PySem.W.kitOne K t (.ref (clsOf K n)) = some (f n)) → PySem.W.kitAny K t (ns.map fun n => .ref (clsOf K n)) = some (ns.any f)
  | [], _ => kitAny_nil
  | n :: ns, h => by
    rw [List.map_cons, List.any_cons]
    refine kitAny_cons (h n List.mem_cons_self) (fun e => ?_) fun e => by rw [e, Bool.true_or]
    rw [e, Bool.false_or]
    exact kitAny_cls fun m hm => h m (List.mem_cons_of_mem _ hm)
/-- a class, or a tuple of classes -/
def ClsArg (K : PySem.W.Frag) (H : Hp) (ns : List Str) (c : V) : Prop := (∃ n, ns = [n] ∧ c = .ref (clsOf K n)) ∨ ∃ tp o, c = .ref tp ∧ H tp = some (.frz o (.tup (ns.map fun n => V.ref (clsOf K n))))
def rIsX (K : PySem.W.Frag) (ca : Dr) (ns : List Str) : List V → Hp → VK → Prop := fun xs H Q => ∃ v c Z d b, xs = [v, c] ∧ Rl K ca Z H v d ∧ isXb ns d = some b ∧ ClsArg K H ns c ∧ Q (.bl b) H
section
variable {X : Cx} {ca : Dr}
theorem vals_refs {K : PySem.W.Frag} : ∀ {ns : List Str} {us : List Value}, Vals (ns.map fun n => V.ref (clsOf K n)) us → us = ns.map fun n => Value.ref (clsOf K n)
  | [], _, .nil => rfl
  | n :: ns, _, .cons r rs => by
    cases r
    rw [vals_refs rs]
    rfl
theorem call_isX {ns : List Str} (hn : ∀ n ∈ ns, clsKB X.K n = true) : CallR X (.builtin "isinstance") (rIsX X.K ca ns) := by
  intro pins s σ H xs us Q I r h
  obtain ⟨v, c, Z, d, b, rfl, rl, hb, hc, q⟩ := h
  cases r with | cons rv rr =>
  cases rr with | cons rc rr =>
  cases rr
  rename_i u uc
  -- what the value is
  have kit : ∃ (t : Value) (Pp : Heap → Prop) (f : Str → Bool), PySem.W.KitX X.K u t Pp ∧ Pp s.heap ∧ u ≠ .builtin "__main__.__loader__#opaque" ∧ (∀ n ∈ ns, PySem.W.kitOne X.K t (.ref (clsOf X.K n)) = some (f n)) ∧ b = ns.any f := by
    have plain : ∀ {T : String}, tyName d = some T → isXb ns d = (tyName d).map (fun _ => false) → ∃ (t : Value) (Pp : Heap → Prop) (f : Str → Bool), PySem.W.KitX X.K u t Pp ∧ Pp s.heap ∧ u ≠ .builtin "__main__.__loader__#opaque" ∧ (∀ n ∈ ns, PySem.W.kitOne X.K t (.ref (clsOf X.K n)) = some (f n)) ∧ b = ns.any f := fun {T} hT e => by
      obtain ⟨Pp, k1, k2, k3⟩ := kit_of I rv (tyX_of rl hT)
      refine ⟨_, Pp, fun _ => false, k1, k2, k3, fun n h => (hn n h |> fun z => clsKB.no z (ty_mem hT)), ?_⟩
      rw [e, hT] at hb
      cases hb
      clear q hn k1 k2 hc e
      induction ns with
      | nil => rfl
      | cons n ns ih => rw [List.any_cons, ← ih]; rfl
    cases rl with
    | exc x ha hd ra =>
      rename_i a dd cn fs ds
      cases hb
      cases rv
      obtain ⟨⟨oe, vs, ho, hcl, hdi, hda⟩, _, _⟩ := I.hok _ _ ha
      have hx : ObjOk X.prog X.w H s.heap dd (.xd fs) := I.hok dd _ hd
      obtain ⟨mA, hns, _⟩ := hx
      obtain ⟨od, hod, _⟩ := lookIn_ns hns
      obtain ⟨x1, x2⟩ := ba2 (show excKB X.K cn = true from x)
      obtain ⟨x3, x1⟩ := ba2 x1
      obtain ⟨x4, x1⟩ := ba2 x1
      obtain ⟨x5, x1⟩ := ba2 x1
      obtain ⟨x6, x1⟩ := ba2 x1
      obtain ⟨x7, x1⟩ := ba2 x1
      obtain ⟨x8, x9⟩ := ba2 x1
      have T := xfB_ok x5
      refine ⟨.ref (clsOf X.K cn), fun h => PySem.W.InstAt h a oe (clsOf X.K cn) (some od), errSub cn, PySem.W.kitx_exc x4 T.ga T.gg T.exC (of_decide_eq_true x6) (of_decide_eq_true x7) (of_decide_eq_true x8) (of_decide_eq_true x9), ?_, (fun z => nomatch z), fun n h => (x.kit (hn n h)).1, rfl⟩
      exact ⟨ho, hcl, by unfold PySem.W.notCls; rw [hda] <;> rfl, by rw [hdi]; exact hod⟩
    | ins nz x ha ra =>
      rename_i a dx cn fs ds
      cases hb
      cases rv
      obtain ⟨mA, O, _⟩ := ins_get I.hok ha
      obtain ⟨od, J, _⟩ := O.look
      have T := x.cls
      refine ⟨.ref (clsOf X.K cn), _, errSub cn, PySem.W.kitx_own (T.1.get _) T.1.hd T.2.1 T.2.2.1 T.2.2.2.1 T.2.2.2.2, J, (fun z => nomatch z), fun n h => ?_, rfl⟩
      rw [x.err (hn n h)]
      have q : decide (cn ∈ errN) = false := decide_eq_false fun z => ins_no z x.inN
      unfold errSub
      rw [q, Bool.false_and]
    | exc0 x ha =>
      rename_i a cn
      cases hb
      cases rv
      obtain ⟨⟨oe, vs, ho, hcl, hdi, hda⟩, _, _⟩ := I.hok _ _ ha
      obtain ⟨x1, x2⟩ := ba2 (show excKB X.K cn = true from x)
      obtain ⟨x3, x1⟩ := ba2 x1
      obtain ⟨x4, x1⟩ := ba2 x1
      obtain ⟨x5, x1⟩ := ba2 x1
      obtain ⟨x6, x1⟩ := ba2 x1
      obtain ⟨x7, x1⟩ := ba2 x1
      obtain ⟨x8, x9⟩ := ba2 x1
      have T := xfB_ok x5
      refine ⟨.ref (clsOf X.K cn), fun h => PySem.W.InstAt h a oe (clsOf X.K cn) none, errSub cn, PySem.W.kitx_exc x4 T.ga T.gg T.exC (of_decide_eq_true x6) (of_decide_eq_true x7) (of_decide_eq_true x8) (of_decide_eq_true x9), ?_, (fun z => nomatch z), fun n h => (x.kit (hn n h)).1, rfl⟩
      exact ⟨ho, hcl, by unfold PySem.W.notCls; rw [hda] <;> rfl, by rw [hdi]; exact True.intro⟩
    | non => exact plain rfl rfl
    | bl b => exact plain rfl rfl
    | int b => exact plain rfl rfl
    | str b => exact plain rfl rfl
    | ty n => cases hb
    | obj a => cases hb
    | chn => cases hb
    | scr _ => cases hb
    | lst n hH ra => exact plain rfl rfl
    | tup hH ra => exact plain rfl rfl
    | dic n hH ra => exact plain rfl rfl
  obtain ⟨t, Pp, f, k1, k2, k3, k4, rfl⟩ := kit
  rcases hc with ⟨n, rfl, rfl⟩ | ⟨tp, o, rfl, ht⟩
  · cases rc
    have e : PySem.W.kitOne X.K t (.ref (clsOf X.K n)) = some ([n].any f) := by
      rw [List.any_cons, List.any_nil, Bool.or_false]
      exact k4 n List.mem_cons_self
    exact PySem.W.kia_one k1 I.kIn k2 e k3 fun tk => ⟨.bl _, H, I.kept (t' := tk) fun _ _ z => z, rfl, q⟩
  · cases rc
    obtain ⟨ho, hz, us, rv', o', ho', hc', n, hd'⟩ := I.hok tp _ ht
    have eu := vals_refs rv'
    subst eu
    obtain ⟨oc, od, dt, sl⟩ := o'
    dsimp only at hc' hd'
    subst hc' hd'
    exact PySem.W.kia_tup k1 I.kIn k2 ho' (kitAny_cls k4) k3 fun tk => ⟨.bl _, H, I.kept (t' := tk) fun _ _ z => z, rfl, q⟩
end
end G
set_option Elab.async false
set_option linter.all false
set_option maxRecDepth 100000
set_option maxHeartbeats 4000000
/-! KL: own errors made as values, with keywords too. -/
namespace PySem.HandSPX
open PySem
section
variable {M : Model} {A : Around} {E : Value → Shared → Prop} {h : Heap} {g : Array GenState} {d : Drawn} {t : Nat} {os : OsState}
variable {nm q : Str} {C N : Addr} {bs bm bmB : List Value} {hdct : Bool} {sn : List Str} {sub : List Value} {ab : Bool} {col : Option Bool} {dd : Option Addr} {k0 k1 k2 k3 k5 : Option Value} {B newId initId : String}
theorem check_new_ownK (F : ExcBaseFacts B newId initId bmB) (hT : ∀ X : String, bm.contains (.type X) = bmB.contains (.type X)) {rest : List Value} {kws : List (Str × Value)} {Q : Unit → Shared → Prop}
    (hC : h.get? C = some (excClassObj nm q C N bs bm hdct sn sub ab col dd k0 k1 k2 k3 k5 newId)) (hq : Q () ⟨h, g, d, t, os⟩) : wpAny M A (checkBuiltinCall newId ⟨.ref C :: rest, kws⟩) Q E ⟨h, g, d, t, os⟩ := by
  have hcont : (Value.ref C :: bm).contains (.type B) = true := by rw [List.contains_cons, hT, F.hasB, Bool.or_true]
  have hstar := F.noStar
  simp only [checkBuiltinCall, F.newKind, F.newSplit, F.newRow]
  repeat (first | refine wpAny_loadPart_at hC ?_ | (refine wpAny_isSubtype_exc hC ?_; rw [hcont]) | refine wpAny_staticBase_exc hC ?_ | refine wpAny_madeBy_exc hC ?_ | simp only [bne_self_eq_false, Bool.false_eq_true, if_false] | wp_step)
  exact hq
end
section
variable {prog : Program} {w : World} {A : Around} {E : Value → Shared → Prop} {R : Result → Shared → Prop} {h : Heap} {g : Array GenState} {d : Drawn} {t : Nat} {os : OsState}
variable {nm q : Str} {C N : Addr} {bs bm bmB : List Value} {hdct : Bool} {sn : List Str} {sub : List Value} {ab : Bool} {col : Option Bool} {dd : Option Addr} {k0 k1 k2 k3 k5 : Option Value} {B newId initId : String}
theorem new_ownK (F : ExcBaseFacts B newId initId bmB) (hT : ∀ X : String, bm.contains (.type X) = bmB.contains (.type X)) {rest : List Value} {kws : List (Str × Value)}
    (hC : h.get? C = some (excClassObj nm q C N bs bm hdct sn sub ab col dd k0 k1 k2 k3 k5 newId))
    (hq : R (.ok (.ret (.ref (h.objs.size + 1)))) ⟨(h.push { cls := .type "tuple", data := .seq rest.toArray }).push
      { cls := .ref C, data := .fields #[.ref h.objs.size, .none, .none, .none, .bool false, .none] }, g, d, t, os⟩) (hrest : rest.length ≤ sizeLine) :
    codeAny (model prog w) A (.builtin newId ⟨.ref C :: rest, kws⟩) R ⟨h, g, d, t, os⟩ := by
  have hends := F.ends
  have hcB : (Value.ref C :: bm).contains (.type B) = true := by rw [List.contains_cons, hT, F.hasB, Bool.or_true]
  have hcA : (Value.ref C :: bm).contains (.type "AttributeError") = false := by rw [List.contains_cons, hT, F.noAttr]; rfl
  have hcN : (Value.ref C :: bm).contains (.type "NameError") = false := by rw [List.contains_cons, hT, F.noName]; rfl
  refine codeAny_builtinAt F.entry ?_
  unfold Builtin.«BaseException.__new__»
  refine wpAt_bind ?_
  show wpAt _ _ _ (stack >>= _) _ _ _
  refine wpAt_bind (wpAt_stack fun p below => wpAt_of_wpAny ?_)
  wp_walk
  refine wpAt_of_wpAny ?_
  rw [F.owner]
  repeat (first | with_reducible refine wpAny_madeHere_exc F.canon hC ?_ | with_reducible refine wpAny_loadPart_at hC ?_ | (with_reducible refine wpAny_isSubtype_exc hC ?_; first | rw [hcB] | rw [hcA] | rw [hcN]) | wp_step)
  show R _ _
  rw [Heap.size_push]
  exact hq
theorem type_call_ownK (F : ExcBaseFacts B newId initId bmB) (hT : ∀ X : String, bm.contains (.type X) = bmB.contains (.type X)) {rest : List Value} {kws : List (Str × Value)} {fI : Addr} {Q : Fin → Shared → Prop}
    (hC : h.get? C = some (excClassObj nm q C N bs bm hdct sn sub ab col dd k0 k1 k2 k3 k5 newId))
    (hi : W.Looks (model prog w) h (typeLookup (.ref C) "__init__") (some (.ref fI))) (hb : ∀ self, W.Looks (model prog w) h (bindSpecial (.ref fI) self) (.ref fI, [self])) (hrest : rest.length ≤ sizeLine)
    (hq : codeAny (model prog w) A (.call (.ref fI) ⟨.ref (h.objs.size + 1) :: rest, kws⟩)
      (fun r s' => match r with | .ok (.ret v) => v = .none ∧ Q (.done (.ret (.ref (h.objs.size + 1)))) s' | .ok _ => False | .error e => E e s')
      ⟨(h.push (W.kdv_tup rest)).push (excO C h.objs.size), g, d, t, os⟩) :
    wpAny (model prog w) A (Builtin.«type.__call__» ⟨.ref C :: rest, kws⟩) Q E ⟨h, g, d, t, os⟩ := by
  repeat (first | with_reducible refine wpAny_loadPart_at hC ?_ | with_reducible refine wpAny_madeBy_exc hC ?_ | wp_step)
  refine codeAny_call_builtin_code (Code.quiet_builtin _ F.quiet) (check_new_ownK F hT hC ?_)
  refine new_ownK F hT hC ?_ hrest
  show wpAny _ _ _ _ _ _
  have k : ∀ b o, h.get? b = some o → ((h.push (W.kdv_tup rest)).push (excO C h.objs.size)).get? b = some o := fun b o e => Heap.get?_push_of_some _ (Heap.get?_push_of_some _ e)
  have hC₁ := k _ _ hC
  have hget : ((h.push (W.kdv_tup rest)).push (excO C h.objs.size)).get? (h.objs.size + 1) = some (excO C h.objs.size) := by heap_get
  have hcC : (Value.ref C :: bm).contains (.ref C) = true := by simp
  have i1 := hi.keeps k
  have b1 := (hb (.ref (h.objs.size + 1))).keeps k
  unfold isInstance
  repeat (first | with_reducible refine wpAny_loadPart_at hget ?_ | (with_reducible refine wpAny_isSubtype_exc hC₁ ?_; rw [hcC]) | wp_step)
  show wpAny _ _ (typeLookup (.ref C) _) _ _ _
  refine i1.at ?_
  refine wpAny_holding (wpAny_bind (b1.at ?_))
  refine wpAny_bind (wpAny_call (codeAny_mono hq fun r s' z => ?_))
  rcases r with e | (v | _ | _ | _) <;> first | exact z | exact z.elim | skip
  obtain ⟨rfl, z⟩ := z
  first
    | exact wpAny_pure (wpAny_pure z)
    | (wp_walk; exact z)
theorem call_ownK (F : ExcBaseFacts B newId initId bmB) (hT : ∀ X : String, bm.contains (.type X) = bmB.contains (.type X)) {rest : List Value} {kws : List (Str × Value)} {fI : Addr}
    (hC : h.get? C = some (excClassObj nm q C N bs bm hdct sn sub ab col dd k0 k1 k2 k3 k5 newId))
    (hi : W.Looks (model prog w) h (typeLookup (.ref C) "__init__") (some (.ref fI))) (hb : ∀ self, W.Looks (model prog w) h (bindSpecial (.ref fI) self) (.ref fI, [self])) (hrest : rest.length ≤ sizeLine)
    (hq : codeAny (model prog w) (A.under (.builtin "type.__call__" ⟨.ref C :: rest, kws⟩)) (.call (.ref fI) ⟨.ref (h.objs.size + 1) :: rest, kws⟩) (W.InitBack (h.objs.size + 1) R)
      ⟨(h.push (W.kdv_tup rest)).push (excO C h.objs.size), g, d, t, os⟩) :
    codeAny (model prog w) A (.call (.ref C) ⟨rest, kws⟩) R ⟨h, g, d, t, os⟩ := by
  have f1 := tc_lookup
  have f2 := tc_bind (.ref C)
  have hTy : (⟨h, g, d, t, os⟩ : Shared).TypeIs (.ref C) "type" := ⟨_, hC, rfl⟩
  refine codeAny_of_tree ?_
  show wpAny _ _ (callAny (.ref C) _) _ _ _
  repeat (any_goals (first | assumption | with_reducible refine wpAny_loadPart_at hC ?_ | wp_step))
  refine ⟨rfl, ?_⟩
  refine codeAny_call_builtin_at (Code.quiet_builtin _ (by decide +kernel)) entry_typeCall (wpAny_check_type_call_sub hC (type_call_ownK F hT hC hi hb hrest ?_))
  refine codeAny_mono hq fun r s' z => ?_
  rcases r with e | (v | _ | _ | _) <;> exact z
end
end PySem.HandSPX
set_option Elab.async false
set_option linter.all false
set_option maxRecDepth 100000
set_option maxHeartbeats 4000000
/-! KM: an own error's __init__ with any number of fields. -/
namespace G
open PySem PySem.Spec PyProof.Rows L2
/-- the names of such an __init__ -/
structure IniN (sc : Scope) (N : List Str) : Prop where
  kind : sc.kind = .function
  co : sc.isCoroutine = false
  gen : sc.isGenerator = false
  loc : ∀ x ∈ N, sc.names.lookup x = some .local
  nd : N.Nodup
  nocell : ∀ y ∈ sc.names, y.2 ≠ .cell
  fr : ∀ y ∈ sc.names, y.2 = .free → y.1 = "__class__"
  cls : sc.names.lookup ("__class__" : Str) = some .free
  sup : sc.names.lookup ("super" : Str) = some .globalImplicit
section
variable {CX : CXT} {P : Program} {w : World} {K : PySem.W.Frag} {mg : Str → Option Value} {base : Heap} {N : List Str} {qual : Str} {scope : Scope} {f cc D : Addr} {cd : Value} {A : Around} {outer : List Env} {s : Shared} {H : Hp} {E : XK}
theorem ini_startN {h₁ : Heap} {tk : Nat} {us : List Value} {vs : List V} {cl : Value} {cld : Option Addr} {csl : Array (Option Value)} (S : IniN scope N) (hd : A.handled = none) (e0 : Env0 P w K mg base A outer s H)
    (hcell : K.lookup cc = some ⟨cl, cld, .cell (some (.ref D)), csl⟩) (r : Vals vs us) (hl : vs.length = N.length) (hns : h₁.Ns s.heap.objs.size fun y => (N.zip us).reverse.lookup y) (kp : ∀ b o, s.heap.get? b = some o → h₁.get? b = some o) :
    Inv (iniCx CX P w K mg base N qual scope f cd cc A outer s H E) [] (vs.map some) H { s with heap := h₁, toks := tk } := by
  have noA : ∀ b : Addr, b ∉ (iniCx CX P w K mg base N qual scope f cd cc A outer s H E).ex := fun b z => absurd (show b ∈ ([] : List Addr) from z) (by simp)
  have kc := e0.mod.kin _ _ hcell
  obtain ⟨kc2, hcN⟩ := e0.bs _ _ kc
  refine ⟨⟨e0.mod, S.kind, rfl, rfl, Nat.le_refl _, fun y z c h1 h2 => ((cls_cell h1).1).trans (cls_cell h2).1.symm, fun y hy => ?_, fun y c z _ => ?_, fun _ => hd, Around.frames_deeper e0.frames, .inr ⟨rfl, rfl⟩, fun b z => absurd z (noA b), e0.bs, e0.bsz, fun b _ _ => noA b, fun b z => absurd z (noA b), e0.funs, e0.frf⟩,
    rfl, e0.bare, Un.kept kp, ⟨_, hns, fun i y v h1 h2 h3 => ?_⟩, fun y c h => ⟨some (.ref D), ?_⟩, e0.hok.fresh (Nat.le_refl _), fun y c h => ?_, fun p hp => absurd (show p ∈ ([] : List (Addr × Obj)) from hp) (by simp), e0.hok.kept kp, by rw [List.length_map]; exact hl⟩
  · have hy : scope.names.lookup y = some .cell ∨ scope.names.lookup y = some .free := hy
    rcases hy with hy | hy
    · exact absurd rfl (S.nocell _ (PySem.mem_of_lookup hy))
    · obtain rfl := S.fr _ (PySem.mem_of_lookup hy) rfl
      exact ⟨cc, rfl⟩
  · have z : false = true := z
    cases z
  · have h1 : N[i]? = some y := h1
    rw [List.getElem?_map] at h2
    cases hv : vs[i]? with
    | none => rw [hv] at h2; cases h2
    | some v' =>
      rw [hv] at h2
      cases h2
      obtain ⟨u, hu, ru⟩ := r.get hv
      exact ⟨u, ru, .inl ⟨S.loc y (List.mem_of_getElem? h1), NdefX.zip_look S.nd h1 hu⟩⟩
  · obtain ⟨_, rfl⟩ := cls_cell h
    exact ⟨_, kp _ _ kc2, rfl⟩
  · obtain ⟨_, rfl⟩ := cls_cell h
    exact hcN
end
section
variable {X : Cx} {pins : List (Addr × Obj)} {σ : L2.St} {H : Hp} {s : Shared} {a C D f cda cc : Addr} {x0 q m : Str} {scope : Scope} {body : List Stmt} {p0 p1 p2 p3 p4 p5 : Pos} {j : Nat} {E : Value → Shared → Prop} {Q : Flow → Shared → Prop}
theorem super_runN {pl : Sem Bool} (TT : IniT X.prog X.K X.mg f cda cc D x0) (S : IniN scope X.N) (hx0 : x0 ∈ X.N) (TC : IniC X.K C D) (henv : X.env = PySem.W.ksEnv q scope X.env.locals f (.ref cda) cc) (hN : X.N[0]? = some x0)
    (hi : interactive X.env = false) (hsw : swapsWith (.Call (.Attribute (.Call (.Name "super" p0) [] [] p1) "__init__" p2) [.Constant (.str m) j p3] [] p4) none p5.line X.env = pure false)
    (hev : eval (.Call (.Attribute (.Call (.Name "super" p0) [] [] p1) "__init__" p2) [.Constant (.str m) j p3] [] p4) X.env = (do
      let ov ← attributeBase (.Call (.Name "super" p0) [] [] p1) "__init__" X.env (eval (.Call (.Name "super" p0) [] [] p1) X.env)
      standAt p2.atName
      let (f, first) ← holding [ov] (getMethod ov "__init__" pl)
      callWith p4 f first (backTo p4 (starEach [.Constant (.str m) j p3] X.env)) []))
    (hst : starEach [.Constant (.str m) j p3] X.env = (false, eval (.Constant (.str m) j p3) X.env) :: starEach [] X.env) (hpl : (backTo p4 (starEach [] X.env)).any (·.1) = false)
    (I : L2.Inv X pins σ H s) (h0 : σ[0]? = some (some (.ref a))) (e : H a = some (exo a C none)) (h : ∀ s', L2.Inv X pins σ H s' → Q .next s') :
    PySem.wpAt (model X.prog X.w) X.A (.func body X.env) (exec (.Expr (.Call (.Attribute (.Call (.Name "super" p0) [] [] p1) "__init__" p2) [.Constant (.str m) j p3] [] p4) p5) X.env) Q X.xe s := by
  obtain ⟨oc, od, fd, osl, ar, hf, hp, har⟩ := TT.fn
  obtain ⟨ccl, cdd, vs, ccs, file, tf, hcode, hvs, hfile⟩ := TT.code
  obtain ⟨cl, cld, csl, hcell⟩ := TT.cell
  obtain ⟨cdD, hD⟩ := TT.cls
  obtain ⟨nm, qn, N, bs, bm, sn, sub1, ab, col, dd, k0, k1, k2, k3, k5, hC, hbm⟩ := TC.T.cls
  have KX : X.K.In s.heap := I.kIn
  obtain ⟨t1, he⟩ := exo_at I.hok e
  obtain ⟨m0, hns, hl⟩ := I.loc
  obtain ⟨u, ru, lk⟩ := hl 0 x0 (.ref a) hN h0 (.inl (by rw [henv]; exact (S.loc x0 hx0)))
  obtain rfl : u = Value.ref a := ru
  have hm0 : m0 x0 = some (.ref a) := by
    rcases lk with ⟨_, z⟩ | ⟨z, _⟩
    · exact z
    · rw [henv] at z
      have z : scope.names.lookup x0 = some .cell ∨ scope.names.lookup x0 = some .free := z
      rw [(S.loc x0 hx0)] at z
      rcases z with z | z <;> cases z
  obtain ⟨oD, hD1, hD2⟩ : ∃ oD, s.heap.get? D = some oD ∧ oD.data = .cls cdD := by
    unfold PySem.W.clsIn at hD
    split at hD
    · rename_i c d cd' sl ho
      cases hD
      exact ⟨_, KX _ _ ho, rfl⟩
    · cases hD
  obtain ⟨mb, b1, b2⟩ := I.mod.blt
  have bg := I.ok.glob
  have bb := I.ok.blt
  have kS : X.env.scope.kind = .function := by rw [henv]; exact S.kind
  have k0' : X.env.kindOf x0 = some .local := by rw [henv]; exact (S.loc x0 hx0)
  have kC : X.env.kindOf "__class__" = some .free := by rw [henv]; exact S.cls
  have kU : X.env.kindOf "super" = some .globalImplicit := by rw [henv]; exact S.sup
  have eF : X.env.func = some f := by rw [henv]
  have eK : X.env.code = .ref cda := by rw [henv]
  have eC : X.env.cells.lookup ("__class__" : Str) = some cc := by rw [henv]; rfl
  refine PySem.ks_wpAt_Expr_any (PySem.ks_wpAt_MethodCall (pl := pl) ?_ hev) hi hsw
  refine PySem.ks_wpAt_super_base (env := X.env) kU kC (by decide) eF (KX _ _ hf) rfl hp eK (KX _ _ hcode) rfl hvs hfile TT.top ?_
  refine PySem.W.ks_loadName_global kS kU (Calls.loadGlobal_builtin (env := X.env) (by rw [bg]; exact I.mod.glob.keeps I.bk) TT.mgs (by rw [bb]; exact b1.keeps I.bk) ((b2 _ (by decide)).trans TT.boot) ⟨rfl, ?_⟩)
  refine wpAny_loadName_free kS kC eC ⟨_, KX _ _ hcell, rfl⟩ ?_
  rw [har]
  refine wpAny_loadName_local kS k0' hns hm0 ?_
  obtain ⟨hh, g, d, tk, os⟩ := s
  refine PySem.ks_wpAny_isType_cls hD1 hD2 ⟨rfl, ?_⟩
  refine PySem.ks_wpAny_call_super hD1 hD2 he rfl (fun c z => by cases z) (PySem.W.looks_mroIn KX TC.mro) (fun h' e1 k1 => ?_)
  have I1 : L2.Inv X pins σ H ⟨h', g, d, tk, os⟩ := I.kept k1
  have KX1 := I1.kIn
  have he1 : h'.get? a = some ({ cls := .ref C, dict := none, data := .fields #[.ref t1, .none, .none, .none, .bool false, .none] } : Obj) := k1 _ _ he
  have hcl : PySem.W.clsIn X.K C = some { name := nm, bases := bs, mro := .ref C :: bm, ns := N, qualname := qn, hasDict := true, slotNames := sn, subclasses := sub1, abstract := ab, collection := col, hasDel := false } := by unfold PySem.W.clsIn; rw [hC] <;> rfl
  have IA : PySem.W.InstAt h' a { cls := .ref C, dict := none, data := .fields #[.ref t1, .none, .none, .none, .bool false, .none] } C none := ⟨he1, rfl, rfl, trivial⟩
  have hal := TC.sup
  unfold PySem.W.ks_superIn at hal
  rw [hcl] at hal
  refine PySem.W.kxs_getMethod PySem.W.kxs_ValueError e1 (PySem.W.looks_opaque KX1 TT.third) (l₀ := .ref C :: bm) (fun A Q E s k q => wpAny_bind ((PySem.W.looks_clsIn KX1 hcl) A _ E s k (wpAny_pure q))) rfl KX1 hal (IA.type.andThen (PySem.W.looks_subIn KX1 TC.sub)) (PySem.W.ks_ne KX1 IA hcl) (by decide) ?_
  have k2 : ∀ b o, h'.get? b = some o → (h'.push (PySem.W.kxs_mw "ValueError.__init__" a)).get? b = some o := fun b o z => Heap.get?_push_of_some _ z
  have I2 : L2.Inv X pins σ H ⟨h'.push (PySem.W.kxs_mw "ValueError.__init__" a), g, d, tk + 1, os⟩ := I1.kept k2
  have hu : (h'.push (PySem.W.kxs_mw "ValueError.__init__" a)).get? h'.objs.size = some (PySem.W.kxs_mw "ValueError.__init__" a) := Heap.get?_push_at rfl rfl
  rw [hst]
  refine PySem.W.kxs_callWith (i := "ValueError.__init__") (x := a) (by show (false || (backTo p4 (starEach [] X.env)).any (·.1)) = false; rw [hpl]; rfl) ?_
  rw [← hst]
  rw [hst]
  refine PySem.Calls.evalArgs_plain ?_
  show wpAny _ _ (spliced ((false, eval (.Constant (.str m) j p3) X.env) :: backTo p4 (starEach [] X.env))) _ _ _
  refine Calls.spliced_cons (Calls.Constant_str ?_)
  refine Calls.spliced_nil ⟨hu, ?_⟩
  exact call_mw TC.T (I2.tok _) hu e (by show 1 ≤ sizeLine; decide) h
end
/-- the heap in which the fields are kept -/
def keptH (H : Hp) (a C : Addr) : List (Str × V) → Hp → Prop
  | [], H' => H' = H
  | [p], H' => ∃ dx, H dx = none ∧ dx ≠ a ∧ H' = upd (upd H dx (exd dx [p])) a (exo a C (some dx))
  | [p, q], H' => ∃ dx, H dx = none ∧ dx ≠ a ∧ H' = upd (upd (upd H dx (exd dx [p])) a (exo a C (some dx))) dx (exd dx [q, p])
  | _, _ => False
/-- made: the fields are kept -/
def spIniN (K : PySem.W.Frag) (D : Addr) (flds : List Str) : Sp := fun vs H Q _ => ∃ (a C : Addr) (ys : List V), vs = .ref a :: ys ∧ ys.length = flds.length ∧ IniC K C D ∧ H a = some (exo a C none) ∧ (∀ f ∈ flds, PySem.W.findIn K (.ref C) f = some none) ∧
  ∀ H', keptH H a C (flds.zip ys) H' → Q .non H'
abbrev stSup (m : Str) (p0 p1 p2 p3 p4 p5 : Pos) (j : Nat) : Stmt := .Expr (.Call (.Attribute (.Call (.Name "super" p0) [] [] p1) "__init__" p2) [.Constant (.str m) j p3] [] p4) p5
abbrev stFld (x0 fld x1 : Str) (p6 p7 p8 p9 : Pos) : Stmt := .Assign [.Attribute (.Name x0 p6) fld p7] (.Name x1 p8) p9
theorem ini_okN {CX : CXT} {P : Program} {w : World} {K : PySem.W.Frag} {mg : Str → Option Value} {base : Heap} {k : Nat} {f cc cda D : Addr} {x0 : Str} {N flds : List Str} {name qual m : Str} {params : Arguments} {scope : Scope} {dV kV doc pm ct oc : Value} {an od : Option Addr} {osl : Array (Option Value)}
    {p0 p1 p2 p3 p4 p5 : Pos} {j : Nat} {pl : Addr → Sem Bool} {rest : List Stmt}
    (lk : K.lookup f = some ⟨oc, od, .func (PySem.W.ksFn name qual params (stSup m p0 p1 p2 p3 p4 p5 j :: rest) scope dV kV doc pm an (.ref cda) ct cc), osl⟩)
    (hcd : PySem.W.codeIn K (.ref cda) qual = true) (TT : IniT P K mg f cda cc D x0) (S : IniN scope (x0 :: N))
    (hi : ∀ L : Addr, interactive (PySem.W.ksEnv qual scope L f (.ref cda) cc) = false)
    (hsw : ∀ L : Addr, swapsWith (.Call (.Attribute (.Call (.Name "super" p0) [] [] p1) "__init__" p2) [.Constant (.str m) j p3] [] p4) none p5.line (PySem.W.ksEnv qual scope L f (.ref cda) cc) = pure false)
    (hev : ∀ L : Addr, eval (.Call (.Attribute (.Call (.Name "super" p0) [] [] p1) "__init__" p2) [.Constant (.str m) j p3] [] p4) (PySem.W.ksEnv qual scope L f (.ref cda) cc) = (do
      let ov ← attributeBase (.Call (.Name "super" p0) [] [] p1) "__init__" (PySem.W.ksEnv qual scope L f (.ref cda) cc) (eval (.Call (.Name "super" p0) [] [] p1) (PySem.W.ksEnv qual scope L f (.ref cda) cc))
      standAt p2.atName
      let (ff, first) ← holding [ov] (getMethod ov "__init__" (pl L))
      callWith p4 ff first (backTo p4 (starEach [.Constant (.str m) j p3] (PySem.W.ksEnv qual scope L f (.ref cda) cc))) []))
    (hst : ∀ L : Addr, starEach [.Constant (.str m) j p3] (PySem.W.ksEnv qual scope L f (.ref cda) cc) = (false, eval (.Constant (.str m) j p3) (PySem.W.ksEnv qual scope L f (.ref cda) cc)) :: starEach [] (PySem.W.ksEnv qual scope L f (.ref cda) cc))
    (hpl : ∀ L : Addr, (backTo p4 (starEach [] (PySem.W.ksEnv qual scope L f (.ref cda) cc))).any (·.1) = false)
    (hln : flds.length = N.length)
    (hrest : ∀ (A : Around) (outer : List Env) (s : Shared) (H : Hp) (E : XK) (Q : VK) (a C : Addr) (ys : List V), ys.length = flds.length → OexC K C → H a = some (exo a C none) → (∀ g ∈ flds, PySem.W.findIn K (.ref C) g = some none) → (∀ H', keptH H a C (flds.zip ys) H' → Q .non H') →
      ∃ t, PSs (iniCx CX P w K mg base (x0 :: N) qual scope f (.ref cda) cc A outer s H E) rest t ∧ t { nx := fun _ H' => Q .non H', rt := Q } (some (.ref a) :: ys.map some) H) :
    FnOk P w K mg base CX (k + 1) f (PySem.W.ksFn name qual params (stSup m p0 p1 p2 p3 p4 p5 j :: rest) scope dV kV doc pm an (.ref cda) ct cc) (x0 :: N) (spIniN K D flds) := by
  refine ⟨fun vs H Q E h => ?_, fun A outer s H args us vs Q E hr e0 hb r hsp => ?_⟩
  · obtain ⟨a, C, ys, rfl, hy, _⟩ := h
    rw [List.length_cons, List.length_cons, hy, hln]
  obtain ⟨a, C, ys, rfl, hy, TC, ea, hno, q⟩ := hsp
  have KX : K.In s.heap := e0.mod.kin.keeps fun b o e => (e0.bs b o e).1
  have lim : s.heap.NoLimit := e0.mod.nolimit.keeps fun b o e => (e0.bs b o e).1
  obtain ⟨cl, cld, csl, hcell⟩ := TT.cell
  refine PySem.ks_codeAny_call_defAt (binds := (x0 :: N).zip us) hr.depth (KX _ _ lk) rfl lim (PySem.W.codeRec_of KX hcd) rfl hb S.nocell (fun z hz => S.loc _ (List.of_mem_zip (show (z.1, z.2) ∈ _ from hz)).1) (fun h₁ hns hk₁ => ?_) S.co S.gen S.kind
  have I : L2.Inv (iniCx CX P w K mg base (x0 :: N) qual scope f (.ref cda) cc A outer s H E) [] ((V.ref a :: ys).map some) H { s with heap := h₁, toks := s.toks + ((x0 :: N).zip us).length } := ini_startN S hr.hd e0 hcell r (by rw [List.length_cons, List.length_cons, hy, hln]) hns hk₁
  refine PySem.ks_wpAt_execs_cons ?_
  refine super_runN (X := iniCx CX P w K mg base (x0 :: N) qual scope f (.ref cda) cc A outer s H E) (σ := (V.ref a :: ys).map some) (q := qual) (scope := scope) TT S List.mem_cons_self TC rfl rfl (hi _) (hsw _) (hev _) (hst _) (hpl _) I rfl ea fun s2 I2 => ?_
  refine PySem.wpAt_of_wpAny ?_
  obtain ⟨t, R, ht⟩ := hrest A outer s H E Q a C ys hy TC.T ea hno q
  refine wpAny_mono (R.run [] s2 (some (.ref a) :: ys.map some) H { nx := fun _ H' => Q .non H', rt := Q } I2 ht) (fun fl s' hs => ?_) fun e s' hs => hs
  have fin : ∀ {σ' : L2.St} {H' : Hp} {v : V} {u : Value}, L2.Inv (iniCx CX P w K mg base (x0 :: N) qual scope f (.ref cda) cc A outer s H E) [] σ' H' s' → L2.RelV v u → Q v H' → CE outer P w H s Q u s' :=
    fun {σ' H' v u} J rv q => ⟨v, H', J.os, J.bare, J.base, J.hok, rv, q⟩
  cases fl with
  | ret u =>
    obtain ⟨v, σ', H', J, rv, q⟩ := hs
    exact fin J rv q
  | next =>
    obtain ⟨σ', H', J, q⟩ := hs
    exact fin (v := V.non) (u := Value.none) J rfl q
  | brk =>
    obtain ⟨_, _, _, q⟩ := hs
    exact False.elim q
  | cont =>
    obtain ⟨_, _, _, q⟩ := hs
    exact False.elim q
end G
set_option Elab.async false
set_option linter.all false
set_option maxRecDepth 100000
set_option maxHeartbeats 4000000
/-! KN: what the text says of an own error's __init__: any number of fields. -/
namespace G
open PySem PySem.Spec PyProof.Rows L2
def iniNB (sc : Scope) (N : List Str) : Bool := decide (sc.kind = .function) && (!sc.isCoroutine && (!sc.isGenerator && ((N.all fun x => decide (sc.names.lookup x = some .local)) &&
  ((sc.names.all fun y => !decide (y.2 = .cell)) && ((sc.names.all fun y => !decide (y.2 = .free) || decide (y.1 = "__class__")) && (decide (sc.names.lookup ("__class__" : Str) = some .free) && decide (sc.names.lookup ("super" : Str) = some .globalImplicit)))))))
theorem iniNB_ok {sc : Scope} {N : List Str} (nd : N.Nodup) (h : iniNB sc N = true) : IniN sc N := by
  obtain ⟨h1, h⟩ := ba2 h
  obtain ⟨h2, h⟩ := ba2 h
  obtain ⟨h3, h⟩ := ba2 h
  obtain ⟨h4, h⟩ := ba2 h
  obtain ⟨h7, h⟩ := ba2 h
  obtain ⟨h8, h⟩ := ba2 h
  obtain ⟨h9, h10⟩ := ba2 h
  refine ⟨of_decide_eq_true h1, by simpa using h2, by simpa using h3, fun x hx => of_decide_eq_true (List.all_eq_true.mp h4 x hx), nd, fun y hy => ?_, fun y hy e => ?_, of_decide_eq_true h9, of_decide_eq_true h10⟩
  · have z := List.all_eq_true.mp h7 y hy
    simpa using z
  · have z := List.all_eq_true.mp h8 y hy
    rw [e] at z
    simpa using z
/-- the fields that occur -/
def fldL : List (List Str) := [[], ["part"], ["value"], ["what", "most"], ["line", "item"], ["line", "error"]]
def asgB : List Stmt → List Str → Bool
  | [], [] => true
  | .Assign [.Attribute (.Name y0 _) f' _] (.Name y1 _) _ :: r, g :: l => (decide (y0 = "self") && (decide (f' = g) && decide (y1 = g))) && asgB r l
  | _, _ => false
def iniFn (file : Str) (K : PySem.W.Frag) (C : Addr) (flds : List Str) (fd : FuncData) : Bool := match fd with
  | ⟨_, qual, ⟨[], ps, none, [], [], none, []⟩, .stmts (.Expr (.Call (.Attribute (.Call (.Name n1 _) [] [] _) n2 p2) [.Constant (.str _) _ _] [] p4) _ :: rest), scope, gl, [(n3, cc)], .none, _, _, _, _, .ref cda, _, bl⟩ =>
    ((decide (n1 = "super") && (decide (n2 = "__init__") && (decide (n3 = "__class__") && (asgB rest flds && (decide (gl = mainGlobals) && (decide (bl = builtinsNs) && ((p2.endLine == p4.line) && decide (ps.map (fun a => a.arg) = (("self" : Str) :: flds))))))))) &&
    (PySem.W.codeIn K (.ref cda) qual && (fileB K cda file && (iniNB scope (("self" : Str) :: flds) && decide (PySem.W.nsIn K cStatics "thirdparty.any" = some none))))) &&
    (match cellD K cc with
    | some D => (PySem.W.clsIn K D).isSome && (decide (PySem.W.ks_superIn K C D "__init__" = some (some (.builtin "ValueError.__init__"))) && (decide (PySem.W.subIn K (.ref C) (.type "ValueError") = some true) && decide (PySem.W.mroIn K C (.ref D) = some true)))
    | none => false)
  | _ => false
def iniBn (file : Str) (K : PySem.W.Frag) (c : Str) (flds : List Str) : Bool := (oexB K (clsOf K c) && (excKB K c && (decide (PySem.W.nsIn K mainGlobals c = some (some (.ref (clsOf K c)))) && ((flds.all fun f => decide (PySem.W.findIn K (.ref (clsOf K c)) f = some none)) && decide (flds ∈ fldL))))) &&
  (match PySem.W.findIn K (.ref (clsOf K c)) "__init__" with
  | some (some (.ref f)) => decide (PySem.W.typeIn K (.ref f) = some (.type "function")) && (match K.lookup f with
    | some ⟨_, _, .func fd, _⟩ => iniFn file K (clsOf K c) flds fd
    | _ => false)
  | _ => false)
/-- what the making of such an error leans on -/
structure IniXn (P : Program) (w : World) (K : PySem.W.Frag) (mg : Str → Option Value) (base : Heap) (c : Str) (flds : List Str) : Prop where
  mgc : mg c = some (.ref (clsOf K c))
  exk : ExcK K c
  oex : OexC K (clsOf K c)
  no : ∀ f ∈ flds, PySem.W.findIn K (.ref (clsOf K c)) f = some none
  two : flds ∈ fldL
  ini : ∃ (f D : Addr) (fd : FuncData), PySem.W.findIn K (.ref (clsOf K c)) "__init__" = some (some (.ref f)) ∧ PySem.W.typeIn K (.ref f) = some (.type "function") ∧ IniC K (clsOf K c) D ∧ FnOk P w K mg base CX0 1 f fd ("self" :: flds) (spIniN K D flds) ∧
    KBn K fd ("self" :: flds) (flds.length + 1) [] (fun us ws => us ++ ws) (fun vs zs => vs ++ zs) ∧ KBn K fd ("self" :: flds) (0 + 1) flds.reverse (fun us ws => us ++ ws.reverse) (fun vs zs => vs ++ zs.reverse)
theorem Vals.rev {vs : List V} {us : List Value} (h : Vals vs us) : Vals vs.reverse us.reverse := by
  induction h with
  | nil => exact .nil
  | cons r rs ih =>
    rw [List.reverse_cons, List.reverse_cons]
    exact ih.append (.cons r .nil)
theorem asg0 {rest : List Stmt} (h : asgB rest [] = true) : rest = [] := by
  cases rest with
  | nil => rfl
  | cons s r => unfold asgB at h; split at h <;> first | rfl | simp_all
theorem asgS {rest : List Stmt} {g : Str} {l : List Str} (h : asgB rest (g :: l) = true) : ∃ p6 p7 p8 p9 r, rest = stFld "self" g g p6 p7 p8 p9 :: r ∧ asgB r l = true := by
  cases rest with
  | nil => simp [asgB] at h
  | cons s r =>
    unfold asgB at h
    split at h
    · simp_all
    · rename_i y0 p6 f' p7 y1 p8 p9 r' g' l' e1 e2
      injection e1 with e1 e3
      injection e2 with e2 e4
      subst e1 e2 e3 e4
      obtain ⟨h1, h2⟩ := ba2 h
      obtain ⟨h3, h1⟩ := ba2 h1
      obtain ⟨h4, h5⟩ := ba2 h1
      cases of_decide_eq_true h3
      cases of_decide_eq_true h4
      cases of_decide_eq_true h5
      exact ⟨_, _, _, _, _, rfl, h2⟩
    · cases h
end G
set_option Elab.async false
set_option linter.all false
set_option maxRecDepth 100000
set_option maxHeartbeats 8000000
/-! KO: the making of own errors, from the text. -/
namespace G
open PySem PySem.Spec PyProof.Rows L2
section
variable {CX : CXT} {P : Program} {w : World} {K : PySem.W.Frag} {mg : Str → Option Value} {base : Heap} {f cc cda : Addr} {qual : Str} {scope : Scope} {A : Around} {outer : List Env} {s : Shared} {H : Hp} {E : XK} {Q : VK} {a C : Addr}
theorem rest_ok : ∀ {flds : List Str} {rest : List Stmt}, flds ∈ fldL → asgB rest flds = true → IniN scope (("self" : Str) :: flds) → ∀ ys : List V, ys.length = flds.length → OexC K C → H a = some (exo a C none) → (∀ g ∈ flds, PySem.W.findIn K (.ref C) g = some none) → (∀ H', keptH H a C (flds.zip ys) H' → Q .non H') →
    ∃ t, PSs (iniCx CX P w K mg base (("self" : Str) :: flds) qual scope f (.ref cda) cc A outer s H E) rest t ∧ t { nx := fun _ H' => Q .non H', rt := Q } (some (.ref a) :: ys.map some) H := by
  intro flds rest hf hr S ys hy T ea hno q
  have d0 : ((("self" : Str)) == ("__debug__" : Str)) = false := by decide
  have d0' : ((("self" : Str)) == ("__classdict__" : Str)) = false := by decide
  have none_ : flds = [] → ∃ t, PSs (iniCx CX P w K mg base (("self" : Str) :: flds) qual scope f (.ref cda) cc A outer s H E) rest t ∧ t { nx := fun _ H' => Q .non H', rt := Q } (some (.ref a) :: ys.map some) H := fun e => by
    subst e
    cases asg0 hr
    refine ⟨_, pss_nil, ?_⟩
    match ys, hy with
    | [], _ => exact q H rfl
  have one_ : ∀ g : Str, flds = [g] → (g == ("__debug__" : Str)) = false → (g == ("__classdict__" : Str)) = false → ∃ t, PSs (iniCx CX P w K mg base (("self" : Str) :: flds) qual scope f (.ref cda) cc A outer s H E) rest t ∧ t { nx := fun _ H' => Q .non H', rt := Q } (some (.ref a) :: ys.map some) H := fun g e d1 d1' => by
    subst e
    obtain ⟨p6, p7, p8, p9, r, rfl, h2⟩ := asgS hr
    cases asg0 h2
    match ys, hy with
    | [y], _ =>
      refine ⟨_, pss_one (ps_ost (X := iniCx CX P w K mg base [("self" : Str), g] qual scope f (.ref cda) cc A outer s H E) (p' := p7) (pos := p9) (f := g) (pe_var (pos := p6) (i := 0) rfl (.inl (S.loc _ List.mem_cons_self)) d0 d0') (pe_var (pos := p8) (i := 1) rfl (.inl (S.loc _ (by simp))) d1 d1') rfl), ?_⟩
      exact ⟨y, rfl, .ref a, rfl, a, C, rfl, T, hno g (by simp), .inl ⟨ea, fun dx n ne => q _ ⟨dx, n, ne, rfl⟩⟩⟩
  have two_ : ∀ g g2 : Str, flds = [g, g2] → (g == ("__debug__" : Str)) = false → (g == ("__classdict__" : Str)) = false → (g2 == ("__debug__" : Str)) = false → (g2 == ("__classdict__" : Str)) = false → ∃ t, PSs (iniCx CX P w K mg base (("self" : Str) :: flds) qual scope f (.ref cda) cc A outer s H E) rest t ∧ t { nx := fun _ H' => Q .non H', rt := Q } (some (.ref a) :: ys.map some) H := fun g g2 e d1 d1' d2 d2' => by
    subst e
    obtain ⟨p6, p7, p8, p9, r, rfl, h2⟩ := asgS hr
    obtain ⟨q6, q7, q8, q9, r2, rfl, h3⟩ := asgS h2
    cases asg0 h3
    match ys, hy with
    | [y, y2], _ =>
      refine ⟨_, pss_cons (ps_ost (X := iniCx CX P w K mg base [("self" : Str), g, g2] qual scope f (.ref cda) cc A outer s H E) (p' := p7) (pos := p9) (f := g) (pe_var (pos := p6) (i := 0) rfl (.inl (S.loc _ List.mem_cons_self)) d0 d0') (pe_var (pos := p8) (i := 1) rfl (.inl (S.loc _ (by simp))) d1 d1') rfl)
        (pss_one (ps_ost (X := iniCx CX P w K mg base [("self" : Str), g, g2] qual scope f (.ref cda) cc A outer s H E) (p' := q7) (pos := q9) (f := g2) (pe_var (pos := q6) (i := 0) rfl (.inl (S.loc _ List.mem_cons_self)) d0 d0') (pe_var (pos := q8) (i := 2) rfl (.inl (S.loc _ (by simp))) d2 d2') rfl)), ?_⟩
      refine ⟨y, rfl, .ref a, rfl, a, C, rfl, T, hno g (by simp), .inl ⟨ea, fun dx n ne => ?_⟩⟩
      refine ⟨y2, rfl, .ref a, rfl, a, C, rfl, T, hno g2 (by simp), .inr ⟨dx, [(g, y)], upd_same, ?_, (by show 1 ≤ 900; decide), q _ ⟨dx, n, ne, rfl⟩⟩⟩
      rw [upd_ne ne, upd_same]
  simp only [fldL, List.mem_cons, List.not_mem_nil, or_false] at hf
  rcases hf with rfl | rfl | rfl | rfl | rfl | rfl
  · exact none_ rfl
  · exact one_ _ rfl (by decide) (by decide)
  · exact one_ _ rfl (by decide) (by decide)
  · exact two_ _ _ rfl (by decide) (by decide) (by decide) (by decide)
  · exact two_ _ _ rfl (by decide) (by decide) (by decide) (by decide)
  · exact two_ _ _ rfl (by decide) (by decide) (by decide) (by decide)
end
theorem bindN {nm qual : Str} {ps : List Arg} {flds : List Str} {body : List Stmt} {scope : Scope} {kV doc pm ct cd : Value} {an : Option Addr} {cc : Addr} (hf : flds ∈ fldL) (hp : ps.map (fun a => a.arg) = (("self" : Str) :: flds)) {us : List Value} (hu : us.length = flds.length + 1) :
    bindArgs (PySem.W.ksFn nm qual ⟨[], ps, none, [], [], none, []⟩ body scope .none kV doc pm an cd ct cc) ⟨us, []⟩ = pure ((("self" : Str) :: flds).zip us) := by
  simp only [fldL, List.mem_cons, List.not_mem_nil, or_false] at hf
  rcases hf with rfl | rfl | rfl | rfl | rfl | rfl
  · match ps, hp, us, hu with
    | [⟨x0, a0, s0⟩], hp, [u], _ => injection hp with h0 _; cases h0; rfl
  · match ps, hp, us, hu with
    | [⟨x0, a0, s0⟩, ⟨x1, a1, s1⟩], hp, [u, u1], _ => injection hp with h0 hp; injection hp with h1 _; cases h0; cases h1; rfl
  · match ps, hp, us, hu with
    | [⟨x0, a0, s0⟩, ⟨x1, a1, s1⟩], hp, [u, u1], _ => injection hp with h0 hp; injection hp with h1 _; cases h0; cases h1; rfl
  · match ps, hp, us, hu with
    | [⟨x0, a0, s0⟩, ⟨x1, a1, s1⟩, ⟨x2, a2, s2⟩], hp, [u, u1, u2], _ => injection hp with h0 hp; injection hp with h1 hp; injection hp with h2 _; cases h0; cases h1; cases h2; rfl
  · match ps, hp, us, hu with
    | [⟨x0, a0, s0⟩, ⟨x1, a1, s1⟩, ⟨x2, a2, s2⟩], hp, [u, u1, u2], _ => injection hp with h0 hp; injection hp with h1 hp; injection hp with h2 _; cases h0; cases h1; cases h2; rfl
  · match ps, hp, us, hu with
    | [⟨x0, a0, s0⟩, ⟨x1, a1, s1⟩, ⟨x2, a2, s2⟩], hp, [u, u1, u2], _ => injection hp with h0 hp; injection hp with h1 hp; injection hp with h2 _; cases h0; cases h1; cases h2; rfl
theorem bindK {nm qual : Str} {ps : List Arg} {flds : List Str} {body : List Stmt} {scope : Scope} {kV doc pm ct cd : Value} {an : Option Addr} {cc : Addr} (hf : flds ∈ fldL) (hp : ps.map (fun a => a.arg) = (("self" : Str) :: flds)) {us ws : List Value} (hu : us.length = 1) (hw : ws.length = flds.reverse.length) :
    bindArgs (PySem.W.ksFn nm qual ⟨[], ps, none, [], [], none, []⟩ body scope .none kV doc pm an cd ct cc) ⟨us, flds.reverse.zip ws⟩ = pure ((("self" : Str) :: flds).zip (us ++ ws.reverse)) := by
  simp only [fldL, List.mem_cons, List.not_mem_nil, or_false] at hf
  rcases hf with rfl | rfl | rfl | rfl | rfl | rfl
  · match ps, hp, us, hu, ws, hw with
    | [⟨x0, a0, s0⟩], hp, [u], _, [], _ => injection hp with h0 _; cases h0; rfl
  · match ps, hp, us, hu, ws, hw with
    | [⟨x0, a0, s0⟩, ⟨x1, a1, s1⟩], hp, [u], _, [u1], _ => injection hp with h0 hp; injection hp with h1 _; cases h0; cases h1; rfl
  · match ps, hp, us, hu, ws, hw with
    | [⟨x0, a0, s0⟩, ⟨x1, a1, s1⟩], hp, [u], _, [u1], _ => injection hp with h0 hp; injection hp with h1 _; cases h0; cases h1; rfl
  · match ps, hp, us, hu, ws, hw with
    | [⟨x0, a0, s0⟩, ⟨x1, a1, s1⟩, ⟨x2, a2, s2⟩], hp, [u], _, [u1, u2], _ => injection hp with h0 hp; injection hp with h1 hp; injection hp with h2 _; cases h0; cases h1; cases h2; rfl
  · match ps, hp, us, hu, ws, hw with
    | [⟨x0, a0, s0⟩, ⟨x1, a1, s1⟩, ⟨x2, a2, s2⟩], hp, [u], _, [u1, u2], _ => injection hp with h0 hp; injection hp with h1 hp; injection hp with h2 _; cases h0; cases h1; cases h2; rfl
  · match ps, hp, us, hu, ws, hw with
    | [⟨x0, a0, s0⟩, ⟨x1, a1, s1⟩, ⟨x2, a2, s2⟩], hp, [u], _, [u1, u2], _ => injection hp with h0 hp; injection hp with h1 hp; injection hp with h2 _; cases h0; cases h1; cases h2; rfl
theorem iniXn {P : Program} {w : World} {K : PySem.W.Frag} {mg : Str → Option Value} {base : Heap} {file : Str} {h : Heap} {c : Str} {flds : List Str} (KX : K.In h) (G : h.Ns mainGlobals mg) (e : iniBn file K c flds = true) (hf : (P.main.file : Str) = file)
    (hs : (P.main.scope.names.lookup ("super" : Str)).isSome = false) (hm : mg "super" = none) : IniXn P w K mg base c flds := by
  obtain ⟨e0, e⟩ := ba2 e
  obtain ⟨e1, e0⟩ := ba2 e0
  obtain ⟨e2, e0⟩ := ba2 e0
  obtain ⟨e3, e4⟩ := ba2 e0
  obtain ⟨e4, e5⟩ := ba2 e4
  have oex := oexB_ok e1
  have no : ∀ f ∈ flds, PySem.W.findIn K (.ref (clsOf K c)) f = some none := fun f hf => of_decide_eq_true (List.all_eq_true.mp e4 f hf)
  have two := of_decide_eq_true e5
  refine ⟨PySem.W.mg_of KX G (of_decide_eq_true e3), e2, oex, no, two, ?_⟩
  split at e
  · rename_i f hi
    obtain ⟨t1, t2⟩ := ba2 e
    split at t2
    · rename_i oc od fd osl hk
      unfold iniFn at t2
      split at t2
      · rename_i nm qual ps n1 p0 p1 n2 p2 m j p3 p4 p5 rest scope gl n3 cc kV doc pm an cda ct bl
        obtain ⟨u1, u2⟩ := ba2 t2
        obtain ⟨v1, v2⟩ := ba2 u1
        obtain ⟨q1, v1⟩ := ba2 v1
        obtain ⟨q2, v1⟩ := ba2 v1
        obtain ⟨q3, v1⟩ := ba2 v1
        obtain ⟨q4, v1⟩ := ba2 v1
        obtain ⟨q7, v1⟩ := ba2 v1
        obtain ⟨q8, v1⟩ := ba2 v1
        obtain ⟨q9, q10⟩ := ba2 v1
        obtain ⟨r1, v2⟩ := ba2 v2
        obtain ⟨r2, v2⟩ := ba2 v2
        obtain ⟨r3, r6⟩ := ba2 v2
        cases of_decide_eq_true q1
        cases of_decide_eq_true q2
        cases of_decide_eq_true q3
        cases of_decide_eq_true q7
        cases of_decide_eq_true q8
        have q10 := of_decide_eq_true q10
        cases hD : cellD K cc with
        | none => rw [hD] at u2; cases u2
        | some D =>
          rw [hD] at u2
          obtain ⟨w1, u2⟩ := ba2 u2
          obtain ⟨w2, u2⟩ := ba2 u2
          obtain ⟨w3, w4⟩ := ba2 u2
          obtain ⟨cdD, w1⟩ := Option.isSome_iff_exists.mp w1
          have nd : ((("self" : Str)) :: flds).Nodup := by
            have two' := two
            simp only [fldL, List.mem_cons, List.not_mem_nil, or_false] at two'
            rcases two' with rfl | rfl | rfl | rfl | rfl | rfl <;> decide +kernel
          have S := iniNB_ok nd r3
          have TC : IniC K (clsOf K c) D := ⟨oex, of_decide_eq_true w2, of_decide_eq_true w3, of_decide_eq_true w4⟩
          obtain ⟨z1, z2, z3, z4, z5, z6, z7, z8, z9⟩ := fileB_ok r2
          have hd : ∃ ar, (([] : List Arg) ++ ps).head? = some ar ∧ ar.arg = ("self" : Str) := by
            match ps, q10 with
            | a :: ps, q => injection q with q _; exact ⟨a, rfl, q⟩
          obtain ⟨ar, hd1, hd2⟩ := hd
          have TT : IniT P K mg f cda cc D "self" := ⟨⟨_, _, _, _, _, hk, hd1, hd2⟩, ⟨z1, z2, z3, z4, z5, z6, z7, z8, by rw [hf]; exact z9⟩, cellD_ok hD, ⟨cdD, w1⟩, of_decide_eq_true r6, hs, hm, boot_super⟩
          refine ⟨f, D, _, hi, of_decide_eq_true t1, TC, ini_okN (x0 := "self") (N := flds) (flds := flds) hk r1 TT S (fun L => ?_) (fun L => rfl) (fun L => hev_ok q9) (fun L => rfl) (fun L => rfl) rfl (fun A outer s H E Q a C ys hy T ea hno q => rest_ok two q4 S ys hy T ea hno q), ?_, ?_⟩
          · have k := S.kind
            unfold interactive
            show (scope.kind == .module && _) = false
            rw [k]
            rfl
          · refine ⟨fun s us ws X l1 l2 => BindsTo.of_looks fun M => ?_, fun r1 r2 => r1.append r2⟩
            match ws, l2 with
            | [], _ =>
              show PySem.W.Looks M s.heap (bindArgs _ ⟨us, []⟩) _
              rw [bindN two q10 l1, List.append_nil]
              exact .of_pure rfl
          · refine ⟨fun s us ws X l1 l2 => BindsTo.of_looks fun M => ?_, fun r1 r2 => r1.append (Vals.rev r2)⟩
            rw [bindK two q10 l1 l2]
            exact .of_pure rfl
      · cases t2
    · cases t2
  · cases e
end G
set_option Elab.async false
set_option linter.all false
set_option maxRecDepth 100000
set_option maxHeartbeats 4000000
/-! JF: isinstance(e, C), isinstance(e, (C, ..)), e.field as expressions; defs that may raise. -/
namespace G
open PySem PySem.Spec PyProof.Rows L2
def eIsX (ns : List Str) (f : Ev → M D) : Ev → M D := fun ρ => f ρ >>= fun x => liftO ((isXb ns x).map D.bl)
def attrD (f : Str) : D → Option D
  | .exc _ ks vs => (ks.zip vs).lookup f
  | _ => none
def eAttr (n : Str) (f : Ev → M D) : Ev → M D := fun ρ => f ρ >>= fun x => liftO (attrD n x)
theorem rl_look {K : PySem.W.Frag} {ca : Dr} {Z : Addr → Prop} {H : Hp} {f : Str} {d : D} : ∀ {fs : List (Str × V)} {ds : List D}, RlA K ca Z H (fs.map (·.2)) ds → ((fs.map (·.1)).zip ds).lookup f = some d → ∃ v, fs.lookup f = some v ∧ Rl K ca Z H v d
  | [], _, _, h => by cases h
  | (k, v) :: fs, _, .cons (d := d1) (ds := ds) r rs, h => by
    rw [List.map_cons, List.zip_cons_cons, List.lookup_cons] at h
    rw [List.lookup_cons]
    dsimp only at h ⊢
    cases e : f == k with
    | true =>
      rw [e] at h
      cases h
      exact ⟨v, rfl, r⟩
    | false =>
      rw [e] at h
      exact rl_look rs h
section
variable {X : Cx} {ca : Dr} {E : XK} {e : Expr} {es : List Expr} {f : Ev → M D} {p p2 p3 pos : Pos} {kk}
theorem d_isX1 (n : Str) (hn : clsKB X.K n = true) (hm : X.mg "isinstance" = none) (hmn : X.mg n = some (.ref (clsOf X.K n))) (he : PE X e (tD X.K ca E f)) (hg : Gl X "isinstance" := by rfl) (hgn : Gl X n := by rfl) (hdb : (n == ("__debug__" : Str)) = false := by decide)
    (hs : starEach [e, .Name n p2] X.env = (false, eval e X.env) :: starEach [.Name n p2] X.env := by rfl) (hpl : (backTo pos (starEach [.Name n p2] X.env)).any (·.1) = false := by rfl) :
    PE X (.Call (.Name "isinstance" p) [e, .Name n p2] [] pos) (tD X.K ca E (eIsX [n] f)) := by
  refine ⟨fun pins s σ H Q I h => (pe_callB (call_isX (ca := ca) (ns := [n]) fun m h => by rw [List.mem_singleton.mp h]; exact hn) hg hm (by decide +kernel) (pa_cons he (pa_cons (pe_glob (v := .ref (clsOf X.K n)) hgn hmn rfl hdb) pa_nil) hs) (by decide) (by decide) hs hpl).run pins s σ H Q I ?_⟩
  obtain ⟨Z, Y, ρ, c, eo, co, h⟩ := h
  refine ⟨Z, Y, ρ, c, eo, co, (Do.bind h).mono fun d c1 h1 v H1 e1 r1 co1 => ?_⟩
  obtain ⟨z, hz, h2⟩ := Do.lift h1
  cases hb : isXb [n] d with
  | none => rw [hb] at hz; cases hz
  | some b =>
    rw [hb] at hz; cases hz
    exact ⟨v, _, U Z Y, d, b, rfl, r1, hb, .inl ⟨n, rfl, rfl⟩, h2 (.bl b) H1 e1 (.bl b) co1⟩
theorem d_attr (n : Str) (he : PE X e (tD X.K ca E f)) (hn : n ∈ errF := by decide) (hb : attributeBase e n X.env (eval e X.env) = eval e X.env := by rfl) : PE X (.Attribute e n pos) (tD X.K ca E (eAttr n f)) := by
  refine ⟨fun pins s σ H Q I h => ?_⟩
  obtain ⟨Z, Y, ρ, c, eo, co, h⟩ := h
  refine attr_of hb (thn (he.run pins s σ H (fun v H1 => ∃ (d : D) (c1 : Churn) (d' : D), Ext ca H H1 ∧ Rl X.K ca (U Z Y) H1 v d ∧ ChOk X.K ca H1 c1 ∧ attrD n d = some d' ∧ ∀ w H', Ext ca H H' → Rl X.K ca (U Z Y) H' w d' → ChOk X.K ca H' c1 → Q w H') I ?_) fun u s1 hh => ?_)
  · refine ⟨Z, Y, ρ, c, eo, co, (Do.bind h).mono fun d c1 h1 v H1 e1 r1 co1 => ?_⟩
    obtain ⟨z, hz, h2⟩ := Do.lift h1
    exact ⟨d, c1, z, e1, r1, co1, hz, h2⟩
  · obtain ⟨v, H1, I1, rv, d, c1, d', e1, r1, co1, hd, q⟩ := hh
    cases r1 with
    | exc x ha hdd ra =>
      rename_i a dd cn fs ds
      cases rv
      obtain ⟨v', hl, rl'⟩ := rl_look ra hd
      obtain ⟨⟨oe, vs, ho, hcl, hdi, hda⟩, _, _⟩ := I1.hok _ _ ha
      have hx : ObjOk X.prog X.w H1 s1.heap dd (.xd fs) := I1.hok dd _ hdd
      obtain ⟨mA, hns, hr⟩ := hx
      obtain ⟨od, hod, hlk⟩ := lookIn_ns hns
      obtain ⟨u', hu, ru⟩ := RelO.some_of (v := v') (o := mA n) (by rw [← hl]; exact hr n)
      obtain ⟨x1, x2⟩ := ba2 (show excKB X.K cn = true from x)
      obtain ⟨_, x1⟩ := ba2 x1
      obtain ⟨_, x1⟩ := ba2 x1
      obtain ⟨x5, _⟩ := ba2 x1
      have T := xfB_ok x5
      obtain ⟨x6, _⟩ := ba2 x2
      have hno := of_decide_eq_true (List.all_eq_true.mp x6 n hn)
      have J : PySem.W.InstAt s1.heap a oe (clsOf X.K cn) (some od) := ⟨ho, hcl, by unfold PySem.W.notCls; rw [hda] <;> rfl, by rw [hdi]; exact hod⟩
      exact PySem.HandSPX.exc_get I1.kIn J T.ga T.gg T.exC (PySem.W.findObj_own T.hdC hno rfl (by rw [hlk, hu])) (handed_of ru) ⟨v', H1, I1.tok _, ru, q v' H1 e1 rl' co1⟩
    | ins nz x ha ra =>
      rename_i a dx cn fs ds
      cases rv
      obtain ⟨v', hl, rl'⟩ := rl_look ra hd
      exact getattr_ok I1 ha x.cls.1 (x.fld (List.mem_append_left _ hn)) hl fun u' s2 I2 ru => ⟨v', H1, I2, ru, q v' H1 e1 rl' co1⟩
    | _ => cases hd
end
end G
set_option Elab.async false
set_option linter.all false
set_option maxRecDepth 100000
set_option maxHeartbeats 8000000
/-! JG: defs that may raise: their promises and calls. -/
namespace G
open PySem PySem.Spec PyProof.Rows L2
/-- .. where E may leave -/
theorem passX {X : Cx} {E : XK} (tk : Takes X (fun cls d _ H => E cls d H)) : Passes (L2.CX X.prog X.w) X E := passes_call tk fun _ _ _ _ h => h
/-- the def x at its place does F, or raises -/
structure DefX (P : Program) (w : World) (K : PySem.W.Frag) (mg : Str → Option Value) (base : Heap) (k : Nat) (x : Str) (st : Stmt) (ps : List Str) (F : List D → M D) : Prop where
  ex : ∃ fd nm, FunD K nm nm (defArgs st) (defBody st) (defScope st) [] [] (He.ga K x) fd ∧ mg x = some (.ref (He.ga K x)) ∧ FnG P w K mg base (L2.CX P w) k (He.ga K x) fd ps (spD K ps.length F) ∧ Binds K fd ps []
theorem FunD.okX {P : Program} {w : World} {K : PySem.W.Frag} {mg : Str → Option Value} {base : Heap} {x qual : Str} {params : Arguments} {body : List Stmt} {scope : Scope} {dvs : List V} {kws : List (Str × V)} {f : Addr} {fd : FuncData} {N ps : List Str} {k : Nat} {g : Sm} (F : FunD K x qual params body scope dvs kws f fd) (S : FnScope N ps scope)
    (hbody : ∀ (ca : Dr) (cdv : Value) (A : Around) (outer : List Env) (s : Shared) (H : Hp) (E : XK), A.guards = some [] → Room k (A.deeper (envOfC qual scope s.heap.objs.size f cdv)) → PSs (cxOf (L2.CX P w) P w K mg base N qual scope f cdv A outer s H E) body (tS K ca E g)) :
    FnG P w K mg base (L2.CX P w) (k + 1) f fd ps (spD K ps.length (runDef N.length g)) := by
  refine FunD.okG F S (fun vs H Q E h => spD_len h) fun cdv A outer s H vs Q E gd hr h => ?_
  obtain ⟨ca, Z, c, ds, z, co, r, hl, h⟩ := h
  exact ⟨tS K ca E g, hbody ca cdv A outer s H E gd hr, body_end z co r h⟩
/-- what such a def's context takes -/
theorem takesX {P : Program} {w : World} {K : PySem.W.Frag} {mg : Str → Option Value} {base : Heap} {N : List Str} {qual : Str} {scope : Scope} {f : Addr} {cdv : Value} {A : Around} {outer : List Env} {s : Shared} {H : Hp} {E : XK} :
    Takes (cxOf (L2.CX P w) P w K mg base N qual scope f cdv A outer s H E) (fun cls d _ H => E cls d H) := takes_of rfl rfl rfl rfl
theorem DefX.mk2 {P : Program} {w : World} {K : PySem.W.Frag} {mg : Str → Option Value} {base : Heap} {k : Nat} {x : Str} {st : Stmt} {N ps : List Str} {g : Sm} (hf : ∃ fd, FunD K x x (defArgs st) (defBody st) (defScope st) [] [] (He.ga K x) fd) (hm : mg x = some (.ref (He.ga K x))) (S : FnScope N ps (defScope st))
    (hb : ∀ (kV doc pm : Value) (an : Option Addr) (cdv ct : Value) (us : List Value), us.length = ps.length → bindArgs (PySem.W.fnOf x x (defArgs st) (defBody st) (defScope st) .none kV doc pm an cdv ct) ⟨us, []⟩ = pure (ps.zip us))
    (hbody : ∀ (ca : Dr) (cdv : Value) (A : Around) (outer : List Env) (s : Shared) (H : Hp) (E : XK), A.guards = some [] → Room k (A.deeper (envOfC x (defScope st) s.heap.objs.size (He.ga K x) cdv)) → PSs (cxOf (L2.CX P w) P w K mg base N x (defScope st) (He.ga K x) cdv A outer s H E) (defBody st) (tS K ca E g)) :
    DefX P w K mg base (k + 1) x st ps (runDef N.length g) := by
  obtain ⟨fd, F⟩ := hf
  exact ⟨fd, x, F, hm, FunD.okX F S hbody, FunD.bindsN F hb⟩
section
variable {X : Cx} {ca : Dr} {pos : Pos} {k j : Nat} {ps kn : List Str} {F : List D → M D} {x : Str} {st : Stmt} {p : Pos} {e : Expr} {es : List Expr} {fs ks : Ev → M (List D)} {kws : List Keyword}
variable {E : XK}
theorem d_callX (Fk : DefX X.prog X.w X.K X.mg X.base j x st ps F) (hx : Passes (L2.CX X.prog X.w) X E) (gd : X.A.guards = some []) (hr : Room k X.A) (ha : PA X (e :: es) (tAs X.K ca E fs)) (hj : j ≤ k := by decide) (hg : Gl X x := by rfl) (hdb : (x == ("__debug__" : Str)) = false := by decide)
    (he : starEach (e :: es) X.env = (false, eval e X.env) :: starEach es X.env := by rfl) (hpl : (backTo pos (starEach es X.env)).any (·.1) = false := by rfl) : PE X (.Call (.Name x p) (e :: es) [] pos) (tD X.K ca E (eCall ps.length F [] fs)) := by
  obtain ⟨fd, nm, FF, hm, hF, hb⟩ := Fk.ex
  exact d_call (hF.mono hj) gd hr hm FF.kp hb .nil hx (fun _ _ => .nil) ha hg hdb he hpl
end
theorem DefX.here {X : Cx} {P : Program} {w : World} {K : PySem.W.Frag} {mg : Str → Option Value} {base : Heap} {k : Nat} {x : Str} {st : Stmt} {ps : List Str} {F : List D → M D} (h : DefX P w K mg base k x st ps F) (e1 : X.prog = P := by rfl) (e2 : X.w = w := by rfl) (e3 : X.K = K := by rfl) (e4 : X.mg = mg := by rfl) (e5 : X.base = base := by rfl) :
    DefX X.prog X.w X.K X.mg X.base k x st ps F := by
  subst e1 e2 e3 e4 e5
  exact h
/-- the def x, with defaults, at its place does F -/
structure DefHX (P : Program) (w : World) (K : PySem.W.Frag) (mg : Str → Option Value) (base : Heap) (k : Nat) (x : Str) (st : Stmt) (ps : List Str) (dfl : List He.Dv) (F : List D → M D) : Prop where
  ex : ∃ fd nm, FunD K nm nm (defArgs st) (defBody st) (defScope st) (dfl.map (He.Dv.v K)) [] (He.ga K x) fd ∧ mg x = some (.ref (He.ga K x)) ∧ FnG P w K mg base (L2.CX P w) k (He.ga K x) fd ps (spD K ps.length F)
section
variable {P : Program} {w : World} {K : PySem.W.Frag} {mg : Str → Option Value} {base : Heap} {k : Nat} {x : Str} {st : Stmt} {N ps : List Str} {g : Sm} {dfl : List He.Dv}
theorem DefHX.mk2 (hf : ∃ fd, FunD K x x (defArgs st) (defBody st) (defScope st) (dfl.map (He.Dv.v K)) [] (He.ga K x) fd) (hm : mg x = some (.ref (He.ga K x))) (S : FnScope N ps (defScope st))
    (hbody : ∀ (ca : Dr) (cdv : Value) (A : Around) (outer : List Env) (s : Shared) (H : Hp) (E : XK), A.guards = some [] → Room k (A.deeper (envOfC x (defScope st) s.heap.objs.size (He.ga K x) cdv)) → PSs (cxOf (L2.CX P w) P w K mg base N x (defScope st) (He.ga K x) cdv A outer s H E) (defBody st) (tS K ca E g)) :
    DefHX P w K mg base (k + 1) x st ps dfl (runDef N.length g) := by
  obtain ⟨fd, F⟩ := hf
  exact ⟨fd, x, F, hm, FunD.okX F S hbody⟩
theorem DefHX.here {X : Cx} {F : List D → M D} (h : DefHX P w K mg base k x st ps dfl F) (e1 : X.prog = P := by rfl) (e2 : X.w = w := by rfl) (e3 : X.K = K := by rfl) (e4 : X.mg = mg := by rfl) (e5 : X.base = base := by rfl) :
    DefHX X.prog X.w X.K X.mg X.base k x st ps dfl F := by
  subst e1 e2 e3 e4 e5
  exact h
end
section
variable {X : Cx} {ca : Dr} {pos : Pos} {k j : Nat} {ps kn : List Str} {F : List D → M D} {x : Str} {st : Stmt} {p : Pos} {e : Expr} {es : List Expr} {fs ks : Ev → M (List D)} {kws : List Keyword} {dfl : List He.Dv}
variable {E : XK}
theorem d_callHX (n i : Nat) (dds : List D) (Fk : DefHX X.prog X.w X.K X.mg X.base j x st ps dfl F) (hx : Passes (L2.CX X.prog X.w) X E) (gd : X.A.guards = some []) (hr : Room k X.A) (ha : PA X (e :: es) (tAs X.K ca E fs))
    (h : ∀ (nm : Str) (T : Addr) (kV doc pm : Value) (an : Option Addr) (cdv ct : Value) (us its : List Value), us.length = n → its.length = dfl.length →
      ∃ k, bindArgs (PySem.W.fnOf nm nm (defArgs st) (defBody st) (defScope st) (.ref T) kV doc pm an cdv ct) ⟨us, []⟩ = seqItems? (.ref T) >>= k ∧ k (some its.toArray) = pure (ps.zip (us ++ its.drop i)))
    (hd : dfl ≠ [] := by simp) (hn : n + (dfl.length - i) = ps.length := by rfl) (hdd : ∀ K, flA dds = some ((dfl.map (He.Dv.v K)).drop i) := by exact fun _ => rfl) (hj : j ≤ k := by decide) (hg : Gl X x := by rfl) (hdb : (x == ("__debug__" : Str)) = false := by decide)
    (he : starEach (e :: es) X.env = (false, eval e X.env) :: starEach es X.env := by rfl) (hpl : (backTo pos (starEach es X.env)).any (·.1) = false := by rfl) : PE X (.Call (.Name x p) (e :: es) [] pos) (tD X.K ca E (eCall ps.length F dds fs)) := by
  obtain ⟨fd, nm, FF, hm, hF⟩ := Fk.ex
  obtain ⟨ds, v, hb⟩ := FF.binds1 n i (by simpa using hd) (by simpa using hn) (by simpa using h nm)
  exact d_call (hF.mono hj) gd hr hm FF.kp hb v hx (flA_dfl (hdd X.K)) ha hg hdb he hpl
end
end G
set_option Elab.async false
set_option linter.all false
set_option maxRecDepth 100000
set_option maxHeartbeats 4000000
/-! JH: try: e / x = e, except C: .. except C as n: .. -/
namespace G
open PySem PySem.Spec PyProof.Rows L2
/-- one except clause -/
structure Hd where
  cls : Str
  slot : Option Nat
  run : Sm
def setO (ρ : Ev) : Option Nat → Sl → Ev
  | some i, s => ρ.set i s
  | none, _ => ρ
def setV (σ : L2.St) : Option Nat → Option V → L2.St
  | some i, s => σ.set i s
  | none, _ => σ
def excD (x : Exn) : D := .exc x.cls (x.fs.map (·.1)) (x.fs.map (·.2))
def runHds : List Hd → Exn → Sm
  | [], x => fun _ => raiseM x
  | h :: r, x => fun ρ => if errSub x.cls h.cls = true then (nx (h.run (setO ρ h.slot (.val (excD x)))) >>= fun p => pure (setO p.1 h.slot .no, p.2)) else runHds r x ρ
def sTry (f : Ev → M D) (store : Option Nat) (hs : List Hd) : Sm := fun ρ c => match f ρ c with
  | .ok d c' => .ok (setO ρ store (.val d), .nx) c'
  | .exn x c' => runHds hs x ρ c'
  | .stuck => .stuck
/-- what is known besides of the frame's own lists and the heap -/
abbrev PhT := L2.St → (Addr → Prop) → (Addr → Prop) → Hp → Prop
/-- a statement does g, where Φ is known -/
def tSP (K : PySem.W.Frag) (ca : Dr) (E : XK) (Φ : PhT) (g : Sm) : TS := fun Dn σ H => ∃ Z Y ρ c, Φ σ Z Y H ∧ EnvOk K ca Z Y H σ ρ ∧ ChOk K ca H c ∧ DoS K ca E Z Dn Y H (g ρ c)
/-- an expression whose errors are wished for at the caller's slots -/
def tDW (K : PySem.W.Frag) (ca : Dr) (Φ : PhT) (W : WX) (f : Ev → M D) : TE := fun σ H Q => ∃ Z Y ρ c, Φ σ Z Y H ∧ EnvOk K ca Z Y H σ ρ ∧ ChOk K ca H c ∧
  Do K ca (fun cv od H' => W cv od σ H') (U Z Y) H (f ρ c) fun d c' => ∀ v H', Ext ca H H' → Rl K ca (U Z Y) H' v d → ChOk K ca H' c' → Q v H'
def PX (X : Cx) (ca : Dr) (Φ : PhT) (e : Expr) (f : Ev → M D) : Prop := ∀ (W : WX) (pn : List (Addr × Obj)) (xe : Value → Shared → Prop), Takes (X.tr pn xe) W → PE (X.tr pn xe) e (tDW X.K ca Φ W f)
/-- the statement in a try -/
def tTryB (K : PySem.W.Frag) (ca : Dr) (Φ : PhT) (W : WX) (f : Ev → M D) (store : Option Nat) : TS := fun Dn σ H => ∃ Z Y ρ c, Φ σ Z Y H ∧ EnvOk K ca Z Y H σ ρ ∧ ChOk K ca H c ∧
  Do K ca (fun cv od H' => W cv od σ H') (U Z Y) H (f ρ c) fun d c' => ∀ v H', Ext ca H H' → Rl K ca (U Z Y) H' v d → ChOk K ca H' c' → Dn.nx (setV σ store (some v)) H'
def PB (X : Cx) (ca : Dr) (Φ : PhT) (st : Stmt) (f : Ev → M D) (store : Option Nat) : Prop := ∀ (W : WX) (pn : List (Addr × Obj)) (xe : Value → Shared → Prop), Takes (X.tr pn xe) W → PassesOwn (model X.prog X.w) X.A X.env xe → PS (X.tr pn xe) st (tTryB X.K ca Φ W f store)
section
variable {X : Cx} {ca : Dr} {E : XK} {e : Expr} {f : Ev → M D} {pos : Pos}
theorem pb_expr {Φ : PhT} (he : PX X ca Φ e f) (hs : swapsWith e none pos.line X.env = pure false := by rfl) : PB X ca Φ (.Expr e pos) f none := fun W pn xe tk _ => by
  refine ⟨fun pins s σ H Dn I h => (ps_expr (X := X.tr pn xe) (he W pn xe tk) hs).run pins s σ H Dn I ?_⟩
  obtain ⟨Z, Y, ρ, c, hΦ, eo, co, h⟩ := h
  exact ⟨Z, Y, ρ, c, hΦ, eo, co, h.mono fun d c1 h1 v H1 e1 r1 co1 => h1 v H1 e1 r1 co1⟩
inductive HdsG (X : Cx) (ca : Dr) : List ExceptHandler → List Hd → Prop
  | nil : HdsG X ca [] []
  | as_ {x n : Str} {i : Nat} {gs : Sm} {b₀ : Stmt} {suite : List Stmt} {np pos' : Pos} {hds : List ExceptHandler} {l : List Hd} (hc : Names X x (.ref (clsOf X.K x))) (hk : clsKB X.K x = true) (hi : X.N[i]? = some n) (hln : X.env.kindOf n = some .local)
      (hsu : ∀ (a : Addr) (pn : List (Addr × Obj)), PSs (X.suite a pn) (b₀ :: suite) (tS X.K ca E0 gs)) (r : HdsG X ca hds l) : HdsG X ca (.ExceptHandler (some (.Name x np)) (some n) (b₀ :: suite) pos' :: hds) (⟨x, some i, gs⟩ :: l)
  | no_ {x : Str} {gs : Sm} {b₀ : Stmt} {suite : List Stmt} {np pos' : Pos} {hds : List ExceptHandler} {l : List Hd} (hc : Names X x (.ref (clsOf X.K x))) (hk : clsKB X.K x = true)
      (hsu : ∀ (a : Addr) (pn : List (Addr × Obj)), PSs (X.suite a pn) (b₀ :: suite) (tS X.K ca E0 gs)) (r : HdsG X ca hds l) : HdsG X ca (.ExceptHandler (some (.Name x np)) none (b₀ :: suite) pos' :: hds) (⟨x, none, gs⟩ :: l)
end
section
variable {X : Cx} {pins : List (Addr × Obj)} {σ : L2.St} {H : Hp} {sI s' : Shared} {B : Heap} {a C d : Addr}
theorem excH_ok {P : Program} {w : World} {h : Heap} {oe : Obj} {vs : Array Value} (ho : h.get? a = some oe) (h1 : oe.cls = .ref C) (h2 : oe.dict = some d) (h3 : oe.data = .fields vs) : ObjOk P w H h a (excH a C d) :=
  ⟨⟨oe, vs, ho, h1, h2, h3⟩, ⟨oe, ho⟩, fun _ _ ⟨o, v, q, r⟩ k => ⟨o, v, k o q, r⟩⟩
/-- landed, and the exception is tracked from now on -/
theorem landedE {o : HO} (I : L2.Inv X pins σ H sI) (nb : ∀ b o, sI.heap.get? b = some o → b ∉ frs X.stack → B.get? b = some o) (st : B.StaysIn s'.heap) (up : sI.heap.UpToSlots s'.heap) (os : s'.os = sI.os) (ag : AllBare s'.gens)
    (n0 : sI.heap.get? a = none) (na : H a = none) (new : ObjOk X.prog X.w (upd H a o) s'.heap a o) : L2.Inv X pins σ (upd H a o) s' := by
  have nf : ∀ b ∈ frs X.stack, ∀ o, sI.heap.get? b = some o → ∃ sl, s'.heap.get? b = some { o with slots := sl } := fun b hb o e => by
    obtain ⟨_, o', e', hd⟩ := I.stack.mem hb
    rw [e] at e'; cases e'
    exact up b o e hd
  have ne0 : ∀ {b : Addr} {o : Obj}, sI.heap.get? b = some o → b ≠ a := fun {b o} e z => by rw [z, n0] at e; cases e
  have J := I.call (ch := []) (h' := s'.heap) (g' := s'.gens) (t' := s'.toks) (d' := s'.drawn) (H' := upd H a o)
    ⟨fun b o e _ hb _ => st b o (nb b o e hb), fun b o e _ hb _ => nf b hb o e, fun b o e n _ => by rw [upd_ne (ne0 e)]; exact n, fun b o e _ => by
      by_cases hb : b ∈ frs X.stack
      · obtain ⟨sl, q⟩ := nf b hb o e
        exact ⟨_, q⟩
      · exact ⟨o, st b o (nb b o e hb)⟩, fun _ _ e => by rw [upd_ne (ne_of_none e na)]; exact e, fun _ _ _ e => by rw [upd_ne (ne_of_none e na)]; exact e, fun b ps e => ⟨#[], by rw [upd_ne (ne_of_none e na), e]; simp⟩⟩
    (fun b u e => by
      by_cases hb : b = a
      · subst hb
        rw [upd_same] at e
        cases e
        exact new
      · rw [upd_ne hb] at e
        exact (((I.inGround nb).kept st) b u e).stay (fun c v _ q => q) (fun c q => by rw [upd_ne (ne_of_none q na)]; exact q) fun c xs q => by rw [upd_ne (ne_of_none q na)]; exact q) ag (fun _ z => nomatch z)
  obtain ⟨a1, a2, a3, a4, a5⟩ := s'
  have e5 : a5 = sI.os := os
  subst e5
  exact J
theorem Inv.suiteE {a : Addr} {q : List (Addr × Obj)} {s : Shared} (I : L2.Inv X pins σ H s) : L2.Inv (X.suite a (X.pn ++ pins)) [] σ H s :=
  ⟨I.ok.suite _ _, I.os, I.bare, I.base, I.loc, I.cell, I.free, I.freeC, fun p hp => I.pin p (by rw [List.append_nil] at hp; exact hp), I.hok, I.len⟩
theorem Inv.unsuiteE {a : Addr} {pn' : List (Addr × Obj)} {s : Shared} (I : L2.Inv (X.suite a (X.pn ++ pins)) pn' σ H s) (ok : X.Ok) : L2.Inv X pins σ H s :=
  ⟨ok, I.os, I.bare, I.base, I.loc, I.cell, I.free, I.freeC, fun p hp => I.pin p (List.mem_append_left _ hp), I.hok, I.len⟩
end
section
variable {X : Cx} {ca : Dr} {E : XK} {f : Ev → M D} {pos : Pos} {bst : Stmt} {h₀ : ExceptHandler} {hds : List ExceptHandler} {l : List Hd} {store : Option Nat}
theorem EnvOk.setO {K : PySem.W.Frag} {Z Y : Addr → Prop} {H : Hp} {σ : L2.St} {ρ : Ev} (e : EnvOk K ca Z Y H σ ρ) (o : Option Nat) {v : V} {d : D} (r : Rl K ca (U Z Y) H v d) : EnvOk K ca Z Y H (setV σ o (some v)) (G.setO ρ o (.val d)) := by
  cases o with
  | none => exact e
  | some i => exact e.set i r
theorem s_tryP {Φ : PhT} (hs : X.stack = X.env :: X.outer) (hf : X.env.frame = some X.env.locals) (hN : X.N.Nodup) (tk : Takes X (fun cls d _ H => E cls d H)) (hb : PB X ca Φ bst f store) (hh : HdsG X ca (h₀ :: hds) l) :
    PS X (.Try [bst] (h₀ :: hds) [] [] pos) (tSP X.K ca E Φ (sTry f store l)) := by
  refine ⟨fun pins s σ H D I h => ?_⟩
  obtain ⟨Z, Y, ρ, c, hΦ, eo, co, h⟩ := h
  have ok := I.ok
  have hfr : X.A.frames = some (X.env :: X.outer) := by rw [ok.frames, hs]
  refine wpAny_Try_except ?_
  refine wpAny_mono ((pss_one (hb (fun cls d σ' H' => σ' = σ ∧ ∃ x c1, Ext ca H H' ∧ XRel X.K ca (U Z Y) H' x cls d ∧ ChOk X.K ca H' c1 ∧ DoS X.K ca E Z D Y H (runHds l x ρ c1)) (X.pn ++ pins) (fun e s₁ => wpAny (model X.prog X.w) X.A (noteFrame e X.env) (fun _ s₂ => wpAny (model X.prog X.w) X.A (setFlight e none) (fun _ s₃ =>
    wpAny (model X.prog X.w) X.A (handleBy e X.env (h₀ :: hds)) (SP X pins D) X.xe s₃) X.xe s₂) X.xe s₁) (fun u s' xx => ?_) PassesOwn.looking)).run [] s σ H D (I.toTry _) ?_) (fun f s1 hsp => ?_) (fun e s1 he => he)
  · -- the catch
    obtain ⟨a, B, sI, pins', σ', H', cls, d, rfl, J', nb, up, sky, na, os, ag, rfl, x, c1, eH, xr, co1, hD⟩ := xx
    obtain ⟨xk, rfl, dd, fs, rfl, hdd, hks, hra⟩ := xr
    have J : L2.Inv X pins σ' H' sI := J'.ofTry ok
    have sky' : Sky B (X.env :: X.outer) a (Zc (.ref (clsOf X.K x.cls)) (some dd)) X.env.locals s'.heap := by rw [← hs]; exact sky
    show wpAny (model X.prog X.w) X.A (noteFrame (.ref a) X.env) _ _ _
    refine Sky.land Zc.steady hfr hf sky' fun h3 fl3 up3 => ?_
    obtain ⟨oe3, vs3, he3, hz3, hd3⟩ := fl3.there
    have notFr : ∀ {h : Heap} {o : Obj} {vs : Array Value}, h.FunFrames B (X.env :: X.outer) → h.get? a = some o → o.data = .fields vs → a ∉ frs (X.env :: X.outer) := fun {h o vs} ff e dd hm => by
      obtain ⟨_, o', e', hnf⟩ := ff.mem hm
      rw [e] at e'; cases e'
      exact hnf _ dd
    have nfr := notFr fl3.2.2.1 he3 hd3
    have n0 : sI.heap.get? a = none := by
      cases q : sI.heap.get? a with
      | none => rfl
      | some o =>
        have z := nb a o q (by rw [hs]; exact nfr)
        rw [fl3.2.1] at z; cases z
    have J3 := landedE (s' := { s' with heap := h3 }) (o := excH a (clsOf X.K x.cls) dd) J nb fl3.1 (up.trans up3) os ag n0 na (excH_ok he3 hz3.1 hz3.2 hd3)
    have S3 : L2.Inv (X.suite a (X.pn ++ pins)) [] σ' _ { s' with heap := h3 } := G.Inv.suiteE (q := []) J3
    have xN : Ext ca H' (upd H' a (excH a (clsOf X.K x.cls) dd)) := ExtP.new na
    have eo1 := (eo.ext eH).ext xN
    have rlx : Rl X.K ca (U Z Y) (upd H' a (excH a (clsOf X.K x.cls) dd)) (.ref a) (excD x) := by
      have z := Rl.exc (ca := ca) (Z := U Z Y) xk (upd_same (H := H') (a := a) (o := excH a (clsOf X.K x.cls) dd)) (by rw [upd_ne (ne_of_none hdd na)]; exact hdd) (hra.ext xN eo.zc)
      unfold excD
      rw [← hks]
      exact z
    have go : ∀ {hds' : List ExceptHandler} {l' : List Hd}, HdsG X ca hds' l' → DoS X.K ca E Z D Y H (runHds l' x ρ c1) →
        wpAny (model X.prog X.w) X.A (handleBy (.ref a) X.env hds') (SP X pins D) X.xe { s' with heap := h3 } := by
      intro hds' l' hk
      have LT : PySem.W.Looks (model X.prog X.w) h3 (typeOf (.ref a)) (.ref (clsOf X.K x.cls)) := fun A Q E s k q => wpAny_typeOf_ref (k _ _ he3) (by rw [hz3.1]; exact q)
      induction hk with
      | nil =>
        intro w
        have w : EOkS X.K ca E Z Y H x c1 := w
        refine wpAny_handleBy_nil ?_
        obtain ⟨k1, k2, k3, oe, vs, T, oT, ts', he, hz, hd, h1, hr⟩ := id fl3
        unfold PySem.passOn
        refine wpAny_bind (wpAny_field he hd h1 ?_)
        rw [if_neg (show ¬ ((Value.ref T == Value.none) = true) from by simp)]
        have fin : wpAny (model X.prog X.w) X.A (setFlight (.ref a) X.env.frame) (fun _ s4 => wpAny (model X.prog X.w) X.A (throw (.ref a) : Sem Flow) (SP X pins D) X.xe s4) X.xe { s' with heap := h3 } := by
          rw [hf]
          refine HandSPX.setFlight_upZ fl3 fun h4 hh4 up4 => wpAny_throw (tk _ _ ?_)
          exact ⟨a, B, sI, pins, σ', H', _, some dd, rfl, J, nb, (up.trans up3).trans up4, .inr (.inr (by rw [hs]; exact hh4)), na, os, ag, w Y _ _ _ (.of eH) ⟨xk, rfl, dd, fs, rfl, hdd, hks, hra⟩ co1⟩
        first
          | exact wpAny_bind (wpAny_pure (wpAny_bind fin))
          | exact wpAny_bind fin
      | @as_ cx n i gs b₀ suite np pos' hds2 l2 hc hk hi hln hsu r ih =>
        intro w
        have hloc : Loc X.env.scope n := .inl hln
        have hb1 := (xk.kit hk).2
        refine wpAny_handleBy_cons (codeAny_handlers_test ?_) (by intro q; cases q)
        have LM := PySem.W.exm_one (M := model X.prog X.w) J3.kIn LT hb1
        have test : ∀ {Q : Value → Shared → Prop} {E : Value → Shared → Prop}, Q (.ref (clsOf X.K cx)) { s' with heap := h3 } → wpAny (model X.prog X.w) (X.A.mark (some (.ref a))) (eval (.Name cx np) X.env) Q E { s' with heap := h3 } := fun {Q E} q => by
          obtain ⟨hg, hdbg, hm | ⟨hm, hv, hnn⟩⟩ := hc
          · exact ld_glob (X := X.suite a (X.pn ++ pins)) S3 hg hm q hdbg
          · exact ld_blt (X := X.suite a (X.pn ++ pins)) S3 hg hm hv q hnn hdbg
        refine test (LM.here ?_)
        cases hsub : errSub x.cls cx with
        | true =>
          have w : DoS X.K ca E Z D Y H ((if errSub x.cls cx = true then (nx (gs (setO ρ (some i) (.val (excD x)))) >>= fun p => pure (setO p.1 (some i) .no, p.2)) else runHds l2 x ρ) c1) := w
          rw [if_pos hsub] at w
          refine codeAny_handlers_suite_as ?_
          refine HandSPX.lands_againZ fl3 fun h4 fl4 up4 => ?_
          obtain ⟨oe4, vs4, he4, hz4, hd4⟩ := fl4.there
          have J4 := landedE (s' := { s' with heap := h4 }) (o := excH a (clsOf X.K x.cls) dd) J nb fl4.1 ((up.trans up3).trans up4) os ag n0 na (excH_ok he4 hz4.1 hz4.2 hd4)
          have S4 : L2.Inv (X.suite a (X.pn ++ pins)) [] σ' _ { s' with heap := h4 } := G.Inv.suiteE (q := []) J4
          refine store_ok (X := X.suite a (X.pn ++ pins)) (v := .ref a) S4 hN hi hloc rfl (fun s5 S5 => ?_) (.inr hln)
          refine wpAny_mono ((hsu a (X.pn ++ pins)).run [] s5 _ _ { nx := fun σ' H' => D.nx (σ'.set i none) H', rt := D.rt, bk := fun σ' H' => D.bk (σ'.set i none) H', ct := fun σ' H' => D.ct (σ'.set i none) H' } S5 ?_) (fun f s6 hsp => ?_) (fun _ _ z => False.elim z)
          · refine ⟨Z, Y, _, c1, eo1.set i rlx, co1.new na, ?_⟩
            have w2 := (At.bind.mp w)
            unfold nx at w2
            cases hg : gs (setO ρ (some i) (.val (excD x))) c1 with
            | ok p c2 =>
              rw [hg] at w2
              have hg : gs (ρ.set i (.val (excD x))) c1 = .ok p c2 := hg
              rw [hg]
              show Fin X.K ca Z _ Y _ p c2
              intro Y' σ2 H2 st2 eo2 co2
              have w3 : Fin X.K ca Z D Y H (setO p.1 (some i) .no, p.2) c2 := w2
              obtain ⟨ρ2, ctl⟩ := p
              have st3 : Step ca Y H Y' H2 := ((Step.of (eH.trans xN)).trans st2)
              have w4 := w3 Y' (σ2.set i none) H2 st3 (eo2.forget i) co2
              cases ctl with
              | nx => exact w4
              | bk => exact w4
              | ct => exact w4
              | ret d => exact w4
            | exn x' c2 => rw [hg] at w2; exact w2.elim
            | stuck => rw [hg] at w2; exact w2.elim
          · have end_ : ∀ {σ6 : L2.St} {H6 : Hp} {Q : Shared → Prop}, L2.Inv (X.suite a (X.pn ++ pins)) [] σ6 H6 s6 → (∀ s7, L2.Inv X pins (σ6.set i none) H6 s7 → Q s7) →
                wpAny (model X.prog X.w) X.A (do bindName X.env n .none; unbindBehindTheSuite X.env n pos') (fun _ s7 => Q s7) X.xe s6 := fun {σ6 H6 Q} S6 hq => gone_ok (G.Inv.unsuiteE S6 ok) hN hi hln hq
            cases f with
            | next =>
              obtain ⟨σ6, H6, S6, q6⟩ := hsp
              exact end_ S6 fun s7 J7 => ⟨_, _, J7, q6⟩
            | brk =>
              obtain ⟨σ6, H6, S6, q6⟩ := hsp
              exact end_ S6 fun s7 J7 => ⟨_, _, J7, q6⟩
            | cont =>
              obtain ⟨σ6, H6, S6, q6⟩ := hsp
              exact end_ S6 fun s7 J7 => ⟨_, _, J7, q6⟩
            | ret u =>
              obtain ⟨v6, σ6, H6, S6, r6, q6⟩ := hsp
              exact end_ S6 fun s7 J7 => ⟨_, _, _, J7, r6, q6⟩
        | false =>
          have w : DoS X.K ca E Z D Y H ((if errSub x.cls cx = true then (nx (gs (setO ρ (some i) (.val (excD x)))) >>= fun p => pure (setO p.1 (some i) .no, p.2)) else runHds l2 x ρ) c1) := w
          rw [if_neg (by rw [hsub]; decide)] at w
          show wpAny _ X.A (handleBy (.ref a) X.env hds2) _ _ _
          exact ih w
      | @no_ cx gs b₀ suite np pos' hds2 l2 hc hk hsu r ih =>
        intro w
        have hb1 := (xk.kit hk).2
        refine wpAny_handleBy_cons (codeAny_handlers_test ?_) (by intro q; cases q)
        have LM := PySem.W.exm_one (M := model X.prog X.w) J3.kIn LT hb1
        have test : ∀ {Q : Value → Shared → Prop} {E : Value → Shared → Prop}, Q (.ref (clsOf X.K cx)) { s' with heap := h3 } → wpAny (model X.prog X.w) (X.A.mark (some (.ref a))) (eval (.Name cx np) X.env) Q E { s' with heap := h3 } := fun {Q E} q => by
          obtain ⟨hg, hdbg, hm | ⟨hm, hv, hnn⟩⟩ := hc
          · exact ld_glob (X := X.suite a (X.pn ++ pins)) S3 hg hm q hdbg
          · exact ld_blt (X := X.suite a (X.pn ++ pins)) S3 hg hm hv q hnn hdbg
        refine test (LM.here ?_)
        cases hsub : errSub x.cls cx with
        | true =>
          have w : DoS X.K ca E Z D Y H ((if errSub x.cls cx = true then (nx (gs (setO ρ none (.val (excD x)))) >>= fun p => pure (setO p.1 none .no, p.2)) else runHds l2 x ρ) c1) := w
          rw [if_pos hsub] at w
          refine codeAny_handlers_suite ?_
          refine HandSPX.lands_againZ fl3 fun h4 fl4 up4 => ?_
          obtain ⟨oe4, vs4, he4, hz4, hd4⟩ := fl4.there
          have J4 := landedE (s' := { s' with heap := h4 }) (o := excH a (clsOf X.K x.cls) dd) J nb fl4.1 ((up.trans up3).trans up4) os ag n0 na (excH_ok he4 hz4.1 hz4.2 hd4)
          have S4 : L2.Inv (X.suite a (X.pn ++ pins)) [] σ' _ { s' with heap := h4 } := G.Inv.suiteE (q := []) J4
          refine wpAny_mono ((hsu a (X.pn ++ pins)).run [] _ _ _ D S4 ?_) (fun f s6 hsp => ?_) (fun _ _ z => False.elim z)
          · refine ⟨Z, Y, _, c1, eo1, co1.new na, ?_⟩
            have w2 := (At.bind.mp w)
            unfold nx at w2
            cases hg : gs (setO ρ none (.val (excD x))) c1 with
            | ok p c2 =>
              rw [hg] at w2
              have hg : gs ρ c1 = .ok p c2 := hg
              rw [hg]
              show Fin X.K ca Z _ Y _ p c2
              intro Y' σ2 H2 st2 eo2 co2
              have w3 : Fin X.K ca Z D Y H p c2 := w2
              exact w3 Y' σ2 H2 ((Step.of (eH.trans xN)).trans st2) eo2 co2
            | exn x' c2 => rw [hg] at w2; exact w2.elim
            | stuck => rw [hg] at w2; exact w2.elim
          · cases f with
            | next =>
              obtain ⟨σ6, H6, S6, q6⟩ := hsp
              exact ⟨_, _, G.Inv.unsuiteE S6 ok, q6⟩
            | brk =>
              obtain ⟨σ6, H6, S6, q6⟩ := hsp
              exact ⟨_, _, G.Inv.unsuiteE S6 ok, q6⟩
            | cont =>
              obtain ⟨σ6, H6, S6, q6⟩ := hsp
              exact ⟨_, _, G.Inv.unsuiteE S6 ok, q6⟩
            | ret u =>
              obtain ⟨v6, σ6, H6, S6, r6, q6⟩ := hsp
              exact ⟨_, _, _, G.Inv.unsuiteE S6 ok, r6, q6⟩
        | false =>
          have w : DoS X.K ca E Z D Y H ((if errSub x.cls cx = true then (nx (gs (setO ρ none (.val (excD x)))) >>= fun p => pure (setO p.1 none .no, p.2)) else runHds l2 x ρ) c1) := w
          rw [if_neg (by rw [hsub]; decide)] at w
          show wpAny _ X.A (handleBy (.ref a) X.env hds2) _ _ _
          exact ih w
    exact go hh hD
  · -- what the body does
    refine ⟨Z, Y, ρ, c, hΦ, eo, co, ?_⟩
    unfold sTry at h
    cases hfr2 : f ρ c with
    | ok d c1 =>
      rw [hfr2] at h
      show ∀ v H', Ext ca H H' → Rl X.K ca (U Z Y) H' v d → ChOk X.K ca H' c1 → D.nx (setV σ store (some v)) H'
      intro v H' e' r' co'
      have h : Fin X.K ca Z D Y H (setO ρ store (.val d), .nx) c1 := h
      exact h Y _ H' (.of e') ((eo.ext e').setO store r') co'
    | exn x c1 =>
      rw [hfr2] at h
      show EOk X.K ca _ (U Z Y) H x c1
      intro cv od H' e' xr co'
      exact ⟨rfl, x, c1, e', xr, co', h⟩
    | stuck => rw [hfr2] at h; exact h.elim
  · cases f with
    | next =>
      obtain ⟨σ', H', J', q⟩ := hsp
      exact wpAny_execs_nil ⟨σ', H', J'.ofTry ok, q⟩
    | brk =>
      obtain ⟨σ', H', J', q⟩ := hsp
      exact ⟨σ', H', J'.ofTry ok, q⟩
    | cont =>
      obtain ⟨σ', H', J', q⟩ := hsp
      exact ⟨σ', H', J'.ofTry ok, q⟩
    | ret u =>
      obtain ⟨v, σ', H', J', r, q⟩ := hsp
      exact ⟨v, σ', H', J'.ofTry ok, r, q⟩
/-- behind a statement at which Φ was known -/
theorem ss_consP {Φ : PhT} {st : Stmt} {rest : List Stmt} {a b : Sm} (h1 : PS X st (tSP X.K ca E Φ a)) (h2 : PSs X rest (tS X.K ca E b)) : PSs X (st :: rest) (tSP X.K ca E Φ (sSeq a b)) := by
  refine ⟨fun pins s σ H Dn I h => (pss_cons h1 h2).run pins s σ H Dn I ?_⟩
  obtain ⟨Z, Y, ρ, c, hΦ, eo, co, h⟩ := h
  refine ⟨Z, Y, ρ, c, hΦ, eo, co, At.mono (At.bind.mp h) (fun p c1 h1 => ?_) fun _ _ z => z⟩
  intro Y' σ' H' st' eo' co'
  obtain ⟨ρ1, ctl⟩ := p
  cases ctl with
  | nx => exact ⟨Z, Y', ρ1, c1, eo', co', DoS.step st' h1⟩
  | bk => exact h1 Y' σ' H' st' eo' co'
  | ct => exact h1 Y' σ' H' st' eo' co'
  | ret d => exact h1 Y' σ' H' st' eo' co'
/-- what names but the first are given to does not matter -/
def PhSet (Φ : PhT) : Prop := (∀ σ Z Y H i v, i ≠ 0 → Φ σ Z Y H → Φ (σ.set i v) Z Y H) ∧ ∀ (σ : L2.St) (Z Y : Addr → Prop) (H : Hp) (p : Addr) (u : HO), H p = none → Φ σ Z Y H → Φ σ Z Y (upd H p u)
/-- ahead of it: x = a constant -/
theorem ss_preP {Φ : PhT} (hΦ : PhSet Φ) (i : Nat) {d : D} {v : V} {x : Str} {e : Expr} {pos' : Pos} {rest : List Stmt} {b : Sm} (hN : X.N.Nodup) (he : PE X e (tC v)) (hr : ∀ Z H, Rl X.K ca Z H v d) (h2 : PSs X rest (tSP X.K ca E Φ b)) (hi : X.N[i]? = some x := by rfl) (h0 : i ≠ 0 := by decide)
    (hx : Loc X.env.scope x := by first | exact Or.inl rfl | exact Or.inr rfl) (hs : swapsWith e (some (.Name x pos')) pos.line X.env = pure false := by rfl) (hf : X.fn x = true ∨ X.env.scope.names.lookup x = some .local := by first | exact .inl rfl | exact .inr rfl) :
    PSs X (.Assign [.Name x pos'] e pos :: rest) (tSP X.K ca E Φ (sSeq (sAsg (gN i) (eC d)) b)) := by
  refine ⟨fun pins s σ H Dn I h => (pss_cons (ps_set hN hi hx he hs hf) h2).run pins s σ H Dn I ?_⟩
  obtain ⟨Z, Y, ρ, c, hp, eo, co, h⟩ := h
  exact ⟨Z, Y, _, c, hΦ.1 _ _ _ _ _ _ h0 hp, eo.set i (hr _ _), co, h⟩
end
end G
set_option Elab.async false
set_option linter.all false
set_option maxRecDepth 100000
set_option maxHeartbeats 8000000
/-! KP: C(e, ..), C(k = e, ..), C() as values. -/
namespace G
open PySem PySem.Spec PyProof.Rows L2
section
variable {X : Cx} {pins : List (Addr × Obj)} {σ : L2.St} {H1 H2 : Hp} {hp hp2 h2 : Heap} {g1 g2 : Array GenState} {d1 d2 : Drawn} {t1 t2 : Nat} {os1 os2 : OsState} {a C d : Addr} {fs : List (Str × V)}
/-- made: the error is tracked from now on -/
theorem mkv_end (I1 : L2.Inv X pins σ H1 ⟨hp, g1, d1, t1, os1⟩)
    (ha : hp.objs.size ≤ a) (k : ∀ b o, hp.get? b = some o → hp2.get? b = some o) (un : Un (frs X.stack) [] (upd H1 a (exo a C none)) H2 hp2 h2) (hok : HOk X.prog X.w H2 h2) (ho : os2 = os1) (hb : AllBare g2)
    (ea : H2 a = some (exo a C (some d))) (ed : H2 d = some (exd d fs)) (hd1 : H1 d = none) : L2.Inv X pins σ (upd (upd H2 d (.xd fs)) a (excH a C d)) ⟨h2, g2, d2, t2, os2⟩ := by
  obtain ⟨t0, hoe⟩ := exo_at hok ea
  obtain ⟨mA, hns, rel⟩ := exd_at hok ed
  have hn : H1 a = none := I1.hok.fresh ha
  have nha : ∀ {b : Addr} {o : Obj}, hp.get? b = some o → b ≠ a := fun {b o} z => Nat.ne_of_lt (Nat.lt_of_lt_of_le (Heap.lt_size z) ha)
  have up : ∀ {b : Addr}, b ≠ a → H1 b = none → upd H1 a (exo a C none) b = none := fun {b} hb n => by rw [upd_ne hb]; exact n
  have nd : ∀ {b : Addr} {o : Obj}, hp.get? b = some o → H1 b = none → b ≠ d := fun {b o} z n e => by
    have y := un.free b o (k b o z) (up (nha z) n) (by simp)
    rw [e, ed] at y
    cases y
  have U : Un (frs X.stack) [] H1 (upd (upd H2 d (.xd fs)) a (excH a C d)) hp h2 := {
    keep := fun b o z n hf hx => un.keep b o (k b o z) (up (nha z) n) hf hx
    slot := fun b o z n hf hx => un.slot b o (k b o z) (up (nha z) n) hf hx
    free := fun b o z n hx => by
      rw [upd_ne (nha z), upd_ne (nd z n)]
      exact un.free b o (k b o z) (up (nha z) n) hx
    there := fun b o z hx => un.there b o (k b o z) hx
    tups := fun b xs z => by
      rw [upd_ne (ne_of_none z hn), upd_ne (ne_of_none z hd1)]
      exact un.tups b xs (by rw [upd_ne (ne_of_none z hn)]; exact z)
    frzs := fun b o v z => by
      rw [upd_ne (ne_of_none z hn), upd_ne (ne_of_none z hd1)]
      exact un.frzs b o v (by rw [upd_ne (ne_of_none z hn)]; exact z)
    tbls := fun b ps z => by
      rw [upd_ne (ne_of_none z hn), upd_ne (ne_of_none z hd1)]
      exact un.tbls b ps (by rw [upd_ne (ne_of_none z hn)]; exact z) }
  have hok3 : HOk X.prog X.w (upd (upd H2 d (.xd fs)) a (excH a C d)) h2 := fun b o z => by
    by_cases hba : b = a
    · subst hba
      rw [upd_same] at z
      cases z
      exact excH_ok hoe rfl rfl rfl
    · rw [upd_ne hba] at z
      by_cases hbd : b = d
      · subst hbd
        rw [upd_same] at z
        cases z
        exact ⟨mA, hns, rel⟩
      · rw [upd_ne hbd] at z
        exact (hok b o z).stay (fun c v _ y => y) (fun c hc => by rw [upd_ne (at_ne ea hc exo_own), upd_ne (at_ne ed hc exd_own)]; exact hc)
          (fun c xs hc => by rw [upd_ne (at_ne ea hc exo_tup), upd_ne (at_ne ed hc exd_tup)]; exact hc)
  exact I1.call' (ch := []) ho U hok3 hb (fun b z => absurd z (by simp))
theorem mkv_end0 (I1 : L2.Inv X pins σ H1 ⟨hp, g1, d1, t1, os1⟩)
    (ha : hp.objs.size ≤ a) (k : ∀ b o, hp.get? b = some o → hp2.get? b = some o) (un : Un (frs X.stack) [] (upd H1 a (exo a C none)) H2 hp2 h2) (hok : HOk X.prog X.w H2 h2) (ho : os2 = os1) (hb : AllBare g2)
    (ea : H2 a = some (exo a C none)) : L2.Inv X pins σ (upd H2 a (exc0H a C)) ⟨h2, g2, d2, t2, os2⟩ := by
  obtain ⟨t0, hoe⟩ := exo_at hok ea
  have hn : H1 a = none := I1.hok.fresh ha
  have nha : ∀ {b : Addr} {o : Obj}, hp.get? b = some o → b ≠ a := fun {b o} z => Nat.ne_of_lt (Nat.lt_of_lt_of_le (Heap.lt_size z) ha)
  have up : ∀ {b : Addr}, b ≠ a → H1 b = none → upd H1 a (exo a C none) b = none := fun {b} hb n => by rw [upd_ne hb]; exact n
  have U : Un (frs X.stack) [] H1 (upd H2 a (exc0H a C)) hp h2 := {
    keep := fun b o z n hf hx => un.keep b o (k b o z) (up (nha z) n) hf hx
    slot := fun b o z n hf hx => un.slot b o (k b o z) (up (nha z) n) hf hx
    free := fun b o z n hx => by
      rw [upd_ne (nha z)]
      exact un.free b o (k b o z) (up (nha z) n) hx
    there := fun b o z hx => un.there b o (k b o z) hx
    tups := fun b xs z => by
      rw [upd_ne (ne_of_none z hn)]
      exact un.tups b xs (by rw [upd_ne (ne_of_none z hn)]; exact z)
    frzs := fun b o v z => by
      rw [upd_ne (ne_of_none z hn)]
      exact un.frzs b o v (by rw [upd_ne (ne_of_none z hn)]; exact z)
    tbls := fun b ps z => by
      rw [upd_ne (ne_of_none z hn)]
      exact un.tbls b ps (by rw [upd_ne (ne_of_none z hn)]; exact z) }
  have hok3 : HOk X.prog X.w (upd H2 a (exc0H a C)) h2 := fun b o z => by
    by_cases hba : b = a
    · subst hba
      rw [upd_same] at z
      cases z
      exact ⟨⟨_, _, hoe, rfl, rfl, rfl⟩, ⟨_, hoe⟩, fun _ _ ⟨o, v, q, r⟩ k => ⟨o, v, k o q, r⟩⟩
    · rw [upd_ne hba] at z
      exact (hok b o z).stay (fun c v _ y => y) (fun c hc => by rw [upd_ne (at_ne ea hc exo_own)]; exact hc)
        (fun c xs hc => by rw [upd_ne (at_ne ea hc exo_tup)]; exact hc)
  exact I1.call' (ch := []) ho U hok3 hb (fun b z => absurd z (by simp))
end
/-- how the making ends -/
def EndV (H1 : Hp) (C a : Addr) (H2 : Hp) (Q : VK) : Prop :=
  (∃ (d : Addr) (fs : List (Str × V)), H2 a = some (exo a C (some d)) ∧ H2 d = some (exd d fs) ∧ H1 d = none ∧ Q (.ref a) (upd (upd H2 d (.xd fs)) a (excH a C d))) ∨ (H2 a = some (exo a C none) ∧ Q (.ref a) (upd H2 a (exc0H a C)))
section
variable {X : Cx} {CX : CXT} {k n : Nat} {fI C : Addr} {fd : FuncData} {ps ks : List Str} {sp : Sp} {g : List Value → List Value → List Value} {gV : List V → List V → List V}
theorem run_exv {pins : List (Addr × Obj)} {σ : L2.St} {H1 : Hp} {s1 : Shared} {Q : VK} {us ws : List Value} {vs zs : List V} (T : OexC X.K C) (iC : PySem.W.findIn X.K (.ref C) "__init__" = some (some (.ref fI))) (tI : PySem.W.typeIn X.K (.ref fI) = some (.type "function"))
    (F1 : FnOk X.prog X.w X.K X.mg X.base CX k fI fd ps sp) (hr : Room (k + 1) X.A) (hb : KBn X.K fd ps (n + 1) ks g gV) (hx : Passes CX X (fun _ _ _ => False)) (I1 : L2.Inv X pins σ H1 s1) (r1 : Vals vs us) (rz : Vals zs ws) (l1 : vs.length = n) (l2 : zs.length = ks.length) (hl : vs.length ≤ 1000)
    (h : ∀ a, H1 a = none → sp (gV (.ref a :: vs) zs) (upd H1 a (exo a C none)) (fun v H2 => v = .non ∧ EndV H1 C a H2 Q) (fun _ _ _ => False)) :
    wpAny (model X.prog X.w) X.A (call (.ref C) us (ks.zip ws)) (EP X pins σ Q) X.xe s1 := by
  obtain ⟨nm, q, N, bs, bm, sn, sub, ab, col, dd, k0, k1, k2, k3, k5, hC, hbm⟩ := T.cls
  obtain ⟨hp, gg, dr, tk, os⟩ := s1
  have hsz : hp.objs.size ≤ hp.objs.size + 1 := Nat.le_succ _
  have hn : H1 (hp.objs.size + 1) = none := I1.hok.fresh hsz
  have hq := h (hp.objs.size + 1) hn
  have kk : ∀ b o, hp.get? b = some o → ((hp.push (PySem.W.kdv_tup us)).push (PySem.HandSPX.excO C hp.objs.size)).get? b = some o := fun b o e => Heap.get?_push_of_some _ (Heap.get?_push_of_some _ e)
  have hget : ((hp.push (PySem.W.kdv_tup us)).push (PySem.HandSPX.excO C hp.objs.size)).get? (hp.objs.size + 1) = some (PySem.HandSPX.excO C hp.objs.size) := by heap_get
  have I2 : L2.Inv X pins σ (upd H1 (hp.objs.size + 1) (exo (hp.objs.size + 1) C none)) ⟨(hp.push (PySem.W.kdv_tup us)).push (PySem.HandSPX.excO C hp.objs.size), gg, dr, tk, os⟩ :=
    I1.laid (t' := tk) (a := hp.objs.size + 1) (o := exo (hp.objs.size + 1) C none) (h' := (hp.push (PySem.W.kdv_tup us)).push (PySem.HandSPX.excO C hp.objs.size)) kk hsz (exo_ok hget)
  have r0 : Vals (V.ref (hp.objs.size + 1) :: vs) (Value.ref (hp.objs.size + 1) :: us) := .cons rfl r1
  have r2 := hb.rel r0 rz
  have e1 : (Value.ref (hp.objs.size + 1) :: us).length = n + 1 := r0.length.symm.trans (congrArg Nat.succ l1)
  have e2 : ws.length = ks.length := rz.length.symm.trans l2
  have hus : us.length ≤ sizeLine := by
    rw [← Paired.length r1, sizeLine_eq]
    omega
  refine wpAny_call (PySem.HandSPX.call_ownK F.excBase_ValueError (fun Y => PySem.HandSPX.refsVE_contains Y bm hbm) (I1.kIn _ _ hC) (PySem.W.looks_findIn I1.kIn iC) (fun self => PySem.W.bind_fn I1.kIn self tI) hus
    (codeAny_mono (F1.run _ X.stack _ _ ⟨Value.ref (hp.objs.size + 1) :: us, ks.zip ws⟩ (g (Value.ref (hp.objs.size + 1) :: us) ws) _ _ (fun _ _ _ => False) (hr.make C us (ks.zip ws)) (I2.env0.make C us (ks.zip ws)) (hb.to _ (Value.ref (hp.objs.size + 1) :: us) ws I2.kIn e1 e2) r2 hq) fun r s' hq' => ?_))
  cases r with
  | error er => exact hx pins σ _ _ er s' I2 hq'
  | ok fl =>
    cases fl with
    | ret u =>
      obtain ⟨v, H2, os2, bare2, un2, hok2, rv, ev, q2⟩ := hq'
      subst ev
      obtain ⟨h2, g2, d2, t2, os'⟩ := s'
      rcases q2 with ⟨d, fs, ea, ed, hd1, q2⟩ | ⟨ea, q2⟩
      · exact ⟨rv, V.ref (hp.objs.size + 1), _, mkv_end I1 hsz kk un2 hok2 os2 bare2 ea ed hd1, rfl, q2⟩
      · exact ⟨rv, V.ref (hp.objs.size + 1), _, mkv_end0 I1 hsz kk un2 hok2 os2 bare2 ea, rfl, q2⟩
    | next => exact False.elim hq'
    | brk => exact False.elim hq'
    | cont => exact False.elim hq'
end
end G
set_option Elab.async false
set_option linter.all false
set_option maxRecDepth 100000
set_option maxHeartbeats 8000000
/-! KQ: own errors as values, over trees. -/
namespace G
open PySem PySem.Spec PyProof.Rows L2
section
variable {K : PySem.W.Frag} {ca : Dr} {Z : Addr → Prop} {H1 : Hp} {a : Addr} {c : Str} {Q : VK}
theorem made_two {dx : Addr} {fs : List (Str × V)} {ds : List D} (x : ExcK K c) (na : H1 a = none) (nd : H1 dx = none) (ne : dx ≠ a) (r : RlA K ca Z H1 (fs.map (·.2)) ds) (zc : ∀ b : Addr, b = ca.a → Z b) :
    Ext ca H1 (upd (upd H1 dx (.xd fs)) a (excH a (clsOf K c) dx)) ∧ Rl K ca Z (upd (upd H1 dx (.xd fs)) a (excH a (clsOf K c) dx)) (.ref a) (.exc c (fs.map (·.1)) ds) ∧ ∀ ch, ChOk K ca H1 ch → ChOk K ca (upd (upd H1 dx (.xd fs)) a (excH a (clsOf K c) dx)) ch := by
  have na2 : upd H1 dx (.xd fs) a = none := by rw [upd_ne (Ne.symm ne)]; exact na
  have e1 : Ext ca H1 (upd H1 dx (.xd fs)) := ExtP.new nd
  have e2 : Ext ca (upd H1 dx (.xd fs)) (upd (upd H1 dx (.xd fs)) a (excH a (clsOf K c) dx)) := ExtP.new na2
  refine ⟨e1.trans e2, .exc x upd_same (by rw [upd_ne ne, upd_same]) (r.ext (e1.trans e2) zc), fun ch h => (h.new nd).new na2⟩
theorem made_ok {flds : List Str} {ys : List V} {ds : List D} (two : flds ∈ fldL) (x : ExcK K c) (na : H1 a = none) (r : RlA K ca Z H1 ys ds) (hy : ys.length = flds.length) (zc : ∀ b : Addr, b = ca.a → Z b)
    (q : ∀ H', Ext ca H1 H' → Rl K ca Z H' (.ref a) (.exc c flds.reverse ds.reverse) → (∀ ch, ChOk K ca H1 ch → ChOk K ca H' ch) → Q (.ref a) H') : ∀ H', keptH (upd H1 a (exo a (clsOf K c) none)) a (clsOf K c) (flds.zip ys) H' → EndV H1 (clsOf K c) a H' Q := by
  intro H' hk
  have one_ : ∀ g : Str, flds = [g] → EndV H1 (clsOf K c) a H' Q := fun g e => by
    subst e
    match ys, hy, ds, r, hk with
    | [y], _, [d], .cons r .nil, hk =>
      obtain ⟨dx, hdx, ne, rfl⟩ : ∃ dx, upd H1 a (exo a (clsOf K c) none) dx = none ∧ dx ≠ a ∧ H' = upd (upd (upd H1 a (exo a (clsOf K c) none)) dx (exd dx [(g, y)])) a (exo a (clsOf K c) (some dx)) := hk
      rw [upd_ne ne] at hdx
      obtain ⟨m1, m2, m3⟩ := made_two (fs := [(g, y)]) (ds := [d]) x na hdx ne (.cons r .nil) zc
      refine .inl ⟨dx, [(g, y)], upd_same, by rw [upd_ne ne, upd_same], hdx, ?_⟩
      have e3 : upd (upd (upd (upd (upd H1 a (exo a (clsOf K c) none)) dx (exd dx [(g, y)])) a (exo a (clsOf K c) (some dx))) dx (.xd [(g, y)])) a (excH a (clsOf K c) dx) = upd (upd H1 dx (.xd [(g, y)])) a (excH a (clsOf K c) dx) := by
        funext b
        by_cases hb : b = a
        · rw [hb, upd_same, upd_same]
        · rw [upd_ne hb, upd_ne hb]
          by_cases hd : b = dx
          · rw [hd, upd_same, upd_same]
          · rw [upd_ne hd, upd_ne hb, upd_ne hd, upd_ne hb, upd_ne hd]
      rw [e3]
      exact q _ m1 m2 m3
  have two_ : ∀ g g2 : Str, flds = [g, g2] → EndV H1 (clsOf K c) a H' Q := fun g g2 e => by
    subst e
    match ys, hy, ds, r, hk with
    | [y, y2], _, [d, d2], .cons r (.cons r2 .nil), hk =>
      obtain ⟨dx, hdx, ne, rfl⟩ : ∃ dx, upd H1 a (exo a (clsOf K c) none) dx = none ∧ dx ≠ a ∧ H' = upd (upd (upd (upd H1 a (exo a (clsOf K c) none)) dx (exd dx [(g, y)])) a (exo a (clsOf K c) (some dx))) dx (exd dx [(g2, y2), (g, y)]) := hk
      rw [upd_ne ne] at hdx
      obtain ⟨m1, m2, m3⟩ := made_two (fs := [(g2, y2), (g, y)]) (ds := [d2, d]) x na hdx ne (.cons r2 (.cons r .nil)) zc
      refine .inl ⟨dx, [(g2, y2), (g, y)], by rw [upd_ne (Ne.symm ne), upd_same], upd_same, hdx, ?_⟩
      have e3 : upd (upd (upd (upd (upd (upd H1 a (exo a (clsOf K c) none)) dx (exd dx [(g, y)])) a (exo a (clsOf K c) (some dx))) dx (exd dx [(g2, y2), (g, y)])) dx (.xd [(g2, y2), (g, y)])) a (excH a (clsOf K c) dx) = upd (upd H1 dx (.xd [(g2, y2), (g, y)])) a (excH a (clsOf K c) dx) := by
        funext b
        by_cases hb : b = a
        · rw [hb, upd_same, upd_same]
        · rw [upd_ne hb, upd_ne hb]
          by_cases hd : b = dx
          · rw [hd, upd_same, upd_same]
          · rw [upd_ne hd, upd_ne hd, upd_ne hb, upd_ne hd, upd_ne hb, upd_ne hd]
      rw [e3]
      exact q _ m1 m2 m3
  simp only [fldL, List.mem_cons, List.not_mem_nil, or_false] at two
  rcases two with rfl | rfl | rfl | rfl | rfl | rfl
  · match ys, hy, ds, r, hk with
    | [], _, [], _, hk =>
      have hk : H' = upd H1 a (exo a (clsOf K c) none) := hk
      subst hk
      refine .inr ⟨upd_same, ?_⟩
      rw [upd_upd]
      exact q _ (ExtP.new na) (.exc0 x upd_same) fun ch h => h.new na
  · exact one_ _ rfl
  · exact one_ _ rfl
  · exact two_ _ _ rfl
  · exact two_ _ _ rfl
  · exact two_ _ _ rfl
end
theorem RlA.revv {K : PySem.W.Frag} {ca : Dr} {Z : Addr → Prop} {H : Hp} : ∀ {vs : List V} {ds : List D}, RlA K ca Z H vs ds → RlA K ca Z H vs.reverse ds.reverse
  | _, _, .nil => .nil
  | _, _, .cons r rs => by
    rw [List.reverse_cons, List.reverse_cons]
    exact (RlA.revv rs).append (.cons r .nil)
/-- C(e, ..) -/
def eMk (c : Str) (flds : List Str) (fs : Ev → M (List D)) : Ev → M D := fun ρ => fs ρ >>= fun ds => liftO (if ds.length = flds.length then some (.exc c flds.reverse ds.reverse) else none)
/-- C(k = e, ..), the fields told from the last to the first -/
def eMkK (c : Str) (flds : List Str) (fs : Ev → M (List D)) : Ev → M D := fun ρ => fs ρ >>= fun ds => liftO (if ds.length = flds.length then some (.exc c flds.reverse ds) else none)
section
variable {X : Cx} {ca : Dr} {E : XK} {e : Expr} {es : List Expr} {kws : List Keyword} {fs : Ev → M (List D)} {p pos : Pos} {c : Str} {flds : List Str} {k : Nat}
theorem fld_few (two : flds ∈ fldL) : flds.length ≤ 2 := by
  simp only [fldL, List.mem_cons, List.not_mem_nil, or_false] at two
  rcases two with rfl | rfl | rfl | rfl | rfl | rfl <;> decide
theorem d_mk (x : IniXn X.prog X.w X.K X.mg X.base c flds) (hr : Room k X.A) (ha : PA X (e :: es) (tAs X.K ca E fs)) (hk : 2 ≤ k := by decide) (hg : Gl X c := by rfl)
    (hdb : (c == ("__debug__" : Str)) = false := by decide) (he : starEach (e :: es) X.env = (false, eval e X.env) :: starEach es X.env := by rfl) (hpl : (backTo pos (starEach es X.env)).any (·.1) = false := by rfl) :
    PE X (.Call (.Name c p) (e :: es) [] pos) (tD X.K ca E (eMk c flds fs)) := by
  obtain ⟨fI, Dd, fd, i1, i2, TC, F1, kb1, kb2⟩ := x.ini
  refine ⟨fun pins s σ H Q I h => ?_⟩
  have h' : tAs X.K ca E fs σ H fun vs H1 => vs.length = flds.length ∧ vs.length ≤ 1000 ∧ ∀ a, H1 a = none → spIniN X.K Dd flds ((V.ref a :: vs) ++ []) (upd H1 a (exo a (clsOf X.K c) none)) (fun v H2 => v = .non ∧ EndV H1 (clsOf X.K c) a H2 Q) (fun _ _ _ => False) := by
    obtain ⟨Z, Y, ρ, cc, eo, co, h⟩ := h
    refine ⟨Z, Y, ρ, cc, eo, co, (Do.bind h).mono fun ds c1 h1 vs H1 e1 r1 co1 => ?_⟩
    obtain ⟨z, hz, h2⟩ := Do.lift h1
    by_cases hl : ds.length = flds.length
    · rw [if_pos hl] at hz
      cases hz
      have ll : vs.length = flds.length := by rw [r1.length, hl]
      refine ⟨ll, by have := fld_few x.two; omega, fun a na => ⟨a, clsOf X.K c, vs, by rw [List.append_nil], ll, TC, upd_same, x.no, fun H' hk' => ⟨rfl, ?_⟩⟩⟩
      exact made_ok x.two x.exk na r1 ll eo.zc (fun H' e2 r2 c2 => h2 _ H' (e1.trans e2) r2 (c2 _ co1)) H' hk'
    · rw [if_neg hl] at hz; cases hz
  refine wpAny_Call_Name_kw (ld_glob I hg x.mgc ?_ hdb)
  refine PySem.W.callWith_K (h₀ := X.base) I.ok.mod.kin x.oex.kC (thn (ha.run pos pins s σ H _ I h') fun us s1 ⟨vs, H1, I1, r1, l1, l2, q1⟩ => ⟨I1.kIn, ?_⟩) he hpl
  show wpAny _ _ (call (.ref (clsOf X.K c)) us ([].zip [])) _ _ _
  exact run_exv (ks := []) (ws := []) (zs := []) x.oex i1 i2 F1 (hr.mono hk) kb1 passA I1 r1 .nil l1 rfl l2 q1
theorem d_mk0 (x : IniXn X.prog X.w X.K X.mg X.base c []) (hr : Room k X.A) (hk : 2 ≤ k := by decide) (hg : Gl X c := by rfl) (hdb : (c == ("__debug__" : Str)) = false := by decide) :
    PE X (.Call (.Name c p) [] [] pos) (tD X.K ca E (eMk c [] aNil)) := by
  obtain ⟨fI, Dd, fd, i1, i2, TC, F1, kb1, kb2⟩ := x.ini
  refine ⟨fun pins s σ H Q I h => ?_⟩
  have h' : ∀ a, H a = none → spIniN X.K Dd [] ((V.ref a :: []) ++ []) (upd H a (exo a (clsOf X.K c) none)) (fun v H2 => v = .non ∧ EndV H (clsOf X.K c) a H2 Q) (fun _ _ _ => False) := by
    obtain ⟨Z, Y, ρ, cc, eo, co, h⟩ := h
    have h2 : Do X.K ca E (U Z Y) H ((liftO (some (D.exc c [] []))) cc) _ := h
    obtain ⟨z, hz, h2⟩ := Do.lift h2
    cases hz
    intro a na
    refine ⟨a, clsOf X.K c, [], rfl, rfl, TC, upd_same, x.no, fun H' hk' => ⟨rfl, ?_⟩⟩
    exact made_ok (Z := U Z Y) (ds := []) x.two x.exk na .nil rfl eo.zc (fun H' e2 r2 c2 => h2 _ H' e2 r2 (c2 _ co)) H' hk'
  refine wpAny_Call_Name_kw (ld_glob I hg x.mgc ?_ hdb)
  refine PySem.W.callWith_K0 I.kIn x.oex.kC ?_
  show wpAny _ _ (call (.ref (clsOf X.K c)) [] ([].zip [])) _ _ _
  exact run_exv (ks := []) (us := []) (vs := []) (ws := []) (zs := []) x.oex i1 i2 F1 (hr.mono hk) kb1 passA I .nil .nil rfl rfl (by decide) h'
theorem d_mkK (x : IniXn X.prog X.w X.K X.mg X.base c flds) (hr : Room k X.A) (hkw : PK X kws (tAs X.K ca E fs)) (hk : 2 ≤ k := by decide) (hg : Gl X c := by rfl)
    (hall : (backToKw pos (keywordEach kws X.env)).all (·.1.isSome) = true := by rfl) (hks : (backToKw pos (keywordEach kws X.env)).filterMap (·.1) = flds.reverse := by rfl) (hdb : (c == ("__debug__" : Str)) = false := by decide)
    (hpl : ((backTo pos (starEach [] X.env)).any (·.1) || (backToKw pos (keywordEach kws X.env)).any (·.1.isNone)) = false := by rfl) :
    PE X (.Call (.Name c p) [] kws pos) (tD X.K ca E (eMkK c flds fs)) := by
  obtain ⟨fI, Dd, fd, i1, i2, TC, F1, kb1, kb2⟩ := x.ini
  refine ⟨fun pins s σ H Q I h => ?_⟩
  have h' : tAs X.K ca E fs σ H fun zs H1 => zs.length = flds.reverse.length ∧ ∀ a, H1 a = none → spIniN X.K Dd flds ((V.ref a :: []) ++ zs.reverse) (upd H1 a (exo a (clsOf X.K c) none)) (fun v H2 => v = .non ∧ EndV H1 (clsOf X.K c) a H2 Q) (fun _ _ _ => False) := by
    obtain ⟨Z, Y, ρ, cc, eo, co, h⟩ := h
    refine ⟨Z, Y, ρ, cc, eo, co, (Do.bind h).mono fun ds c1 h1 vs H1 e1 r1 co1 => ?_⟩
    obtain ⟨z, hz, h2⟩ := Do.lift h1
    by_cases hl : ds.length = flds.length
    · rw [if_pos hl] at hz
      cases hz
      have ll : vs.reverse.length = flds.length := by rw [List.length_reverse, r1.length, hl]
      refine ⟨by rw [List.length_reverse] at ll ⊢; exact ll, fun a na => ⟨a, clsOf X.K c, vs.reverse, rfl, ll, TC, upd_same, x.no, fun H' hk' => ⟨rfl, ?_⟩⟩⟩
      refine made_ok (ds := ds.reverse) x.two x.exk na r1.revv ll eo.zc (fun H' e2 r2 c2 => ?_) H' hk'
      rw [List.reverse_reverse] at r2
      exact h2 _ H' (e1.trans e2) r2 (c2 _ co1)
    · rw [if_neg hl] at hz; cases hz
  refine wpAny_Call_Name_kw (ld_glob I hg x.mgc ?_ hdb)
  refine PySem.W.callWith_KW0 (h₀ := X.base) I.ok.mod.kin x.oex.kC hall ?_ hpl
  refine thn (hkw.run pos pins s σ H _ I h') fun ws s2 ⟨zs, H2, I2, rz, l2, q2⟩ => ⟨I2.kIn, ?_⟩
  rw [hks]
  exact run_exv (us := []) (vs := []) x.oex i1 i2 F1 (hr.mono hk) kb2 passA I2 .nil rz rfl l2 (by decide) q2
end
section
variable {ρ : Ev} {ch : Churn} {k : D → Churn → Prop} {fs : Ev → M (List D)} {c : Str} {flds : List Str}
theorem ok_mk : Ok (eMk c flds fs ρ ch) k = Ok (fs ρ ch) fun ds c1 => ds.length = flds.length ∧ k (.exc c flds.reverse ds.reverse) c1 := by
  unfold eMk
  simp only [ok_bind, ok_lift]
  congr 1
  funext ds c1
  apply propext
  by_cases h : ds.length = flds.length
  · rw [if_pos h]
    exact ⟨fun ⟨z, e, q⟩ => by cases e; exact ⟨h, q⟩, fun ⟨_, q⟩ => ⟨_, rfl, q⟩⟩
  · rw [if_neg h]
    exact ⟨fun ⟨z, e, q⟩ => (by cases e), fun ⟨e, _⟩ => absurd e h⟩
theorem ok_mkK : Ok (eMkK c flds fs ρ ch) k = Ok (fs ρ ch) fun ds c1 => ds.length = flds.length ∧ k (.exc c flds.reverse ds) c1 := by
  unfold eMkK
  simp only [ok_bind, ok_lift]
  congr 1
  funext ds c1
  apply propext
  by_cases h : ds.length = flds.length
  · rw [if_pos h]
    exact ⟨fun ⟨z, e, q⟩ => by cases e; exact ⟨h, q⟩, fun ⟨_, q⟩ => ⟨_, rfl, q⟩⟩
  · rw [if_neg h]
    exact ⟨fun ⟨z, e, q⟩ => (by cases e), fun ⟨e, _⟩ => absurd e h⟩
end
end G
set_option Elab.async false
set_option linter.all false
set_option maxRecDepth 100000
set_option maxHeartbeats 8000000
/-! KR: isinstance of an own error by built-in classes of errors. -/
namespace G
open PySem PySem.Spec PyProof.Rows L2
def errTys : List String := ["ValueError", "LookupError", "TypeError", "ArithmeticError", "AttributeError", "RuntimeError"]
def excT (T : String) : Bool := T == "ValueError"
def errTB (K : PySem.W.Frag) : Bool := errN.all fun c => !(PySem.W.clsIn K (clsOf K c)).isSome || errTys.all fun T => decide (PySem.W.kitOne K (.ref (clsOf K c)) (.type T) = some (excT T))
theorem errTB_one {K : PySem.W.Frag} (h : errTB K = true) {c : Str} (x : ExcK K c) {T : String} (hT : T ∈ errTys) : PySem.W.kitOne K (.ref (clsOf K c)) (.type T) = some (excT T) := by
  obtain ⟨x1, _⟩ := ba2 (show excKB K c = true from x)
  obtain ⟨x2, _⟩ := ba2 x1
  have z := List.all_eq_true.mp h c (of_decide_eq_true x2)
  have x3 : (PySem.W.clsIn K (clsOf K c)).isSome = true := (ba2 (ba2 x1).2).1
  rw [x3] at z
  have z : (!true || errTys.all fun T => decide (PySem.W.kitOne K (.ref (clsOf K c)) (.type T) = some (excT T))) = true := z
  rw [Bool.not_true, Bool.false_or] at z
  exact of_decide_eq_true (List.all_eq_true.mp z T hT)
def tyE : D → Option String
  | .ty n => if n ∈ errTys then some n else none
  | _ => none
def tyEs : List D → Option (List String)
  | [] => some []
  | d :: ds => (tyE d).bind fun n => (tyEs ds).map (n :: ·)
def gIsE : List D → Option D
  | [.exc k _ _, .tup (c :: cs)] => if k ∈ errN then (tyEs (c :: cs)).map fun ns => .bl (ns.any excT) else none
  | [.exc k _ _, c] => if k ∈ errN then (tyE c).map fun n => .bl (excT n) else none
  | _ => none
def ClsE (K : PySem.W.Frag) (H : Hp) (ns : List String) (c : V) : Prop := (∃ n, ns = [n] ∧ c = .ty n) ∨ (∃ tp, c = .ref tp ∧ H tp = some (.tup (ns.map V.ty))) ∨ ∃ (tp : Addr) (us : List Value) (n : Nat) (sl : Array (Option Value)), c = .ref tp ∧ K.lookup tp = some ⟨.type "tuple", none, .seq us.toArray n, sl⟩ ∧ us = ns.map Value.type
def rIsE (K : PySem.W.Frag) (ca : Dr) : List V → Hp → VK → Prop := fun xs H Q => ∃ v c Z cn ks ds ns, xs = [v, c] ∧ Rl K ca Z H v (.exc cn ks ds) ∧ cn ∈ errN ∧ ClsE K H ns c ∧ (∀ n ∈ ns, n ∈ errTys) ∧ Q (.bl (ns.any excT)) H
theorem vals_tys : ∀ {ns : List String} {us : List Value}, Vals (ns.map V.ty) us → us = ns.map Value.type
  | [], _, .nil => rfl
  | n :: ns, _, .cons r rs => by
    cases r
    rw [vals_tys rs]
    rfl
theorem kitAny_tys {K : PySem.W.Frag} {t : Value} {f : String → Bool} : ∀ {ns : List String}, (∀ n ∈ ns, PySem.W.kitOne K t (.type n) = some (f n)) → PySem.W.kitAny K t (ns.map Value.type) = some (ns.any f)
  | [], _ => kitAny_nil
  | n :: ns, h => by
    rw [List.map_cons, List.any_cons]
    refine kitAny_cons (h n List.mem_cons_self) (fun e => ?_) fun e => by rw [e, Bool.true_or]
    rw [e, Bool.false_or]
    exact kitAny_tys fun m hm => h m (List.mem_cons_of_mem _ hm)
section
variable {X : Cx} {ca : Dr} {K : PySem.W.Frag}
theorem call_isE (hB : errTB X.K = true) : CallR X (.builtin "isinstance") (rIsE X.K ca) := by
  intro pins s σ H xs us Q I r h
  obtain ⟨v, c, Z, cn, ks, ds, ns, rfl, rl, hcn, hc, hn, q⟩ := h
  cases r with | cons rv rr =>
  cases rr with | cons rc rr =>
  cases rr
  rename_i u uc
  have kit : ∃ (t : Value) (Pp : Heap → Prop), PySem.W.KitX X.K u t Pp ∧ Pp s.heap ∧ u ≠ .builtin "__main__.__loader__#opaque" ∧ ∀ n ∈ ns, PySem.W.kitOne X.K t (.type n) = some (excT n) := by
    cases rl with
    | exc x ha hd ra =>
      rename_i a dd fs
      cases rv
      obtain ⟨⟨oe, vs, ho, hcl, hdi, hda⟩, _, _⟩ := I.hok _ _ ha
      have hx : ObjOk X.prog X.w H s.heap dd (.xd fs) := I.hok dd _ hd
      obtain ⟨mA, hns, _⟩ := hx
      obtain ⟨od, hod, _⟩ := lookIn_ns hns
      obtain ⟨x1, x2⟩ := ba2 (show excKB X.K cn = true from x)
      obtain ⟨x3, x1⟩ := ba2 x1
      obtain ⟨x4, x1⟩ := ba2 x1
      obtain ⟨x5, x1⟩ := ba2 x1
      obtain ⟨x6, x1⟩ := ba2 x1
      obtain ⟨x7, x1⟩ := ba2 x1
      obtain ⟨x8, x9⟩ := ba2 x1
      have T := xfB_ok x5
      refine ⟨.ref (clsOf X.K cn), fun h => PySem.W.InstAt h a oe (clsOf X.K cn) (some od), PySem.W.kitx_exc x4 T.ga T.gg T.exC (of_decide_eq_true x6) (of_decide_eq_true x7) (of_decide_eq_true x8) (of_decide_eq_true x9), ?_, (fun z => nomatch z), fun n h => errTB_one hB x (hn n h)⟩
      exact ⟨ho, hcl, by unfold PySem.W.notCls; rw [hda] <;> rfl, by rw [hdi]; exact hod⟩
    | ins nz x ha ra =>
      obtain ⟨x1, _⟩ := ba2 (show insKB X.K cn = true from x)
      obtain ⟨x1, _⟩ := ba2 x1
      exact absurd (of_decide_eq_true x1) (ins_no hcn)
    | exc0 x ha =>
      rename_i a
      cases rv
      obtain ⟨⟨oe, vs, ho, hcl, hdi, hda⟩, _, _⟩ := I.hok _ _ ha
      obtain ⟨x1, x2⟩ := ba2 (show excKB X.K cn = true from x)
      obtain ⟨x3, x1⟩ := ba2 x1
      obtain ⟨x4, x1⟩ := ba2 x1
      obtain ⟨x5, x1⟩ := ba2 x1
      obtain ⟨x6, x1⟩ := ba2 x1
      obtain ⟨x7, x1⟩ := ba2 x1
      obtain ⟨x8, x9⟩ := ba2 x1
      have T := xfB_ok x5
      refine ⟨.ref (clsOf X.K cn), fun h => PySem.W.InstAt h a oe (clsOf X.K cn) none, PySem.W.kitx_exc x4 T.ga T.gg T.exC (of_decide_eq_true x6) (of_decide_eq_true x7) (of_decide_eq_true x8) (of_decide_eq_true x9), ?_, (fun z => nomatch z), fun n h => errTB_one hB x (hn n h)⟩
      exact ⟨ho, hcl, by unfold PySem.W.notCls; rw [hda] <;> rfl, by rw [hdi]; exact True.intro⟩
  obtain ⟨t, Pp, k1, k2, k3, k4⟩ := kit
  rcases hc with ⟨n, rfl, rfl⟩ | ⟨tp, rfl, ht⟩ | ⟨tp, ws, n, sl, rfl, hk, rfl⟩
  · cases rc
    have e : PySem.W.kitOne X.K t (.type n) = some ([n].any excT) := by
      rw [List.any_cons, List.any_nil, Bool.or_false]
      exact k4 n List.mem_cons_self
    exact PySem.W.kia_one k1 I.kIn k2 e k3 fun tk => ⟨.bl _, H, I.kept (t' := tk) fun _ _ z => z, rfl, q⟩
  · cases rc
    obtain ⟨hz, us, rv', o', ho', hc', n, hd'⟩ := I.hok tp _ ht
    have eu := vals_tys rv'
    subst eu
    obtain ⟨oc, od, dt, sl⟩ := o'
    dsimp only at hc' hd'
    subst hc' hd'
    exact PySem.W.kia_tup k1 I.kIn k2 ho' (kitAny_tys k4) k3 fun tk => ⟨.bl _, H, I.kept (t' := tk) fun _ _ z => z, rfl, q⟩
  · cases rc
    exact PySem.W.kia_tup k1 I.kIn k2 (I.kIn _ _ hk) (kitAny_tys k4) k3 fun tk => ⟨.bl _, H, I.kept (t' := tk) fun _ _ z => z, rfl, q⟩
theorem tyE_of {Z : Addr → Prop} {H : Hp} {v : V} {d : D} {n : String} (r : Rl K ca Z H v d) (h : tyE d = some n) : v = .ty n ∧ n ∈ errTys := by
  cases r with
  | ty m =>
    have h : (if m ∈ errTys then some m else none) = some n := h
    by_cases hm : m ∈ errTys
    · rw [if_pos hm] at h; cases h; exact ⟨rfl, hm⟩
    · rw [if_neg hm] at h; cases h
  | _ => cases h
theorem tyEs_of {Z : Addr → Prop} {H : Hp} : ∀ {vs : List V} {ds : List D} {ns : List String}, RlA K ca Z H vs ds → tyEs ds = some ns → vs = ns.map V.ty ∧ ∀ n ∈ ns, n ∈ errTys
  | _, _, _, .nil, h => by cases h; exact ⟨rfl, by simp⟩
  | _, _, _, .cons (d := d) (ds := ds) r ra, h => by
    unfold tyEs at h
    cases hd : tyE d with
    | none => rw [hd] at h; cases h
    | some n =>
      rw [hd] at h
      cases hs : tyEs ds with
      | none => rw [hs] at h; cases h
      | some ns =>
        rw [hs] at h; cases h
        obtain ⟨e1, m1⟩ := tyE_of r hd
        obtain ⟨e2, m2⟩ := tyEs_of ra hs
        exact ⟨by rw [e1, e2]; rfl, fun k hk => (List.mem_cons.mp hk).elim (fun e => e ▸ m1) (m2 k)⟩
theorem cal_isE : CalD K ca (rIsE K ca) gIsE := fun Z H c xs ds d' Q z co r hg q => by
  unfold gIsE at hg
  split at hg
  · rename_i cn ks es c0 cs
    by_cases hc : cn ∈ errN
    case neg => rw [if_neg hc] at hg; cases hg
    rw [if_pos hc] at hg
    cases r with | cons r1 r2 => cases r2 with | cons r2 r3 =>
    cases r3
    cases hn : tyEs (c0 :: cs) with
    | none => rw [hn] at hg; cases hg
    | some ns =>
      rw [hn] at hg; cases hg
      cases r2 with
      | tup hH ra =>
        obtain ⟨rfl, m⟩ := tyEs_of ra hn
        refine ⟨_, _, Z, cn, ks, es, ns, rfl, r1, hc, ?_, m, q _ H .refl (.bl _) co⟩
        rcases hH with ⟨o, _, hH⟩ | ⟨us, k, sl, e, _, rv⟩
        · have pl : plainT (ns.map V.ty) = true := by
            cases ns with
            | nil => exact nomatch ra.length
            | cons n ns => rfl
          have e2 : tupH (ns.map V.ty) o = .tup (ns.map V.ty) := by unfold tupH; rw [if_pos pl]
          exact .inr (.inl ⟨_, rfl, by rw [← e2]; exact hH⟩)
        · exact .inr (.inr ⟨_, us, k, sl, rfl, e, vals_tys rv⟩)
  · rename_i cn ks es c0 _
    by_cases hc : cn ∈ errN
    case neg => rw [if_neg hc] at hg; cases hg
    rw [if_pos hc] at hg
    cases r with | cons r1 r2 => cases r2 with | cons r2 r3 =>
    cases r3
    cases hn : tyE c0 with
    | none => rw [hn] at hg; cases hg
    | some n =>
      rw [hn] at hg; cases hg
      obtain ⟨rfl, m⟩ := tyE_of r2 hn
      refine ⟨_, _, Z, cn, ks, es, [n], rfl, r1, hc, .inl ⟨n, rfl, rfl⟩, fun k hk => by rw [List.mem_singleton.mp hk]; exact m, ?_⟩
      rw [List.any_cons, List.any_nil, Bool.or_false]
      exact q _ H .refl (.bl _) co
  · cases hg
end
end G
set_option Elab.async false
set_option linter.all false
set_option maxRecDepth 100000
set_option maxHeartbeats 8000000
/-! KS: != of lists that hold dicts, where they are equal. -/
namespace PySem.SeqAt
open AutoSeq1 (wpAny_loadPart')
open MeetsSeq MeetsSeq2 MeetsSeq3 SeqRoads2
section
variable {prog : Program} {w : World}
theorem handS_ne_loopIn (l b : Addr) (items items2 : Array Value) (n n2 : Nat) (dd dd2 : Option Addr) (sl sl2 : Array (Option Value)) (hsz : items.size = items2.size) (e : Nat → Bool) (k : Nat) :
    ∀ i : Nat, items.size - i = k → MeetsIn prog w (Builtin.«list.__eq__.loop» ⟨[.ref l, .ref b, rawInt i, rawInt 3], []⟩)
      (fun A R s => s.heap.get? l = some { cls := .type "list", dict := dd, data := .seq items n, slots := sl } ∧ s.heap.get? b = some { cls := .type "list", dict := dd2, data := .seq items2 n2, slots := sl2 } ∧
        (∀ j (h1 : j < items.size) (h2 : j < items2.size), EqP prog w A.in1 s items[j] items2[j] (e j)) ∧
        R (.ok (.ret (.bool (!((List.range items.size).drop i).all e)))) s) := by
  induction k with
  | zero =>
    intro i hk A R s h
    obtain ⟨hp, g, d, tk, os⟩ := s; obtain ⟨hl, hb, he, h⟩ := h
    wp_walk using wpAny_loadPart' hl, wpAny_loadPart' hb
    have hi1 : items[((i : Nat) : Int).toNat]? = none := by simp; omega
    have hi2 : items2[((i : Nat) : Int).toNat]? = none := by simp; omega
    have hd : (List.range items.size).drop i = [] := by simp; omega
    rw [hd] at h
    rw [hi1, hi2]
    wp_walk using wpAny_loadPart' hl, wpAny_loadPart' hb
    show R (.ok (.ret (.bool (items.size != items2.size)))) _
    rw [hsz]
    simpa using h
  | succ k ih =>
    intro i hk A R s h
    obtain ⟨hp, g, d, tk, os⟩ := s; obtain ⟨hl, hb, he, h⟩ := h
    wp_walk using wpAny_loadPart' hl, wpAny_loadPart' hb
    have hlt : i < items.size := by omega
    have hlt2 : i < items2.size := by omega
    have hi1 : items[((i : Nat) : Int).toNat]? = some items[i] := by simp [hlt]
    have hi2 : items2[((i : Nat) : Int).toNat]? = some items2[i] := by simp [hlt2]
    have hd : (List.range items.size).drop i = i :: (List.range items.size).drop (i + 1) := by simp [List.drop_eq_getElem_cons, hlt]
    have hc : ((i : Int) + 1) = ((i + 1 : Nat) : Int) := by push_cast; rfl
    rw [hd, List.all_cons] at h
    rw [hi1, hi2]
    refine wpAny_bind (he i hlt hlt2 _ _ ?_)
    cases hb' : e i with
    | true =>
      rw [hb'] at h
      wp_walk
      rw [hc]
      exact ⟨plainId_quiet plain_eq_loop _, codeAny_builtin entry_eq_loop (by
        rw [Around.under_plainId plain_eq_loop _]
        exact ih (i + 1) (by omega) A R _ ⟨hl, hb, he, by simpa using h⟩)⟩
    | false =>
      rw [hb'] at h
      wp_walk using wpAny_loadPart' hl, wpAny_loadPart' hb
      rw [hi1, hi2]
      wp_walk
      simpa using h
theorem handS_list_neIn (l b : Addr) (items items2 : Array Value) (n n2 : Nat) (dd dd2 : Option Addr) (sl sl2 : Array (Option Value)) (hsz : items.size = items2.size) (e : Nat → Bool) :
    MeetsIn prog w (Builtin.«list.__ne__» ⟨[.ref l, .ref b], []⟩)
      (fun A R s => s.heap.get? l = some { cls := .type "list", dict := dd, data := .seq items n, slots := sl } ∧ s.heap.get? b = some { cls := .type "list", dict := dd2, data := .seq items2 n2, slots := sl2 } ∧
        (∀ j (h1 : j < items.size) (h2 : j < items2.size), EqP prog w A.in1 s items[j] items2[j] (e j)) ∧
        R (.ok (.ret (.bool (!(List.range items.size).all e)))) s) := by
  intro A R s h
  obtain ⟨hp, g, d, tk, os⟩ := s; obtain ⟨hl, hb, he, h⟩ := h
  have f3 := AutoSeq1.sub_list_list
  have hne : ¬ (items.size != items2.size) = true := by simp [hsz]
  wp_walk using wpAny_loadPart' hl, wpAny_loadPart' hb
  exact ⟨plainId_quiet plain_eq_loop _, codeAny_builtin entry_eq_loop (by
    rw [Around.under_plainId plain_eq_loop _]
    exact handS_ne_loopIn l b items items2 n n2 dd dd2 sl sl2 hsz e _ 0 rfl A R _ ⟨hl, hb, he, by simpa using h⟩)⟩
theorem rnP_lists {A : Around} {s : Shared} {l b : Addr} {items items2 : Array Value} {e : Nat → Bool} (hl : s.heap.IsList l items) (hb : s.heap.IsList b items2) (hsz : items.size = items2.size) (hu : A.units < cLine)
    (he : ∀ j (h1 : j < items.size) (h2 : j < items2.size), EqP prog w A.in1 s items[j] items2[j] (e j)) (E Q : Value → Shared → Prop) (h : Q (.bool (!(List.range items.size).all e)) s) : wpAny (model prog w) A (richCompare .NotEq (.ref l) (.ref b)) Q E s := by
  obtain ⟨⟨cls, dd, data, sl⟩, ho, hc, n, hd⟩ := id hl
  obtain ⟨⟨cls2, dd2, data2, sl2⟩, ho2, hc2, n2, hd2⟩ := id hb
  simp only at hc hd hc2 hd2
  subst hc hd hc2 hd2
  have ta : s.TypeIs (.ref l) "list" := ⟨_, ho, rfl⟩
  have tb : s.TypeIs (.ref b) "list" := ⟨_, ho2, rfl⟩
  exact wpAny_richCompare_same_room (op := .NotEq) ta tb F.slot_list_ne (call_meetsIn F.slot_list_ne ta F.entry_list_ne (F.args_list_ne_2 _ _) (handS_list_neIn l b items items2 n n2 dd dd2 sl sl2 hsz e)
    ⟨ho, ho2, he, show Value.bool (!(List.range items.size).all e) ≠ Value.notImplemented ∧ Q (.bool (!(List.range items.size).all e)) s from ⟨(fun x => nomatch x), h⟩⟩) hu
end
end PySem.SeqAt
namespace G
open PySem PySem.Spec PyProof.Rows L2
mutual
/-- the same thing, of lists, dicts and flat things -/
def sameT : D → D → Bool
  | .lst xs, .lst ys => sameTA xs ys
  | .dic ks vs, .dic ls ws => decide (ks = ls) && (decide ks.Nodup && sameTA vs ws)
  | .non, .non => true
  | .bl a, .bl b => a == b
  | .int i, .int j => decide (i = j)
  | .str a, .str b => decide (a = b)
  | .tup xs, .tup ys => (gEq false (.tup xs) (.tup ys)) == some true
  | _, _ => false
def sameTA : List D → List D → Bool
  | [], [] => true
  | d :: ds, e :: es => sameT d e && sameTA ds es
  | _, _ => false
end
/-- equal, of nesting below n; tuples as data -/
def EqW (K : PySem.W.Frag) (H : Hp) : Nat → V → V → Prop
  | 0 => fun _ _ => False
  | n + 1 => fun x y => (x = y ∧ flatB x = true) ∨ EqR K H (EqW K H n) x y ∨ ∃ p q, Dp K H x p ∧ Dp K H y q ∧ SeqAt.shaped p = true ∧ SeqAt.shaped q = true ∧ PyData.eqv p q = true
section
variable {X : Cx} {pins : List (Addr × Obj)} {σ : L2.St} {H : Hp} {s : Shared}
theorem eqW_run (I : L2.Inv X pins σ H s) : ∀ (n : Nat) (A : Around), A.units + n + 64 < cLine → ∀ (x y : V) (v u : Value), EqW X.K H n x y → RelV x v → RelV y u → SeqAt.EqP X.prog X.w A s v u true
  | 0, _, _, _, _, _, _, h, _, _ => (show False from h).elim
  | n + 1, A, hu, x, y, v, u, h, rx, ry => by
    rcases h with ⟨rfl, f⟩ | h | ⟨p, q, dp, dq, sp, sq, e⟩
    · exact (eqAt_same rx ry f).eqP
    · have step := eqR_run I (A := A) (by omega) (eqW_run I n A.in1 (by show A.units + 1 + n + 64 < cLine; omega)) h rx ry
      obtain ⟨a, b, rfl, rfl⟩ : ∃ a b, x = .ref a ∧ y = .ref b := by
        rcases h with ⟨a, b, _, _, e1, e2, _⟩ | ⟨a, b, _, _, e1, e2, _⟩
        · exact ⟨a, b, e1, e2⟩
        · exact ⟨a, b, e1, e2⟩
      cases (show v = Value.ref a from rx)
      cases (show u = Value.ref b from ry)
      by_cases e : a = b
      · subst e
        exact (SeqAt.EqAt.same _).eqP
      · exact SeqAt.eqP_refs e step
    · obtain ⟨as, r1⟩ := Dp.reads I p x v dp rx
      obtain ⟨bs, r2⟩ := Dp.reads I q y u dq ry
      intro E Q hq
      have d1 : p.depth ≤ 64 := by
        unfold SeqAt.shaped at sp
        exact of_decide_eq_true (Bool.and_eq_true_iff.mp sp).2
      refine SeqAt.eqBoolOverData _ _ A E s v u p q as bs Q r1 r2 (SeqAt.canLay_of_shaped sp) (SeqAt.canLay_of_shaped sq) (by omega) ?_
      rw [e]; exact hq
end
section
variable {K : PySem.W.Frag} {ca : Dr} {Z : Addr → Prop} {H : Hp}
theorem val_at : ∀ {ls : List (Key × V)} {k : Key} {v : V}, (ls.map (·.1)).Nodup → (k, v) ∈ ls → valV ls k = some v
  | [], _, _, _, h => by cases h
  | p :: ls, k, v, nd, h => by
    rw [List.map_cons, List.nodup_cons] at nd
    unfold valV
    by_cases e : p.1 = k
    · rw [show (p :: ls).find? (fun kv => decide (kv.1 = k)) = some p from by rw [List.find?_cons]; rw [decide_eq_true e]]
      rcases List.mem_cons.mp h with z | z
      · rw [← z]; rfl
      · exact absurd (List.mem_map.mpr ⟨(k, v), z, rfl⟩) (e ▸ nd.1)
    · rw [show (p :: ls).find? (fun kv => decide (kv.1 = k)) = ls.find? (fun kv => decide (kv.1 = k)) from by rw [List.find?_cons]; rw [decide_eq_false e]]
      rcases List.mem_cons.mp h with z | z
      · exact absurd (by rw [← z]) e
      · exact val_at nd.2 z
theorem zip_vals {F : V → V → Prop} : ∀ {ks ls : List (Key × V)}, ks.map (·.1) = ls.map (·.1) → Paired F (ks.map (·.2)) (ls.map (·.2)) → ∀ p ∈ ks, ∃ u, (p.1, u) ∈ ls ∧ F p.2 u
  | [], [], _, _ => fun p h => by cases h
  | [], _ :: _, e, _ => by cases e
  | _ :: _, [], e, _ => by cases e
  | p :: ks, q :: ls, e, r => by
    rw [List.map_cons, List.map_cons] at e r
    injection e with e1 e2
    cases r with
    | cons r rs =>
      intro x hx
      rcases List.mem_cons.mp hx with rfl | hx
      · refine ⟨q.2, ?_, r⟩
        rw [e1]; exact List.mem_cons_self
      · obtain ⟨u, hu, f⟩ := zip_vals e2 rs x hx
        exact ⟨u, List.mem_cons_of_mem _ hu, f⟩
mutual
theorem same_eqV : ∀ {v u : V} {d e : D} {n : Nat}, Rl K ca Z H v d → Rl K ca Z H u e → sameT d e = true → hgt d < n → EqW K H n v u
  | v, u, d, e, n + 1, r1, r2, h, hn => by
    cases r1 with
    | non => cases r2 <;> first | exact .inl ⟨rfl, rfl⟩ | simp [sameT] at h
    | bl b => cases r2 <;> first | (simp only [sameT, beq_iff_eq] at h; subst h; exact .inl ⟨rfl, rfl⟩) | simp [sameT] at h
    | int i => cases r2 <;> first | (simp only [sameT, decide_eq_true_eq] at h; subst h; exact .inl ⟨rfl, rfl⟩) | simp [sameT] at h
    | str i => cases r2 <;> first | (simp only [sameT, decide_eq_true_eq] at h; subst h; exact .inl ⟨rfl, rfl⟩) | simp [sameT] at h
    | lst z1 h1 ra =>
      cases r2 with
      | lst z2 h2 rb =>
        simp only [sameT] at h
        simp only [hgt] at hn
        exact .inr (.inl (.inl ⟨_, _, _, _, rfl, rfl, SqL.of h1, SqL.of h2, same_eqVA ra rb h (by omega)⟩))
      | _ => simp [sameT] at h
    | dic z1 h1 ra =>
      cases r2 with
      | dic z2 h2 rb =>
        rename_i a1 k1 d1 a2 k2 d2
        simp only [sameT, Bool.and_eq_true, decide_eq_true_eq] at h
        obtain ⟨e1, e2, e3⟩ := h
        simp only [hgt] at hn
        refine .inr (.inl (.inr ⟨_, _, k1, k2, rfl, rfl, h1, h2, by simpa using congrArg List.length e1, fun p hp => ?_⟩))
        obtain ⟨u, hu, f⟩ := zip_vals e1 (same_eqVA (n := n) ra rb e3 (by omega)) p hp
        exact ⟨u, val_at (by rw [← e1]; exact e2) hu, f⟩
      | _ => simp [sameT] at h
    | ty n => simp [sameT] at h
    | obj a => simp [sameT] at h
    | chn => simp [sameT] at h
    | scr _ => simp [sameT] at h
    | tup h1 ra =>
      cases r2 with
      | tup h2 rb =>
        simp only [sameT, beq_iff_eq] at h
        obtain ⟨p, q, e1, e2, s1, s2, e3⟩ := eq_un h
        exact .inr (.inr ⟨p, q, (Rl.tup h1 ra).dp e1, (Rl.tup h2 rb).dp e2, s1, s2, e3.symm⟩)
      | _ => simp [sameT] at h
    | exc _ _ _ _ => simp [sameT] at h
    | exc0 _ _ => simp [sameT] at h
    | ins _ _ _ _ => simp [sameT] at h
  | _, _, _, _, 0, _, _, _, hn => by omega
theorem same_eqVA : ∀ {vs us : List V} {ds es : List D} {n : Nat}, RlA K ca Z H vs ds → RlA K ca Z H us es → sameTA ds es = true → hgtA ds < n → Paired (EqW K H n) vs us
  | _, _, _, _, _, .nil, .nil, _, _ => .nil
  | _, _, _, _, _, .nil, .cons _ _, h, _ => by simp [sameTA] at h
  | _, _, _, _, _, .cons _ _, .nil, h, _ => by simp [sameTA] at h
  | _, _, _, _, n, .cons r1 ra, .cons r2 rb, h, hn => by
    simp only [sameTA, Bool.and_eq_true] at h
    simp only [hgtA] at hn
    exact .cons (same_eqV r1 r2 h.1 (by omega)) (same_eqVA ra rb h.2 (by omega))
end
end
/-- a != b, two lists that are the same -/
def rNeV (K : PySem.W.Frag) : R2 := fun x y H Q => ∃ n a b xs ys, n ≤ 60 ∧ x = .ref a ∧ y = .ref b ∧ SqL K H a xs ∧ SqL K H b ys ∧ Paired (EqW K H n) xs ys ∧ Q (.bl false) H
def gNeU (x y : D) : Option Bool := match gEqX true x y with
  | some b => some b
  | none => match x, y with
    | .lst xs, .lst ys => if sameTA xs ys = true ∧ hgtA xs < 60 then some false else none
    | _, _ => none
section
variable {X : Cx} {K : PySem.W.Frag} {ca : Dr}
theorem op_neV (hu : X.A.units + 128 < cLine) : OpR X (compareOp .NotEq) (rNeV X.K) := by
  intro pins s σ H x y v u Q I rx ry h
  obtain ⟨n, a, b, xs, ys, hn, rfl, rfl, ha, hb, hp, q⟩ := h
  cases (show v = Value.ref a from rx)
  cases (show u = Value.ref b from ry)
  obtain ⟨us, r1, p1, _⟩ := I.list ha
  obtain ⟨ws, r2, p2, _⟩ := I.list hb
  have hsz : us.toArray.size = ws.toArray.size := by
    rw [List.size_toArray, List.size_toArray, ← r1.length, ← r2.length]
    exact Paired.length hp
  refine SeqAt.rnP_lists (e := fun _ => true) p1.isList p2.isList hsz (by omega) (fun j h1 h2 => ?_) _ _ ?_
  · have k := items_run (fun x y v u h rx ry => eqW_run I n X.A.in1 (by show X.A.units + 1 + n + 64 < cLine; omega) x y v u h rx ry) hp r1 r2 j (by simpa using h1) (by simpa using h2)
    simpa using k
  · rw [show ((List.range us.toArray.size).all fun _ => true) = true from List.all_eq_true.mpr fun _ _ => rfl]
    exact ⟨.bl false, H, I, rfl, q⟩
theorem op_neU (hu : X.A.units + 128 < cLine) : OpR X (compareOp .NotEq) (fun x y H Q => rNeX X.K x y H Q ∨ rNeV X.K x y H Q) := (op_neX (by omega)).or (op_neV hu)
theorem cmp_neU : BinB K ca (fun x y H Q => rNeX K x y H Q ∨ rNeV K x y H Q) gNeU := fun Z H c x y d e k Q z co r1 r2 hg q => by
  unfold gNeU at hg
  split at hg
  · rename_i b hb
    cases hg
    exact .inl (cmp_neX Z H c x y d e _ Q z co r1 r2 hb q)
  · split at hg
    · rename_i xs ys hx
      by_cases hs : sameTA xs ys = true ∧ hgtA xs < 60
      · rw [if_pos hs] at hg; cases hg
        cases r1 with
        | lst z1 h1 ra =>
          cases r2 with
          | lst z2 h2 rb =>
            exact .inr ⟨60, _, _, _, _, Nat.le_refl _, rfl, rfl, SqL.of h1, SqL.of h2, same_eqVA ra rb hs.1 hs.2, q H .refl co⟩
      · rw [if_neg hs] at hg; cases hg
    · cases hg
end
end G
set_option Elab.async false
set_option linter.all false
set_option maxRecDepth 100000
set_option maxHeartbeats 4000000
/-! JI: calls that may raise in a try; a lambda handed to a def that calls it in its try. -/
namespace G
open PySem PySem.Spec PyProof.Rows L2
/-! ### lambdas -/
section
variable {X : Cx} {pins : List (Addr × Obj)} {σ : L2.St} {H HZ : Hp} {s : Shared}
def TbKeep (H H' : Hp) : Prop := ∀ b o, H b = some o → TbO o → ∃ o', H' b = some o' ∧ TbO o'
/-- the lambda object is made; tables stay tables -/
theorem lam_makeG {T : List (Addr × Str)} {c P : Addr} {params : Arguments} {body : Expr} {scope : Scope} {pos : Pos} {E : Value → Shared → Prop} {Q : Value → Shared → Prop} (I : L2.Inv X pins σ H s) (TB : LamX.TabB X.base X.mg c P) (hcode : X.env.code = .ref c)
    (hm : (P, X.env.qual ++ "<lambda>") ∈ T) (hu : ∀ p ∈ T, p.1 = P → p.2 = X.env.qual ++ "<lambda>") (hT : LamX.Tabs T H) (hdef : defaultsOf params X.env = ([], [])) (hfree : ∀ y ∈ scope.names, y.2 = .free → ∃ c, X.env.cells.lookup y.1 = some c)
    (h : ∀ (f c' : Addr) (pm ctv : Value) (H1 : Hp) (s' : Shared), L2.Inv X pins σ H1 s' → LamX.ExtN H H1 → TbKeep H H1 → LamX.Tabs T H1 →
      s'.heap.get? f = some (PySem.W.kla_obj "<lambda>" (X.env.qual ++ "<lambda>") params body scope (cloFrom X.env.cells scope.names []) pm c' ctv) → H1 f = none → f ∉ frs X.stack → H1 c' = some (LamX.CodeO c' (X.env.qual ++ "<lambda>")) → Q (.ref f) s') :
    wpAny (model X.prog X.w) X.A (eval (.Lambda params body scope pos) X.env) Q E s := by
  obtain ⟨rows, atP, tri, named⟩ := hT _ hm
  have inP : s.heap.get? P = some { cls := .none, data := .fields rows } := I.hok P _ atP
  have blt : s.heap.BuiltinsAt X.mg P := TB.bm.keeps I.bk
  have off : ∀ f, s.heap.objs.size ≤ f → f ∉ frs X.stack := fun f big inn => by
    rcases List.mem_cons.mp (I.stkSub _ inn) with e | e
    · exact absurd I.lt (by rw [← e]; exact Nat.not_lt.mpr big)
    · exact I.nofs big e
  refine PySem.W.kla_eval hdef ?_
  cases found : codeAmong pos rows.toList with
  | some cv =>
    obtain ⟨cc, rfl, told⟩ := named pos cv found
    refine PySem.W.kla_makeFunctionHit (mg := X.mg) (c := c) (P := P) (ps := rows) (closure_ok hfree) I.ok.glob (I.mod.glob.keeps I.bk) hcode (TB.code.keeps I.bk) inP tri found blt fun ctv g tk stays grown => ?_
    exact h g.objs.size cc ((X.mg "__name__").getD .none) ctv H _ (I.kept (t' := tk) fun b o z => Heap.get?_push_of_some _ (stays b o z)) (LamX.ExtN.refl H) (fun b o e t => ⟨o, e, t⟩) hT (Heap.get?_push_size _ rfl) (I.hok.fresh grown) (off _ grown) told
  | none =>
    refine PySem.W.kla_makeFunction (mg := X.mg) (c := c) (P := P) (ps := rows) (closure_ok hfree) I.ok.glob (I.mod.glob.keeps I.bk) hcode (TB.code.keeps I.bk) inP tri found TB.gP blt fun cc ctv g tk but big below rec tab => ?_
    obtain ⟨c2, oc, vs, t, ec, hoc, hd, hv⟩ := rec
    cases ec
    have grown : s.heap.objs.size ≤ g.objs.size := Nat.le_trans big (Nat.le_of_lt below)
    have newC : H cc = none := I.hok.fresh big
    have nPc : P ≠ cc := ne_of_none atP newC
    obtain ⟨more, hmore⟩ : ∃ more : Array Value, more = #[rawInt pos.line, rawInt pos.col, .ref cc] := ⟨_, rfl⟩
    have J := LamX.inv_table (t' := tk) (more := more) (h' := g.push (PySem.W.kla_obj "<lambda>" (X.env.qual ++ "<lambda>") params body scope (cloFrom X.env.cells scope.names []) ((X.mg "__name__").getD .none) cc ctv)) (q := X.env.qual ++ "<lambda>") I atP
      (fun b o hb z => Heap.get?_push_of_some _ (but b o hb z)) (by rw [hmore]; exact Heap.get?_push_of_some _ tab) big ⟨oc, vs, t, Heap.get?_push_of_some _ hoc, hd, hv⟩
    have ext : LamX.ExtN H (upd (upd H P (.tbl (rows ++ more))) cc (LamX.CodeO cc (X.env.qual ++ "<lambda>"))) := fun b o z n => by
      have nb : b ≠ P := fun q => n rows (by rw [q, atP] at z; exact (Option.some.inj z).symm)
      rw [upd_ne (ne_of_none z newC), upd_ne nb]
      exact z
    have keep : TbKeep H (upd (upd H P (.tbl (rows ++ more))) cc (LamX.CodeO cc (X.env.qual ++ "<lambda>"))) := fun b o z t => by
      by_cases hb : b = P
      · exact ⟨.tbl (rows ++ more), by rw [hb, upd_ne nPc, upd_same], trivial⟩
      · exact ⟨o, by rw [upd_ne (ne_of_none z newC), upd_ne hb]; exact z, t⟩
    have aside : g.objs.size ≠ cc ∧ g.objs.size ≠ P := ⟨Nat.ne_of_gt below, Nat.ne_of_gt (Nat.lt_of_lt_of_le (Heap.lt_size inP) grown)⟩
    refine h g.objs.size cc ((X.mg "__name__").getD .none) ctv _ _ J ext keep (fun q hq => ?_) (Heap.get?_push_size _ rfl) ?_ (off _ grown) upd_same
    · by_cases hb : q.1 = P
      · have e2 : (rows ++ more).toList = rows.toList ++ [rawInt pos.line, rawInt pos.col, .ref cc] := by rw [hmore]; simp
        rw [hu q hq hb, hb]
        refine ⟨rows ++ more, by rw [upd_ne nPc, upd_same], by rw [e2]; exact PySem.TriplesOk_snoc _ _ _ _ tri, fun p' cv hcv => ?_⟩
        rw [e2] at hcv
        rcases LamX.among_app _ tri hcv with z | z
        · obtain ⟨c0, e1, e2⟩ := named p' cv z
          exact ⟨c0, e1, ext _ _ e2 LamX.codeO_ne⟩
        · exact ⟨cc, z, upd_same⟩
      · obtain ⟨ps', a1, a2, a3⟩ := hT q hq
        refine ⟨ps', by rw [upd_ne (ne_of_none a1 newC), upd_ne hb]; exact a1, a2, fun p' cv hcv => ?_⟩
        obtain ⟨c0, e1, e2⟩ := a3 p' cv hcv
        exact ⟨c0, e1, ext _ _ e2 LamX.codeO_ne⟩
    · rw [upd_ne aside.1, upd_ne aside.2]
      exact I.hok.fresh grown
/-- x(), in the def that got the lambda, what it raises wished for at that def's slots -/
theorem act_run {CXg : CXT} {Eg : XK} {Ng : List Str} {qg : Str} {sg : Scope} {g f c' : Addr} {cdg pm ctv : Value} {params : Arguments} {body : Expr} {scope : Scope} {k i : Nat} {a : Str} {pn : List (Addr × Obj)} {xe : Value → Shared → Prop} {W : WX} {tb : XK → TE} {p1 p2 : Pos}
    (I : L2.Inv X pins σ H s) (L : LamX.LamS X.env.scope scope) (hf : s.heap.get? f = some (PySem.W.kla_obj "<lambda>" (X.env.qual ++ "<lambda>") params body scope (cloFrom X.env.cells scope.names []) pm c' ctv)) (hfn : H f = none) (hfr : f ∉ frs X.stack)
    (hbind : bindArgs (PySem.W.kla_fn "<lambda>" (X.env.qual ++ "<lambda>") params body scope (cloFrom X.env.cells scope.names []) pm (.ref c') ctv) ⟨[], []⟩ = pure [])
    (tk : Takes ((cxOf CXg X.prog X.w X.K X.mg X.base Ng qg sg g cdg X.A X.stack s H Eg).tr pn xe) W) (hr : Room (k + 1) (X.A.deeper (envOfC qg sg s.heap.objs.size g cdg)))
    (gdX : X.A.guards = some []) (hbody : ∀ (A : Around) (outer : List Env) (s : Shared) (H : Hp) (E : XK), A.guards = some [] → Room k (A.deeper (LamX.lamEnv X scope s.heap.objs.size f c')) → PE (LamX.lamCx X A outer s H E scope f c') body (tb E))
    (hN : Ng[i]? = some a) (hv : Vis sg a) (hd : (a == ("__debug__" : Str)) = false := by decide) (hcd : (a == ("__classdict__" : Str)) = false := by decide) :
    PE ((cxOf CXg X.prog X.w X.K X.mg X.base Ng qg sg g cdg X.A X.stack s H Eg).tr pn xe) (.Call (.Name a p1) [] [] p2)
      (fun σZ HZ Q => σZ[i]? = some (some (.ref f)) ∧ HZ c' = some (LamX.CodeO c' (X.env.qual ++ "<lambda>")) ∧ tb (fun cv od H' => W cv od σZ H') σ HZ Q) := by
  refine ⟨fun pinsZ sZ σZ HZ Q IZ h => ?_⟩
  obtain ⟨slot, codeAt, ht⟩ := h
  refine wpAny_Call_Name_kw (thn ((pe_var (pos := p1) (i := i) hN hv hd hcd).run pinsZ sZ σZ HZ (fun v H1 => v = .ref f ∧ H1 = HZ) IZ ⟨.ref f, slot, rfl, rfl⟩) fun u s1 got => ?_)
  obtain ⟨v, H1, I1, r1, ev, eH⟩ := got
  subst ev eH
  obtain rfl : u = Value.ref f := r1
  have obj : s1.heap.get? f = some (PySem.W.kla_obj "<lambda>" (X.env.qual ++ "<lambda>") params body scope (cloFrom X.env.cells scope.names []) pm c' ctv) := I1.base.keep f _ hf hfn hfr (fun z => nomatch (show f ∈ ([] : List Addr) from z))
  refine PySem.W.callWith_F0 ⟨_, _, _, _, obj⟩ ?_
  have un : Un (frs X.stack) [] H H1 s.heap s1.heap := I1.base
  obtain ⟨⟨oc, vs, t, hoc, hdc, hvc⟩, _, _⟩ := I1.hok c' _ codeAt
  have inside : codeAny (model X.prog X.w) (X.A.deeper (envOfC qg sg s.heap.objs.size g cdg)) (.call (.ref f) ⟨[], []⟩) (CR (L2.CX X.prog X.w) (envOfC qg sg s.heap.objs.size g cdg :: X.stack) X.prog X.w H1 s1 Q (fun cv od H' => W cv od σZ H')) s1 := by
    refine PySem.W.kla_callFunE hr.depth obj rfl L.co L.gen rfl ⟨c', oc, vs, t, rfl, hoc, hdc, hvc⟩ ?_
    rw [hbind]
    refine wpAny_pure (wpAny_newFunctionEnv (fun y hy => (L.own y hy).2) (fun y hy => absurd hy (by simp)) (fun h₁ hns hsb => ⟨I1.nolimit.fresh _ hsb, ?_⟩) L.kind)
    have kp : ∀ b o, s1.heap.get? b = some o → h₁.get? b = some o := fun b o z => hsb.extBut b o (Nat.ne_of_lt (Heap.lt_size z)) (Heap.get?_push_of_some _ z)
    have J : L2.Inv (LamX.lamCx X (X.A.deeper (envOfC qg sg s.heap.objs.size g cdg)) (envOfC qg sg s.heap.objs.size g cdg :: X.stack) s1 H1 (fun cv od H' => W cv od σZ H') scope f c') [] σ H1 { s1 with heap := h₁, toks := s1.toks + ([] : List (Str × Value)).length } :=
      LamX.lam_start2 I L I1.env0 hr.hd un hns kp
    refine PySem.W.kla_codeExpr (wpAny_mono ((hbody (X.A.deeper (envOfC qg sg s.heap.objs.size g cdg)) _ s1 H1 _ gdX (hr.deeper _)).run [] _ _ H1 Q J ht) (fun v s' hq => ?_) fun e s' hq => hq)
    obtain ⟨w', H', J', rv, q⟩ := hq
    exact ⟨w', H', J'.os, J'.bare, J'.base, J'.hok, rv, q⟩
  refine wpAny_call (codeAny_mono inside fun res s' hq => ?_)
  · match res, hq with
    | .error ev, hq => exact tk ev s' (XE.of_call I1 (fun _ _ _ z => z) hq)
    | .ok (.ret u), hq => exact I1.after hq
    | .ok .next, hq => exact hq.elim
    | .ok .brk, hq => exact hq.elim
    | .ok .cont, hq => exact hq.elim
end
end G
set_option Elab.async false
set_option linter.all false
set_option maxRecDepth 100000
set_option maxHeartbeats 8000000
/-! JK: x(lambda: e), x a def that calls what it got in its try. -/
namespace G
open PySem PySem.Spec PyProof.Rows L2
def eAct (act : M D) : Ev → M D := fun _ => act
/-- what such a def makes of what it got -/
def runAct (N : Nat) (gG : M D → Sm) (act : M D) : M D := nx (runDef N (gG act) [])
def eLam (N : Nat) (gG : M D → Sm) (fb : Ev → M D) : Ev → M D := fun ρ => runAct N gG (fb ρ)
/-- the def x at its place, handed something to be called, does gG of it -/
structure ActG (P : Program) (w : World) (K : PySem.W.Frag) (mg : Str → Option Value) (base : Heap) (k : Nat) (x : Str) (st : Stmt) (a : Str) (N : List Str) (gG : M D → Sm) : Prop where
  ex : ∃ fd, FunD K x x (defArgs st) (defBody st) (defScope st) [] [] (He.ga K x) fd ∧ mg x = some (.ref (He.ga K x)) ∧ Binds K fd [a] []
  sc : FnScope N [a] (defScope st)
  n0 : N[0]? = some a
  va : Vis (defScope st) a
  nd : (a == ("__debug__" : Str)) = false ∧ (a == ("__classdict__" : Str)) = false
  body : ∀ (ca : Dr) (cdv : Value) (A : Around) (outer : List Env) (s : Shared) (H : Hp) (act : M D) (Φ : PhT), PhSet Φ → A.guards = some [] → Room k (A.deeper (envOfC x (defScope st) s.heap.objs.size (He.ga K x) cdv)) →
    (∀ p1 p2 : Pos, PX (cxOf CX0 P w K mg base N x (defScope st) (He.ga K x) cdv A outer s H E0).nox ca Φ (.Call (.Name a p1) [] [] p2) (eAct act)) →
    PSs (cxOf CX0 P w K mg base N x (defScope st) (He.ga K x) cdv A outer s H E0).nox (defBody st) (tSP K ca E0 Φ (gG act))
theorem ActG.here {X : Cx} {P : Program} {w : World} {K : PySem.W.Frag} {mg : Str → Option Value} {base : Heap} {k : Nat} {x : Str} {st : Stmt} {a : Str} {N : List Str} {gG : M D → Sm} (h : ActG P w K mg base k x st a N gG) (e1 : X.prog = P := by rfl) (e2 : X.w = w := by rfl) (e3 : X.K = K := by rfl) (e4 : X.mg = mg := by rfl) (e5 : X.base = base := by rfl) :
    ActG X.prog X.w X.K X.mg X.base k x st a N gG := by
  subst e1 e2 e3 e4 e5
  exact h
theorem env_startN {K : PySem.W.Frag} {ca : Dr} {Z : Addr → Prop} {H : Hp} {N : List Str} {vs : List V} (z : ZOk ca Z H) (hl : vs.length ≤ N.length) : EnvOk K ca Z (fun _ => False) H (L2.start N vs) (List.replicate N.length Sl.no) := by
  have none_ : ∀ (i : Nat) (s : Sl), (List.replicate N.length Sl.no)[i]? = some s → s = .no := fun i s h => List.eq_of_mem_replicate (List.mem_of_getElem? h)
  refine ⟨⟨.inl z.zca, fun h => h.elim z.zcc False.elim, fun b h => h.elim (z.zin b) False.elim⟩, z.zca, id, ?_, fun i d h => (by cases none_ i _ h), fun i d h => (by cases none_ i _ h), fun _ h => h.elim, fun i j a d d' h => (by cases none_ i _ h)⟩
  unfold L2.start
  simp
  omega
theorem Rl.same {K : PySem.W.Frag} {ca : Dr} {Z : Addr → Prop} {H : Hp} {v : V} {d : D} (r : Rl K ca Z H v d) : Rl K ca (U Z fun _ => False) H v d := r.anti fun b h => h.elim id False.elim
/-- a code object of a def that makes lambdas -/
def LamCode (K : PySem.W.Frag) (x : Str) (cdv : Value) : Prop := ∃ c P, cdv = .ref c ∧ (c, P, (x ++ ".<locals>.") ++ "<lambda>") ∈ lamC K
def lamDefB (K : PySem.W.Frag) (x : Str) : Bool := match K.lookup (He.ga K x) with
  | some ⟨_, _, .func fd, _⟩ => (lamC K).any fun t => decide (fd.code = .ref t.1) && decide (t.2.2 = (x ++ ".<locals>.") ++ "<lambda>")
  | _ => false
theorem lamDefB_ok {K : PySem.W.Frag} {x : Str} (h : lamDefB K x = true) {oc : Value} {od : Option Addr} {fd : FuncData} {osl : Array (Option Value)} (lk : K.lookup (He.ga K x) = some ⟨oc, od, .func fd, osl⟩) : LamCode K x fd.code := by
  unfold lamDefB at h
  rw [lk] at h
  obtain ⟨t, ht, e⟩ := List.any_eq_true.mp h
  obtain ⟨e1, e2⟩ := ba2 e
  refine ⟨t.1, t.2.1, of_decide_eq_true e1, ?_⟩
  rw [← of_decide_eq_true e2]
  exact ht
section
variable {X : Cx} {ca : Dr} {E : XK} {p lpos pos : Pos} {x a : Str} {st : Stmt} {N : List Str} {gG : M D → Sm} {fb : Ev → M D} {params : Arguments} {body : Expr} {scope : Scope} {k j k0 : Nat}
theorem d_lam (j : Nat) (Gk : ActG X.prog X.w X.K X.mg X.base k0 x st a N gG) (gd : X.A.guards = some []) (hr : Room k X.A) (TB : TabBs X.K X.mg X.base) (hcode : ∃ c P, X.env.code = .ref c ∧ (c, P, X.env.qual ++ "<lambda>") ∈ lamC X.K) (L : LamX.LamS X.env.scope scope)
    (hbody : ∀ (A : Around) (outer : List Env) (s : Shared) (H : Hp) (E : XK) (f c' : Addr), A.guards = some [] → Room j (A.deeper (LamX.lamEnv X scope s.heap.objs.size f c')) → PE (LamX.lamCx X A outer s H E scope f c') body (tD X.K ca E fb))
    (hbind : ∀ (q : Str) (cl : List (Str × Addr)) (pm cv ctv : Value), bindArgs (PySem.W.kla_fn "<lambda>" q params body scope cl pm cv ctv) ⟨[], []⟩ = pure [] := by exact fun _ _ _ _ _ => rfl)
    (hj : j + 2 ≤ k := by decide) (hk0 : k0 + 1 ≤ k := by decide) (hg : Gl X x := by rfl) (hdef : defaultsOf params X.env = ([], []) := by rfl) (hdb : (x == ("__debug__" : Str)) = false := by decide) :
    PE X (.Call (.Name x p) [.Lambda params body scope lpos] [] pos) (tD X.K ca E (eLam N.length gG fb)) := by
  refine ⟨fun pins s σ H Q I h => ?_⟩
  obtain ⟨Z, Y, ρ, c0, eo, co, h⟩ := h
  obtain ⟨fd, F, hm, hb⟩ := Gk.ex
  obtain ⟨oc, od, dV, kV, doc, pm, an, cdv, ct, osl, rfl, lk, hcd, _, _⟩ := F.ex
  obtain ⟨cc, P, hcode, hmem⟩ := hcode
  have memT : (P, X.env.qual ++ "<lambda>") ∈ lamT X.K := List.mem_map.mpr ⟨_, hmem, rfl⟩
  refine wpAny_Call_Name_kw (ld_glob I hg hm ?_ hdb)
  refine PySem.W.callWith_K (h₀ := X.base) I.ok.mod.kin F.kp ?_ (by rfl) (by rfl)
  show wpAny _ _ (spliced ((false, eval (.Lambda params body scope lpos) X.env) :: backTo pos (starEach [] X.env))) _ _ s
  refine Calls.spliced_cons (lam_makeG (T := lamT X.K) I (TB.tb _ hmem) hcode memT (fun q hq e => TB.one q hq _ memT e) co.2.2 hdef (L.has I.ok) fun f c' pm' ctv H1 s' I1 eN tK T1 hf hfn hfr hco => ?_)
  refine Calls.spliced_nil ⟨I1.kIn, ?_⟩
  have ex : Ext ca H H1 := ExtP.tbl eN tK
  have co1 : ChOk X.K ca H1 c0 := ⟨eN _ _ co.1 (fun ps z => by cases z), eN _ _ co.2.1 (fun ps z => by cases z), T1⟩
  have eo1 := eo.ext ex
  have rc : codeAny (model X.prog X.w) X.A (.call (.ref (He.ga X.K x)) ⟨[.ref f], []⟩) (CR CX0 X.stack X.prog X.w H1 s' Q E0) s' := by
    refine LamX.run_ofS (N := N) (ps := [a]) (us := [.ref f]) (vs := [.ref f]) (k := k - 1) lk hcd Gk.sc (hr.mono (by omega)) I1.env0 (hb s' [.ref f] I1.kIn rfl) (.cons rfl .nil) rfl fun hr' => ?_
    refine ⟨_, PSs.nox (Gk.body ca cdv X.A X.stack s' H1 (fb ρ) (fun σ' Z' Y' H' => Z' = U Z Y ∧ Y' = (fun _ => False) ∧ Ext ca H1 H' ∧ σ'[0]? = some (some (.ref f))) ⟨fun σ' Z' Y' H' i v hi hp => ⟨hp.1, hp.2.1, hp.2.2.1, by rw [List.getElem?_set_ne hi]; exact hp.2.2.2⟩, fun σ' Z' Y' H' pp uu hn hp => ⟨hp.1, hp.2.1, hp.2.2.1.trans (ExtP.new hn), hp.2.2.2⟩⟩ gd (hr'.mono (by omega)) fun p1 p2 W pn xe tkW => ?_), ?_⟩
    · have R := act_run (CXg := CX0) (Eg := E0) (Ng := N) (qg := x) (sg := defScope st) (g := He.ga X.K x) (cdg := cdv) (tb := fun E => tD X.K ca E fb) (p1 := p1) (p2 := p2) (k := j) (i := 0) (pn := pn) (xe := xe) I1 L hf hfn hfr (hbind _ _ _ _ _) tkW (hr'.mono (by omega)) gd (fun A outer s H E gA hr2 => hbody A outer s H E f c' gA hr2) Gk.n0 Gk.va Gk.nd.1 Gk.nd.2
      refine ⟨fun pinsZ sZ σZ HZ QZ IZ hZ => R.run pinsZ sZ σZ HZ QZ IZ ?_⟩
      obtain ⟨Z', Y', ρ', c2, ⟨rfl, rfl, exZ, slot⟩, eo', co', hZ⟩ := hZ
      refine ⟨slot, exZ.at_ hco (.inr id), Z, Y, ρ, c2, eo1.ext exZ, co', At.mono hZ (fun d c3 hk v H' e r co => hk v H' e r.same co) fun xx c3 hx cv od H' e xr co => hx cv od H' e ?_ co⟩
      obtain ⟨q0, q1, dd, fs, q2, q3, q4, q5⟩ := xr
      exact ⟨q0, q1, dd, fs, q2, q3, q4, q5.anti fun b h => h.elim id False.elim⟩
    · refine ⟨U Z Y, fun _ => False, List.replicate N.length .no, c0, ⟨rfl, rfl, .refl, ?_⟩, env_startN (eo1.zok) ?_, co1, ?_⟩
      · unfold L2.start; rfl
      · have := Gk.n0
        show 1 ≤ N.length
        cases N with
        | nil => cases this
        | cons _ _ => simp
      · have h1 : At (runDef N.length (gG (fb ρ)) [] c0) _ fun _ _ => False := Do.nx h
        refine At.mono (At.bind.mp h1) (fun p c1 h2 => ?_) fun _ _ z => z.elim
        intro Y' σ' H' st' eo' co'
        have e2 : Ext ca H1 H' := st'.ext.mono fun b z => z.elim id False.elim
        obtain ⟨ρ1, ctl⟩ := p
        cases ctl with
        | nx => exact h2 .non H' (ex.trans e2) .non co'
        | bk => exact h2.elim
        | ct => exact h2.elim
        | ret d => exact fun v rv => h2 v H' (ex.trans e2) (rv.anti fun b => .inl) co'
  refine wpAny_call (codeAny_mono rc fun r s2 hq => ?_)
  match r, hq with
  | .error ev, hq => exact (show False from hq).elim
  | .ok (.ret u), hq => exact I1.after hq
  | .ok .next, hq => exact hq.elim
  | .ok .brk, hq => exact hq.elim
  | .ok .cont, hq => exact hq.elim
end
end G
set_option Elab.async false
set_option linter.all false
set_option maxRecDepth 100000
set_option maxHeartbeats 8000000
/-! JL: defs that make lambdas; the head's facts with errors, classes, tables. -/
namespace G
open PySem PySem.Spec PyProof.Rows L2
section
variable {P : Program} {w : World} {K : PySem.W.Frag} {mg : Str → Option Value} {base : Heap} {x : Str} {params : Arguments} {body : List Stmt} {scope : Scope} {fd : FuncData}
/-- a def by its body, its code object known as one that may make lambdas -/
theorem FunD.okGL {CX : CXT} {N ps : List Str} {k : Nat} {sp : Sp} (F : FunD K x x params body scope [] [] (He.ga K x) fd) (lam : lamDefB K x = true) (S : FnScope N ps scope) (len : ∀ xs H Q E, sp xs H Q E → xs.length = ps.length)
    (inside : ∀ (cdv : Value) (A : Around) (outer : List Env) (s : Shared) (H : Hp) (xs : List V) (Q : VK) (E : XK), LamCode K x cdv → A.guards = some [] → Room k (A.deeper (envOfC x scope s.heap.objs.size (He.ga K x) cdv)) → sp xs H Q E →
      ∃ t, PSs (cxOf CX P w K mg base N x scope (He.ga K x) cdv A outer s H E) body t ∧ t { nx := fun _ H' => Q .non H', rt := Q } (start N xs) H) : FnG P w K mg base CX (k + 1) (He.ga K x) fd ps sp := by
  obtain ⟨oc, od, dV, kV, doc, pm, an, cdv, ct, osl, rfl, lk, hcd, _, _⟩ := F.ex
  have lc : LamCode K x cdv := lamDefB_ok lam lk
  refine ⟨len, fun A outer s H args us xs Q E gd room e0 bd r wish => ?_⟩
  obtain ⟨t, does, want⟩ := inside cdv A outer s H xs Q E lc gd (room.deeper _) wish
  have KX : K.In s.heap := e0.mod.kin.keeps fun b o e => (e0.bs b o e).1
  refine codeAny_call_function room.depth (KX _ _ lk) rfl S.co S.gen rfl (PySem.W.codeRec_of KX hcd) (bd _ _ _ _ ?_)
  refine wpAny_newFunctionEnv_cells S.kind (fun y hy => ?_) fun env ee s1 fr => ?_
  · exact (S.par y.1 (List.of_mem_zip hy).1).elim .inl fun cel => .inr ⟨cel, PySem.W.cellsFrom_some _ _ _ (Or.inl cel)⟩
  subst ee
  have nl := (e0.mod.nolimit.keeps fun b o e => (e0.bs b o e).1).keeps fr.toInCall.keep
  have J : L2.Inv (cxOf CX P w K mg base N x scope (He.ga K x) cdv A outer s H E) [] (start N xs) H s1 := inv_start S room.hd e0 (len _ _ _ _ wish) r fr
  refine ⟨nl, codeAny_func (wpAny_mono (does.run [] s1 (start N xs) H _ J want) (fun way s' hs => ?_) fun _ _ z => z)⟩
  match way, hs with
  | .next, ⟨_, H', J, q⟩ => exact ⟨V.non, H', J.os, J.bare, J.base, J.hok, rfl, q⟩
  | .ret u, ⟨v, _, H', J, rv, q⟩ => exact ⟨v, H', J.os, J.bare, J.base, J.hok, rv, q⟩
  | .brk, ⟨_, _, _, q⟩ => exact q.elim
  | .cont, ⟨_, _, _, q⟩ => exact q.elim
end
/-- what the head says, over a base; errors that are raised, classes that are asked, defs that make lambdas -/
structure Hx2 (P : Program) (file : Str) (fa : List He.Fa) (fn : List He.DefD) (tups : List (Str × List V)) (exs : List (Str × Str)) (cls lams : List Str) (K : PySem.W.Frag) (mg : Str → Option Value) (base : Heap) : Prop extends Hx fa fn tups K mg base where
  tb : TabBs K mg base
  ex : (exs.all fun c => iniB file K c.1 c.2) = true
  cl : (cls.all fun c => clsKB K c) = true
  lm : (lams.all fun x => lamDefB K x) = true
  fi : (P.main.file : Str) = file
  su : (P.main.scope.names.lookup ("super" : Str)).isSome = false
section
variable {P : Program} {w : World} {file : Str} {fa : List He.Fa} {fn : List He.DefD} {tups : List (Str × List V)} {exs : List (Str × Str)} {cls lams : List Str} {K : PySem.W.Frag} {mg : Str → Option Value} {base : Heap}
theorem Hx2.exc (e : Hx2 P file fa fn tups exs cls lams K mg base) (hs : mg "super" = none) (i : Nat) {c fld : Str} (h : exs[i]? = some (c, fld) := by rfl) : IniX P w K mg base c fld := by
  obtain ⟨hp, k1, k2⟩ := e.G
  exact iniX k1 k2 (List.all_eq_true.mp e.ex _ (List.mem_of_getElem? h)) e.fi e.su hs
theorem Hx2.cls_ (e : Hx2 P file fa fn tups exs cls lams K mg base) (i : Nat) {c : Str} (h : cls[i]? = some c := by rfl) : clsKB K c = true := List.all_eq_true.mp e.cl _ (List.mem_of_getElem? h)
theorem Hx2.lam_ (e : Hx2 P file fa fn tups exs cls lams K mg base) (i : Nat) {c : Str} (h : lams[i]? = some c := by rfl) : lamDefB K c = true := List.all_eq_true.mp e.lm _ (List.mem_of_getElem? h)
end
/-- what a lambda's context takes -/
theorem takesL {X : Cx} {A : Around} {outer : List Env} {s : Shared} {H : Hp} {E : XK} {scope : Scope} {f c' : Addr} : Takes (LamX.lamCx X A outer s H E scope f c') (fun cls d _ H => E cls d H) := takes_of rfl rfl rfl rfl
/-- facts, defs, more facts over the written part, sys.modules, the tables, the statics -/
def hookY (n : Nat) (fa : List He.Fa) (fn : List He.DefD) (more : PySem.W.Frag → Bool) : PySem.W.Hook where
  α := (Bool × Bool × Bool) × He.AlD
  obs := fun s => ((sysSeen s.heap.get?, more (He.frT s.heap.get? (cStatics :: He.asD s.heap.get? n)), tabSeen s.heap.get? (He.frT s.heap.get? (cStatics :: He.asD s.heap.get? n))), He.obsD fa fn (He.frT s.heap.get? (cStatics :: He.asD s.heap.get? n)))
  val := fun _ => ((true, true, true), He.valD fn)
  says := fun _ h => (∃ o es ep, h.get? sysModules = some o ∧ o.data = .dict es ep) ∧ ∃ K : PySem.W.Frag, K.In h ∧ TabK K h ∧ more K = true ∧ He.SaysD fa fn K
  of := fun _ s e => by
    have e1 := congrArg (fun z => z.1.1) e
    have e2 := congrArg (fun z => z.1.2.1) e
    have e4 := congrArg (fun z => z.1.2.2) e
    have e3 := congrArg (fun z => z.2) e
    refine ⟨?_, He.frT s.heap.get? (cStatics :: He.asD s.heap.get? n), He.frT_in, tabSeen_ok e4, e2, e3⟩
    have e1 : sysSeen s.heap.get? = true := e1
    unfold sysSeen at e1
    split at e1
    · rename_i c d es ep sl h; exact ⟨_, es, ep, h, rfl⟩
    · cases e1
  keeps := fun _ _ _ ⟨⟨o, es, ep, e, d⟩, K, hK, tk, m, c⟩ k => ⟨⟨o, es, ep, k _ _ e, d⟩, K, PySem.W.Frag.In.keeps hK k, ⟨tk.hd, tk.out, fun t ht => k _ _ (tk.emp t ht), tk.one⟩, m, c⟩
def obsY (n : Nat) (fa : List He.Fa) (fn : List He.DefD) (more : PySem.W.Frag → Bool) (s : PySem.W.SharedT) : (Bool × Bool × Bool) × He.AlD :=
  ((sysSeen (HandSHeadRun.getT s), more (He.frT (HandSHeadRun.getT s) (cStatics :: He.asD (HandSHeadRun.getT s) n)), tabSeen (HandSHeadRun.getT s) (He.frT (HandSHeadRun.getT s) (cStatics :: He.asD (HandSHeadRun.getT s) n))), He.obsD fa fn (He.frT (HandSHeadRun.getT s) (cStatics :: He.asD (HandSHeadRun.getT s) n)))
theorem obsY_eq {n : Nat} {fa : List He.Fa} {fn : List He.DefD} {more : PySem.W.Frag → Bool} (s : PySem.W.SharedT) : obsY n fa fn more s = (hookY n fa fn more).obs s.abs := by
  have e : HandSHeadRun.getT s = s.abs.heap.get? := funext (HandSHeadRun.getT_eq s)
  unfold obsY
  rw [e]
  rfl
end G
set_option Elab.async false
set_option linter.all false
set_option maxRecDepth 100000
set_option maxHeartbeats 8000000
/-! JM: running mirrors that may raise: Ax ee r k = r ends well with k, or raises with ee; the new forms. -/
namespace G
open PySem PySem.Spec PyProof.Rows L2
section
variable {ρ : Ev} {c : Churn} {fa : Ev → M D} {c1 : Ev → M Bool} {k : D → Churn → Prop} {kp : Ev × Ctl → Churn → Prop} {ee : Exn → Churn → Prop}
theorem ok_raise {cn fld : Str} : Ok (sRaise cn fld fa ρ c) kp = Ok (fa ρ c) fun _ _ => False := by
  unfold sRaise; rw [ok_bind]; rfl
theorem ok_isX {ns : List Str} : Ok (eIsX ns fa ρ c) k = Ok (fa ρ c) fun x c1 => ∃ b, isXb ns x = some b ∧ k (.bl b) c1 := by
  unfold eIsX; simp only [ok_bind, ok_lift]
  congr 1; funext x c2; apply propext
  cases isXb ns x <;> simp
theorem ok_attr {n : Str} : Ok (eAttr n fa ρ c) k = Ok (fa ρ c) fun x c1 => ∃ d, attrD n x = some d ∧ k d c1 := by
  unfold eAttr; simp only [ok_bind, ok_lift]
theorem ok_act {N : Nat} {gG : M D → Sm} {act : M D} : Ok (runAct N gG act c) k = Ok (gG act (List.replicate N Sl.no) c) fun p c1 => match p.2 with | .ret d => k d c1 | .nx => k .non c1 | _ => False := by
  unfold runAct
  rw [ok_def]
  rfl
theorem ok_tryX {store : Option Nat} {hs : List Hd} {x : Exn} {c' : Churn} (h : fa ρ c = .exn x c') : Ok (sTry fa store hs ρ c) kp = Ok (runHds hs x ρ c') kp := by
  unfold sTry; rw [h]
theorem ok_hd {x : Exn} {h : Hd} {hs : List Hd} (e : errSub x.cls h.cls = true) : Ok (runHds (h :: hs) x ρ c) kp = Ok (h.run (setO ρ h.slot (.val (excD x))) c) fun p c1 => kp (setO p.1 h.slot .no, p.2) c1 := by
  unfold runHds; rw [if_pos e]; simp only [ok_bind, ok_nx, ok_pure]
end
end G
set_option Elab.async false
set_option linter.all false
set_option maxRecDepth 100000
set_option maxHeartbeats 8000000
/-! JN: x in (a, b, ..) where things are data of any depth. -/
set_option Elab.async false
set_option linter.all false
set_option maxRecDepth 100000
set_option maxHeartbeats 8000000
/-! JO: min of ints, of texts. -/
namespace G
open PySem PySem.Spec PyProof.Rows L2
def strsA : List D → Option (List Str)
  | [] => some []
  | .str s :: r => (strsA r).map (s :: ·)
  | _ => none
def minS (s : Str) (ss : List Str) : Str := ss.foldl (fun a b => if b.cps.toList < a.cps.toList then b else a) s
def gMinA : List D → Option D
  | [.lst xs] => match intA xs with
    | some ns => ns.min?.map D.int
    | none => match strsA xs with
      | some (s :: ss) => some (.str (minS s ss))
      | _ => none
  | [.tup xs] => match intA xs with
    | some (x :: ns) => some (.int (ns.foldl min x))
    | _ => none
  | [.int i, .int j] => some (.int (if j < i then j else i))
  | _ => none
def rMinTI (K : PySem.W.Frag) : List V → Hp → VK → Prop := fun xs H Q => ∃ (a : Addr) (x : Int) (ns : List Int), xs = [.ref a] ∧ SqT K H a ((x :: ns).map V.int) ∧ Q (.int (ns.foldl min x)) H
def rMinS (K : PySem.W.Frag) : List V → Hp → VK → Prop := fun xs H Q => ∃ (a : Addr) (s : Str) (ss : List Str), xs = [.ref a] ∧ SqL K H a ((s :: ss).map V.str) ∧ Q (.str (minS s ss)) H
section
variable {X : Cx} {K : PySem.W.Frag} {ca : Dr} {E : XK}
theorem minD_strs : ∀ (ss : List Str) (s : Str), PySem.W.minD (.str s) (ss.map PyData.str) = .str (minS s ss)
  | [], s => rfl
  | t :: r, s => by
    have ih := minD_strs r
    unfold PySem.W.minD minS at ih ⊢
    rw [List.map_cons, List.foldl_cons, List.foldl_cons, PySem.W.dataLt_str]
    by_cases h : t.cps.toList < s.cps.toList
    · rw [if_pos (decide_eq_true h), if_pos h, ih]
    · rw [if_neg (by simpa using h), if_neg h, ih]
theorem strs_read {h : Heap} : ∀ {ss : List Str} {us : List Value}, Vals (ss.map V.str) us → ReadsAll h us (ss.map PyData.str) []
  | [], us, r => by cases r; exact .nil
  | s :: ss, us, r => by
    rw [List.map_cons] at r
    cases r with
    | cons r1 r2 =>
      obtain ⟨t, rfl⟩ := r1
      exact .cons (as := []) (bs := []) (.str s t) (strs_read r2)
theorem depth_strs : ∀ ss : List Str, PyData.depthAll (ss.map PyData.str) = 0
  | [] => rfl
  | s :: ss => by
    show max (PyData.depth (.str s)) (PyData.depthAll (ss.map PyData.str)) = 0
    rw [depth_strs ss]; rfl
theorem call_minS (hc : X.calm = true) (hu : X.A.units + 1 < cLine) : CallR X (.builtin "min") (rMinS X.K) := by
  intro pins s σ H vs us Q I r h
  obtain ⟨a, x, ss, rfl, hs, q⟩ := h
  obtain ⟨its, rv, hl, _⟩ := I.list hs
  rw [Vals.ref1 r]
  have rd : ReadsAll s.heap its.toArray.toList (PyData.str x :: ss.map PyData.str) [] := by
    have := strs_read (h := s.heap) rv
    simpa using this
  refine PySem.W.min_list_data (I.ok.hd hc) hl.isList rd ⟨fun p hp p' hp' => ?_, fun p hp => ?_⟩ ?_ fun i v h' tk bs hv rd' hk => ?_
  · obtain ⟨a, _, rfl⟩ := List.mem_map.mp (show p ∈ (x :: ss).map PyData.str from hp)
    obtain ⟨b, _, rfl⟩ := List.mem_map.mp (show p' ∈ (x :: ss).map PyData.str from hp')
    rfl
  · obtain ⟨a, _, rfl⟩ := List.mem_map.mp (show p ∈ (x :: ss).map PyData.str from hp)
    exact fun z => by cases z
  · have : PyData.depthAll (PyData.str x :: ss.map PyData.str) = 0 := depth_strs (x :: ss)
    rw [this]; exact hu
  · rw [minD_strs] at rd'
    generalize hm : PyData.str (minS x ss) = m at rd'
    cases rd' with
    | str y t =>
      cases hm
      exact ⟨.str _, H, I.kept hk, ⟨t, rfl⟩, q⟩
    | _ => cases hm
theorem ints_read {h : Heap} : ∀ {ns : List Int} {us : List Value}, Vals (ns.map V.int) us → ReadsAll h us (ns.map PyData.int) []
  | [], us, r => by cases r; exact .nil
  | n :: ns, us, r => by
    rw [List.map_cons] at r
    cases r with
    | cons r1 r2 =>
      obtain ⟨t, rfl⟩ := r1
      exact .cons (as := []) (bs := []) (.int n t) (ints_read r2)
theorem depth_isM : ∀ ns : List Int, PyData.depthAll (ns.map PyData.int) = 0
  | [] => rfl
  | n :: ns => by
    show max (PyData.depth (.int n)) (PyData.depthAll (ns.map PyData.int)) = 0
    rw [depth_isM ns]; rfl
theorem call_minTI (hc : X.calm = true) (hu : X.A.units + 1 < cLine) : CallR X (.builtin "min") (rMinTI X.K) := by
  intro pins s σ H vs us Q I r h
  obtain ⟨a, x, ns, rfl, hs, q⟩ := h
  obtain ⟨its, rv, hl, _⟩ := I.tuple hs
  rw [Vals.ref1 r]
  have rd : ReadsAll s.heap its.toArray.toList (PyData.int x :: ns.map PyData.int) [] := by
    have := ints_read (h := s.heap) rv
    simpa using this
  refine PySem.W.min_tuple_data (I.ok.hd hc) hl rd ⟨fun p hp p' hp' => ?_, fun p hp => ?_⟩ ?_ fun i v h' tk bs hv rd' hk => ?_
  · obtain ⟨a, _, rfl⟩ := List.mem_map.mp (show p ∈ (x :: ns).map PyData.int from hp)
    obtain ⟨b, _, rfl⟩ := List.mem_map.mp (show p' ∈ (x :: ns).map PyData.int from hp')
    rfl
  · obtain ⟨a, _, rfl⟩ := List.mem_map.mp (show p ∈ (x :: ns).map PyData.int from hp)
    exact fun z => by cases z
  · have : PyData.depthAll (PyData.int x :: ns.map PyData.int) = 0 := depth_isM (x :: ns)
    rw [this]; exact hu
  · rw [PySem.W.minD_ints] at rd'
    generalize hm : PyData.int (ns.foldl min x) = m at rd'
    cases rd' with
    | int y t =>
      cases hm
      exact ⟨.int _, H, I.kept hk, ⟨t, rfl⟩, q⟩
    | _ => cases hm
theorem strsA_rl {Z : Addr → Prop} {H : Hp} : ∀ {vs : List V} {ds : List D} {ss : List Str}, RlA K ca Z H vs ds → strsA ds = some ss → vs = ss.map V.str
  | _, _, ss, .nil, h => by cases h; rfl
  | _, _, ss, .cons (d := d) (ds := ds) r rs, h => by
    cases d with
    | str s =>
      have h : (strsA ds).map (s :: ·) = some ss := h
      cases hs : strsA ds with
      | none => rw [hs] at h; cases h
      | some ts =>
        rw [hs] at h; cases h
        cases r
        rw [strsA_rl rs hs]; rfl
    | _ => cases h
theorem cal_minA : CalD K ca (fun xs H Q => ((rMin K xs H Q ∨ rMin2 xs H Q) ∨ rMinS K xs H Q) ∨ rMinTI K xs H Q) gMinA := fun Z H c xs ds d' Q z co r hg q => by
  unfold gMinA at hg
  split at hg
  · rename_i ys
    cases hs : intA ys with
    | some ns =>
      rw [hs] at hg
      have hg : ns.min?.map D.int = some d' := hg
      cases hm : ns.min? with
      | none => rw [hm] at hg; cases hg
      | some m =>
        rw [hm] at hg; cases hg
        cases r with | cons r1 r2 => cases r1 with | lst n h ra =>
        cases r2
        refine .inl (.inl (.inl ⟨_, ns, rfl, by rw [← (intA_rl ra hs).1]; exact SqL.of h, pos_of (List.min?_eq_some_iff.mp hm).1, fun k hk hall => ?_⟩))
        rw [min_one hm hk hall]
        exact q _ H .refl (.int _) co
    | none =>
      rw [hs] at hg
      cases ht : strsA ys with
      | none => rw [ht] at hg; cases hg
      | some l =>
        rw [ht] at hg
        cases l with
        | nil => cases hg
        | cons s ss =>
          cases hg
          cases r with | cons r1 r2 => cases r1 with | lst n h ra =>
          cases r2
          exact .inl (.inr ⟨_, s, ss, rfl, by rw [← strsA_rl ra ht]; exact SqL.of h, q _ H .refl (.str _) co⟩)
  · rename_i ys
    cases hs : intA ys with
    | none => rw [hs] at hg; cases hg
    | some l =>
      rw [hs] at hg
      cases l with
      | nil => cases hg
      | cons x ns =>
        cases hg
        cases r with | cons r1 r2 => cases r1 with | tup hH ra =>
        cases r2
        exact .inr ⟨_, x, ns, rfl, by rw [← (intA_rl ra hs).1]; exact hH.s, q _ H .refl (.int _) co⟩
  · cases hg
    cases r with | cons r1 r2 => cases r1; cases r2 with | cons r3 r4 => cases r3; cases r4; exact .inl (.inl (.inr ⟨_, _, rfl, q _ H .refl (.int _) co⟩))
  · cases hg
theorem cr_minA (hc : X.calm = true) (hu : X.A.units + 1 < cLine) : CallR X (.builtin "min") (fun xs H Q => ((rMin X.K xs H Q ∨ rMin2 xs H Q) ∨ rMinS X.K xs H Q) ∨ rMinTI X.K xs H Q) := callR_or (callR_or (callR_or (cr_min hc) (call_min2 hc)) (call_minS hc hu)) (call_minTI hc hu)
theorem room1 {k : Nat} {A : Around} (r : Room k A) : A.units + 1 < cLine := by have := r.un; omega
end
end G
set_option Elab.async false
set_option linter.all false
set_option maxRecDepth 100000
set_option maxHeartbeats 8000000
/-! JP: [e for a in xs if .. for b in ys if ..]: what it does, as a new list. -/
set_option Elab.async false
set_option linter.all false
set_option maxRecDepth 100000
set_option maxHeartbeats 8000000
/-! JR: laws that draw from all 63 cells. -/
namespace G
open PySem PySem.Spec PyProof.Rows L2
/-- what is left to be shown of a law: it gives True, whatever the cells are -/
def LawTrue63 (n : Nat) (g : Sm) : Prop := ∀ ns : List Int, ns.length ≤ 63 → ∃ ρ c, g (.val (.scr ns) :: .val .chn :: List.replicate (n - 2) .no) ⟨ns.take 63, 0, 0⟩ = .ok (ρ, .ret (.bl true)) c
theorem LawTrue63.of {n : Nat} {g : Sm} (h : ∀ ns : List Int, ns.length ≤ 63 → Ok (g (.val (.scr ns) :: .val .chn :: List.replicate (n - 2) .no) ⟨ns.take 63, 0, 0⟩) fun p _ => p.2 = .ret (.bl true)) : LawTrue63 n g := fun cells hc => by
  obtain ⟨⟨ρ, ctl⟩, c, e, q⟩ := (h cells hc).ex
  cases q
  exact ⟨ρ, c, e⟩
end G
set_option Elab.async false
set_option linter.all false
set_option maxRecDepth 100000
set_option maxHeartbeats 8000000
/-! JS: names of a module's built-in functions (gcd); while. -/
namespace G
open PySem PySem.Spec PyProof.Rows L2
structure Hx3 (P : Program) (file : Str) (fa : List He.Fa) (fn : List He.DefD) (tups : List (Str × List V)) (exs : List (Str × Str)) (cls lams : List Str) (bgs : List (Str × String)) (K : PySem.W.Frag) (mg : Str → Option Value) (base : Heap) : Prop extends Hx2 P file fa fn tups exs cls lams K mg base where
  bg : (bgs.all fun p => decide (PySem.W.nsIn K mainGlobals p.1 = some (some (.builtin p.2)))) = true
section
variable {P : Program} {w : World} {file : Str} {fa : List He.Fa} {fn : List He.DefD} {tups : List (Str × List V)} {exs : List (Str × Str)} {cls lams : List Str} {bgs : List (Str × String)} {K : PySem.W.Frag} {mg : Str → Option Value} {base : Heap}
theorem Hx3.bg_ (e : Hx3 P file fa fn tups exs cls lams bgs K mg base) (i : Nat) {x : Str} {id : String} (h : bgs[i]? = some (x, id) := by rfl) : mg x = some (.builtin id) := by
  obtain ⟨hp, k1, k2⟩ := e.G
  exact PySem.W.mg_of k1 k2 (of_decide_eq_true (List.all_eq_true.mp e.bg _ (List.mem_of_getElem? h)))
end
section
variable {X : Cx} {K : PySem.W.Frag} {ca : Dr} {E : XK} {x : Str} {p pos : Pos} {e : Expr} {es : List Expr} {id : String} {r : List V → Hp → VK → Prop} {gl : List D → Option D} {fs : Ev → M (List D)}
theorem d_callBf (hc : CallR X (.builtin id) r) (hr : CalD X.K ca r gl) (hm : X.mg x = some (.builtin id)) (ha : PA X (e :: es) (tAs X.K ca E fs)) (hg : Gl X x := by rfl) (hd : (x == ("__debug__" : Str)) = false := by decide)
    (he : starEach (e :: es) X.env = (false, eval e X.env) :: starEach es X.env := by rfl) (hpl : (backTo pos (starEach es X.env)).any (·.1) = false := by rfl) :
    PE X (.Call (.Name x p) (e :: es) [] pos) (tD X.K ca E (eArgs gl fs)) :=
  ⟨fun pins s σ H Q I h => (pe_callBfun hc hg hm ha hd he hpl).run pins s σ H Q I (call_run hr h)⟩
def gGcd : List D → Option D
  | [.int a, .int b] => some (.int ((Nat.gcd a.natAbs b.natAbs : Nat) : Int))
  | _ => none
theorem cal_gcd : CalD K ca rGcd gGcd := fun Z H c xs ds d' Q z co r hg q => by
  unfold gGcd at hg
  split at hg
  · cases hg
    cases r with | cons r1 r2 => cases r1; cases r2 with | cons r3 r4 => cases r3; cases r4; exact ⟨_, _, rfl, q _ H .refl (.int _) co⟩
  · cases hg
/-- while, ten thousand turns at most -/
def sWh (c : Ev → M Bool) (body : Sm) : Sm := fun ρ => whileM c body 10000 ρ
theorem s_wh {test : Expr} {body : List Stmt} {c : Ev → M Bool} {b : Sm} (hp : PassesOwn (model X.prog X.w) X.A X.env X.xe) (hc : PT X test (tT X.K ca E c)) (hb : PSs X body (tS X.K ca E b)) : PS X (.While test body [] pos) (tS X.K ca E (sWh c b)) := s_while (fun _ => 10000) hp hc hb
end
end G
set_option Elab.async false
set_option linter.all false
set_option maxRecDepth 100000
set_option maxHeartbeats 4000000
/-! JT: list(range(a, b)) with ends of any size. -/
set_option Elab.async false
set_option linter.all false
set_option maxRecDepth 100000
set_option maxHeartbeats 8000000
/-! JU: d.items() walked with one name as target: the pair handed out before may live or be gone. -/
set_option Elab.async false
set_option linter.all false
set_option maxRecDepth 100000
set_option maxHeartbeats 8000000
/-! JV: for x in d.items() with one name, the dict locked; unlocked behind an expression. -/
set_option Elab.async false
set_option linter.all false
set_option maxRecDepth 100000
set_option maxHeartbeats 8000000
/-! JW: comprehensions over a dict (its keys, or its items with one name as target): it is locked while they run. -/
set_option Elab.async false
set_option linter.all false
set_option maxRecDepth 100000
set_option maxHeartbeats 8000000
/-! JX: draws of the third shape. -/
set_option Elab.async false
set_option linter.all false
set_option maxRecDepth 100000
set_option maxHeartbeats 4000000
/-! JY: *d, d a dict, in a display; x, y = a, b ahead of a def's try. -/
set_option Elab.async false
set_option linter.all false
set_option maxRecDepth 100000
set_option maxHeartbeats 4000000
/-! KA: comprehensions out of which an error leaves. -/
set_option Elab.async false
set_option linter.all false
set_option maxRecDepth 100000
set_option maxHeartbeats 4000000
/-! KB: an error that leaves a block. -/
set_option Elab.async false
set_option linter.all false
set_option maxRecDepth 100000
set_option maxHeartbeats 4000000
/-! KC: a list made by a block out of which an error may leave. -/
set_option Elab.async false
set_option linter.all false
set_option maxRecDepth 100000
set_option maxHeartbeats 4000000
/-! KD: comprehensions as mirrors that may raise. -/
namespace G
open PySem PySem.Spec PyProof.Rows L2
theorem At.nx {α : Type} {m : M α} {c : Churn} {k : α → Churn → Prop} {e : Exn → Churn → Prop} (h : At ((nx m) c) k e) : At (m c) k fun _ _ => False := by
  unfold G.nx at h
  cases q : m c with
  | ok a c' => rw [q] at h; exact h
  | exn x c' => rw [q] at h; exact h.elim
  | stuck => rw [q] at h; exact h.elim
theorem EOk.blk {K : PySem.W.Frag} {ca : Dr} {E : XK} {Z Y : Addr → Prop} {A : Addr} {H H3 : Hp} (e : Ext ca H H3) {x : Exn} {c : Churn} (h : EOk K ca E (U Z Y) H x c) : EOk K ca E (U Z fun b => Y b ∨ b = A) H3 x c := fun cv od H' e' r co => by
  obtain ⟨q0, q1, d, fs, q2, q3, q4, q5⟩ := r
  exact h cv od H' (e.trans e') ⟨q0, q1, d, fs, q2, q3, q4, q5.anti fun b z => z.elim .inl fun z => .inr (.inl z)⟩ co
end G
set_option Elab.async false
set_option linter.all false
set_option maxRecDepth 100000
set_option maxHeartbeats 4000000
/-! KF: dict(d), a copy; runs of comprehensions that may raise. -/
set_option Elab.async false
set_option linter.all false
set_option maxRecDepth 100000
set_option maxHeartbeats 4000000
/-! KH: dicts of a comprehension whose keys are trees of tuples. -/
namespace G
open PySem PySem.Spec PyProof.Rows L2
mutual
/-- what lies in H as a key -/
inductive NkV (K : PySem.W.Frag) (H : Hp) : NestedKey → V → Prop
  | non : NkV K H .none .non
  | bl (b : Bool) : NkV K H (.num (if b = true then 1 else 0)) (.bl b)
  | int (i : Int) : NkV K H (.num i) (.int i)
  | str (x : Str) : NkV K H (.text x) (.str x)
  | tup {a : Addr} {ks : List NestedKey} {vs : List V} : TupAt K H a vs → NkA K H ks vs → NkV K H (.tup ks) (.ref a)
inductive NkA (K : PySem.W.Frag) (H : Hp) : List NestedKey → List V → Prop
  | nil : NkA K H [] []
  | cons {k : NestedKey} {v : V} {ks : List NestedKey} {vs : List V} : NkV K H k v → NkA K H ks vs → NkA K H (k :: ks) (v :: vs)
end
mutual
theorem NkV.at {X : Cx} {pins : List (Addr × Obj)} {σ : L2.St} {H : Hp} {s : Shared} (I : L2.Inv X pins σ H s) : ∀ {k : NestedKey} {v : V} {u : Value}, NkV X.K H k v → RelV v u → NestedIs s.heap k u
  | _, _, u, .non, r => by cases (show u = Value.none from r); exact .none
  | _, _, u, .bl b, r => by cases (show u = Value.bool b from r); exact .bool rfl
  | _, _, u, .int i, r => by obtain ⟨t, e⟩ := (show ∃ t, u = Value.int i t from r); subst e; exact .int i t
  | _, _, u, .str x, r => by obtain ⟨t, e⟩ := (show ∃ t, u = Value.str x t from r); subst e; exact .text x t
  | _, _, u, .tup ht ha, r => by
    cases (show u = Value.ref _ from r)
    obtain ⟨us, rv, p, _⟩ := I.tuple ht.s
    obtain ⟨ol, e, c, n, d⟩ := (show s.heap.IsTuple _ us.toArray from p)
    exact .tup e c d (NkA.at I ha rv)
theorem NkA.at {X : Cx} {pins : List (Addr × Obj)} {σ : L2.St} {H : Hp} {s : Shared} (I : L2.Inv X pins σ H s) : ∀ {ks : List NestedKey} {vs : List V} {us : List Value}, NkA X.K H ks vs → Vals vs us → NestedAll s.heap ks us
  | _, _, _, .nil, r => by cases r; exact .nil
  | _, _, _, .cons h1 h2, r => by
    cases r with | cons r1 r2 => exact .cons (NkV.at I h1 r1) (NkA.at I h2 r2)
end
end G
set_option Elab.async false
set_option linter.all false
set_option maxRecDepth 100000
set_option maxHeartbeats 8000000
/-! KI: {k: v for t in it if ..}, the keys trees: run by hand, the dict kept apart. -/
namespace G
open PySem PySem.Spec PyProof.Rows L2
abbrev NkL := List (NestedKey × V)
/-- the entries as they lie -/
def colL (xs : List (NestedKey × Addr × Value)) : NkL := xs.map fun x => (x.1, V.ref x.2.1)
/-- the dict at D, the keys' own shape left open -/
def DkAt (prog : Program) (w : World) (h : Heap) (D : Addr) (L : NkL) : Prop := ∃ xs : List (NestedKey × Addr × Value), colL xs = L ∧
  ∃ o es ep, h.get? D = some o ∧ o.ExactDict ∧ o.data = .dict es ep ∧ es.toList = xs.map (entryOfKey (nestedKind prog w)) ∧ (xs.map (·.1)).Nodup
section
variable {prog : Program} {w : World}
theorem DkAt.there {h : Heap} {D : Addr} {L : NkL} (x : DkAt prog w h D L) : ∃ o, h.get? D = some o ∧ ∀ v, o.data ≠ .cell v := by
  obtain ⟨xs, _, o, es, ep, e, _, d, _⟩ := x
  exact ⟨o, e, fun v q => by rw [d] at q; cases q⟩
theorem DkAt.stay {h g : Heap} {D : Addr} {L : NkL} (x : DkAt prog w h D L) (k : ∀ o, h.get? D = some o → g.get? D = some o) : DkAt prog w g D L := by
  obtain ⟨xs, e1, o, es, ep, e, r⟩ := x
  exact ⟨xs, e1, o, es, ep, k o e, r⟩
theorem DkAt.new {h : Heap} {D : Addr} (e : h.get? D = some { cls := .type "dict", data := .dict #[] }) : DkAt prog w h D [] := ⟨[], rfl, _, #[], 0, e, ⟨rfl, rfl, rfl⟩, rfl, rfl, List.nodup_nil⟩
end
end G
set_option Elab.async false
set_option linter.all false
set_option maxRecDepth 100000
set_option maxHeartbeats 8000000
/-! KJ: sorted({k: c for t in it if ..}), the keys tuples of any make. -/
namespace G
open PySem PySem.Spec PyProof.Rows L2
section
variable {X : Cx} {ca : Dr} {E : XK}
theorem At.get {α : Type} {m : M α} {c : Churn} {k : α → Churn → Prop} (h : At (m c) k fun _ _ => False) : ∃ a c1, k a c1 := by
  cases q : m c with
  | ok a c' => rw [q] at h; exact ⟨a, c', h⟩
  | exn x c' => rw [q] at h; exact h.elim
  | stuck => rw [q] at h; exact h.elim
end
end G
set_option Elab.async false
set_option linter.all false
set_option maxRecDepth 100000
set_option maxHeartbeats 4000000
/-! KK: range with a step from 1 on; constants of the module that are tuples within tuples. -/
namespace G
open PySem PySem.Spec PyProof.Rows L2
/-! ### constants that are tuples within tuples -/
def isTA (f : Value → D → Bool) : List Value → List D → Bool
  | [], [] => true
  | u :: us, d :: ds => f u d && isTA f us ds
  | _, _ => false
def isT (K : PySem.W.Frag) : Nat → Value → D → Bool
  | 0, _, _ => false
  | n + 1, u, d => match u, d with
    | .none, .non => true
    | .bool b, .bl b' => decide (b = b')
    | .int i _, .int j => decide (i = j)
    | .str x _, .str y => decide (x = y)
    | .ref a, .tup ds => (match K.lookup a with
      | some ⟨.type c, none, .seq its _, _⟩ => decide (c = "tuple") && (decide (its.size ≤ sizeLine) && isTA (isT K n) its.toList ds)
      | _ => false)
    | _, _ => false
def ntFact (K : PySem.W.Frag) (x : Str) (ds : List D) : Bool := isT K 6 (.ref (He.ga K x)) (.tup ds)
structure Hx4 (P : Program) (file : Str) (fa : List He.Fa) (fn : List He.DefD) (tups : List (Str × List V)) (exs : List (Str × Str)) (cls lams : List Str) (bgs : List (Str × String)) (nts : List (Str × List D)) (K : PySem.W.Frag) (mg : Str → Option Value) (base : Heap) : Prop extends Hx3 P file fa fn tups exs cls lams bgs K mg base where
  nt : (nts.all fun p => ntFact K p.1 p.2) = true
end G
set_option Elab.async false
set_option linter.all false
set_option maxRecDepth 100000
set_option maxHeartbeats 4000000
/-! KT: the head's facts, with the making of errors. -/
namespace G
open PySem PySem.Spec PyProof.Rows L2
structure Hx5 (P : Program) (file : Str) (fa : List He.Fa) (fn : List He.DefD) (tups : List (Str × List V)) (exs : List (Str × Str)) (cls lams : List Str) (bgs : List (Str × String)) (nts : List (Str × List D)) (xns : List (Str × List Str)) (K : PySem.W.Frag) (mg : Str → Option Value) (base : Heap) : Prop extends Hx4 P file fa fn tups exs cls lams bgs nts K mg base where
  xn : (xns.all fun c => iniBn file K c.1 c.2) = true
  et : errTB K = true
section
variable {P : Program} {w : World} {file : Str} {fa : List He.Fa} {fn : List He.DefD} {tups : List (Str × List V)} {exs : List (Str × Str)} {cls lams : List Str} {bgs : List (Str × String)} {nts : List (Str × List D)} {xns : List (Str × List Str)} {K : PySem.W.Frag} {mg : Str → Option Value} {base : Heap}
theorem Hx5.mk_ (e : Hx5 P file fa fn tups exs cls lams bgs nts xns K mg base) (hs : mg "super" = none) (i : Nat) {c : Str} {flds : List Str} (h : xns[i]? = some (c, flds) := by rfl) : IniXn P w K mg base c flds := by
  obtain ⟨hp, k1, k2⟩ := e.G
  exact iniXn k1 k2 (List.all_eq_true.mp e.xn _ (List.mem_of_getElem? h)) e.fi e.su hs
end
theorem boot_ValueError : bootBuiltins "ValueError" = some (.type "ValueError") := by decide +kernel
theorem boot_LookupError : bootBuiltins "LookupError" = some (.type "LookupError") := by decide +kernel
theorem boot_TypeError : bootBuiltins "TypeError" = some (.type "TypeError") := by decide +kernel
theorem boot_ArithmeticError : bootBuiltins "ArithmeticError" = some (.type "ArithmeticError") := by decide +kernel
theorem boot_AttributeError : bootBuiltins "AttributeError" = some (.type "AttributeError") := by decide +kernel
theorem boot_RuntimeError : bootBuiltins "RuntimeError" = some (.type "RuntimeError") := by decide +kernel
end G
set_option Elab.async false
set_option linter.all false
set_option maxRecDepth 100000
set_option maxHeartbeats 8000000
/-! k00_errors_keep_their_fields: printed: the text by places, what each def does, and that it does. -/
namespace G
open PySem PySem.Spec PyProof.Rows L2
def topS (i : Nat) : Stmt := PySem.Challenge.pw_claimduel_k00_errors_keep_their_fields.main.body.getD i (.Pass ⟨0, 0, 0, 0⟩)
abbrev sx__law_by_name : Stmt := topS 47
abbrev sx__law_by_place : Stmt := topS 46
abbrev sx__law_caught : Stmt := topS 51
abbrev sx__law_fields : Stmt := topS 48
abbrev sx__law_flags : Stmt := topS 49
abbrev sx__law_is_far : Stmt := topS 50
abbrev sx__law_satchel : Stmt := topS 42
abbrev sx__law_reach : Stmt := topS 43
abbrev sx__law_one : Stmt := topS 44
abbrev sx__law_value : Stmt := topS 45
abbrev sx_lcm_in : Stmt := topS 33
abbrev sx_inverse_in : Stmt := topS 34
abbrev sx_root_in : Stmt := topS 35
abbrev sx_both_in : Stmt := topS 36
abbrev sx_is_integer : Stmt := topS 26
abbrev sx_is_within : Stmt := topS 27
abbrev sx_is_left : Stmt := topS 32
abbrev sx_both_rests : Stmt := topS 40
abbrev sx_are_integers : Stmt := topS 28
abbrev sx_are_counted : Stmt := topS 31
abbrev sx_gcd_of : Stmt := topS 37
abbrev sx_lcm_of : Stmt := topS 38
abbrev sx_need_number : Stmt := topS 29
abbrev sx_rest_of : Stmt := topS 39
abbrev sx_law : Stmt := topS 52
def faL : List He.Fa := ([.free "super", .glo "DuelError", .free "isinstance", .glo "BadNumber", .glo "BadName", .glo "BadForm", .glo "BadClaim", .glo "BadSetting", .glo "BadLayout", .glo "BadRow", .glo "BadMove", .glo "BadDuel", .glo "BadBook", .glo "BadRule", .glo "BadProgram", .glo "BadPaper", .glo "Misfit", .glo "NoName", .glo "Twice", .glo "TooMany", .glo "BadText", .glo "BadLine", .glo "Nothing", .glo "Over", .free "LookupError", .free "TypeError", .free "ArithmeticError", .free "AttributeError", .free "RuntimeError", .free "int"] : List He.Fa) ++ ([.free "len", .free "abs", .free "str", .free "bool", .free "list", .free "tuple", .free "all", .free "min", .free "range", .free "repr", .glo "Missing", .free "ValueError", .glo "_law_by_name", .glo "_law_by_place", .glo "_law_caught", .glo "_law_fields", .glo "_law_flags", .glo "_law_is_far", .glo "_law_satchel", .glo "_law_reach", .glo "_law_one", .glo "_law_value", .glo "lcm_in", .glo "inverse_in", .glo "root_in", .glo "both_in", .glo "is_integer", .glo "is_within", .glo "is_left", .glo "both_rests"] : List He.Fa) ++ ([.glo "are_integers", .glo "are_counted", .glo "gcd_of", .glo "lcm_of", .glo "need_number", .glo "rest_of", .glo "law"] : List He.Fa)
def dd__law_by_name : He.DefD := ⟨("_law_by_name", none), "_law_by_name", "_law_by_name", defArgs sx__law_by_name, defBody sx__law_by_name, defScope sx__law_by_name, [], []⟩
def dd__law_by_place : He.DefD := ⟨("_law_by_place", none), "_law_by_place", "_law_by_place", defArgs sx__law_by_place, defBody sx__law_by_place, defScope sx__law_by_place, [], []⟩
def dd__law_caught : He.DefD := ⟨("_law_caught", none), "_law_caught", "_law_caught", defArgs sx__law_caught, defBody sx__law_caught, defScope sx__law_caught, [], []⟩
def dd__law_fields : He.DefD := ⟨("_law_fields", none), "_law_fields", "_law_fields", defArgs sx__law_fields, defBody sx__law_fields, defScope sx__law_fields, [], []⟩
def dd__law_flags : He.DefD := ⟨("_law_flags", none), "_law_flags", "_law_flags", defArgs sx__law_flags, defBody sx__law_flags, defScope sx__law_flags, [], []⟩
def dd__law_is_far : He.DefD := ⟨("_law_is_far", none), "_law_is_far", "_law_is_far", defArgs sx__law_is_far, defBody sx__law_is_far, defScope sx__law_is_far, [], []⟩
def dd__law_satchel : He.DefD := ⟨("_law_satchel", none), "_law_satchel", "_law_satchel", defArgs sx__law_satchel, defBody sx__law_satchel, defScope sx__law_satchel, [], []⟩
def dd__law_reach : He.DefD := ⟨("_law_reach", none), "_law_reach", "_law_reach", defArgs sx__law_reach, defBody sx__law_reach, defScope sx__law_reach, [], []⟩
def dd__law_one : He.DefD := ⟨("_law_one", none), "_law_one", "_law_one", defArgs sx__law_one, defBody sx__law_one, defScope sx__law_one, [], []⟩
def dd__law_value : He.DefD := ⟨("_law_value", none), "_law_value", "_law_value", defArgs sx__law_value, defBody sx__law_value, defScope sx__law_value, [], []⟩
def dd_lcm_in : He.DefD := ⟨("lcm_in", none), "lcm_in", "lcm_in", defArgs sx_lcm_in, defBody sx_lcm_in, defScope sx_lcm_in, [], []⟩
def dd_inverse_in : He.DefD := ⟨("inverse_in", none), "inverse_in", "inverse_in", defArgs sx_inverse_in, defBody sx_inverse_in, defScope sx_inverse_in, [], []⟩
def dd_root_in : He.DefD := ⟨("root_in", none), "root_in", "root_in", defArgs sx_root_in, defBody sx_root_in, defScope sx_root_in, [], []⟩
def dd_both_in : He.DefD := ⟨("both_in", none), "both_in", "both_in", defArgs sx_both_in, defBody sx_both_in, defScope sx_both_in, [], []⟩
def dd_is_integer : He.DefD := ⟨("is_integer", none), "is_integer", "is_integer", defArgs sx_is_integer, defBody sx_is_integer, defScope sx_is_integer, [], []⟩
def dd_is_within : He.DefD := ⟨("is_within", none), "is_within", "is_within", defArgs sx_is_within, defBody sx_is_within, defScope sx_is_within, [], []⟩
def dd_is_left : He.DefD := ⟨("is_left", none), "is_left", "is_left", defArgs sx_is_left, defBody sx_is_left, defScope sx_is_left, [], []⟩
def dd_both_rests : He.DefD := ⟨("both_rests", none), "both_rests", "both_rests", defArgs sx_both_rests, defBody sx_both_rests, defScope sx_both_rests, [], []⟩
def dd_are_integers : He.DefD := ⟨("are_integers", none), "are_integers", "are_integers", defArgs sx_are_integers, defBody sx_are_integers, defScope sx_are_integers, [], []⟩
def dd_are_counted : He.DefD := ⟨("are_counted", none), "are_counted", "are_counted", defArgs sx_are_counted, defBody sx_are_counted, defScope sx_are_counted, [], []⟩
def dd_gcd_of : He.DefD := ⟨("gcd_of", none), "gcd_of", "gcd_of", defArgs sx_gcd_of, defBody sx_gcd_of, defScope sx_gcd_of, [], []⟩
def dd_lcm_of : He.DefD := ⟨("lcm_of", none), "lcm_of", "lcm_of", defArgs sx_lcm_of, defBody sx_lcm_of, defScope sx_lcm_of, [], []⟩
def dd_need_number : He.DefD := ⟨("need_number", none), "need_number", "need_number", defArgs sx_need_number, defBody sx_need_number, defScope sx_need_number, [.non, .non], []⟩
def dd_rest_of : He.DefD := ⟨("rest_of", none), "rest_of", "rest_of", defArgs sx_rest_of, defBody sx_rest_of, defScope sx_rest_of, [], []⟩
def dd_law : He.DefD := ⟨("law", none), "law", "law", defArgs sx_law, defBody sx_law, defScope sx_law, [], []⟩
def fnL : List He.DefD := [dd__law_by_name, dd__law_by_place, dd__law_caught, dd__law_fields, dd__law_flags, dd__law_is_far, dd__law_satchel, dd__law_reach, dd__law_one, dd__law_value, dd_lcm_in, dd_inverse_in, dd_root_in, dd_both_in, dd_is_integer, dd_is_within, dd_is_left, dd_both_rests, dd_are_integers, dd_are_counted, dd_gcd_of, dd_lcm_of, dd_need_number, dd_rest_of, dd_law]
def tupL : List (Str × List V) := []
def exL : List (Str × Str) := [("BadNumber", "part")]
def clL : List Str := ["DuelError", "BadNumber", "BadName", "BadForm", "BadClaim", "BadSetting", "BadLayout", "BadRow", "BadMove", "BadDuel", "BadBook", "BadRule", "BadProgram", "BadPaper", "Misfit", "NoName", "Twice", "TooMany", "BadText", "BadLine", "Nothing", "Over", "Missing"]
def lmL : List Str := ["law"]
abbrev fileL : Str := PySem.Challenge.pw_claimduel_k00_errors_keep_their_fields.main.file
def bgL : List (Str × String) := [("gcd", "math.gcd")]
def ntL : List (Str × List D) := []
def xnL : List (Str × List Str) := [("BadNumber", ["part"]), ("BadName", ["part"]), ("BadForm", ["part"]), ("BadClaim", ["part"]), ("BadSetting", ["part"]), ("BadLayout", ["part"]), ("BadRow", ["part"]), ("BadMove", ["part"]), ("BadDuel", ["part"]), ("BadBook", ["part"]), ("BadRule", ["part"]), ("BadProgram", ["part"]), ("BadPaper", ["part"]), ("Misfit", ["part"]), ("NoName", ["value"]), ("Twice", ["value"]), ("TooMany", ["what", "most"]), ("BadText", ["line", "item"]), ("BadLine", ["line", "error"]), ("Nothing", []), ("Over", []), ("Missing", ["value"])]
abbrev HxL (P : Program) := Hx5 P fileL faL fnL tupL exL clL lmL bgL ntL xnL
section
variable {P : Program} {w : World} {K : PySem.W.Frag} {mg : Str → Option Value} {base : Heap}
theorem bt_len : bootBuiltins "len" = some (.builtin "len") := by decide +kernel
theorem bt_isinstance : bootBuiltins "isinstance" = some (.builtin "isinstance") := by decide +kernel
theorem bt_repr : bootBuiltins "repr" = some (.builtin "repr") := by decide +kernel
theorem bt_abs : bootBuiltins "abs" = some (.builtin "abs") := by decide +kernel
theorem bt_all : bootBuiltins "all" = some (.builtin "all") := by decide +kernel
theorem bt_min : bootBuiltins "min" = some (.builtin "min") := by decide +kernel
/-! _law_by_name -/
def g_L_by_name : Sm := (sSeq (sAsg (gN 3) (eArgs gLst (aCons (eMkK "BadNumber" ["part"] (aCons (eVar 1) aNil)) (aCons (eMkK "BadName" ["part"] (aCons (eVar 1) aNil)) (aCons (eMkK "BadForm" ["part"] (aCons (eVar 1) aNil)) (aCons (eMkK "BadClaim" ["part"] (aCons (eVar 1) aNil)) (aCons (eMkK "BadSetting" ["part"] (aCons (eVar 1) aNil)) (aCons (eMkK "BadLayout" ["part"] (aCons (eVar 1) aNil)) aNil))))))))
  (sSeq (sAsg (gN 3) (eBin gAdd (eVar 3) (eArgs gLst (aCons (eMkK "BadRow" ["part"] (aCons (eVar 1) aNil)) (aCons (eMkK "BadMove" ["part"] (aCons (eVar 1) aNil)) (aCons (eMkK "BadDuel" ["part"] (aCons (eVar 1) aNil)) (aCons (eMkK "BadBook" ["part"] (aCons (eVar 1) aNil)) (aCons (eMkK "BadRule" ["part"] (aCons (eVar 1) aNil)) (aCons (eMkK "BadProgram" ["part"] (aCons (eVar 1) aNil)) aNil)))))))))
  (sSeq (sAsg (gN 3) (eBin gAdd (eVar 3) (eArgs gLst (aCons (eMkK "BadPaper" ["part"] (aCons (eVar 1) aNil)) (aCons (eMkK "Misfit" ["part"] (aCons (eVar 1) aNil)) (aCons (eMkK "NoName" ["value"] (aCons (eVar 1) aNil)) (aCons (eMkK "Twice" ["value"] (aCons (eVar 1) aNil)) (aCons (eMkK "TooMany" ["what", "most"] (aCons (eVar 2) (aCons (eVar 1) aNil))) aNil))))))))
  (sRet (eBin gIxA (eBin gAdd (eVar 3) (eArgs gLst (aCons (eMkK "BadText" ["line", "item"] (aCons (eVar 2) (aCons (eVar 1) aNil))) (aCons (eMkK "BadLine" ["line", "error"] (aCons (eVar 2) (aCons (eVar 1) aNil))) (aCons (eMk "Nothing" [] aNil) (aCons (eMk "Over" [] aNil) aNil)))))) (eVar 0))))))
theorem sc__law_by_name : FnScope ["_law_at", "_law_one_here", "_law_other", "_law_made"] ["_law_at", "_law_one_here", "_law_other"] (defScope sx__law_by_name) := ⟨rfl, rfl, rfl, by decide +kernel, rfl, by decide +kernel, by decide +kernel⟩
def F_L_by_name : List D → M D := fun ds => G.nx (runDef 4 g_L_by_name ds)
theorem ok__law_by_name (e : HxL P K mg base) : DefG P w K mg base 3 "_law_by_name" sx__law_by_name ["_law_at", "_law_one_here", "_law_other"] F_L_by_name :=
  DefG.mk2 (k := 2) (N := ["_law_at", "_law_one_here", "_law_other", "_law_made"]) (g := g_L_by_name) (e.c.def_ 0 (d := dd__law_by_name)) (e.glo 42) sc__law_by_name (fun _ _ _ _ _ _ us hl => match us, hl with | [_, _, _], _ => rfl) fun ca cdv A outer s H E gd hr => by
  have nd := sc__law_by_name.nd
  exact (ss_cons (s_set 3 nd (d_lst (da_cons (d_mkK (e.mk_ (e.free 0) 0) hr (dk_cons (d_var 1) dk_nil)) (da_cons (d_mkK (e.mk_ (e.free 0) 1) hr (dk_cons (d_var 1) dk_nil)) (da_cons (d_mkK (e.mk_ (e.free 0) 2) hr (dk_cons (d_var 1) dk_nil)) (da_cons (d_mkK (e.mk_ (e.free 0) 3) hr (dk_cons (d_var 1) dk_nil)) (da_cons (d_mkK (e.mk_ (e.free 0) 4) hr (dk_cons (d_var 1) dk_nil)) (da_cons (d_mkK (e.mk_ (e.free 0) 5) hr (dk_cons (d_var 1) dk_nil)) da_nil))))))))
  (ss_cons (s_set 3 nd (d_bin op_addD bin_add (d_var 3) (d_lst (da_cons (d_mkK (e.mk_ (e.free 0) 6) hr (dk_cons (d_var 1) dk_nil)) (da_cons (d_mkK (e.mk_ (e.free 0) 7) hr (dk_cons (d_var 1) dk_nil)) (da_cons (d_mkK (e.mk_ (e.free 0) 8) hr (dk_cons (d_var 1) dk_nil)) (da_cons (d_mkK (e.mk_ (e.free 0) 9) hr (dk_cons (d_var 1) dk_nil)) (da_cons (d_mkK (e.mk_ (e.free 0) 10) hr (dk_cons (d_var 1) dk_nil)) (da_cons (d_mkK (e.mk_ (e.free 0) 11) hr (dk_cons (d_var 1) dk_nil)) da_nil)))))))))
  (ss_cons (s_set 3 nd (d_bin op_addD bin_add (d_var 3) (d_lst (da_cons (d_mkK (e.mk_ (e.free 0) 12) hr (dk_cons (d_var 1) dk_nil)) (da_cons (d_mkK (e.mk_ (e.free 0) 13) hr (dk_cons (d_var 1) dk_nil)) (da_cons (d_mkK (e.mk_ (e.free 0) 14) hr (dk_cons (d_var 1) dk_nil)) (da_cons (d_mkK (e.mk_ (e.free 0) 15) hr (dk_cons (d_var 1) dk_nil)) (da_cons (d_mkK (e.mk_ (e.free 0) 16) hr (dk_cons (d_var 2) (dk_cons (d_var 1) dk_nil))) da_nil))))))))
  (ss_one (s_ret (d_ix (ix_all (roomI hr)) ix_DA (d_bin op_addD bin_add (d_var 3) (d_lst (da_cons (d_mkK (e.mk_ (e.free 0) 17) hr (dk_cons (d_var 2) (dk_cons (d_var 1) dk_nil))) (da_cons (d_mkK (e.mk_ (e.free 0) 18) hr (dk_cons (d_var 2) (dk_cons (d_var 1) dk_nil))) (da_cons (d_mk0 (e.mk_ (e.free 0) 19) hr) (da_cons (d_mk0 (e.mk_ (e.free 0) 20) hr) da_nil)))))) (d_var 0)))))))
/-! _law_by_place -/
def g_L_by_place : Sm := (sSeq (sAsg (gN 3) (eArgs gLst (aCons (eMk "BadNumber" ["part"] (aCons (eVar 1) aNil)) (aCons (eMk "BadName" ["part"] (aCons (eVar 1) aNil)) (aCons (eMk "BadForm" ["part"] (aCons (eVar 1) aNil)) (aCons (eMk "BadClaim" ["part"] (aCons (eVar 1) aNil)) (aCons (eMk "BadSetting" ["part"] (aCons (eVar 1) aNil)) (aCons (eMk "BadLayout" ["part"] (aCons (eVar 1) aNil)) (aCons (eMk "BadRow" ["part"] (aCons (eVar 1) aNil)) (aCons (eMk "BadMove" ["part"] (aCons (eVar 1) aNil)) aNil))))))))))
  (sSeq (sAsg (gN 3) (eBin gAdd (eVar 3) (eArgs gLst (aCons (eMk "BadDuel" ["part"] (aCons (eVar 1) aNil)) (aCons (eMk "BadBook" ["part"] (aCons (eVar 1) aNil)) (aCons (eMk "BadRule" ["part"] (aCons (eVar 1) aNil)) (aCons (eMk "BadProgram" ["part"] (aCons (eVar 1) aNil)) (aCons (eMk "BadPaper" ["part"] (aCons (eVar 1) aNil)) (aCons (eMk "Misfit" ["part"] (aCons (eVar 1) aNil)) (aCons (eMk "NoName" ["value"] (aCons (eVar 1) aNil)) (aCons (eMk "Twice" ["value"] (aCons (eVar 1) aNil)) aNil)))))))))))
  (sRet (eBin gIxA (eBin gAdd (eVar 3) (eArgs gLst (aCons (eMk "TooMany" ["what", "most"] (aCons (eVar 1) (aCons (eVar 2) aNil))) (aCons (eMk "BadText" ["line", "item"] (aCons (eVar 1) (aCons (eVar 2) aNil))) (aCons (eMk "BadLine" ["line", "error"] (aCons (eVar 1) (aCons (eVar 2) aNil))) (aCons (eMk "Nothing" [] aNil) (aCons (eMk "Over" [] aNil) aNil))))))) (eVar 0)))))
theorem sc__law_by_place : FnScope ["_law_at", "_law_one_here", "_law_other", "_law_made"] ["_law_at", "_law_one_here", "_law_other"] (defScope sx__law_by_place) := ⟨rfl, rfl, rfl, by decide +kernel, rfl, by decide +kernel, by decide +kernel⟩
def F_L_by_place : List D → M D := fun ds => G.nx (runDef 4 g_L_by_place ds)
theorem ok__law_by_place (e : HxL P K mg base) : DefG P w K mg base 3 "_law_by_place" sx__law_by_place ["_law_at", "_law_one_here", "_law_other"] F_L_by_place :=
  DefG.mk2 (k := 2) (N := ["_law_at", "_law_one_here", "_law_other", "_law_made"]) (g := g_L_by_place) (e.c.def_ 1 (d := dd__law_by_place)) (e.glo 43) sc__law_by_place (fun _ _ _ _ _ _ us hl => match us, hl with | [_, _, _], _ => rfl) fun ca cdv A outer s H E gd hr => by
  have nd := sc__law_by_place.nd
  exact (ss_cons (s_set 3 nd (d_lst (da_cons (d_mk (e.mk_ (e.free 0) 0) hr (da_cons (d_var 1) da_nil)) (da_cons (d_mk (e.mk_ (e.free 0) 1) hr (da_cons (d_var 1) da_nil)) (da_cons (d_mk (e.mk_ (e.free 0) 2) hr (da_cons (d_var 1) da_nil)) (da_cons (d_mk (e.mk_ (e.free 0) 3) hr (da_cons (d_var 1) da_nil)) (da_cons (d_mk (e.mk_ (e.free 0) 4) hr (da_cons (d_var 1) da_nil)) (da_cons (d_mk (e.mk_ (e.free 0) 5) hr (da_cons (d_var 1) da_nil)) (da_cons (d_mk (e.mk_ (e.free 0) 6) hr (da_cons (d_var 1) da_nil)) (da_cons (d_mk (e.mk_ (e.free 0) 7) hr (da_cons (d_var 1) da_nil)) da_nil))))))))))
  (ss_cons (s_set 3 nd (d_bin op_addD bin_add (d_var 3) (d_lst (da_cons (d_mk (e.mk_ (e.free 0) 8) hr (da_cons (d_var 1) da_nil)) (da_cons (d_mk (e.mk_ (e.free 0) 9) hr (da_cons (d_var 1) da_nil)) (da_cons (d_mk (e.mk_ (e.free 0) 10) hr (da_cons (d_var 1) da_nil)) (da_cons (d_mk (e.mk_ (e.free 0) 11) hr (da_cons (d_var 1) da_nil)) (da_cons (d_mk (e.mk_ (e.free 0) 12) hr (da_cons (d_var 1) da_nil)) (da_cons (d_mk (e.mk_ (e.free 0) 13) hr (da_cons (d_var 1) da_nil)) (da_cons (d_mk (e.mk_ (e.free 0) 14) hr (da_cons (d_var 1) da_nil)) (da_cons (d_mk (e.mk_ (e.free 0) 15) hr (da_cons (d_var 1) da_nil)) da_nil)))))))))))
  (ss_one (s_ret (d_ix (ix_all (roomI hr)) ix_DA (d_bin op_addD bin_add (d_var 3) (d_lst (da_cons (d_mk (e.mk_ (e.free 0) 16) hr (da_cons (d_var 1) (da_cons (d_var 2) da_nil))) (da_cons (d_mk (e.mk_ (e.free 0) 17) hr (da_cons (d_var 1) (da_cons (d_var 2) da_nil))) (da_cons (d_mk (e.mk_ (e.free 0) 18) hr (da_cons (d_var 1) (da_cons (d_var 2) da_nil))) (da_cons (d_mk0 (e.mk_ (e.free 0) 19) hr) (da_cons (d_mk0 (e.mk_ (e.free 0) 20) hr) da_nil))))))) (d_var 0))))))
/-! _law_caught -/
def g_L_caught2 : M D → Sm := fun act => (sSeq (sAsg (gN 1) (eC .non))
  (sSeq (sTry (eAct act) none [⟨"DuelError", some 2, (sAsg (gN 1) (eVar 2))⟩])
  (sRet (eVar 1))))
theorem sc__law_caught : FnScope ["_law_ask", "_law_caught_here", "_law_error"] ["_law_ask"] (defScope sx__law_caught) := ⟨rfl, rfl, rfl, by decide +kernel, rfl, by decide +kernel, by decide +kernel⟩
theorem act__law_caught (e : HxL P K mg base) : ActG P w K mg base 1 "_law_caught" sx__law_caught "_law_ask" ["_law_ask", "_law_caught_here", "_law_error"] g_L_caught2 := by
  obtain ⟨fd, F⟩ := e.c.def_ 2 (d := dd__law_caught) rfl
  have F : FunD K "_law_caught" "_law_caught" (defArgs sx__law_caught) (defBody sx__law_caught) (defScope sx__law_caught) [] [] (He.ga K "_law_caught") fd := F
  refine ⟨⟨fd, F, e.glo 44, FunD.bindsN F (fun _ _ _ _ _ _ us hl => match us, hl with | [_], _ => rfl)⟩, sc__law_caught, rfl, by first | exact Or.inl rfl | exact Or.inr (Or.inl rfl), ⟨by decide, by decide⟩, fun ca cdv A outer s H act Φ hΦ gd hr hact => ?_⟩
  have nd := sc__law_caught.nd
  exact (ss_preP hΦ 1 nd pe_non (fun _ _ => .non)
  (ss_consP (s_tryP rfl rfl nd LamX.takes0 (pb_expr (hact _ _)) (HdsG.as_ ⟨rfl, by decide, Or.inl (e.glo 1)⟩ (e.cls_ 0) rfl rfl (fun a pn => (ss_one (s_set 1 nd (d_var 2)))) HdsG.nil))
  (ss_one (s_ret (d_var 1)))))
/-! _law_fields -/
def g_L_fields : Sm := (sSeq (sIf (cCmp (gCmpO ltI ltL) (eVar 0) (eC (.int 14))) (sRet (eArgs gLst (aCons (eAttr "part" (eVar 1)) aNil))) sNil)
  (sSeq (sIf (cCmp (gCmpO ltI ltL) (eVar 0) (eC (.int 16))) (sRet (eArgs gLst (aCons (eAttr "value" (eVar 1)) aNil))) sNil)
  (sSeq (sIf (cCmp (gCmpO gtI gtL) (eVar 0) (eC (.int 18))) (sRet (eArgs gLst aNil)) sNil)
  (sRet (eIf (cCmp gEqA (eVar 0) (eC (.int 16))) (eArgs gLst (aCons (eAttr "what" (eVar 1)) (aCons (eAttr "most" (eVar 1)) aNil))) (eIf (cCmp gEqA (eVar 0) (eC (.int 17))) (eArgs gLst (aCons (eAttr "line" (eVar 1)) (aCons (eAttr "item" (eVar 1)) aNil))) (eArgs gLst (aCons (eAttr "line" (eVar 1)) (aCons (eAttr "error" (eVar 1)) aNil)))))))))
theorem sc__law_fields : FnScope ["_law_at", "_law_error"] ["_law_at", "_law_error"] (defScope sx__law_fields) := ⟨rfl, rfl, rfl, by decide +kernel, rfl, by decide +kernel, by decide +kernel⟩
def F_L_fields : List D → M D := fun ds => G.nx (runDef 2 g_L_fields ds)
theorem ok__law_fields (e : HxL P K mg base) : DefG P w K mg base 1 "_law_fields" sx__law_fields ["_law_at", "_law_error"] F_L_fields :=
  DefG.mk2 (k := 0) (N := ["_law_at", "_law_error"]) (g := g_L_fields) (e.c.def_ 3 (d := dd__law_fields)) (e.glo 45) sc__law_fields (fun _ _ _ _ _ _ us hl => match us, hl with | [_, _], _ => rfl) fun ca cdv A outer s H E gd hr => by
  have nd := sc__law_fields.nd
  exact (ss_cons (s_if (dt_cmp op_ltO (cmp_ord (f := ltI) (g := ltL)) (d_var 0) d_int (nomark _)) (ss_one (s_ret (d_lst (da_cons (d_attr "part" (d_var 1)) da_nil)))) ss_nil)
  (ss_cons (s_if (dt_cmp op_ltO (cmp_ord (f := ltI) (g := ltL)) (d_var 0) d_int (nomark _)) (ss_one (s_ret (d_lst (da_cons (d_attr "value" (d_var 1)) da_nil)))) ss_nil)
  (ss_cons (s_if (dt_cmp op_gtO (cmp_ord (f := gtI) (g := gtL)) (d_var 0) d_int (nomark _)) (ss_one (s_ret (d_lst da_nil))) ss_nil)
  (ss_one (s_ret (d_if (dt_cmp (op_eqA (roomE hr)) cmp_eqA (d_var 0) d_int (nomark _)) (d_lst (da_cons (d_attr "what" (d_var 1)) (da_cons (d_attr "most" (d_var 1)) da_nil))) (d_if (dt_cmp (op_eqA (roomE hr)) cmp_eqA (d_var 0) d_int (nomark _)) (d_lst (da_cons (d_attr "line" (d_var 1)) (da_cons (d_attr "item" (d_var 1)) da_nil))) (d_lst (da_cons (d_attr "line" (d_var 1)) (da_cons (d_attr "error" (d_var 1)) da_nil))))))))))
/-! _law_flags -/
def g_L_flags : Sm := (sSeq (sAsg (gN 1) (eArgs gLst (aCons (eIsX ["BadNumber"] (eVar 0)) (aCons (eIsX ["BadName"] (eVar 0)) (aCons (eIsX ["BadForm"] (eVar 0)) (aCons (eIsX ["BadClaim"] (eVar 0)) (aCons (eIsX ["BadSetting"] (eVar 0)) aNil)))))))
  (sSeq (sAsg (gN 1) (eBin gAdd (eVar 1) (eArgs gLst (aCons (eIsX ["BadLayout"] (eVar 0)) (aCons (eIsX ["BadRow"] (eVar 0)) (aCons (eIsX ["BadMove"] (eVar 0)) (aCons (eIsX ["BadDuel"] (eVar 0)) (aCons (eIsX ["BadBook"] (eVar 0)) aNil))))))))
  (sSeq (sAsg (gN 1) (eBin gAdd (eVar 1) (eArgs gLst (aCons (eIsX ["BadRule"] (eVar 0)) (aCons (eIsX ["BadProgram"] (eVar 0)) (aCons (eIsX ["BadPaper"] (eVar 0)) (aCons (eIsX ["Misfit"] (eVar 0)) (aCons (eIsX ["NoName"] (eVar 0)) aNil))))))))
  (sSeq (sAsg (gN 1) (eBin gAdd (eVar 1) (eArgs gLst (aCons (eIsX ["Twice"] (eVar 0)) (aCons (eIsX ["TooMany"] (eVar 0)) (aCons (eIsX ["BadText"] (eVar 0)) (aCons (eIsX ["BadLine"] (eVar 0)) aNil)))))))
  (sRet (eBin gAdd (eVar 1) (eArgs gLst (aCons (eIsX ["Nothing"] (eVar 0)) (aCons (eIsX ["Over"] (eVar 0)) aNil)))))))))
theorem sc__law_flags : FnScope ["_law_error", "_law_own"] ["_law_error"] (defScope sx__law_flags) := ⟨rfl, rfl, rfl, by decide +kernel, rfl, by decide +kernel, by decide +kernel⟩
def F_L_flags : List D → M D := fun ds => G.nx (runDef 2 g_L_flags ds)
theorem ok__law_flags (e : HxL P K mg base) : DefG P w K mg base 1 "_law_flags" sx__law_flags ["_law_error"] F_L_flags :=
  DefG.mk2 (k := 0) (N := ["_law_error", "_law_own"]) (g := g_L_flags) (e.c.def_ 4 (d := dd__law_flags)) (e.glo 46) sc__law_flags (fun _ _ _ _ _ _ us hl => match us, hl with | [_], _ => rfl) fun ca cdv A outer s H E gd hr => by
  have nd := sc__law_flags.nd
  exact (ss_cons (s_set 1 nd (d_lst (da_cons (d_isX1 "BadNumber" (e.cls_ 1) (e.free 2) (e.glo 3) (d_var 0)) (da_cons (d_isX1 "BadName" (e.cls_ 2) (e.free 2) (e.glo 4) (d_var 0)) (da_cons (d_isX1 "BadForm" (e.cls_ 3) (e.free 2) (e.glo 5) (d_var 0)) (da_cons (d_isX1 "BadClaim" (e.cls_ 4) (e.free 2) (e.glo 6) (d_var 0)) (da_cons (d_isX1 "BadSetting" (e.cls_ 5) (e.free 2) (e.glo 7) (d_var 0)) da_nil)))))))
  (ss_cons (s_set 1 nd (d_bin op_addD bin_add (d_var 1) (d_lst (da_cons (d_isX1 "BadLayout" (e.cls_ 6) (e.free 2) (e.glo 8) (d_var 0)) (da_cons (d_isX1 "BadRow" (e.cls_ 7) (e.free 2) (e.glo 9) (d_var 0)) (da_cons (d_isX1 "BadMove" (e.cls_ 8) (e.free 2) (e.glo 10) (d_var 0)) (da_cons (d_isX1 "BadDuel" (e.cls_ 9) (e.free 2) (e.glo 11) (d_var 0)) (da_cons (d_isX1 "BadBook" (e.cls_ 10) (e.free 2) (e.glo 12) (d_var 0)) da_nil))))))))
  (ss_cons (s_set 1 nd (d_bin op_addD bin_add (d_var 1) (d_lst (da_cons (d_isX1 "BadRule" (e.cls_ 11) (e.free 2) (e.glo 13) (d_var 0)) (da_cons (d_isX1 "BadProgram" (e.cls_ 12) (e.free 2) (e.glo 14) (d_var 0)) (da_cons (d_isX1 "BadPaper" (e.cls_ 13) (e.free 2) (e.glo 15) (d_var 0)) (da_cons (d_isX1 "Misfit" (e.cls_ 14) (e.free 2) (e.glo 16) (d_var 0)) (da_cons (d_isX1 "NoName" (e.cls_ 15) (e.free 2) (e.glo 17) (d_var 0)) da_nil))))))))
  (ss_cons (s_set 1 nd (d_bin op_addD bin_add (d_var 1) (d_lst (da_cons (d_isX1 "Twice" (e.cls_ 16) (e.free 2) (e.glo 18) (d_var 0)) (da_cons (d_isX1 "TooMany" (e.cls_ 17) (e.free 2) (e.glo 19) (d_var 0)) (da_cons (d_isX1 "BadText" (e.cls_ 18) (e.free 2) (e.glo 20) (d_var 0)) (da_cons (d_isX1 "BadLine" (e.cls_ 19) (e.free 2) (e.glo 21) (d_var 0)) da_nil)))))))
  (ss_one (s_ret (d_bin op_addD bin_add (d_var 1) (d_lst (da_cons (d_isX1 "Nothing" (e.cls_ 20) (e.free 2) (e.glo 22) (d_var 0)) (da_cons (d_isX1 "Over" (e.cls_ 21) (e.free 2) (e.glo 23) (d_var 0)) da_nil))))))))))
/-! _law_is_far -/
def g_L_is_far : Sm := (sRet (eArgs gIsE (aCons (eVar 0) (aCons (eArgs gTup (aCons (eC (.ty "LookupError")) (aCons (eC (.ty "TypeError")) (aCons (eC (.ty "ArithmeticError")) (aCons (eC (.ty "AttributeError")) (aCons (eC (.ty "RuntimeError")) aNil)))))) aNil))))
theorem sc__law_is_far : FnScope ["_law_error"] ["_law_error"] (defScope sx__law_is_far) := ⟨rfl, rfl, rfl, by decide +kernel, rfl, by decide +kernel, by decide +kernel⟩
def F_L_is_far : List D → M D := fun ds => G.nx (runDef 1 g_L_is_far ds)
theorem ok__law_is_far (e : HxL P K mg base) : DefG P w K mg base 1 "_law_is_far" sx__law_is_far ["_law_error"] F_L_is_far :=
  DefG.mk2 (k := 0) (N := ["_law_error"]) (g := g_L_is_far) (e.c.def_ 5 (d := dd__law_is_far)) (e.glo 47) sc__law_is_far (fun _ _ _ _ _ _ us hl => match us, hl with | [_], _ => rfl) fun ca cdv A outer s H E gd hr => by
  have nd := sc__law_is_far.nd
  exact (ss_one (s_ret (d_callB (call_isE e.et) cal_isE (e.free 2) (bt_isinstance) (da_cons (d_var 0) (da_cons (d_tup (da_cons (d_ty "LookupError" (e.free 24) boot_LookupError) (da_cons (d_ty "TypeError" (e.free 25) boot_TypeError) (da_cons (d_ty "ArithmeticError" (e.free 26) boot_ArithmeticError) (da_cons (d_ty "AttributeError" (e.free 27) boot_AttributeError) (da_cons (d_ty "RuntimeError" (e.free 28) boot_RuntimeError) da_nil)))))) da_nil)))))
/-! _law_reach -/
def g_draw : Sm := (sSeq (sIf (cCmp (gEqX false) (eChn 0 0) (eArgs gLst aNil)) (sRet (eC (.int 0))) sNil)
  (sSeq (sIf (cCmp (gCmpI gtI) (eChn 2 0) (eC (.int 0))) (sSeq (sAsg (gN 2) (eArgs gInt (aCons (eChn 2 0) aNil)))
  (sSeq (sChn 2 0 (eBin gDiv (eVar 2) (eVar 1)))
  (sRet (eBin gMod (eArgs gInt (aCons (eVar 2) aNil)) (eVar 1))))) sNil)
  (sSeq (sAsg (gN 3) (eChn 1 0))
  (sSeq (sChn 1 0 (eBin gAdd (eVar 3) (eC (.int 1))))
  (sSeq (sAsg (gN 4) (eBin gIx (eChn 0 0) (eBin gMod (eArgs gInt (aCons (eVar 3) aNil)) (eArgs gLen (aCons (eChn 0 0) aNil)))))
  (sSeq (sIf (cAnd (cCmp (gCmpI ltI) (eVar 3) (eArgs gLen (aCons (eChn 0 0) aNil))) (cCmp (gCmpI geI) (eArgs gAbs (aCons (eVar 4) aNil)) (eBin gPow (eC (.int 10)) (eC (.int 18))))) (sSeq (sAsg (gN 2) (eBin gAdd (eBin gMul (eC (.int 2)) (eBin gSub (eArgs gAbs (aCons (eVar 4) aNil)) (eBin gPow (eC (.int 10)) (eC (.int 18))))) (eArgs gInt (aCons (eBin (gBl (gCmpI ltI)) (eVar 4) (eC (.int 0))) aNil))))
  (sSeq (sChn 2 0 (eBin gDiv (eArgs gInt (aCons (eVar 2) aNil)) (eVar 1)))
  (sRet (eBin gMod (eArgs gInt (aCons (eVar 2) aNil)) (eVar 1))))) sNil)
  (sSeq (sAsg (gN 5) (eBin gMod (eArgs gInt (aCons (eBin gPow (eBin gAdd (eBin gAdd (eBin gMod (eArgs gInt (aCons (eVar 4) aNil)) (eC (.int 2147483587))) (eBin gMul (eC (.int 40127)) (eVar 3))) (eC (.int 5413))) (eC (.int 5))) aNil)) (eC (.int 2147483629))))
  (sSeq (sAsg (gN 5) (eBin gMod (eArgs gInt (aCons (eBin gPow (eBin gAdd (eBin gAdd (eBin gMul (eVar 5) (eBin gAdd (eBin gMul (eC (.int 2)) (eVar 3)) (eC (.int 3229)))) (eBin gMul (eBin gMul (eC (.int 91033)) (eVar 3)) (eVar 3))) (eC (.int 40127))) (eC (.int 3))) aNil)) (eC (.int 2147483497))))
  (sRet (eBin gMod (eArgs gInt (aCons (eBin gDiv (eVar 5) (eC (.int 64))) aNil)) (eVar 1)))))))))))
theorem sc__law_reach : FnScope ["_law_satchel_here", "_law_many", "_law_rest", "_law_at", "_law_cell", "_law_mixed"] ["_law_satchel_here", "_law_many"] (defScope sx__law_reach) := ⟨rfl, rfl, rfl, by decide +kernel, rfl, by decide +kernel, by decide +kernel⟩
def F_draw : List D → M D := fun ds => G.nx (runDef 6 g_draw ds)
theorem ok__law_reach (e : HxL P K mg base) : DefG P w K mg base 1 "_law_reach" sx__law_reach ["_law_satchel_here", "_law_many"] F_draw :=
  DefG.mk2 (k := 0) (N := ["_law_satchel_here", "_law_many", "_law_rest", "_law_at", "_law_cell", "_law_mixed"]) (g := g_draw) (e.c.def_ 7 (d := dd__law_reach)) (e.glo 49) sc__law_reach (fun _ _ _ _ _ _ us hl => match us, hl with | [_, _], _ => rfl) fun ca cdv A outer s H E gd hr => by
  have nd := sc__law_reach.nd
  exact (ss_cons (s_if (dt_cmp (op_eqX (roomE hr)) cmp_eqX (d_chn 0 0) (d_lst da_nil) (nomark _)) (ss_one (s_ret d_int)) ss_nil)
  (ss_cons (s_if (dt_cmp op_gt (cmp_int (f := gtI)) (d_chn 2 0) d_int (nomark _)) (ss_cons (s_set 2 nd (d_callTy call_int1 cal_int (e.free 29) boot_int (da_cons (d_chn 2 0) da_nil)))
  (ss_cons (s_chn 2 0 (d_bin op_fdivW bin_div (d_var 2) (d_var 1)))
  (ss_one (s_ret (d_bin op_mod bin_mod (d_callTy call_int1 cal_int (e.free 29) boot_int (da_cons (d_var 2) da_nil)) (d_var 1)))))) ss_nil)
  (ss_cons (s_set 3 nd (d_chn 1 0))
  (ss_cons (s_chn 1 0 (d_bin op_addD bin_add (d_var 3) d_int))
  (ss_cons (s_set 4 nd (d_ix ix_seq ix_D (d_chn 0 0) (d_bin op_mod bin_mod (d_callTy call_int1 cal_int (e.free 29) boot_int (da_cons (d_var 3) da_nil)) (d_callB cr_lenD cal_len (e.free 30) (bt_len) (da_cons (d_chn 0 0) da_nil)))))
  (ss_cons (s_if (PW.pt (dw_and (dt_cmp op_lt (cmp_int (f := ltI)) (d_var 3) (d_callB cr_lenD cal_len (e.free 30) (bt_len) (da_cons (d_chn 0 0) da_nil)) (nomark _)) (dw_and1 (dt_cmp op_ge (cmp_int (f := geI)) (d_callB call_abs cal_abs (e.free 31) (bt_abs) (da_cons (d_var 4) da_nil)) (d_bin op_pow bin_pow d_int d_int) (nomark _))))) (ss_cons (s_set 2 nd (d_bin op_addD bin_add (d_bin op_mulD bin_mul d_int (d_bin op_subD bin_sub (d_callB call_abs cal_abs (e.free 31) (bt_abs) (da_cons (d_var 4) da_nil)) (d_bin op_pow bin_pow d_int d_int))) (d_callTy call_int1 cal_int (e.free 29) boot_int (da_cons (d_cmp op_lt (BinB.d (cmp_int (f := ltI))) (d_var 4) d_int (nomark _)) da_nil))))
  (ss_cons (s_chn 2 0 (d_bin op_fdivW bin_div (d_callTy call_int1 cal_int (e.free 29) boot_int (da_cons (d_var 2) da_nil)) (d_var 1)))
  (ss_one (s_ret (d_bin op_mod bin_mod (d_callTy call_int1 cal_int (e.free 29) boot_int (da_cons (d_var 2) da_nil)) (d_var 1)))))) ss_nil)
  (ss_cons (s_set 5 nd (d_bin op_mod bin_mod (d_callTy call_int1 cal_int (e.free 29) boot_int (da_cons (d_bin op_pow bin_pow (d_bin op_addD bin_add (d_bin op_addD bin_add (d_bin op_mod bin_mod (d_callTy call_int1 cal_int (e.free 29) boot_int (da_cons (d_var 4) da_nil)) d_int) (d_bin op_mulD bin_mul d_int (d_var 3))) d_int) d_int) da_nil)) d_int))
  (ss_cons (s_set 5 nd (d_bin op_mod bin_mod (d_callTy call_int1 cal_int (e.free 29) boot_int (da_cons (d_bin op_pow bin_pow (d_bin op_addD bin_add (d_bin op_addD bin_add (d_bin op_mulD bin_mul (d_var 5) (d_bin op_addD bin_add (d_bin op_mulD bin_mul d_int (d_var 3)) d_int)) (d_bin op_mulD bin_mul (d_bin op_mulD bin_mul d_int (d_var 3)) (d_var 3))) d_int) d_int) da_nil)) d_int))
  (ss_one (s_ret (d_bin op_mod bin_mod (d_callTy call_int1 cal_int (e.free 29) boot_int (da_cons (d_bin op_fdivW bin_div (d_var 5) d_int) da_nil)) (d_var 1))))))))))))
/-! _law_one -/
def g_L_pick : Sm := (sRet (eBin gIxA (eVar 1) (eCall 2 F_draw [] (aCons (eVar 0) (aCons (eArgs gLen (aCons (eVar 1) aNil)) aNil)))))
theorem sc__law_one : FnScope ["_law_satchel_here", "_law_some"] ["_law_satchel_here", "_law_some"] (defScope sx__law_one) := ⟨rfl, rfl, rfl, by decide +kernel, rfl, by decide +kernel, by decide +kernel⟩
def F_L_pick : List D → M D := fun ds => G.nx (runDef 2 g_L_pick ds)
theorem ok__law_one (e : HxL P K mg base) : DefG P w K mg base 2 "_law_one" sx__law_one ["_law_satchel_here", "_law_some"] F_L_pick :=
  DefG.mk2 (k := 1) (N := ["_law_satchel_here", "_law_some"]) (g := g_L_pick) (e.c.def_ 8 (d := dd__law_one)) (e.glo 50) sc__law_one (fun _ _ _ _ _ _ us hl => match us, hl with | [_, _], _ => rfl) fun ca cdv A outer s H E gd hr => by
  have nd := sc__law_one.nd
  exact (ss_one (s_ret (d_ix (ix_all (roomI hr)) ix_DA (d_var 1) (d_callG (ok__law_reach e) gd hr (da_cons (d_var 0) (da_cons (d_callB cr_lenD cal_len (e.free 30) (bt_len) (da_cons (d_var 1) da_nil)) da_nil))))))
/-! _law_value -/
def g_L_value : Sm := (sSeq (sAsg (gN 1) (eCall 2 F_L_pick [] (aCons (eVar 0) (aCons (eArgs gLst (aCons (eBin gSub (eCall 2 F_draw [] (aCons (eVar 0) (aCons (eC (.int 9)) aNil))) (eC (.int 4))) (aCons (eBin gAdd (eBin gPow (eC (.int 10)) (eC (.int 20))) (eCall 2 F_draw [] (aCons (eVar 0) (aCons (eC (.int 9)) aNil)))) (aCons (eUn gNeg (eCall 2 F_draw [] (aCons (eVar 0) (aCons (eC (.int 1000)) aNil)))) aNil)))) aNil))))
  (sSeq (sAsg (gN 2) (eArgs gLst (aCons (eVar 1) (aCons (eArgs gStr (aCons (eVar 1) aNil)) (aCons (eC .non) (aCons (eC (.bl true)) (aCons (eC (.bl false)) (aCons (eArgs gLst (aCons (eVar 1) aNil)) (aCons (eArgs gTup (aCons (eVar 1) (aCons (eC (.int 2)) aNil))) (aCons (eDict [((eVar 1), (eArgs gLst (aCons (eVar 1) aNil)))]) (aCons (eC (.str "")) (aCons (eArgs gLst aNil) (aCons (eArgs gTup aNil) (aCons (eArgs gLst (aCons (eArgs gLst (aCons (eVar 1) aNil)) (aCons (eArgs gTup (aCons (eC (.int 1)) (aCons (eArgs gLst (aCons (eC (.int 2)) aNil)) aNil))) aNil))) (aCons (eArgs gLst (aCons (eC (.bl true)) (aCons (eC (.int 0)) aNil))) (aCons (eC (.str "[1]")) aNil))))))))))))))))
  (sRet (eCall 2 F_L_pick [] (aCons (eVar 0) (aCons (eVar 2) aNil))))))
theorem sc__law_value : FnScope ["_law_satchel_here", "_law_number", "_law_some"] ["_law_satchel_here"] (defScope sx__law_value) := ⟨rfl, rfl, rfl, by decide +kernel, rfl, by decide +kernel, by decide +kernel⟩
def F_L_value : List D → M D := fun ds => G.nx (runDef 3 g_L_value ds)
theorem ok__law_value (e : HxL P K mg base) : DefG P w K mg base 3 "_law_value" sx__law_value ["_law_satchel_here"] F_L_value :=
  DefG.mk2 (k := 2) (N := ["_law_satchel_here", "_law_number", "_law_some"]) (g := g_L_value) (e.c.def_ 9 (d := dd__law_value)) (e.glo 51) sc__law_value (fun _ _ _ _ _ _ us hl => match us, hl with | [_], _ => rfl) fun ca cdv A outer s H E gd hr => by
  have nd := sc__law_value.nd
  exact (ss_cons (s_set 1 nd (d_callG (ok__law_one e) gd hr (da_cons (d_var 0) (da_cons (d_lst (da_cons (d_bin op_subD bin_sub (d_callG (ok__law_reach e) gd hr (da_cons (d_var 0) (da_cons d_int da_nil))) d_int) (da_cons (d_bin op_addD bin_add (d_bin op_pow bin_pow d_int d_int) (d_callG (ok__law_reach e) gd hr (da_cons (d_var 0) (da_cons d_int da_nil)))) (da_cons (d_un un_neg un_negD (d_callG (ok__law_reach e) gd hr (da_cons (d_var 0) (da_cons d_int da_nil)))) da_nil)))) da_nil))))
  (ss_cons (s_set 2 nd (d_lst (da_cons (d_var 1) (da_cons (d_callTy cr_strD cal_str (e.free 32) boot_str (da_cons (d_var 1) da_nil)) (da_cons d_non (da_cons d_bl (da_cons d_bl (da_cons (d_lst (da_cons (d_var 1) da_nil)) (da_cons (d_tup (da_cons (d_var 1) (da_cons d_int da_nil))) (da_cons (d_dict (dp_cons (d_var 1) (d_lst (da_cons (d_var 1) da_nil)) dp_nil)) (da_cons d_str (da_cons (d_lst da_nil) (da_cons (d_tup da_nil) (da_cons (d_lst (da_cons (d_lst (da_cons (d_var 1) da_nil)) (da_cons (d_tup (da_cons d_int (da_cons (d_lst (da_cons d_int da_nil)) da_nil))) da_nil))) (da_cons (d_lst (da_cons d_bl (da_cons d_int da_nil))) (da_cons d_str da_nil))))))))))))))))
  (ss_one (s_ret (d_callG (ok__law_one e) gd hr (da_cons (d_var 0) (da_cons (d_var 2) da_nil)))))))
/-! lcm_in -/
def g_lcm_in : Sm := (sSeq (sAsg (gN 1) (eC (.int 1)))
  (sSeq (sFor (gN 2) (iSeq (eVar 0)) (sAsg (gN 1) (eBin gMul (eBin gDiv (eVar 1) (eArgs gGcd (aCons (eVar 1) (aCons (eVar 2) aNil)))) (eVar 2))))
  (sRet (eVar 1))))
theorem sc_lcm_in : FnScope ["numbers", "found", "number"] ["numbers"] (defScope sx_lcm_in) := ⟨rfl, rfl, rfl, by decide +kernel, rfl, by decide +kernel, by decide +kernel⟩
def F_lcm_in : List D → M D := fun ds => G.nx (runDef 3 g_lcm_in ds)
theorem ok_lcm_in (e : HxL P K mg base) : DefG P w K mg base 1 "lcm_in" sx_lcm_in ["numbers"] F_lcm_in :=
  DefG.mk2 (k := 0) (N := ["numbers", "found", "number"]) (g := g_lcm_in) (e.c.def_ 10 (d := dd_lcm_in)) (e.glo 52) sc_lcm_in (fun _ _ _ _ _ _ us hl => match us, hl with | [_], _ => rfl) fun ca cdv A outer s H E gd hr => by
  have nd := sc_lcm_in.nd
  exact (ss_cons (s_set 1 nd d_int)
  (ss_cons (s_for rfl PassesOwn.never (i_seq (d_var 0)) (pg_name (i := 2) nd rfl (by first | exact Or.inl rfl | exact Or.inr rfl)) (tg_name 2) (ss_one (s_set 1 nd (d_bin op_mulD bin_mul (d_bin op_fdivW bin_div (d_var 1) (d_callBf cr_gcd cal_gcd (e.bg_ 0) (da_cons (d_var 1) (da_cons (d_var 2) da_nil)))) (d_var 2)))))
  (ss_one (s_ret (d_var 1)))))
/-! inverse_in -/
def g_inverse_in : Sm := (sSeq (sAsg (gS [(gN 2), (gN 3), (gN 4), (gN 5)]) (eArgs gTup (aCons (eVar 1) (aCons (eBin gMod (eArgs gInt (aCons (eVar 0) aNil)) (eVar 1)) (aCons (eC (.int 0)) (aCons (eC (.int 1)) aNil))))))
  (sSeq (sWh (cCmp (gEqX true) (eVar 3) (eC (.int 0))) (sSeq (sAsg (gN 6) (eBin gDiv (eVar 2) (eVar 3)))
  (sAsg (gS [(gN 2), (gN 3), (gN 4), (gN 5)]) (eArgs gTup (aCons (eVar 3) (aCons (eBin gSub (eVar 2) (eBin gMul (eVar 6) (eVar 3))) (aCons (eVar 5) (aCons (eBin gSub (eVar 4) (eBin gMul (eVar 6) (eVar 5))) aNil))))))))
  (sRet (eBin gMod (eArgs gInt (aCons (eVar 4) aNil)) (eVar 1)))))
theorem sc_inverse_in : FnScope ["number", "m", "left", "rest", "one", "other", "times"] ["number", "m"] (defScope sx_inverse_in) := ⟨rfl, rfl, rfl, by decide +kernel, rfl, by decide +kernel, by decide +kernel⟩
def F_inverse_in : List D → M D := fun ds => G.nx (runDef 7 g_inverse_in ds)
theorem ok_inverse_in (e : HxL P K mg base) : DefG P w K mg base 1 "inverse_in" sx_inverse_in ["number", "m"] F_inverse_in :=
  DefG.mk2 (k := 0) (N := ["number", "m", "left", "rest", "one", "other", "times"]) (g := g_inverse_in) (e.c.def_ 11 (d := dd_inverse_in)) (e.glo 53) sc_inverse_in (fun _ _ _ _ _ _ us hl => match us, hl with | [_, _], _ => rfl) fun ca cdv A outer s H E gd hr => by
  have nd := sc_inverse_in.nd
  exact (ss_cons (s_asg (d_tup (da_cons (d_var 1) (da_cons (d_bin op_mod bin_mod (d_callTy call_int1 cal_int (e.free 29) boot_int (da_cons (d_var 0) da_nil)) (d_var 1)) (da_cons d_int (da_cons d_int da_nil))))) (pg_unp rfl (pgs_cons (pg_name (i := 2) nd rfl (by first | exact Or.inl rfl | exact Or.inr rfl)) (pgs_cons (pg_name (i := 3) nd rfl (by first | exact Or.inl rfl | exact Or.inr rfl)) (pgs_cons (pg_name (i := 4) nd rfl (by first | exact Or.inl rfl | exact Or.inr rfl)) (pgs_cons (pg_name (i := 5) nd rfl (by first | exact Or.inl rfl | exact Or.inr rfl)) pgs_nil))))) (tg_unp (tgs_cons (tg_name 2) (tgs_cons (tg_name 3) (tgs_cons (tg_name 4) (tgs_cons (tg_name 5) tgs_nil))))))
  (ss_cons (s_wh PassesOwn.never (dt_cmp (op_neX (roomE hr)) cmp_neX (d_var 3) d_int (nomark _)) (ss_cons (s_set 6 nd (d_bin op_fdivW bin_div (d_var 2) (d_var 3)))
  (ss_one (s_asg (d_tup (da_cons (d_var 3) (da_cons (d_bin op_subD bin_sub (d_var 2) (d_bin op_mulD bin_mul (d_var 6) (d_var 3))) (da_cons (d_var 5) (da_cons (d_bin op_subD bin_sub (d_var 4) (d_bin op_mulD bin_mul (d_var 6) (d_var 5))) da_nil))))) (pg_unp rfl (pgs_cons (pg_name (i := 2) nd rfl (by first | exact Or.inl rfl | exact Or.inr rfl)) (pgs_cons (pg_name (i := 3) nd rfl (by first | exact Or.inl rfl | exact Or.inr rfl)) (pgs_cons (pg_name (i := 4) nd rfl (by first | exact Or.inl rfl | exact Or.inr rfl)) (pgs_cons (pg_name (i := 5) nd rfl (by first | exact Or.inl rfl | exact Or.inr rfl)) pgs_nil))))) (tg_unp (tgs_cons (tg_name 2) (tgs_cons (tg_name 3) (tgs_cons (tg_name 4) (tgs_cons (tg_name 5) tgs_nil)))))))))
  (ss_one (s_ret (d_bin op_mod bin_mod (d_callTy call_int1 cal_int (e.free 29) boot_int (da_cons (d_var 4) da_nil)) (d_var 1))))))
/-! root_in -/
def g_root_in : Sm := (sSeq (sAsg (gN 3) (eArgs gGcd (aCons (eVar 0) (aCons (eVar 2) aNil))))
  (sSeq (sIf (cCmp (gEqX true) (eBin gMod (eArgs gInt (aCons (eVar 1) aNil)) (eVar 3)) (eC (.int 0))) (sRet (eC .non)) sNil)
  (sSeq (sAsg (gN 4) (eBin gDiv (eVar 2) (eVar 3)))
  (sRet (eBin gMod (eArgs gInt (aCons (eBin gMul (eBin gDiv (eUn gNeg (eVar 1)) (eVar 3)) (eCall 2 F_inverse_in [] (aCons (eBin gDiv (eVar 0) (eVar 3)) (aCons (eVar 4) aNil)))) aNil)) (eVar 4))))))
theorem sc_root_in : FnScope ["factor", "number", "m", "common", "less"] ["factor", "number", "m"] (defScope sx_root_in) := ⟨rfl, rfl, rfl, by decide +kernel, rfl, by decide +kernel, by decide +kernel⟩
def F_root_in : List D → M D := fun ds => G.nx (runDef 5 g_root_in ds)
theorem ok_root_in (e : HxL P K mg base) : DefG P w K mg base 2 "root_in" sx_root_in ["factor", "number", "m"] F_root_in :=
  DefG.mk2 (k := 1) (N := ["factor", "number", "m", "common", "less"]) (g := g_root_in) (e.c.def_ 12 (d := dd_root_in)) (e.glo 54) sc_root_in (fun _ _ _ _ _ _ us hl => match us, hl with | [_, _, _], _ => rfl) fun ca cdv A outer s H E gd hr => by
  have nd := sc_root_in.nd
  exact (ss_cons (s_set 3 nd (d_callBf cr_gcd cal_gcd (e.bg_ 0) (da_cons (d_var 0) (da_cons (d_var 2) da_nil))))
  (ss_cons (s_if (dt_cmp (op_neX (roomE hr)) cmp_neX (d_bin op_mod bin_mod (d_callTy call_int1 cal_int (e.free 29) boot_int (da_cons (d_var 1) da_nil)) (d_var 3)) d_int (nomark _)) (ss_one (s_ret d_non)) ss_nil)
  (ss_cons (s_set 4 nd (d_bin op_fdivW bin_div (d_var 2) (d_var 3)))
  (ss_one (s_ret (d_bin op_mod bin_mod (d_callTy call_int1 cal_int (e.free 29) boot_int (da_cons (d_bin op_mulD bin_mul (d_bin op_fdivW bin_div (d_un un_neg un_negD (d_var 1)) (d_var 3)) (d_callG (ok_inverse_in e) gd hr (da_cons (d_bin op_fdivW bin_div (d_var 0) (d_var 3)) (da_cons (d_var 4) da_nil)))) da_nil)) (d_var 4)))))))
/-! both_in -/
def g_both_in : Sm := (sSeq (sAsg (gS [(gS [(gN 2), (gN 3)]), (gS [(gN 4), (gN 5)])]) (eArgs gTup (aCons (eVar 0) (aCons (eVar 1) aNil))))
  (sSeq (sAsg (gN 6) (eCall 3 F_root_in [] (aCons (eVar 3) (aCons (eBin gSub (eVar 2) (eVar 4)) (aCons (eVar 5) aNil)))))
  (sSeq (sIf (cCmp (gIsN false) (eVar 6) (eC .non)) (sRet (eC .non)) sNil)
  (sSeq (sAsg (gN 7) (eCall 1 F_lcm_in [] (aCons (eArgs gLst (aCons (eVar 3) (aCons (eVar 5) aNil))) aNil)))
  (sRet (eArgs gTup (aCons (eBin gMod (eArgs gInt (aCons (eBin gAdd (eVar 2) (eBin gMul (eVar 3) (eVar 6))) aNil)) (eVar 7)) (aCons (eVar 7) aNil))))))))
theorem sc_both_in : FnScope ["one", "other", "rest", "m", "its_rest", "its_m", "turns", "many"] ["one", "other"] (defScope sx_both_in) := ⟨rfl, rfl, rfl, by decide +kernel, rfl, by decide +kernel, by decide +kernel⟩
def F_both_in : List D → M D := fun ds => G.nx (runDef 8 g_both_in ds)
theorem ok_both_in (e : HxL P K mg base) : DefG P w K mg base 3 "both_in" sx_both_in ["one", "other"] F_both_in :=
  DefG.mk2 (k := 2) (N := ["one", "other", "rest", "m", "its_rest", "its_m", "turns", "many"]) (g := g_both_in) (e.c.def_ 13 (d := dd_both_in)) (e.glo 55) sc_both_in (fun _ _ _ _ _ _ us hl => match us, hl with | [_, _], _ => rfl) fun ca cdv A outer s H E gd hr => by
  have nd := sc_both_in.nd
  exact (ss_cons (s_asg (d_tup (da_cons (d_var 0) (da_cons (d_var 1) da_nil))) (pg_unp rfl (pgs_cons (pg_unp rfl (pgs_cons (pg_name (i := 2) nd rfl (by first | exact Or.inl rfl | exact Or.inr rfl)) (pgs_cons (pg_name (i := 3) nd rfl (by first | exact Or.inl rfl | exact Or.inr rfl)) pgs_nil))) (pgs_cons (pg_unp rfl (pgs_cons (pg_name (i := 4) nd rfl (by first | exact Or.inl rfl | exact Or.inr rfl)) (pgs_cons (pg_name (i := 5) nd rfl (by first | exact Or.inl rfl | exact Or.inr rfl)) pgs_nil))) pgs_nil))) (tg_unp (tgs_cons (tg_unp (tgs_cons (tg_name 2) (tgs_cons (tg_name 3) tgs_nil))) (tgs_cons (tg_unp (tgs_cons (tg_name 4) (tgs_cons (tg_name 5) tgs_nil))) tgs_nil))))
  (ss_cons (s_set 6 nd (d_callG (ok_root_in e) gd hr (da_cons (d_var 3) (da_cons (d_bin op_subD bin_sub (d_var 2) (d_var 4)) (da_cons (d_var 5) da_nil)))))
  (ss_cons (s_if (dt_cmp op_isN cmp_isN (d_var 6) d_non (nomark _)) (ss_one (s_ret d_non)) ss_nil)
  (ss_cons (s_set 7 nd (d_callG (ok_lcm_in e) gd hr (da_cons (d_lst (da_cons (d_var 3) (da_cons (d_var 5) da_nil))) da_nil)))
  (ss_one (s_ret (d_tup (da_cons (d_bin op_mod bin_mod (d_callTy call_int1 cal_int (e.free 29) boot_int (da_cons (d_bin op_addD bin_add (d_var 2) (d_bin op_mulD bin_mul (d_var 3) (d_var 6))) da_nil)) (d_var 7)) (da_cons (d_var 7) da_nil)))))))))
/-! is_integer -/
def g_L_is_int : Sm := (sRet (eAnd (eArgs gIsi (aCons (eVar 0) (aCons (eC (.ty "int")) aNil))) (eNot (eArgs gIsi (aCons (eVar 0) (aCons (eC (.ty "bool")) aNil))))))
theorem sc_is_integer : FnScope ["value"] ["value"] (defScope sx_is_integer) := ⟨rfl, rfl, rfl, by decide +kernel, rfl, by decide +kernel, by decide +kernel⟩
def F_L_is_int : List D → M D := fun ds => G.nx (runDef 1 g_L_is_int ds)
theorem ok_is_integer (e : HxL P K mg base) : DefG P w K mg base 1 "is_integer" sx_is_integer ["value"] F_L_is_int :=
  DefG.mk2 (k := 0) (N := ["value"]) (g := g_L_is_int) (e.c.def_ 14 (d := dd_is_integer)) (e.glo 56) sc_is_integer (fun _ _ _ _ _ _ us hl => match us, hl with | [_], _ => rfl) fun ca cdv A outer s H E gd hr => by
  have nd := sc_is_integer.nd
  exact (ss_one (s_ret (d_and (d_callB cr_isi cal_isi (e.free 2) (bt_isinstance) (da_cons (d_var 0) (da_cons (d_ty "int" (e.free 29) boot_int) da_nil))) (d_one (d_not (d_callB cr_isi cal_isi (e.free 2) (bt_isinstance) (da_cons (d_var 0) (da_cons (d_ty "bool" (e.free 33) boot_bool) da_nil))))))))
/-! is_within -/
def g_is_within : Sm := (sSeq (sIf (cNot (cTru (eCall 1 F_L_is_int [] (aCons (eVar 0) aNil)))) (sRet (eC (.bl false))) sNil)
  (sRet (eAnd (eOr (eBin (gBl (gIsN false)) (eVar 1) (eC .non)) (eBin (gBl (gCmpI geI)) (eVar 0) (eVar 1))) (eOr (eBin (gBl (gIsN false)) (eVar 2) (eC .non)) (eBin (gBl (gCmpO leI leL)) (eVar 0) (eVar 2))))))
theorem sc_is_within : FnScope ["value", "least", "most"] ["value", "least", "most"] (defScope sx_is_within) := ⟨rfl, rfl, rfl, by decide +kernel, rfl, by decide +kernel, by decide +kernel⟩
def F_is_within : List D → M D := fun ds => G.nx (runDef 3 g_is_within ds)
theorem ok_is_within (e : HxL P K mg base) : DefG P w K mg base 2 "is_within" sx_is_within ["value", "least", "most"] F_is_within :=
  DefG.mk2 (k := 1) (N := ["value", "least", "most"]) (g := g_is_within) (e.c.def_ 15 (d := dd_is_within)) (e.glo 57) sc_is_within (fun _ _ _ _ _ _ us hl => match us, hl with | [_, _, _], _ => rfl) fun ca cdv A outer s H E gd hr => by
  have nd := sc_is_within.nd
  exact (ss_cons (s_if (dt_not (dt_tru (d_callG (ok_is_integer e) gd hr (da_cons (d_var 0) da_nil)))) (ss_one (s_ret d_bl)) ss_nil)
  (ss_one (s_ret (d_and (d_or (d_cmp op_isN (BinB.d cmp_isN) (d_var 1) d_non (nomark _)) (d_one (d_cmp op_ge (BinB.d (cmp_int (f := geI))) (d_var 0) (d_var 1) (nomark _)))) (d_one (d_or (d_cmp op_isN (BinB.d cmp_isN) (d_var 2) d_non (nomark _)) (d_one (d_cmp op_leO (BinB.d (cmp_ord (f := leI) (g := leL))) (d_var 0) (d_var 2) (nomark _)))))))))
/-! is_left -/
def g_is_left : Sm := (sSeq (sIf (cOr (cNot (cTru (eArgs gIsi (aCons (eVar 0) (aCons (eArgs gTup (aCons (eC (.ty "list")) (aCons (eC (.ty "tuple")) aNil))) aNil))))) (cOr (cCmp (gEqX true) (eArgs gLen (aCons (eVar 0) aNil)) (eC (.int 2))) (cNot (cTru (eCall 3 F_is_within [] (aCons (eBin gIxA (eVar 0) (eC (.int 1))) (aCons (eC (.int 1)) (aCons (eC .non) aNil)))))))) (sRet (eC (.bl false))) sNil)
  (sRet (eAnd (eCall 1 F_L_is_int [] (aCons (eBin gIxA (eVar 0) (eC (.int 0))) aNil)) (eOfC (cChain (gCmpO leI leL) (gCmpO ltI ltL) (eC (.int 0)) (eBin gIxA (eVar 0) (eC (.int 0))) (eBin gIxA (eVar 0) (eC (.int 1))))))))
theorem sc_is_left : FnScope ["value"] ["value"] (defScope sx_is_left) := ⟨rfl, rfl, rfl, by decide +kernel, rfl, by decide +kernel, by decide +kernel⟩
def F_is_left : List D → M D := fun ds => G.nx (runDef 1 g_is_left ds)
theorem ok_is_left (e : HxL P K mg base) : DefG P w K mg base 3 "is_left" sx_is_left ["value"] F_is_left :=
  DefG.mk2 (k := 2) (N := ["value"]) (g := g_is_left) (e.c.def_ 16 (d := dd_is_left)) (e.glo 58) sc_is_left (fun _ _ _ _ _ _ us hl => match us, hl with | [_], _ => rfl) fun ca cdv A outer s H E gd hr => by
  have nd := sc_is_left.nd
  exact (ss_cons (s_if (PW.pt (dw_or (dt_not (dt_tru (d_callB cr_isi cal_isi (e.free 2) (bt_isinstance) (da_cons (d_var 0) (da_cons (d_tup (da_cons (d_ty "list" (e.free 34) boot_list) (da_cons (d_ty "tuple" (e.free 35) boot_tuple) da_nil))) da_nil))))) (dw_or (dt_cmp (op_neX (roomE hr)) cmp_neX (d_callB cr_lenD cal_len (e.free 30) (bt_len) (da_cons (d_var 0) da_nil)) d_int (nomark _)) (dw_or1 (dt_not (dt_tru (d_callG (ok_is_within e) gd hr (da_cons (d_ix (ix_all (roomI hr)) ix_DA (d_var 0) d_int) (da_cons d_int (da_cons d_non da_nil)))))))))) (ss_one (s_ret d_bl)) ss_nil)
  (ss_one (s_ret (d_and (d_callG (ok_is_integer e) gd hr (da_cons (d_ix (ix_all (roomI hr)) ix_DA (d_var 0) d_int) da_nil)) (d_one (d_chain op_leO op_ltO (cmp_ord (f := leI) (g := leL)) (cmp_ord (f := ltI) (g := ltL)) d_int (d_ix (ix_all (roomI hr)) ix_DA (d_var 0) d_int) (d_ix (ix_all (roomI hr)) ix_DA (d_var 0) d_int)))))))
/-! both_rests -/
def g_both_rests : Sm := (sSeq (sIf (cNot (cTru (eCall 1 F_is_left [] (aCons (eVar 0) aNil)))) (sRaise "BadNumber" "part" (eC (.str "one"))) sNil)
  (sSeq (sIf (cNot (cTru (eCall 1 F_is_left [] (aCons (eVar 1) aNil)))) (sRaise "BadNumber" "part" (eC (.str "other"))) sNil)
  (sRet (eCall 2 F_both_in [] (aCons (eArgs gTuple (aCons (eVar 0) aNil)) (aCons (eArgs gTuple (aCons (eVar 1) aNil)) aNil))))))
theorem sc_both_rests : FnScope ["one", "other"] ["one", "other"] (defScope sx_both_rests) := ⟨rfl, rfl, rfl, by decide +kernel, rfl, by decide +kernel, by decide +kernel⟩
def F_both_rests : List D → M D := runDef 2 g_both_rests
theorem ok_both_rests (e : HxL P K mg base) : DefX P w K mg base 4 "both_rests" sx_both_rests ["one", "other"] F_both_rests :=
  DefX.mk2 (k := 3) (N := ["one", "other"]) (g := g_both_rests) (e.c.def_ 17 (d := dd_both_rests)) (e.glo 59) sc_both_rests (fun _ _ _ _ _ _ us hl => match us, hl with | [_, _], _ => rfl) fun ca cdv A outer s H E gd hr => by
  have nd := sc_both_rests.nd
  exact (ss_cons (s_if (dt_not (dt_tru (d_callG (ok_is_left e) gd hr (da_cons (d_var 0) da_nil)))) (ss_one (s_raise (e.exc (e.free 0) 0) takesX rfl hr d_str)) ss_nil)
  (ss_cons (s_if (dt_not (dt_tru (d_callG (ok_is_left e) gd hr (da_cons (d_var 1) da_nil)))) (ss_one (s_raise (e.exc (e.free 0) 0) takesX rfl hr d_str)) ss_nil)
  (ss_one (s_ret (d_callG (ok_both_in e) gd hr (da_cons (d_callTy call_tupN cal_tuple (e.free 35) boot_tuple (da_cons (d_var 0) da_nil)) (da_cons (d_callTy call_tupN cal_tuple (e.free 35) boot_tuple (da_cons (d_var 1) da_nil)) da_nil)))))))
/-! are_integers -/
def g_are_integers : Sm := (sRet (eAnd (eArgs gIsi (aCons (eVar 0) (aCons (eArgs gTup (aCons (eC (.ty "list")) (aCons (eC (.ty "tuple")) aNil))) aNil))) (eArgs gAll (aCons (eComp (gN 1) (iSeq (eVar 0)) (fun _ => pure true) (eCall 1 F_L_is_int [] (aCons (eVar 1) aNil)) [1]) aNil))))
theorem sc_are_integers : FnScope ["value", "each"] ["value"] (defScope sx_are_integers) := ⟨rfl, rfl, rfl, by decide +kernel, rfl, by decide +kernel, by decide +kernel⟩
def F_are_integers : List D → M D := fun ds => G.nx (runDef 2 g_are_integers ds)
theorem ok_are_integers (e : HxL P K mg base) : DefG P w K mg base 2 "are_integers" sx_are_integers ["value"] F_are_integers :=
  DefG.mk2 (k := 1) (N := ["value", "each"]) (g := g_are_integers) (e.c.def_ 18 (d := dd_are_integers)) (e.glo 60) sc_are_integers (fun _ _ _ _ _ _ us hl => match us, hl with | [_], _ => rfl) fun ca cdv A outer s H E gd hr => by
  have nd := sc_are_integers.nd
  exact (ss_one (s_ret (d_and (d_callB cr_isi cal_isi (e.free 2) (bt_isinstance) (da_cons (d_var 0) (da_cons (d_tup (da_cons (d_ty "list" (e.free 34) boot_list) (da_cons (d_ty "tuple" (e.free 35) boot_tuple) da_nil))) da_nil))) (d_one (d_callB (cr_all rfl) cal_all (e.free 36) (bt_all) (da_cons (d_comp (own := [("each", 1)]) rfl nd (blkOk_by (by kernel_rfl)) (i_seq (d_var 0)) (tg_name 1) (fun _ _ _ _ _ => (pg_name (i := 1) nd rfl (by first | exact Or.inl rfl | exact Or.inr rfl))) (fun _ _ _ _ _ => dts_nil) (fun _ _ _ _ _ => (d_callG (ok_is_integer e) gd hr (da_cons (d_var 1) da_nil)))) da_nil))))))
/-! are_counted -/
def g_are_counted : Sm := (sRet (eAnd (eCall 1 F_are_integers [] (aCons (eVar 0) aNil)) (eAnd (eBin (gBl (gCmpO gtI gtL)) (eArgs gLen (aCons (eVar 0) aNil)) (eC (.int 0))) (eBin (gBl (gCmpI geI)) (eArgs gMinA (aCons (eVar 0) aNil)) (eC (.int 1))))))
theorem sc_are_counted : FnScope ["value"] ["value"] (defScope sx_are_counted) := ⟨rfl, rfl, rfl, by decide +kernel, rfl, by decide +kernel, by decide +kernel⟩
def F_are_counted : List D → M D := fun ds => G.nx (runDef 1 g_are_counted ds)
theorem ok_are_counted (e : HxL P K mg base) : DefG P w K mg base 3 "are_counted" sx_are_counted ["value"] F_are_counted :=
  DefG.mk2 (k := 2) (N := ["value"]) (g := g_are_counted) (e.c.def_ 19 (d := dd_are_counted)) (e.glo 61) sc_are_counted (fun _ _ _ _ _ _ us hl => match us, hl with | [_], _ => rfl) fun ca cdv A outer s H E gd hr => by
  have nd := sc_are_counted.nd
  exact (ss_one (s_ret (d_and (d_callG (ok_are_integers e) gd hr (da_cons (d_var 0) da_nil)) (d_and (d_cmp op_gtO (BinB.d (cmp_ord (f := gtI) (g := gtL))) (d_callB cr_lenD cal_len (e.free 30) (bt_len) (da_cons (d_var 0) da_nil)) d_int (nomark _)) (d_one (d_cmp op_ge (BinB.d (cmp_int (f := geI))) (d_callB (cr_minA rfl (room1 hr)) cal_minA (e.free 37) (bt_min) (da_cons (d_var 0) da_nil)) d_int (nomark _)))))))
/-! gcd_of -/
def g_gcd_of : Sm := (sSeq (sIf (cNot (cTru (eCall 1 F_are_counted [] (aCons (eVar 0) aNil)))) (sRaise "BadNumber" "part" (eC (.str "numbers"))) sNil)
  (sSeq (sAsg (gN 1) (eC (.int 0)))
  (sSeq (sFor (gN 2) (iSeq (eVar 0)) (sAsg (gN 1) (eArgs gGcd (aCons (eVar 1) (aCons (eVar 2) aNil)))))
  (sRet (eVar 1)))))
theorem sc_gcd_of : FnScope ["numbers", "found", "number"] ["numbers"] (defScope sx_gcd_of) := ⟨rfl, rfl, rfl, by decide +kernel, rfl, by decide +kernel, by decide +kernel⟩
def F_gcd_of : List D → M D := runDef 3 g_gcd_of
theorem ok_gcd_of (e : HxL P K mg base) : DefX P w K mg base 4 "gcd_of" sx_gcd_of ["numbers"] F_gcd_of :=
  DefX.mk2 (k := 3) (N := ["numbers", "found", "number"]) (g := g_gcd_of) (e.c.def_ 20 (d := dd_gcd_of)) (e.glo 62) sc_gcd_of (fun _ _ _ _ _ _ us hl => match us, hl with | [_], _ => rfl) fun ca cdv A outer s H E gd hr => by
  have nd := sc_gcd_of.nd
  exact (ss_cons (s_if (dt_not (dt_tru (d_callG (ok_are_counted e) gd hr (da_cons (d_var 0) da_nil)))) (ss_one (s_raise (e.exc (e.free 0) 0) takesX rfl hr d_str)) ss_nil)
  (ss_cons (s_set 1 nd d_int)
  (ss_cons (s_for rfl (passes_of rfl) (i_seq (d_var 0)) (pg_name (i := 2) nd rfl (by first | exact Or.inl rfl | exact Or.inr rfl)) (tg_name 2) (ss_one (s_set 1 nd (d_callBf cr_gcd cal_gcd (e.bg_ 0) (da_cons (d_var 1) (da_cons (d_var 2) da_nil))))))
  (ss_one (s_ret (d_var 1))))))
/-! lcm_of -/
def g_lcm_of : Sm := (sSeq (sIf (cNot (cTru (eCall 1 F_are_counted [] (aCons (eVar 0) aNil)))) (sRaise "BadNumber" "part" (eC (.str "numbers"))) sNil)
  (sRet (eCall 1 F_lcm_in [] (aCons (eVar 0) aNil))))
theorem sc_lcm_of : FnScope ["numbers"] ["numbers"] (defScope sx_lcm_of) := ⟨rfl, rfl, rfl, by decide +kernel, rfl, by decide +kernel, by decide +kernel⟩
def F_lcm_of : List D → M D := runDef 1 g_lcm_of
theorem ok_lcm_of (e : HxL P K mg base) : DefX P w K mg base 4 "lcm_of" sx_lcm_of ["numbers"] F_lcm_of :=
  DefX.mk2 (k := 3) (N := ["numbers"]) (g := g_lcm_of) (e.c.def_ 21 (d := dd_lcm_of)) (e.glo 63) sc_lcm_of (fun _ _ _ _ _ _ us hl => match us, hl with | [_], _ => rfl) fun ca cdv A outer s H E gd hr => by
  have nd := sc_lcm_of.nd
  exact (ss_cons (s_if (dt_not (dt_tru (d_callG (ok_are_counted e) gd hr (da_cons (d_var 0) da_nil)))) (ss_one (s_raise (e.exc (e.free 0) 0) takesX rfl hr d_str)) ss_nil)
  (ss_one (s_ret (d_callG (ok_lcm_in e) gd hr (da_cons (d_var 0) da_nil)))))
/-! need_number -/
def g_need_number2 : Sm := (sIf (cNot (cTru (eCall 3 F_is_within [] (aCons (eVar 0) (aCons (eVar 2) (aCons (eVar 3) aNil)))))) (sRaise "BadNumber" "part" (eVar 1)) sNil)
theorem sc_need_number : FnScope ["value", "part", "least", "most"] ["value", "part", "least", "most"] (defScope sx_need_number) := ⟨rfl, rfl, rfl, by decide +kernel, rfl, by decide +kernel, by decide +kernel⟩
def F_need_number2 : List D → M D := runDef 4 g_need_number2
theorem ok_need_number (e : HxL P K mg base) : DefHX P w K mg base 3 "need_number" sx_need_number ["value", "part", "least", "most"] [.non, .non] F_need_number2 :=
  DefHX.mk2 (k := 2) (N := ["value", "part", "least", "most"]) (g := g_need_number2) (e.c.def_ 22 (d := dd_need_number)) (e.glo 64) sc_need_number fun ca cdv A outer s H E gd hr => by
  have nd := sc_need_number.nd
  exact (ss_one (s_if (dt_not (dt_tru (d_callG (ok_is_within e) gd hr (da_cons (d_var 0) (da_cons (d_var 2) (da_cons (d_var 3) da_nil)))))) (ss_one (s_raise (e.exc (e.free 0) 0) takesX rfl hr (d_var 1))) ss_nil))
/-! rest_of -/
def g_rest_of : Sm := (sSeq (sExpr (eCall 4 F_need_number2 [.non, .non] (aCons (eVar 0) (aCons (eC (.str "number")) aNil))))
  (sSeq (sExpr (eCall 4 F_need_number2 [.non] (aCons (eVar 1) (aCons (eC (.str "m")) (aCons (eC (.int 1)) aNil)))))
  (sRet (eBin gMod (eArgs gInt (aCons (eVar 0) aNil)) (eVar 1)))))
theorem sc_rest_of : FnScope ["number", "m"] ["number", "m"] (defScope sx_rest_of) := ⟨rfl, rfl, rfl, by decide +kernel, rfl, by decide +kernel, by decide +kernel⟩
def F_rest_of : List D → M D := runDef 2 g_rest_of
theorem ok_rest_of (e : HxL P K mg base) : DefX P w K mg base 4 "rest_of" sx_rest_of ["number", "m"] F_rest_of :=
  DefX.mk2 (k := 3) (N := ["number", "m"]) (g := g_rest_of) (e.c.def_ 23 (d := dd_rest_of)) (e.glo 65) sc_rest_of (fun _ _ _ _ _ _ us hl => match us, hl with | [_, _], _ => rfl) fun ca cdv A outer s H E gd hr => by
  have nd := sc_rest_of.nd
  exact (ss_cons (s_expr (d_callHX 2 0 [.non, .non] (ok_need_number e).here (passX takesX) gd hr (da_cons (d_var 0) (da_cons d_str da_nil)) (fun _ => (fun _ _ _ _ _ _ _ us its h1 h2 => match us, its, h1, h2 with | [_, _], [_, _], _, _ => ⟨_, rfl, rfl⟩))))
  (ss_cons (s_expr (d_callHX 3 1 [.non] (ok_need_number e).here (passX takesX) gd hr (da_cons (d_var 1) (da_cons d_str (da_cons d_int da_nil))) (fun _ => (fun _ _ _ _ _ _ _ us its h1 h2 => match us, its, h1, h2 with | [_, _, _], [_, _], _, _ => ⟨_, rfl, rfl⟩))))
  (ss_one (s_ret (d_bin op_mod bin_mod (d_callTy call_int1 cal_int (e.free 29) boot_int (da_cons (d_var 0) da_nil)) (d_var 1))))))
/-! law -/
def g_law : Sm := (sSeq (sFor (gN 2) (iRange1 (aCons (eC (.int 21)) aNil)) (sSeq (sAsg (gS [(gN 3), (gN 4)]) (eArgs gTup (aCons (eCall 1 F_L_value [] (aCons (eVar 1) aNil)) (aCons (eCall 1 F_L_value [] (aCons (eVar 1) aNil)) aNil))))
  (sSeq (sAsg (gN 5) (eIf (cCmp (gCmpO ltI ltL) (eVar 2) (eC (.int 16))) (eArgs gLst (aCons (eVar 3) aNil)) (eIf (cCmp (gCmpO ltI ltL) (eVar 2) (eC (.int 19))) (eArgs gLst (aCons (eVar 3) (aCons (eVar 4) aNil))) (eArgs gLst aNil))))
  (sFor (gN 6) (iSeq (eArgs gTup (aCons (eCall 3 F_L_by_place [] (aCons (eVar 2) (aCons (eVar 3) (aCons (eVar 4) aNil)))) (aCons (eCall 3 F_L_by_name [] (aCons (eVar 2) (aCons (eVar 3) (aCons (eVar 4) aNil)))) aNil)))) (sSeq (sAsg (gN 7) (eCall 2 F_L_fields [] (aCons (eVar 2) (aCons (eVar 6) aNil))))
  (sSeq (sIf (cOr (cCmp gNeU (eVar 7) (eVar 5)) (cOr (cCmp (gEqX true) (eArgs gRepr (aCons (eVar 7) aNil)) (eArgs gRepr (aCons (eVar 5) aNil))) (cCmp (gEqX true) (eCall 1 F_L_flags [] (aCons (eVar 6) aNil)) (eComp (gN 9) (iRange1 (aCons (eC (.int 21)) aNil)) (fun _ => pure true) (eBin (gBl gEqA) (eVar 9) (eVar 2)) [9])))) (sRet (eC (.bl false))) sNil)
  (sSeq (sIf (cOr (cCmp (gEqX true) (eIsX ["Missing"] (eVar 6)) (eBin (gBl gEqA) (eVar 2) (eC (.int 14)))) (cOr (cTru (eCall 1 F_L_is_far [] (aCons (eVar 6) aNil))) (cNot (cTru (eIsX ["DuelError"] (eVar 6)))))) (sRet (eC (.bl false))) sNil)
  (sIf (cNot (cTru (eArgs gIsE (aCons (eVar 6) (aCons (eC (.ty "ValueError")) aNil))))) (sRet (eC (.bl false))) sNil))))))))
  (sSeq (sAsg (gN 3) (eCall 1 F_L_value [] (aCons (eVar 1) aNil)))
  (sSeq (sIf (cOr (cCmp (gEqX true) (eArgs gRepr (aCons (eAttr "value" (eMkK "Missing" ["value"] (aCons (eVar 3) aNil))) aNil)) (eArgs gRepr (aCons (eVar 3) aNil))) (cOr (cCmp (gEqX true) (eCall 1 F_L_flags [] (aCons (eMk "Missing" ["value"] (aCons (eVar 3) aNil)) aNil)) (eBin gMul (eArgs gLst (aCons (eC (.bl false)) aNil)) (eC (.int 21)))) (cNot (cTru (eIsX ["DuelError"] (eMk "Missing" ["value"] (aCons (eVar 3) aNil))))))) (sRet (eC (.bl false))) sNil)
  (sSeq (sOwn 8 (eArgs gLst (aCons (eLam 3 g_L_caught2 (eCall 1 F_gcd_of [] (aCons (eArgs gLst aNil) aNil))) aNil)))
  (sSeq (sMut 8 "list" gAppend (aCons (eLam 3 g_L_caught2 (eCall 1 F_lcm_of [] (aCons (eC (.str "1")) aNil))) aNil))
  (sSeq (sMut 8 "list" gAppend (aCons (eLam 3 g_L_caught2 (eCall 2 F_rest_of [] (aCons (eC (.int 1)) (aCons (eC (.int 0)) aNil)))) aNil))
  (sSeq (sMut 8 "list" gAppend (aCons (eLam 3 g_L_caught2 (eCall 2 F_both_rests [] (aCons (eArgs gTup (aCons (eC (.int 0)) (aCons (eC (.int 0)) aNil))) (aCons (eVar 3) aNil)))) aNil))
  (sFz 8 (sRet (eBin (gBl gEqA) (eComp (gN 6) (iSeq (eVar 8)) (fun _ => pure true) (eAnd (eBin gIxA (eCall 1 F_L_flags [] (aCons (eVar 6) aNil)) (eC (.int 0))) (eAttr "part" (eVar 6))) [6]) (eArgs gLst (aCons (eC (.str "numbers")) (aCons (eC (.str "numbers")) (aCons (eC (.str "m")) (aCons (eC (.str "one")) aNil)))))))))))))))
theorem sc_law : FnScope ["_law_script", "_law_satchel_here", "_law_at", "_law_one_here", "_law_other", "_law_due", "_law_error", "_law_told", "_law_raised", "_law_place"] ["_law_script"] (defScope sx_law) := ⟨rfl, rfl, rfl, by decide +kernel, rfl, by decide +kernel, by decide +kernel⟩
theorem body_law (e : HxL P K mg base) {f : Addr} {cdv : Value} {A : Around} {outer : List Env} {s : Shared} {H : Hp} {E : XK} (gd : A.guards = some []) (hr : Room 6 (A.deeper (envOfC "law" (defScope sx_law) s.heap.objs.size f cdv))) (lc : LamCode K "law" cdv) (ca : Dr) :
    PSs (cxOf CX0 P w K mg base ["_law_script", "_law_satchel_here", "_law_at", "_law_one_here", "_law_other", "_law_due", "_law_error", "_law_told", "_law_raised", "_law_place"] "law" (defScope sx_law) f cdv A outer s H E).nox ((defBody sx_law).drop 1) (tS K ca E0 g_law) := by
  have nd := sc_law.nd
  exact (ss_cons (s_for rfl PassesOwn.never (i_range1 (e.free 38) (da_cons d_int da_nil)) (pg_name (i := 2) nd rfl (by first | exact Or.inl rfl | exact Or.inr rfl)) (tg_name 2) (ss_cons (s_asg (d_tup (da_cons (d_callG (ok__law_value e) gd hr (da_cons (d_var 1) da_nil)) (da_cons (d_callG (ok__law_value e) gd hr (da_cons (d_var 1) da_nil)) da_nil))) (pg_unp rfl (pgs_cons (pg_name (i := 3) nd rfl (by first | exact Or.inl rfl | exact Or.inr rfl)) (pgs_cons (pg_name (i := 4) nd rfl (by first | exact Or.inl rfl | exact Or.inr rfl)) pgs_nil))) (tg_unp (tgs_cons (tg_name 3) (tgs_cons (tg_name 4) tgs_nil))))
  (ss_cons (s_set 5 nd (d_if (dt_cmp op_ltO (cmp_ord (f := ltI) (g := ltL)) (d_var 2) d_int (nomark _)) (d_lst (da_cons (d_var 3) da_nil)) (d_if (dt_cmp op_ltO (cmp_ord (f := ltI) (g := ltL)) (d_var 2) d_int (nomark _)) (d_lst (da_cons (d_var 3) (da_cons (d_var 4) da_nil))) (d_lst da_nil))))
  (ss_one (s_for rfl PassesOwn.never (i_seq (d_tup (da_cons (d_callG (ok__law_by_place e) gd hr (da_cons (d_var 2) (da_cons (d_var 3) (da_cons (d_var 4) da_nil)))) (da_cons (d_callG (ok__law_by_name e) gd hr (da_cons (d_var 2) (da_cons (d_var 3) (da_cons (d_var 4) da_nil)))) da_nil)))) (pg_name (i := 6) nd rfl (by first | exact Or.inl rfl | exact Or.inr rfl)) (tg_name 6) (ss_cons (s_set 7 nd (d_callG (ok__law_fields e) gd hr (da_cons (d_var 2) (da_cons (d_var 6) da_nil))))
  (ss_cons (s_if (PW.pt (dw_or (dt_cmp (op_neU (roomU hr)) cmp_neU (d_var 7) (d_var 5) (nomark _)) (dw_or (dt_cmp (op_neX (roomE hr)) cmp_neX (d_callB (cr_repr e.y gd (roomU hr)) cal_repr (e.free 39) (bt_repr) (da_cons (d_var 7) da_nil)) (d_callB (cr_repr e.y gd (roomU hr)) cal_repr (e.free 39) (bt_repr) (da_cons (d_var 5) da_nil)) (nomark _)) (dw_or1 (dt_cmp (op_neX (roomE hr)) cmp_neX (d_callG (ok__law_flags e) gd hr (da_cons (d_var 6) da_nil)) (d_comp (own := [("_law_place", 9)]) rfl nd (blkOk_by (by kernel_rfl)) (i_range1 (e.free 38) (da_cons d_int da_nil)) (tg_name 9) (fun _ _ _ _ _ => (pg_name (i := 9) nd rfl (by first | exact Or.inl rfl | exact Or.inr rfl))) (fun _ _ _ _ _ => dts_nil) (fun _ _ _ _ _ => (d_cmp (op_eqA (roomE hr)) (BinB.d cmp_eqA) (d_var 9) (d_var 2) (nomark _)))) (nomark _)))))) (ss_one (s_ret d_bl)) ss_nil)
  (ss_cons (s_if (PW.pt (dw_or (dt_cmp (op_neX (roomE hr)) cmp_neX (d_isX1 "Missing" (e.cls_ 22) (e.free 2) (e.glo 40) (d_var 6)) (d_cmp (op_eqA (roomE hr)) (BinB.d cmp_eqA) (d_var 2) d_int (nomark _)) (nomark _)) (dw_or (dt_tru (d_callG (ok__law_is_far e) gd hr (da_cons (d_var 6) da_nil))) (dw_or1 (dt_not (dt_tru (d_isX1 "DuelError" (e.cls_ 0) (e.free 2) (e.glo 1) (d_var 6)))))))) (ss_one (s_ret d_bl)) ss_nil)
  (ss_one (s_if (dt_not (dt_tru (d_callB (call_isE e.et) cal_isE (e.free 2) (bt_isinstance) (da_cons (d_var 6) (da_cons (d_ty "ValueError" (e.free 41) boot_ValueError) da_nil))))) (ss_one (s_ret d_bl)) ss_nil))))))))))
  (ss_cons (s_set 3 nd (d_callG (ok__law_value e) gd hr (da_cons (d_var 1) da_nil)))
  (ss_cons (s_if (PW.pt (dw_or (dt_cmp (op_neX (roomE hr)) cmp_neX (d_callB (cr_repr e.y gd (roomU hr)) cal_repr (e.free 39) (bt_repr) (da_cons (d_attr "value" (d_mkK (e.mk_ (e.free 0) 21) hr (dk_cons (d_var 3) dk_nil))) da_nil)) (d_callB (cr_repr e.y gd (roomU hr)) cal_repr (e.free 39) (bt_repr) (da_cons (d_var 3) da_nil)) (nomark _)) (dw_or (dt_cmp (op_neX (roomE hr)) cmp_neX (d_callG (ok__law_flags e) gd hr (da_cons (d_mk (e.mk_ (e.free 0) 21) hr (da_cons (d_var 3) da_nil)) da_nil)) (d_bin op_mulD bin_mul (d_lst (da_cons d_bl da_nil)) d_int) (nomark _)) (dw_or1 (dt_not (dt_tru (d_isX1 "DuelError" (e.cls_ 0) (e.free 2) (e.glo 1) (d_mk (e.mk_ (e.free 0) 21) hr (da_cons (d_var 3) da_nil))))))))) (ss_one (s_ret d_bl)) ss_nil)
  (ss_cons (s_own 8 nd (dF_lst (da_cons (d_lam 4 ((act__law_caught e).here) gd hr e.tb lc (LamX.lamS_by (by kernel_rfl)) (fun A outer s H E f c' gd hr => (d_callX (ok_gcd_of e) (passX takesL) gd hr (da_cons (d_lst da_nil) da_nil)))) da_nil)))
  (ss_cons (s_mut 8 F.plainAttrs_list F.slot_list_append F.type_list_append mt_append mut_append (da_cons (d_lam 4 ((act__law_caught e).here) gd hr e.tb lc (LamX.lamS_by (by kernel_rfl)) (fun A outer s H E f c' gd hr => (d_callX (ok_lcm_of e) (passX takesL) gd hr (da_cons d_str da_nil)))) da_nil))
  (ss_cons (s_mut 8 F.plainAttrs_list F.slot_list_append F.type_list_append mt_append mut_append (da_cons (d_lam 4 ((act__law_caught e).here) gd hr e.tb lc (LamX.lamS_by (by kernel_rfl)) (fun A outer s H E f c' gd hr => (d_callX (ok_rest_of e) (passX takesL) gd hr (da_cons d_int (da_cons d_int da_nil))))) da_nil))
  (ss_cons (s_mut 8 F.plainAttrs_list F.slot_list_append F.type_list_append mt_append mut_append (da_cons (d_lam 4 ((act__law_caught e).here) gd hr e.tb lc (LamX.lamS_by (by kernel_rfl)) (fun A outer s H E f c' gd hr => (d_callX (ok_both_rests e) (passX takesL) gd hr (da_cons (d_tup (da_cons d_int (da_cons d_int da_nil))) (da_cons (d_var 3) da_nil))))) da_nil))
  (ss_one (s_fz 8 (s_ret (d_cmp (op_eqA (roomE hr)) (BinB.d cmp_eqA) (d_comp (own := [("_law_error", 6)]) rfl nd (blkOk_by (by kernel_rfl)) (i_seq (d_var 8)) (tg_name 6) (fun _ _ _ _ _ => (pg_name (i := 6) nd rfl (by first | exact Or.inl rfl | exact Or.inr rfl))) (fun _ _ _ _ _ => dts_nil) (fun _ _ _ _ _ => (d_and (d_ix (ix_all (roomI hr)) ix_DA (d_callG (ok__law_flags e) gd hr (da_cons (d_var 6) da_nil)) d_int) (d_one (d_attr "part" (d_var 6)))))) (d_lst (da_cons d_str (da_cons d_str (da_cons d_str (da_cons d_str da_nil))))) (nomark _))))))))))))
/-! _law_satchel, the law's end -/
theorem sc__law_satchel : FnScope ["_law_script", "_law_cell"] ["_law_script"] (defScope sx__law_satchel) := ⟨rfl, rfl, rfl, by decide +kernel, rfl, by decide +kernel, by decide +kernel⟩
theorem ok__law_satchel (e : HxL P K mg base) : ∃ fd, FunD K "_law_satchel" "_law_satchel" (defArgs sx__law_satchel) (defBody sx__law_satchel) (defScope sx__law_satchel) [] [] (He.ga K "_law_satchel") fd ∧ FnOk P w K mg base CX0 1 (He.ga K "_law_satchel") fd ["_law_script"] (spMade K) ∧ Binds K fd ["_law_script"] [] := by
  obtain ⟨fd, F⟩ := e.c.def_ 6 (d := dd__law_satchel) rfl
  have F : FunD K "_law_satchel" "_law_satchel" (defArgs sx__law_satchel) (defBody sx__law_satchel) (defScope sx__law_satchel) [] [] (He.ga K "_law_satchel") fd := F
  refine ⟨fd, F, F.ok sc__law_satchel (fun vs H Q E h => ?_) (fun cdv A outer s H vs Q E hr h => ?_), F.bindsN (fun _ _ _ _ _ _ us hl => match us, hl with | [_], _ => rfl)⟩
  · obtain ⟨a, ns, rfl, _⟩ := h
    rfl
  obtain ⟨a, ns, rfl, hS, hT, q⟩ := h
  have nd := sc__law_satchel.nd
  refine ⟨_, PSs.nox (pss_one (ps_ret (pe_lst (pa_cons (pe_lc (own := [("_law_cell", 1)]) rfl nd (pi_list (pe_slice sl_list (pv 0) po_none (po_some pe_int))) (blkOk_by (by kernel_rfl)) (fun _ _ _ _ _ => pg_name (i := 1) nd rfl (by first | exact Or.inl rfl | exact Or.inr rfl)) (fun _ _ _ _ _ => pts_nil)
    (fun _ _ _ _ _ => pe_callTy call_int1 rfl (e.free 29) boot_int (pa_cons (pv 1) pa_nil))) (pa_cons pe_int (pa_cons pe_int pa_nil)))))), ?_⟩
  exact made_read (X := cxOf CX0 P w K mg base ["_law_script", "_law_cell"] "_law_satchel" (defScope sx__law_satchel) (He.ga K "_law_satchel") cdv A outer s H E) (st := sx__law_satchel) (tt := tYes) (i := 1) hS hT rfl q (Nat.lt_succ_self 1)
theorem ok_law (e : HxL P K mg base) (lt : LawTrue 10 g_law) : ∃ fd, FunD K "law" "law" (defArgs sx_law) (defBody sx_law) (defScope sx_law) [] [] (He.ga K "law") fd ∧ FnG P w K mg base CX0 7 (He.ga K "law") fd ["_law_script"] (spLaw K) := by
  obtain ⟨fd, F⟩ := e.c.def_ 24 (d := dd_law) rfl
  have F : FunD K "law" "law" (defArgs sx_law) (defBody sx_law) (defScope sx_law) [] [] (He.ga K "law") fd := F
  obtain ⟨fdH, FH, okH, bH⟩ := ok__law_satchel (P := P) (w := w) e
  have nd := sc_law.nd
  refine ⟨fd, F, FunD.okGL (k := 6) F (e.lam_ 0) sc_law (fun vs H Q E h => ?_) (fun cdv A outer s H vs Q E lc gd hr h => ⟨_, PSs.nox (pss_cons (ps_set (i := 1) nd rfl (by first | exact Or.inl rfl | exact Or.inr rfl) (pe_call okH (hr.mono (by decide)) rfl (e.glo 48) FH.kp bH .nil L2.pass0 (pa_cons (pv 0) pa_nil))) (ss_any (body_law e gd hr lc))), law_read (by decide) lt h⟩)⟩
  obtain ⟨a, ns, rfl, _⟩ := h
  rfl
end
abbrev R0 : PySem.W.OpenRow := PySem.W.OpenLaw.row PySem.Challenge.rw_claimduel_k00_errors_keep_their_fields
def moreL (K : PySem.W.Frag) : Bool := (tupL.all fun p => tupFact K p.1 p.2) && ((exL.all fun c => iniB fileL K c.1 c.2) && ((clL.all fun c => clsKB K c) && ((lmL.all fun x => lamDefB K x) && ((bgL.all fun p => decide (PySem.W.nsIn K mainGlobals p.1 = some (some (.builtin p.2)))) && ((ntL.all fun p => ntFact K p.1 p.2) && ((xnL.all fun c => iniBn fileL K c.1 c.2) && errTB K))))))
abbrev hkL : PySem.W.Hook := hookY 4 faL fnL moreL
def obL (s : PySem.W.SharedT) : (Bool × Bool × Bool) × He.AlD := obsY 4 faL fnL moreL s
theorem obL_eq (s : PySem.W.SharedT) : obL s = hkL.obs s.abs := obsY_eq s
def looseL : List Str := (["gcd", "DuelError", "BadNumber", "BadName", "BadForm", "BadClaim", "BadSetting", "BadLayout", "BadRow", "BadMove", "BadDuel", "BadBook", "BadRule", "BadProgram", "BadPaper", "Misfit", "Missing", "NoName", "Twice", "TooMany", "Nothing", "Over", "BadText", "BadLine", "is_integer", "is_within", "are_integers", "need_number", "are_counted", "is_left"] : List Str) ++ (["lcm_in", "inverse_in", "root_in", "both_in", "gcd_of", "lcm_of", "rest_of", "both_rests", "_law_satchel", "_law_reach", "_law_one", "_law_value", "_law_by_place", "_law_by_name", "_law_fields", "_law_flags", "_law_is_far", "_law_caught"] : List Str)
theorem runL (w : World) : HandSHeadRun.RunEqI R0 (PySem.W.view R0.prog [0, 52]) hkL obL 12000 looseL w := by
  unfold HandSHeadRun.RunEqI
  kernel_rfl
end G
open PySem PySem.W PySem.Calls PyProof.Rows
theorem G.holds_of (lt : G.LawTrue 10 G.g_law) : PySem.Challenge.rw_claimduel_k00_errors_keep_their_fields.Holds := by
  w_on; o_law
  refine HandSHeadRun.head_imp (r := G.R0) (q := view G.R0.prog [0, 52]) (H := G.hkL) (ob := G.obL) (M := 12000) (loose := G.looseL) (d := HandSHeadRun.topDef G.R0.prog 52) (kwd := []) G.obL_eq G.runL (by kernel_rfl) (by kernel_rfl) (by kernel_rfl) (by rfl) (by first | assumption | decide +kernel) (by decide +kernel) ⟨rfl, rfl, rfl, rfl, rfl, by decide +kernel⟩ ?hw ?hc
  case hw => w_witness2
  case hc =>
    refine G.law_walk (l := PySem.Challenge.rw_claimduel_k00_errors_keep_their_fields) (k := 7) (x := "_law_script") rfl (by kernel_rfl) ⟨rfl, by decide, by decide⟩ ?F
    intro w mg fa h Y hns hmg0
    obtain ⟨sys, K, KX, tk, more, c⟩ := Y
    obtain ⟨m1, more⟩ := G.ba2 more
    obtain ⟨m2, more⟩ := G.ba2 more
    obtain ⟨m3, more⟩ := G.ba2 more
    obtain ⟨m4, m5⟩ := G.ba2 more
    obtain ⟨m5, m6⟩ := G.ba2 m5
    obtain ⟨m6, m7⟩ := G.ba2 m6
    obtain ⟨m7, m8⟩ := G.ba2 m7
    have hmg : mg ("law" : PySem.Str) = some (.ref fa) := by
      have e : (HandSHeadRun.topDef G.R0.prog 52).name = ("law" : PySem.Str) := by kernel_rfl
      rw [← e]
      exact hmg0
    have hx : ∀ base : Heap, G.Sys base → G.TabBs K mg base → G.HxL (PySem.Challenge.rw_claimduel_k00_errors_keep_their_fields).prog K mg base := fun base y tb => ⟨⟨⟨⟨⟨c, ⟨h, KX, hns⟩, y, m1⟩, tb, m2, m3, m4, by rfl, by kernel_rfl⟩, m5⟩, m6⟩, m7, m8⟩
    have e := hmg.symm.trans (He.glo_ok KX hns (c.fact 66 (f := .glo "law") rfl))
    cases e
    obtain ⟨fd, F⟩ := c.def_ 24 (d := G.dd_law) rfl
    have F : L2.FunD K "law" "law" (L2.defArgs G.sx_law) (L2.defBody G.sx_law) (L2.defScope G.sx_law) [] [] (He.ga K "law") fd := F
    have b := L2.FunD.bindsA (ps := ["_law_script"]) F fun _ _ _ _ _ _ us hl => match us, hl with | [_], _ => rfl
    refine ⟨K, fd, KX, sys, tk, fun s u => b s [u] rfl, fun base _ _ y tb => ?_⟩
    obtain ⟨fd2, F2, k2⟩ := G.ok_law (P := (PySem.Challenge.rw_claimduel_k00_errors_keep_their_fields).prog) (w := w) (hx base y tb) lt
    have e2 : fd2 = fd := G.funD_one F2 F
    exact e2 ▸ k2
set_option Elab.async false
set_option linter.all false
set_option maxRecDepth 100000
set_option maxHeartbeats 8000000
set_option exponentiation.threshold 3000
/-! ZA: values drawn. -/
namespace G
open PySem PySem.Spec PyProof.Rows L2
theorem draw_ok {n : Nat} {c : Churn} {j : Int} {k : D → Churn → Prop} (g : Good n c) (hn : n + 1 ≤ 2 ^ 20) (hj : 1 ≤ j) (hj2 : j ≤ 2 ^ 62) (q : ∀ r c', 0 ≤ r → r < j → Good (n + 1) c' → k (.int r) c') : Ok (F_draw [.chn, .int j] c) k :=
  draw1 (m1 := 2147483587) (a := 40127) (b := 5413) (m2 := 2147483629) (d := 3229) (f := 91033) (m3 := 2147483497) (by decide) (by decide) (by decide) (by decide) (by decide) (by decide) (by decide) g hn hj hj2 q
theorem pick_ok {n : Nat} {c : Churn} {xs : List D} {k : D → Churn → Prop} (g : Good n c) (hn : n + 1 ≤ 2 ^ 20) (h1 : 1 ≤ xs.length) (h2 : xs.length ≤ 2 ^ 62) (q : ∀ x ∈ xs, ∀ c', Good (n + 1) c' → k x c') : Ok (F_L_pick [.chn, .lst xs] c) k := by
  show Ok (G.nx (runDef 2 g_L_pick [.chn, .lst xs]) c) k
  rw [ok_def]
  show Ok (g_L_pick [.val .chn, .val (.lst xs)] c) _
  unfold g_L_pick
  simp only [ok_seq, ok_asg, ok_par, ok_ret, ok_retN, ok_sNil, ok_sIf, ok_bin, ok_un, ok_var, ok_C, ok_call, ok_callK, ok_cons, ok_nil, ok_args, ok_tru, ok_not, ok_and, ok_or, ok_eNot, ok_eAnd, ok_eOr, ok_if, ok_cmp, ok_chain, ok_ofC, ok_oNone, ok_oSome, ok_sl, ok_met, ok_rev, ok_items, ok_lenSet, ok_pairs0, ok_pairs, ok_dict, ok_iSeq, ok_rng1, ok_rng2, ok_comp, ok_comp0, ok_for, List.getElem?_cons_zero, List.getElem?_cons_succ, Option.some.injEq, Sl.val.injEq, exists_eq_left', List.nil_append, List.append_nil, List.length_cons, List.length_nil, true_and, and_true, and_self, Nat.zero_add, Nat.reduceAdd, Nat.reduceLeDiff, gAdd_i, gSub_i, gNeg_i, gBl_e, gCmpI_i, gLst_o, gTup_o, gN_e, List.set_cons_zero, List.set_cons_succ, truD_b, gIsN_n, isNonD, gLen_l, gInt_b, gInt_i, Option.map_some, Bool.false_eq_true, if_true, if_false, Bool.not_true, Bool.not_false, keyD, walkD, ok_sOwn, ok_sFz, ok_cBor, ok_eBor, ok_sPut, ok_xNil, ok_xVal, ok_xOwn, ok_zip, ok_enum, ok_star, ok_sortItems, ok_dict0, ok_ixO, ok_parX, ok_parX3, gIxA_l, gIxA_t, gEqA_i, gEqA_s, atI_0, atI_1, atI_2, atI_3, gCmpO_i, intO, seqOf, isFlat, ok_isX, ok_attr, ok_raise]
  refine draw_ok g hn (by omega) (by omega) fun r c' h0 h1 g' => ?_
  obtain ⟨x, hx, e⟩ := atI_mem h0 h1
  exact ⟨x, e, q x hx c' g'⟩
mutual
def okT : D → Bool
  | .non => true
  | .bl _ => true
  | .int _ => true
  | .str s => PyData.strOk s
  | .tup xs => okTA xs
  | .lst xs => okTA xs
  | _ => false
def okTA : List D → Bool
  | [] => true
  | d :: ds => okT d && okTA ds
end
theorem okTA_iff : ∀ {ds : List D}, okTA ds = true ↔ ∀ d ∈ ds, okT d = true
  | [] => by simp [okTA]
  | d :: ds => by simp [okTA, okTA_iff (ds := ds)]
mutual
theorem okT_py : ∀ {d : D}, okT d = true → ∃ p, toPy d = some p ∧ p.canLay0 = true ∧ p.depth ≤ hgt d
  | .non, _ => ⟨.none, by simp only [toPy], rfl, Nat.zero_le _⟩
  | .bl b, _ => ⟨.bool b, by simp only [toPy], rfl, Nat.zero_le _⟩
  | .int i, _ => ⟨.int i, by simp only [toPy], rfl, Nat.zero_le _⟩
  | .str s, h => ⟨.str s, by simp only [toPy], by simp only [okT] at h; simpa only [PyData.canLay0] using h, Nat.zero_le _⟩
  | .tup xs, h => by
    simp only [okT] at h
    obtain ⟨ps, e, h1, h2⟩ := okTA_py h
    exact ⟨.tuple ps, by simp only [toPy, e, Option.map_some], by simpa only [PyData.canLay0] using h1, by simp only [PyData.depth, hgt]; omega⟩
  | .lst xs, h => by
    simp only [okT] at h
    obtain ⟨ps, e, h1, h2⟩ := okTA_py h
    exact ⟨.list ps, by simp only [toPy, e, Option.map_some], by simpa only [PyData.canLay0] using h1, by simp only [PyData.depth, hgt]; omega⟩
theorem okTA_py : ∀ {ds : List D}, okTA ds = true → ∃ ps, toPyA ds = some ps ∧ PyData.canLayAll0 ps = true ∧ PyData.depthAll ps ≤ hgtA ds
  | [], _ => ⟨[], by simp only [toPyA], rfl, Nat.zero_le _⟩
  | d :: ds, h => by
    simp only [okTA, Bool.and_eq_true] at h
    obtain ⟨p, e1, h1, h2⟩ := okT_py h.1
    obtain ⟨ps, e2, h3, h4⟩ := okTA_py h.2
    refine ⟨p :: ps, by simp only [toPyA, e1, e2, Option.bind_some, Option.map_some], by simp only [PyData.canLayAll0, h1, h3, Bool.and_self], ?_⟩
    simp only [PyData.depthAll, hgtA]; omega
end
theorem gEq_self {d : D} {neg : Bool} (h : okT d = true) (hh : hgt d ≤ 60) : gEq neg d d = some (if neg then false else true) := by
  obtain ⟨p, e, h1, h2⟩ := okT_py h
  have sh : SeqAt.shaped p = true := by
    unfold SeqAt.shaped
    simp only [h1, Bool.true_and]
    exact decide_eq_true (by omega)
  unfold gEq
  rw [e, Option.bind_some, Option.bind_some, if_pos ⟨sh, sh⟩]
  have r : PyData.eqv p p = true := SeqAt.eqv_refl _ (SeqAt.canLay_of_shaped sh)
  rw [r]
  cases neg <;> rfl
theorem eq_self {d : D} {neg : Bool} (h : okT d = true) (hh : hgt d ≤ 60) : gEqX neg d d = some (if neg then false else true) := by
  cases d with
  | str s => rw [eqX_str, decide_eq_true rfl]; cases neg <;> rfl
  | _ => exact gEq_self h hh
/-! ### what a drawn value is like -/
theorem str_valid (s : String) : ∀ c ∈ (Str.ofString s).cps.toList, c < 0x110000 := by
  rw [Str.ofString_eq_toList]
  intro c hc
  simp only [List.mem_map] at hc
  obtain ⟨ch, _, rfl⟩ := hc
  have := ch.valid
  show ch.val.toNat < _
  rcases this with h | h
  · exact Nat.lt_trans h (by decide)
  · exact h.2
theorem strOk_of (s : String) : PyData.strOk (Str.ofString s) = true := by
  unfold PyData.strOk
  rw [Array.all_eq_true']
  intro c hc
  exact decide_eq_true (str_valid s c (by simpa using hc))
theorem sizS_of {s : String} (h : s.length ≤ 1000) : sizS (Str.ofString s) = true := by
  unfold sizS
  refine Bool.and_eq_true_iff.mpr ⟨List.all_eq_true.mpr fun c hc => decide_eq_true (Nat.lt_trans (str_valid s c hc) (by decide)), decide_eq_true ?_⟩
  show (Str.ofString s).length ≤ 1000
  rw [PySem.ofString_length]; exact h
mutual
theorem same_self : ∀ {d : D}, okT d = true → hgt d ≤ 60 → sameT d d = true
  | .non, _, _ => by simp [sameT]
  | .bl b, _, _ => by simp [sameT]
  | .int i, _, _ => by simp [sameT]
  | .str s, _, _ => by simp [sameT]
  | .tup xs, h, hh => by
    simp only [sameT]
    rw [gEq_self (neg := false) h hh]; rfl
  | .lst xs, h, hh => by
    simp only [sameT]
    simp only [okT] at h
    simp only [hgt] at hh
    exact same_selfA h (by omega)
  | .dic _ _, h, _ => by simp [okT] at h
  | .ty _, h, _ => by simp [okT] at h
  | .obj _, h, _ => by simp [okT] at h
  | .chn, h, _ => by simp [okT] at h
  | .scr _, h, _ => by simp [okT] at h
  | .exc _ _ _, h, _ => by simp [okT] at h
theorem same_selfA : ∀ {ds : List D}, okTA ds = true → hgtA ds ≤ 60 → sameTA ds ds = true
  | [], _, _ => by simp [sameTA]
  | d :: ds, h, hh => by
    simp only [okTA, Bool.and_eq_true] at h
    simp only [hgtA] at hh
    simp only [sameTA, same_self h.1 (by omega), same_selfA h.2 (by omega), Bool.and_self]
end
structure Val (v : D) : Prop where
  t : tame v = true
  c : cnt v ≤ 20
  h : hgt v ≤ 5
  s : sameT v v = true
  o : okT v = true ∨ toPy v = none
theorem Val.ok {v : D} (h1 : tame v = true) (h2 : cnt v ≤ 20) (h3 : hgt v ≤ 5) (h4 : okT v = true) : Val v := ⟨h1, h2, h3, same_self h4 (by omega), .inl h4⟩
theorem tameA_iff : ∀ {ds : List D}, tameA ds = true ↔ ∀ d ∈ ds, tame d = true
  | [] => by simp [tameA]
  | d :: ds => by simp [tameA, tameA_iff (ds := ds)]
theorem val_repr {v : D} (h : Val v) : ∃ s, gRepr [v] = some (.str s) := ⟨_, gRepr_o h.t (by have := h.c; omega) (by have := h.h; omega)⟩
/-- lists of such values -/
theorem vals_repr {xs : List D} (h : ∀ x ∈ xs, Val x) (hl : xs.length ≤ 2) : ∃ s, gRepr [.lst xs] = some (.str s) := by
  refine ⟨_, gRepr_o (d := .lst xs) ?_ ?_ ?_⟩
  · simp only [tame]; exact tameA_iff.mpr fun d hd => (h d hd).t
  · match xs, hl, h with
    | [], _, _ => decide
    | [x], _, h => have := (h x (by simp)).c; simp only [cnt, cntA]; omega
    | [x, y], _, h => have := (h x (by simp)).c; have := (h y (by simp)).c; simp only [cnt, cntA]; omega
  · match xs, hl, h with
    | [], _, _ => decide
    | [x], _, h => have := (h x (by simp)).h; simp only [hgt, hgtA]; omega
    | [x, y], _, h => have := (h x (by simp)).h; have := (h y (by simp)).h; simp only [hgt, hgtA]; omega
theorem toPyA_no : ∀ {xs : List D}, (∃ x ∈ xs, toPy x = none) → toPyA xs = none
  | [], h => by obtain ⟨x, hx, _⟩ := h; cases hx
  | y :: ys, h => by
    obtain ⟨x, hx, e⟩ := h
    unfold toPyA
    rcases List.mem_cons.mp hx with rfl | hx
    · rw [e]; rfl
    · cases ey : toPy y with
      | none => rfl
      | some p => rw [toPyA_no ⟨x, hx, e⟩]; rfl
theorem vals_ne {xs : List D} (h : ∀ x ∈ xs, Val x) (hl : xs.length ≤ 2) : gNeU (.lst xs) (.lst xs) = some false := by
  have hh : hgtA xs ≤ 5 := by
    match xs, hl, h with
    | [], _, _ => decide
    | [x], _, h => have := (h x (by simp)).h; simp only [hgtA]; omega
    | [x, y], _, h => have := (h x (by simp)).h; have := (h y (by simp)).h; simp only [hgtA]; omega
  by_cases ho : ∀ x ∈ xs, okT x = true
  · have e := eq_self (d := .lst xs) (neg := true) (by simp only [okT]; exact okTA_iff.mpr ho) (by simp only [hgt]; omega)
    unfold gNeU
    rw [e]; rfl
  · have hn : ∃ x ∈ xs, toPy x = none := by
      refine Classical.byContradiction fun z => ho fun x hx => ?_
      rcases (h x hx).o with y | y
      · exact y
      · exact absurd ⟨x, hx, y⟩ z
    have e : gEqX true (.lst xs) (.lst xs) = none := by
      show gEq true (.lst xs) (.lst xs) = none
      unfold gEq
      have : toPy (.lst xs) = none := by simp only [toPy, toPyA_no hn, Option.map_none]
      rw [this]; rfl
    have hs : sameTA xs xs = true := by
      clear ho hn e hl hh
      induction xs with
      | nil => simp [sameTA]
      | cons x xs ih => simp only [sameTA, (h x (by simp)).s, ih fun y hy => h y (List.mem_cons_of_mem _ hy), Bool.and_self]
    unfold gNeU
    rw [e]
    exact if_pos ⟨hs, by omega⟩
def vals14 (n : Int) (s : Str) : List D := [.int n, .str s, .non, .bl true, .bl false, .lst [.int n], .tup [.int n, .int 2], .dic [.inl n] [.lst [.int n]], .str "", .lst [], .tup [], .lst [.lst [.int n], .tup [.int 1, .lst [.int 2]]], .lst [.bl true, .int 0], .str "[1]"]
theorem vals14_ok {n : Int} (hn : n.natAbs < 10 ^ 30) : ∀ v ∈ vals14 n (Str.ofString (toString n)), Val v := by
  have hi : sizI n = true := decide_eq_true (Nat.lt_trans hn (by decide))
  have hl : (toString n).length ≤ 1000 := Nat.le_trans (int_text_length_le10 (k := 60) (by decide) (Nat.lt_trans hn (by decide))) (by decide)
  have h2 : sizI 2 = true := by decide
  have h1 : sizI 1 = true := by decide
  have h0 : sizI 0 = true := by decide
  intro v hv
  simp only [vals14, List.mem_cons, List.not_mem_nil, or_false] at hv
  rcases hv with rfl | rfl | rfl | rfl | rfl | rfl | rfl | rfl | rfl | rfl | rfl | rfl | rfl | rfl
  · exact .ok hi (by simp [cnt]) (by simp [hgt]) rfl
  · exact .ok (sizS_of hl) (by simp [cnt]) (by simp [hgt]) (strOk_of _)
  · exact .ok rfl (by simp [cnt]) (by simp [hgt]) rfl
  · exact .ok rfl (by simp [cnt]) (by simp [hgt]) rfl
  · exact .ok rfl (by simp [cnt]) (by simp [hgt]) rfl
  · exact .ok (by simp [tame, tameA, hi]) (by simp [cnt, cntA]) (by simp [hgt, hgtA]) (by simp [okT, okTA])
  · exact .ok (by simp [tame, tameA, hi, h2]) (by simp [cnt, cntA]) (by simp [hgt, hgtA]) (by simp [okT, okTA])
  · exact ⟨by simp [tame, tameA, hi], by simp [cnt, cntA], by simp [hgt, hgtA], by simp [sameT, sameTA], .inr (by simp only [toPy])⟩
  · exact .ok (by decide +kernel) (by simp [cnt]) (by simp [hgt]) (by decide +kernel)
  · exact .ok rfl (by simp [cnt, cntA]) (by simp [hgt, hgtA]) rfl
  · exact .ok rfl (by simp [cnt, cntA]) (by simp [hgt, hgtA]) rfl
  · exact .ok (by simp [tame, tameA, hi, h1, h2]) (by simp [cnt, cntA]) (by simp [hgt, hgtA]) (by simp [okT, okTA])
  · exact .ok (by simp [tame, tameA, h0]) (by simp [cnt, cntA]) (by simp [hgt, hgtA]) (by simp [okT, okTA])
  · exact .ok (by decide +kernel) (by simp [cnt]) (by simp [hgt]) (by decide +kernel)
theorem value_ok {n : Nat} {c : Churn} {k : D → Churn → Prop} (g : Good n c) (hn : n + 5 ≤ 2 ^ 20) (q : ∀ v c', Val v → Good (n + 5) c' → k v c') : Ok (F_L_value [.chn] c) k := by
  show Ok (G.nx (runDef 3 g_L_value [.chn]) c) k
  rw [ok_def]
  show Ok (g_L_value [.val .chn, .no, .no] c) _
  unfold g_L_value
  have e20 : gPow (.int 10) (.int 20) = some (.int (10 ^ 20)) := gPow_ok (by decide) (by decide) (by decide)
  refine ok_step (fun ρ c1 => ∃ i : Int, ρ = [.val .chn, .val (.int i), .no] ∧ i.natAbs < 10 ^ 30 ∧ Good (n + 4) c1) ?_ fun ρ c1 hm => ?_
  · simp only [ok_seq, ok_asg, ok_par, ok_ret, ok_retN, ok_sNil, ok_sIf, ok_bin, ok_un, ok_var, ok_C, ok_call, ok_callK, ok_cons, ok_nil, ok_args, ok_tru, ok_not, ok_and, ok_or, ok_eNot, ok_eAnd, ok_eOr, ok_if, ok_cmp, ok_chain, ok_ofC, ok_oNone, ok_oSome, ok_sl, ok_met, ok_rev, ok_items, ok_lenSet, ok_pairs0, ok_pairs, ok_dict, ok_iSeq, ok_rng1, ok_rng2, ok_comp, ok_comp0, ok_for, List.getElem?_cons_zero, List.getElem?_cons_succ, Option.some.injEq, Sl.val.injEq, exists_eq_left', List.nil_append, List.append_nil, List.length_cons, List.length_nil, true_and, and_true, and_self, Nat.zero_add, Nat.reduceAdd, Nat.reduceLeDiff, gAdd_i, gSub_i, gNeg_i, gBl_e, gCmpI_i, gLst_o, gTup_o, gN_e, List.set_cons_zero, List.set_cons_succ, truD_b, gIsN_n, isNonD, gLen_l, gInt_b, gInt_i, Option.map_some, Bool.false_eq_true, if_true, if_false, Bool.not_true, Bool.not_false, keyD, walkD, ok_sOwn, ok_sFz, ok_cBor, ok_eBor, ok_sPut, ok_xNil, ok_xVal, ok_xOwn, ok_zip, ok_enum, ok_star, ok_sortItems, ok_dict0, ok_ixO, ok_parX, ok_parX3, gIxA_l, gIxA_t, gEqA_i, gEqA_s, atI_0, atI_1, atI_2, atI_3, gCmpO_i, intO, seqOf, isFlat, ok_isX, ok_attr, ok_raise, e20]
    refine draw_ok g (by omega) (by decide) (by decide) fun r1 c1 a1 b1 g => ?_
    try simp only [ok_seq, ok_asg, ok_par, ok_ret, ok_retN, ok_sNil, ok_sIf, ok_bin, ok_un, ok_var, ok_C, ok_call, ok_callK, ok_cons, ok_nil, ok_args, ok_tru, ok_not, ok_and, ok_or, ok_eNot, ok_eAnd, ok_eOr, ok_if, ok_cmp, ok_chain, ok_ofC, ok_oNone, ok_oSome, ok_sl, ok_met, ok_rev, ok_items, ok_lenSet, ok_pairs0, ok_pairs, ok_dict, ok_iSeq, ok_rng1, ok_rng2, ok_comp, ok_comp0, ok_for, List.getElem?_cons_zero, List.getElem?_cons_succ, Option.some.injEq, Sl.val.injEq, exists_eq_left', List.nil_append, List.append_nil, List.length_cons, List.length_nil, true_and, and_true, and_self, Nat.zero_add, Nat.reduceAdd, Nat.reduceLeDiff, gAdd_i, gSub_i, gNeg_i, gBl_e, gCmpI_i, gLst_o, gTup_o, gN_e, List.set_cons_zero, List.set_cons_succ, truD_b, gIsN_n, isNonD, gLen_l, gInt_b, gInt_i, Option.map_some, Bool.false_eq_true, if_true, if_false, Bool.not_true, Bool.not_false, keyD, walkD, ok_sOwn, ok_sFz, ok_cBor, ok_eBor, ok_sPut, ok_xNil, ok_xVal, ok_xOwn, ok_zip, ok_enum, ok_star, ok_sortItems, ok_dict0, ok_ixO, ok_parX, ok_parX3, gIxA_l, gIxA_t, gEqA_i, gEqA_s, atI_0, atI_1, atI_2, atI_3, gCmpO_i, intO, seqOf, isFlat, ok_isX, ok_attr, ok_raise, e20]
    refine draw_ok g (by omega) (by decide) (by decide) fun r2 c2 a2 b2 g => ?_
    try simp only [ok_seq, ok_asg, ok_par, ok_ret, ok_retN, ok_sNil, ok_sIf, ok_bin, ok_un, ok_var, ok_C, ok_call, ok_callK, ok_cons, ok_nil, ok_args, ok_tru, ok_not, ok_and, ok_or, ok_eNot, ok_eAnd, ok_eOr, ok_if, ok_cmp, ok_chain, ok_ofC, ok_oNone, ok_oSome, ok_sl, ok_met, ok_rev, ok_items, ok_lenSet, ok_pairs0, ok_pairs, ok_dict, ok_iSeq, ok_rng1, ok_rng2, ok_comp, ok_comp0, ok_for, List.getElem?_cons_zero, List.getElem?_cons_succ, Option.some.injEq, Sl.val.injEq, exists_eq_left', List.nil_append, List.append_nil, List.length_cons, List.length_nil, true_and, and_true, and_self, Nat.zero_add, Nat.reduceAdd, Nat.reduceLeDiff, gAdd_i, gSub_i, gNeg_i, gBl_e, gCmpI_i, gLst_o, gTup_o, gN_e, List.set_cons_zero, List.set_cons_succ, truD_b, gIsN_n, isNonD, gLen_l, gInt_b, gInt_i, Option.map_some, Bool.false_eq_true, if_true, if_false, Bool.not_true, Bool.not_false, keyD, walkD, ok_sOwn, ok_sFz, ok_cBor, ok_eBor, ok_sPut, ok_xNil, ok_xVal, ok_xOwn, ok_zip, ok_enum, ok_star, ok_sortItems, ok_dict0, ok_ixO, ok_parX, ok_parX3, gIxA_l, gIxA_t, gEqA_i, gEqA_s, atI_0, atI_1, atI_2, atI_3, gCmpO_i, intO, seqOf, isFlat, ok_isX, ok_attr, ok_raise, e20]
    refine draw_ok g (by omega) (by decide) (by decide) fun r3 c3 a3 b3 g => ?_
    try simp only [ok_seq, ok_asg, ok_par, ok_ret, ok_retN, ok_sNil, ok_sIf, ok_bin, ok_un, ok_var, ok_C, ok_call, ok_callK, ok_cons, ok_nil, ok_args, ok_tru, ok_not, ok_and, ok_or, ok_eNot, ok_eAnd, ok_eOr, ok_if, ok_cmp, ok_chain, ok_ofC, ok_oNone, ok_oSome, ok_sl, ok_met, ok_rev, ok_items, ok_lenSet, ok_pairs0, ok_pairs, ok_dict, ok_iSeq, ok_rng1, ok_rng2, ok_comp, ok_comp0, ok_for, List.getElem?_cons_zero, List.getElem?_cons_succ, Option.some.injEq, Sl.val.injEq, exists_eq_left', List.nil_append, List.append_nil, List.length_cons, List.length_nil, true_and, and_true, and_self, Nat.zero_add, Nat.reduceAdd, Nat.reduceLeDiff, gAdd_i, gSub_i, gNeg_i, gBl_e, gCmpI_i, gLst_o, gTup_o, gN_e, List.set_cons_zero, List.set_cons_succ, truD_b, gIsN_n, isNonD, gLen_l, gInt_b, gInt_i, Option.map_some, Bool.false_eq_true, if_true, if_false, Bool.not_true, Bool.not_false, keyD, walkD, ok_sOwn, ok_sFz, ok_cBor, ok_eBor, ok_sPut, ok_xNil, ok_xVal, ok_xOwn, ok_zip, ok_enum, ok_star, ok_sortItems, ok_dict0, ok_ixO, ok_parX, ok_parX3, gIxA_l, gIxA_t, gEqA_i, gEqA_s, atI_0, atI_1, atI_2, atI_3, gCmpO_i, intO, seqOf, isFlat, ok_isX, ok_attr, ok_raise, e20]
    refine pick_ok g (by omega) (by simp) (by simp) fun x hx c4 g => ?_
    simp only [List.mem_cons, List.not_mem_nil, or_false] at hx
    rcases hx with rfl | rfl | rfl
    · exact ⟨_, rfl, by omega, g⟩
    · exact ⟨_, rfl, by omega, g⟩
    · exact ⟨_, rfl, by omega, g⟩
  obtain ⟨i, rfl, hi, g⟩ := hm
  have es : gStr [.int i] = some (.str (Str.ofString (toString i))) := by
    show (if i.natAbs.log2 < 1920 then some (D.str (toString i)) else none) = _
    rw [if_pos (Nat.lt_trans (log_lt (k := 200) (Nat.lt_of_lt_of_le hi (by decide)) (by decide)) (by decide))]
  have ed : ∀ ρ c, Ok (eDict [((eVar 1), (eArgs gLst (aCons (eVar 1) aNil)))] [.val .chn, .val (.int i), ρ] c) fun d c1 => d = .dic [.inl i] [.lst [.int i]] ∧ c = c1 := fun ρ c => by
    simp only [ok_seq, ok_asg, ok_par, ok_ret, ok_retN, ok_sNil, ok_sIf, ok_bin, ok_un, ok_var, ok_C, ok_call, ok_callK, ok_cons, ok_nil, ok_args, ok_tru, ok_not, ok_and, ok_or, ok_eNot, ok_eAnd, ok_eOr, ok_if, ok_cmp, ok_chain, ok_ofC, ok_oNone, ok_oSome, ok_sl, ok_met, ok_rev, ok_items, ok_lenSet, ok_pairs0, ok_pairs, ok_dict, ok_iSeq, ok_rng1, ok_rng2, ok_comp, ok_comp0, ok_for, List.getElem?_cons_zero, List.getElem?_cons_succ, Option.some.injEq, Sl.val.injEq, exists_eq_left', List.nil_append, List.append_nil, List.length_cons, List.length_nil, true_and, and_true, and_self, Nat.zero_add, Nat.reduceAdd, Nat.reduceLeDiff, gAdd_i, gSub_i, gNeg_i, gBl_e, gCmpI_i, gLst_o, gTup_o, gN_e, List.set_cons_zero, List.set_cons_succ, truD_b, gIsN_n, isNonD, gLen_l, gInt_b, gInt_i, Option.map_some, Bool.false_eq_true, if_true, if_false, Bool.not_true, Bool.not_false, keyD, walkD, ok_sOwn, ok_sFz, ok_cBor, ok_eBor, ok_sPut, ok_xNil, ok_xVal, ok_xOwn, ok_zip, ok_enum, ok_star, ok_sortItems, ok_dict0, ok_ixO, ok_parX, ok_parX3, gIxA_l, gIxA_t, gEqA_i, gEqA_s, atI_0, atI_1, atI_2, atI_3, gCmpO_i, intO, seqOf, isFlat, ok_isX, ok_attr, ok_raise]
    first | done | rfl | exact ⟨rfl, rfl⟩ | trivial
  refine ok_step (fun ρ c1 => ρ = [.val .chn, .val (.int i), .val (.lst (vals14 i (Str.ofString (toString i))))] ∧ c1 = c1 ∧ Good (n + 4) c1) ?_ fun ρ c1 hm => ?_
  · simp only [ok_seq, ok_asg, ok_par, ok_ret, ok_retN, ok_sNil, ok_sIf, ok_bin, ok_un, ok_var, ok_C, ok_call, ok_callK, ok_cons, ok_nil, ok_args, ok_tru, ok_not, ok_and, ok_or, ok_eNot, ok_eAnd, ok_eOr, ok_if, ok_cmp, ok_chain, ok_ofC, ok_oNone, ok_oSome, ok_sl, ok_met, ok_rev, ok_items, ok_lenSet, ok_pairs0, ok_pairs, ok_dict, ok_iSeq, ok_rng1, ok_rng2, ok_comp, ok_comp0, ok_for, List.getElem?_cons_zero, List.getElem?_cons_succ, Option.some.injEq, Sl.val.injEq, exists_eq_left', List.nil_append, List.append_nil, List.length_cons, List.length_nil, true_and, and_true, and_self, Nat.zero_add, Nat.reduceAdd, Nat.reduceLeDiff, gAdd_i, gSub_i, gNeg_i, gBl_e, gCmpI_i, gLst_o, gTup_o, gN_e, List.set_cons_zero, List.set_cons_succ, truD_b, gIsN_n, isNonD, gLen_l, gInt_b, gInt_i, Option.map_some, Bool.false_eq_true, if_true, if_false, Bool.not_true, Bool.not_false, keyD, walkD, ok_sOwn, ok_sFz, ok_cBor, ok_eBor, ok_sPut, ok_xNil, ok_xVal, ok_xOwn, ok_zip, ok_enum, ok_star, ok_sortItems, ok_dict0, ok_ixO, ok_parX, ok_parX3, gIxA_l, gIxA_t, gEqA_i, gEqA_s, atI_0, atI_1, atI_2, atI_3, gCmpO_i, intO, seqOf, isFlat, ok_isX, ok_attr, ok_raise, es]
    first | exact g | exact ⟨rfl, rfl, g⟩ | exact ⟨rfl, g⟩ | exact ⟨_, rfl, rfl, rfl, g⟩ | trace_state
  obtain ⟨rfl, _, g⟩ := hm
  simp only [ok_seq, ok_asg, ok_par, ok_ret, ok_retN, ok_sNil, ok_sIf, ok_bin, ok_un, ok_var, ok_C, ok_call, ok_callK, ok_cons, ok_nil, ok_args, ok_tru, ok_not, ok_and, ok_or, ok_eNot, ok_eAnd, ok_eOr, ok_if, ok_cmp, ok_chain, ok_ofC, ok_oNone, ok_oSome, ok_sl, ok_met, ok_rev, ok_items, ok_lenSet, ok_pairs0, ok_pairs, ok_dict, ok_iSeq, ok_rng1, ok_rng2, ok_comp, ok_comp0, ok_for, List.getElem?_cons_zero, List.getElem?_cons_succ, Option.some.injEq, Sl.val.injEq, exists_eq_left', List.nil_append, List.append_nil, List.length_cons, List.length_nil, true_and, and_true, and_self, Nat.zero_add, Nat.reduceAdd, Nat.reduceLeDiff, gAdd_i, gSub_i, gNeg_i, gBl_e, gCmpI_i, gLst_o, gTup_o, gN_e, List.set_cons_zero, List.set_cons_succ, truD_b, gIsN_n, isNonD, gLen_l, gInt_b, gInt_i, Option.map_some, Bool.false_eq_true, if_true, if_false, Bool.not_true, Bool.not_false, keyD, walkD, ok_sOwn, ok_sFz, ok_cBor, ok_eBor, ok_sPut, ok_xNil, ok_xVal, ok_xOwn, ok_zip, ok_enum, ok_star, ok_sortItems, ok_dict0, ok_ixO, ok_parX, ok_parX3, gIxA_l, gIxA_t, gEqA_i, gEqA_s, atI_0, atI_1, atI_2, atI_3, gCmpO_i, intO, seqOf, isFlat, ok_isX, ok_attr, ok_raise]
  refine pick_ok g (by omega) (by simp [vals14]) (by simp [vals14]) fun x hx c2 g => ?_
  exact q x c2 (vals14_ok hi x hx) g
end G
set_option Elab.async false
set_option linter.all false
set_option maxRecDepth 100000
set_option maxHeartbeats 8000000
set_option exponentiation.threshold 3000
/-! ZB: each error, made by place and by name. -/
namespace G
open PySem PySem.Spec PyProof.Rows L2
def isAt (i : Int) : D → D
  | .int j => .bl (j == i)
  | _ => .non
def dueD (i : Int) (a b : D) : List D := if i < 16 then [a] else if i < 19 then [a, b] else []
structure Fct (i : Int) (e a b : D) : Prop where
  place : ∀ c, F_L_by_place [.int i, a, b] c = .ok e c
  name : ∀ c, F_L_by_name [.int i, a, b] c = .ok e c
  flds : ∀ c, F_L_fields [.int i, e] c = .ok (.lst (dueD i a b)) c
  flags : ∀ c, F_L_flags [e] c = .ok (.lst ((rangeD 0 21).map (isAt i))) c
  far : ∀ c, F_L_is_far [e] c = .ok (.bl false) c
  mis : isXb ["Missing"] e = some (i == 14)
  duel : isXb ["DuelError"] e = some true
  val : gIsE [e, .ty "ValueError"] = some (.bl true)
theorem fct {i : Int} (h0 : 0 ≤ i) (h1 : i < 21) (a b : D) : ∃ e, Fct i e a b := by
  have h : i = 0 ∨ i = 1 ∨ i = 2 ∨ i = 3 ∨ i = 4 ∨ i = 5 ∨ i = 6 ∨ i = 7 ∨ i = 8 ∨ i = 9 ∨ i = 10 ∨ i = 11 ∨ i = 12 ∨ i = 13 ∨ i = 14 ∨ i = 15 ∨ i = 16 ∨ i = 17 ∨ i = 18 ∨ i = 19 ∨ i = 20 := by omega
  rcases h with rfl | rfl | rfl | rfl | rfl | rfl | rfl | rfl | rfl | rfl | rfl | rfl | rfl | rfl | rfl | rfl | rfl | rfl | rfl | rfl | rfl
  · exact ⟨.exc "BadNumber" ["part"] [a], ⟨fun c => by kernel_rfl, fun c => by kernel_rfl, fun c => by kernel_rfl, fun c => by kernel_rfl, fun c => by kernel_rfl, by kernel_rfl, by kernel_rfl, by kernel_rfl⟩⟩
  · exact ⟨.exc "BadName" ["part"] [a], ⟨fun c => by kernel_rfl, fun c => by kernel_rfl, fun c => by kernel_rfl, fun c => by kernel_rfl, fun c => by kernel_rfl, by kernel_rfl, by kernel_rfl, by kernel_rfl⟩⟩
  · exact ⟨.exc "BadForm" ["part"] [a], ⟨fun c => by kernel_rfl, fun c => by kernel_rfl, fun c => by kernel_rfl, fun c => by kernel_rfl, fun c => by kernel_rfl, by kernel_rfl, by kernel_rfl, by kernel_rfl⟩⟩
  · exact ⟨.exc "BadClaim" ["part"] [a], ⟨fun c => by kernel_rfl, fun c => by kernel_rfl, fun c => by kernel_rfl, fun c => by kernel_rfl, fun c => by kernel_rfl, by kernel_rfl, by kernel_rfl, by kernel_rfl⟩⟩
  · exact ⟨.exc "BadSetting" ["part"] [a], ⟨fun c => by kernel_rfl, fun c => by kernel_rfl, fun c => by kernel_rfl, fun c => by kernel_rfl, fun c => by kernel_rfl, by kernel_rfl, by kernel_rfl, by kernel_rfl⟩⟩
  · exact ⟨.exc "BadLayout" ["part"] [a], ⟨fun c => by kernel_rfl, fun c => by kernel_rfl, fun c => by kernel_rfl, fun c => by kernel_rfl, fun c => by kernel_rfl, by kernel_rfl, by kernel_rfl, by kernel_rfl⟩⟩
  · exact ⟨.exc "BadRow" ["part"] [a], ⟨fun c => by kernel_rfl, fun c => by kernel_rfl, fun c => by kernel_rfl, fun c => by kernel_rfl, fun c => by kernel_rfl, by kernel_rfl, by kernel_rfl, by kernel_rfl⟩⟩
  · exact ⟨.exc "BadMove" ["part"] [a], ⟨fun c => by kernel_rfl, fun c => by kernel_rfl, fun c => by kernel_rfl, fun c => by kernel_rfl, fun c => by kernel_rfl, by kernel_rfl, by kernel_rfl, by kernel_rfl⟩⟩
  · exact ⟨.exc "BadDuel" ["part"] [a], ⟨fun c => by kernel_rfl, fun c => by kernel_rfl, fun c => by kernel_rfl, fun c => by kernel_rfl, fun c => by kernel_rfl, by kernel_rfl, by kernel_rfl, by kernel_rfl⟩⟩
  · exact ⟨.exc "BadBook" ["part"] [a], ⟨fun c => by kernel_rfl, fun c => by kernel_rfl, fun c => by kernel_rfl, fun c => by kernel_rfl, fun c => by kernel_rfl, by kernel_rfl, by kernel_rfl, by kernel_rfl⟩⟩
  · exact ⟨.exc "BadRule" ["part"] [a], ⟨fun c => by kernel_rfl, fun c => by kernel_rfl, fun c => by kernel_rfl, fun c => by kernel_rfl, fun c => by kernel_rfl, by kernel_rfl, by kernel_rfl, by kernel_rfl⟩⟩
  · exact ⟨.exc "BadProgram" ["part"] [a], ⟨fun c => by kernel_rfl, fun c => by kernel_rfl, fun c => by kernel_rfl, fun c => by kernel_rfl, fun c => by kernel_rfl, by kernel_rfl, by kernel_rfl, by kernel_rfl⟩⟩
  · exact ⟨.exc "BadPaper" ["part"] [a], ⟨fun c => by kernel_rfl, fun c => by kernel_rfl, fun c => by kernel_rfl, fun c => by kernel_rfl, fun c => by kernel_rfl, by kernel_rfl, by kernel_rfl, by kernel_rfl⟩⟩
  · exact ⟨.exc "Misfit" ["part"] [a], ⟨fun c => by kernel_rfl, fun c => by kernel_rfl, fun c => by kernel_rfl, fun c => by kernel_rfl, fun c => by kernel_rfl, by kernel_rfl, by kernel_rfl, by kernel_rfl⟩⟩
  · exact ⟨.exc "NoName" ["value"] [a], ⟨fun c => by kernel_rfl, fun c => by kernel_rfl, fun c => by kernel_rfl, fun c => by kernel_rfl, fun c => by kernel_rfl, by kernel_rfl, by kernel_rfl, by kernel_rfl⟩⟩
  · exact ⟨.exc "Twice" ["value"] [a], ⟨fun c => by kernel_rfl, fun c => by kernel_rfl, fun c => by kernel_rfl, fun c => by kernel_rfl, fun c => by kernel_rfl, by kernel_rfl, by kernel_rfl, by kernel_rfl⟩⟩
  · exact ⟨.exc "TooMany" ["most", "what"] [b, a], ⟨fun c => by kernel_rfl, fun c => by kernel_rfl, fun c => by kernel_rfl, fun c => by kernel_rfl, fun c => by kernel_rfl, by kernel_rfl, by kernel_rfl, by kernel_rfl⟩⟩
  · exact ⟨.exc "BadText" ["item", "line"] [b, a], ⟨fun c => by kernel_rfl, fun c => by kernel_rfl, fun c => by kernel_rfl, fun c => by kernel_rfl, fun c => by kernel_rfl, by kernel_rfl, by kernel_rfl, by kernel_rfl⟩⟩
  · exact ⟨.exc "BadLine" ["error", "line"] [b, a], ⟨fun c => by kernel_rfl, fun c => by kernel_rfl, fun c => by kernel_rfl, fun c => by kernel_rfl, fun c => by kernel_rfl, by kernel_rfl, by kernel_rfl, by kernel_rfl⟩⟩
  · exact ⟨.exc "Nothing" [] [], ⟨fun c => by kernel_rfl, fun c => by kernel_rfl, fun c => by kernel_rfl, fun c => by kernel_rfl, fun c => by kernel_rfl, by kernel_rfl, by kernel_rfl, by kernel_rfl⟩⟩
  · exact ⟨.exc "Over" [] [], ⟨fun c => by kernel_rfl, fun c => by kernel_rfl, fun c => by kernel_rfl, fun c => by kernel_rfl, fun c => by kernel_rfl, by kernel_rfl, by kernel_rfl, by kernel_rfl⟩⟩
end G
set_option Elab.async false
set_option linter.all false
set_option maxRecDepth 100000
set_option maxHeartbeats 8000000
set_option exponentiation.threshold 3000
/-! ZC: the law. -/
namespace G
open PySem PySem.Spec PyProof.Rows L2
theorem eq_of_ok {α : Type} {r : R α} {a : α} {c : Churn} (h : Ok r fun x c1 => x = a ∧ c1 = c) : r = .ok a c := by
  cases r with
  | ok x c1 => obtain ⟨h1, h2⟩ := (show x = a ∧ c1 = c from h); rw [h1, h2]
  | exn _ _ => exact (show False from h).elim
  | stuck => exact (show False from h).elim
theorem ok_ifE {b : Ev → M Bool} {s t : Sm} {ρ : Ev} {c : Churn} {kp : Ev × Ctl → Churn → Prop} (x : Bool) (h : b ρ c = .ok x c) (h1 : x = true → Ok (s ρ c) kp) (h2 : x = false → Ok (t ρ c) kp) : Ok (sIf b s t ρ c) kp := by
  rw [ok_sIf, h, ok_ok]
  cases x with
  | true => rw [if_pos rfl]; exact h1 rfl
  | false => rw [if_neg Bool.false_ne_true]; exact h2 rfl
theorem ok_ifS {b : Ev → M Bool} {s t : Sm} {ρ : Ev} {c : Churn} {kp : Ev × Ctl → Churn → Prop} (x : Bool) (h : Ok (b ρ c) fun y c1 => y = x ∧ c1 = c)
    (h1 : x = true → Ok (s ρ c) fun p c1 => ∃ d, p.2 = .ret d ∧ kp (p.1, .ret d) c1) (h2 : x = false → Ok (t ρ c) kp) : Ok (sSeq (sIf b s sNil) t ρ c) kp := by
  rw [ok_seq, ok_sIf]
  refine h.mono fun y c1 ⟨e1, e2⟩ => ?_
  subst e1 e2
  cases y with
  | true =>
    refine (h1 rfl).mono fun p c1 ⟨d, e1, e2⟩ => ?_
    obtain ⟨ρ1, ctl⟩ := p
    cases e1
    exact e2
  | false =>
    rw [if_neg Bool.false_ne_true, ok_sNil]
    exact h2 rfl
def lv (s : List Int) (a2 a3 a4 a5 a6 a7 a8 a9 : Sl) : Ev := [.val (.scr s), .val .chn, a2, a3, a4, a5, a6, a7, a8, a9]
theorem ne_bl (b : Bool) : gEqX true (.bl b) (.bl b) = some false := by cases b <;> kernel_rfl
theorem flags_ok (i : Int) : okTA ((rangeD 0 21).map (isAt i)) = true ∧ hgtA ((rangeD 0 21).map (isAt i)) = 0 := by
  have h : ∀ xs : List Int, okTA ((xs.map D.int).map (isAt i)) = true ∧ hgtA ((xs.map D.int).map (isAt i)) = 0 := fun xs => by
    induction xs with
    | nil => exact ⟨rfl, rfl⟩
    | cons x xs ih =>
      rw [List.map_cons, List.map_cons]
      exact ⟨by simp only [okTA, isAt, okT, ih.1, Bool.and_self], by simp only [hgtA, isAt, hgt, ih.2]; rfl⟩
  have e : rangeD 0 21 = (((List.range 21).map fun (i : Nat) => (0 : Int) + (i : Int)).map D.int) := by unfold rangeD; rw [List.map_map]; rfl
  rw [e]
  exact h _
theorem flags_ne (i : Int) : gEqX true (.lst ((rangeD 0 21).map (isAt i))) (.lst ((rangeD 0 21).map (isAt i))) = some false :=
  eq_self (neg := true) (by simp only [okT]; exact (flags_ok i).1) (by simp only [hgt, (flags_ok i).2]; omega)
def errB : Sm := (sSeq (sAsg (gN 7) (eCall 2 F_L_fields [] (aCons (eVar 2) (aCons (eVar 6) aNil))))
  (sSeq (sIf (cOr (cCmp gNeU (eVar 7) (eVar 5)) (cOr (cCmp (gEqX true) (eArgs gRepr (aCons (eVar 7) aNil)) (eArgs gRepr (aCons (eVar 5) aNil))) (cCmp (gEqX true) (eCall 1 F_L_flags [] (aCons (eVar 6) aNil)) (eComp (gN 9) (iRange1 (aCons (eC (.int 21)) aNil)) (fun _ => pure true) (eBin (gBl gEqA) (eVar 9) (eVar 2)) [9])))) (sRet (eC (.bl false))) sNil)
  (sSeq (sIf (cOr (cCmp (gEqX true) (eIsX ["Missing"] (eVar 6)) (eBin (gBl gEqA) (eVar 2) (eC (.int 14)))) (cOr (cTru (eCall 1 F_L_is_far [] (aCons (eVar 6) aNil))) (cNot (cTru (eIsX ["DuelError"] (eVar 6)))))) (sRet (eC (.bl false))) sNil)
  (sIf (cNot (cTru (eArgs gIsE (aCons (eVar 6) (aCons (eC (.ty "ValueError")) aNil))))) (sRet (eC (.bl false))) sNil))))
theorem err_ok {s : List Int} {i : Int} {e a b : D} {a7 a8 a9 : Sl} {c : Churn} (F : Fct i e a b) (ha : Val a) (hb : Val b) :
    Ok (errB (lv s (.val (.int i)) (.val a) (.val b) (.val (.lst (dueD i a b))) (.val e) a7 a8 a9) c) fun p c1 => p.2 = .nx ∧ (∃ a7, p.1 = lv s (.val (.int i)) (.val a) (.val b) (.val (.lst (dueD i a b))) (.val e) a7 a8 a9) ∧ c = c1 := by
  have dl : (dueD i a b).length ≤ 2 := by 
    unfold dueD
    split
    · simp
    · split <;> simp
  have dv : ∀ x ∈ dueD i a b, Val x := fun x hx => by
    unfold dueD at hx
    split at hx
    · rw [List.mem_singleton.mp hx]; exact ha
    · split at hx
      · rcases List.mem_cons.mp hx with rfl | hx
        · exact ha
        · rw [List.mem_singleton.mp hx]; exact hb
      · cases hx
  unfold errB
  refine ok_step (fun ρ c1 => ρ = lv s (.val (.int i)) (.val a) (.val b) (.val (.lst (dueD i a b))) (.val e) (.val (.lst (dueD i a b))) a8 a9 ∧ c = c1) ?_ fun ρ c1 hm => ?_
  · unfold lv
    simp only [ok_seq, ok_asg, ok_par, ok_ret, ok_retN, ok_sNil, ok_sIf, ok_bin, ok_un, ok_var, ok_C, ok_call, ok_callK, ok_cons, ok_nil, ok_args, ok_tru, ok_not, ok_and, ok_or, ok_eNot, ok_eAnd, ok_eOr, ok_if, ok_cmp, ok_chain, ok_ofC, ok_oNone, ok_oSome, ok_sl, ok_met, ok_rev, ok_items, ok_lenSet, ok_pairs0, ok_pairs, ok_dict, ok_iSeq, ok_rng1, ok_rng2, ok_comp, ok_comp0, ok_for, List.getElem?_cons_zero, List.getElem?_cons_succ, Option.some.injEq, Sl.val.injEq, exists_eq_left', List.nil_append, List.append_nil, List.length_cons, List.length_nil, true_and, and_true, and_self, Nat.zero_add, Nat.reduceAdd, Nat.reduceLeDiff, gAdd_i, gSub_i, gNeg_i, gBl_e, gCmpI_i, gLst_o, gTup_o, gN_e, List.set_cons_zero, List.set_cons_succ, truD_b, gIsN_n, isNonD, gLen_l, gInt_b, gInt_i, Option.map_some, Bool.false_eq_true, if_true, if_false, Bool.not_true, Bool.not_false, keyD, walkD, ok_sOwn, ok_sFz, ok_cBor, ok_eBor, ok_sPut, ok_xNil, ok_xVal, ok_xOwn, ok_zip, ok_enum, ok_star, ok_sortItems, ok_dict0, ok_ixO, ok_parX, ok_parX3, gIxA_l, gIxA_t, gEqA_i, gEqA_s, atI_0, atI_1, atI_2, atI_3, gCmpO_i, intO, seqOf, isFlat, ok_isX, ok_attr, ok_raise, F.flds, ok_ok]
  obtain ⟨rfl, rfl⟩ := hm
  obtain ⟨z, er⟩ := vals_repr dv dl
  have es : gEqX true (.str z) (.str z) = some false := by rw [eqX_str]; simp
  refine ok_ifS false ?_ (fun z => by cases z) fun _ => ?_
  · unfold lv
    simp only [ok_seq, ok_asg, ok_par, ok_ret, ok_retN, ok_sNil, ok_sIf, ok_bin, ok_un, ok_var, ok_C, ok_call, ok_callK, ok_cons, ok_nil, ok_args, ok_tru, ok_not, ok_and, ok_or, ok_eNot, ok_eAnd, ok_eOr, ok_if, ok_cmp, ok_chain, ok_ofC, ok_oNone, ok_oSome, ok_sl, ok_met, ok_rev, ok_items, ok_lenSet, ok_pairs0, ok_pairs, ok_dict, ok_iSeq, ok_rng1, ok_rng2, ok_comp, ok_comp0, ok_for, List.getElem?_cons_zero, List.getElem?_cons_succ, Option.some.injEq, Sl.val.injEq, exists_eq_left', List.nil_append, List.append_nil, List.length_cons, List.length_nil, true_and, and_true, and_self, Nat.zero_add, Nat.reduceAdd, Nat.reduceLeDiff, gAdd_i, gSub_i, gNeg_i, gBl_e, gCmpI_i, gLst_o, gTup_o, gN_e, List.set_cons_zero, List.set_cons_succ, truD_b, gIsN_n, isNonD, gLen_l, gInt_b, gInt_i, Option.map_some, Bool.false_eq_true, if_true, if_false, Bool.not_true, Bool.not_false, keyD, walkD, ok_sOwn, ok_sFz, ok_cBor, ok_eBor, ok_sPut, ok_xNil, ok_xVal, ok_xOwn, ok_zip, ok_enum, ok_star, ok_sortItems, ok_dict0, ok_ixO, ok_parX, ok_parX3, gIxA_l, gIxA_t, gEqA_i, gEqA_s, atI_0, atI_1, atI_2, atI_3, gCmpO_i, intO, seqOf, isFlat, ok_isX, ok_attr, ok_raise, vals_ne dv dl, er, es, F.flags, ok_ok]
    refine ⟨_, rng1_i (by decide) (by decide), by unfold rangeD; rw [List.length_map, List.length_range]; decide, ?_⟩
    refine comp_map (isAt i) (fun d hd c => ?_) ?_
    · unfold rangeD at hd
      obtain ⟨j, _, rfl⟩ := List.mem_map.mp hd
      refine ⟨_, rfl, rfl, ?_⟩
      apply eq_of_ok
      simp only [wipeE, ok_seq, ok_asg, ok_par, ok_ret, ok_retN, ok_sNil, ok_sIf, ok_bin, ok_un, ok_var, ok_C, ok_call, ok_callK, ok_cons, ok_nil, ok_args, ok_tru, ok_not, ok_and, ok_or, ok_eNot, ok_eAnd, ok_eOr, ok_if, ok_cmp, ok_chain, ok_ofC, ok_oNone, ok_oSome, ok_sl, ok_met, ok_rev, ok_items, ok_lenSet, ok_pairs0, ok_pairs, ok_dict, ok_iSeq, ok_rng1, ok_rng2, ok_comp, ok_comp0, ok_for, List.getElem?_cons_zero, List.getElem?_cons_succ, Option.some.injEq, Sl.val.injEq, exists_eq_left', List.nil_append, List.append_nil, List.length_cons, List.length_nil, true_and, and_true, and_self, Nat.zero_add, Nat.reduceAdd, Nat.reduceLeDiff, gAdd_i, gSub_i, gNeg_i, gBl_e, gCmpI_i, gLst_o, gTup_o, gN_e, List.set_cons_zero, List.set_cons_succ, truD_b, gIsN_n, isNonD, gLen_l, gInt_b, gInt_i, Option.map_some, Bool.false_eq_true, if_true, if_false, Bool.not_true, Bool.not_false, keyD, walkD, ok_sOwn, ok_sFz, ok_cBor, ok_eBor, ok_sPut, ok_xNil, ok_xVal, ok_xOwn, ok_zip, ok_enum, ok_star, ok_sortItems, ok_dict0, ok_ixO, ok_parX, ok_parX3, gIxA_l, gIxA_t, gEqA_i, gEqA_s, atI_0, atI_1, atI_2, atI_3, gCmpO_i, intO, seqOf, isFlat, ok_isX, ok_attr, ok_raise, isAt]
    · simp only [flags_ne, Option.some.injEq, exists_eq_left']
      first | done | exact ⟨_, rfl, rfl, rfl⟩ | simp
  have e14 : gEqA (.int i) (.int 14) = some (i == 14) := rfl
  refine ok_ifS false ?_ (fun z => by cases z) fun _ => ?_
  · unfold lv
    simp only [ok_seq, ok_asg, ok_par, ok_ret, ok_retN, ok_sNil, ok_sIf, ok_bin, ok_un, ok_var, ok_C, ok_call, ok_callK, ok_cons, ok_nil, ok_args, ok_tru, ok_not, ok_and, ok_or, ok_eNot, ok_eAnd, ok_eOr, ok_if, ok_cmp, ok_chain, ok_ofC, ok_oNone, ok_oSome, ok_sl, ok_met, ok_rev, ok_items, ok_lenSet, ok_pairs0, ok_pairs, ok_dict, ok_iSeq, ok_rng1, ok_rng2, ok_comp, ok_comp0, ok_for, List.getElem?_cons_zero, List.getElem?_cons_succ, Option.some.injEq, Sl.val.injEq, exists_eq_left', List.nil_append, List.append_nil, List.length_cons, List.length_nil, true_and, and_true, and_self, Nat.zero_add, Nat.reduceAdd, Nat.reduceLeDiff, gAdd_i, gSub_i, gNeg_i, gBl_e, gCmpI_i, gLst_o, gTup_o, gN_e, List.set_cons_zero, List.set_cons_succ, truD_b, gIsN_n, isNonD, gLen_l, gInt_b, gInt_i, Option.map_some, Bool.false_eq_true, if_true, if_false, Bool.not_true, Bool.not_false, keyD, walkD, ok_sOwn, ok_sFz, ok_cBor, ok_eBor, ok_sPut, ok_xNil, ok_xVal, ok_xOwn, ok_zip, ok_enum, ok_star, ok_sortItems, ok_dict0, ok_ixO, ok_parX, ok_parX3, gIxA_l, gIxA_t, gEqA_i, gEqA_s, atI_0, atI_1, atI_2, atI_3, gCmpO_i, intO, seqOf, isFlat, ok_isX, ok_attr, ok_raise, F.mis, F.far, F.duel, ok_ok, e14, ne_bl]
  refine ok_ifE false (eq_of_ok ?_) (fun z => by cases z) fun _ => ?_
  · unfold lv
    simp only [ok_seq, ok_asg, ok_par, ok_ret, ok_retN, ok_sNil, ok_sIf, ok_bin, ok_un, ok_var, ok_C, ok_call, ok_callK, ok_cons, ok_nil, ok_args, ok_tru, ok_not, ok_and, ok_or, ok_eNot, ok_eAnd, ok_eOr, ok_if, ok_cmp, ok_chain, ok_ofC, ok_oNone, ok_oSome, ok_sl, ok_met, ok_rev, ok_items, ok_lenSet, ok_pairs0, ok_pairs, ok_dict, ok_iSeq, ok_rng1, ok_rng2, ok_comp, ok_comp0, ok_for, List.getElem?_cons_zero, List.getElem?_cons_succ, Option.some.injEq, Sl.val.injEq, exists_eq_left', List.nil_append, List.append_nil, List.length_cons, List.length_nil, true_and, and_true, and_self, Nat.zero_add, Nat.reduceAdd, Nat.reduceLeDiff, gAdd_i, gSub_i, gNeg_i, gBl_e, gCmpI_i, gLst_o, gTup_o, gN_e, List.set_cons_zero, List.set_cons_succ, truD_b, gIsN_n, isNonD, gLen_l, gInt_b, gInt_i, Option.map_some, Bool.false_eq_true, if_true, if_false, Bool.not_true, Bool.not_false, keyD, walkD, ok_sOwn, ok_sFz, ok_cBor, ok_eBor, ok_sPut, ok_xNil, ok_xVal, ok_xOwn, ok_zip, ok_enum, ok_star, ok_sortItems, ok_dict0, ok_ixO, ok_parX, ok_parX3, gIxA_l, gIxA_t, gEqA_i, gEqA_s, atI_0, atI_1, atI_2, atI_3, gCmpO_i, intO, seqOf, isFlat, ok_isX, ok_attr, ok_raise, F.val]
  · unfold lv
    simp only [ok_seq, ok_asg, ok_par, ok_ret, ok_retN, ok_sNil, ok_sIf, ok_bin, ok_un, ok_var, ok_C, ok_call, ok_callK, ok_cons, ok_nil, ok_args, ok_tru, ok_not, ok_and, ok_or, ok_eNot, ok_eAnd, ok_eOr, ok_if, ok_cmp, ok_chain, ok_ofC, ok_oNone, ok_oSome, ok_sl, ok_met, ok_rev, ok_items, ok_lenSet, ok_pairs0, ok_pairs, ok_dict, ok_iSeq, ok_rng1, ok_rng2, ok_comp, ok_comp0, ok_for, List.getElem?_cons_zero, List.getElem?_cons_succ, Option.some.injEq, Sl.val.injEq, exists_eq_left', List.nil_append, List.append_nil, List.length_cons, List.length_nil, true_and, and_true, and_self, Nat.zero_add, Nat.reduceAdd, Nat.reduceLeDiff, gAdd_i, gSub_i, gNeg_i, gBl_e, gCmpI_i, gLst_o, gTup_o, gN_e, List.set_cons_zero, List.set_cons_succ, truD_b, gIsN_n, isNonD, gLen_l, gInt_b, gInt_i, Option.map_some, Bool.false_eq_true, if_true, if_false, Bool.not_true, Bool.not_false, keyD, walkD, ok_sOwn, ok_sFz, ok_cBor, ok_eBor, ok_sPut, ok_xNil, ok_xVal, ok_xOwn, ok_zip, ok_enum, ok_star, ok_sortItems, ok_dict0, ok_ixO, ok_parX, ok_parX3, gIxA_l, gIxA_t, gEqA_i, gEqA_s, atI_0, atI_1, atI_2, atI_3, gCmpO_i, intO, seqOf, isFlat, ok_isX, ok_attr, ok_raise]
    exact ⟨_, rfl⟩
def badN (s : Str) : Exn := ⟨"BadNumber", [("part", .str s)]⟩
theorem caught_ok {act : M D} {c c1 : Churn} {s : Str} (h : act c = .exn (badN s) c1) : runAct 3 g_L_caught2 act c = .ok (.exc "BadNumber" ["part"] [.str s]) c1 := by
  apply eq_of_ok
  rw [ok_act]
  show Ok (g_L_caught2 act [.no, .no, .no] c) _
  unfold g_L_caught2
  refine ok_step (fun ρ c2 => ρ = [.no, .val .non, .no] ∧ c2 = c) (by simp only [ok_seq, ok_asg, ok_par, ok_ret, ok_retN, ok_sNil, ok_sIf, ok_bin, ok_un, ok_var, ok_C, ok_call, ok_callK, ok_cons, ok_nil, ok_args, ok_tru, ok_not, ok_and, ok_or, ok_eNot, ok_eAnd, ok_eOr, ok_if, ok_cmp, ok_chain, ok_ofC, ok_oNone, ok_oSome, ok_sl, ok_met, ok_rev, ok_items, ok_lenSet, ok_pairs0, ok_pairs, ok_dict, ok_iSeq, ok_rng1, ok_rng2, ok_comp, ok_comp0, ok_for, List.getElem?_cons_zero, List.getElem?_cons_succ, Option.some.injEq, Sl.val.injEq, exists_eq_left', List.nil_append, List.append_nil, List.length_cons, List.length_nil, true_and, and_true, and_self, Nat.zero_add, Nat.reduceAdd, Nat.reduceLeDiff, gAdd_i, gSub_i, gNeg_i, gBl_e, gCmpI_i, gLst_o, gTup_o, gN_e, List.set_cons_zero, List.set_cons_succ, truD_b, gIsN_n, isNonD, gLen_l, gInt_b, gInt_i, Option.map_some, Bool.false_eq_true, if_true, if_false, Bool.not_true, Bool.not_false, keyD, walkD, ok_sOwn, ok_sFz, ok_cBor, ok_eBor, ok_sPut, ok_xNil, ok_xVal, ok_xOwn, ok_zip, ok_enum, ok_star, ok_sortItems, ok_dict0, ok_ixO, ok_parX, ok_parX3, gIxA_l, gIxA_t, gEqA_i, gEqA_s, atI_0, atI_1, atI_2, atI_3, gCmpO_i, intO, seqOf, isFlat, ok_isX, ok_attr, ok_raise]) fun ρ c2 hm => ?_
  obtain ⟨rfl, rfl⟩ := hm
  refine ok_step (fun ρ c2 => ρ = [.no, .val (.exc "BadNumber" ["part"] [.str s]), .no] ∧ c2 = c1) ?_ fun ρ c2 hm => ?_
  · rw [ok_tryX (fa := eAct act) h, ok_hd (by rfl)]
    simp only [ok_seq, ok_asg, ok_par, ok_ret, ok_retN, ok_sNil, ok_sIf, ok_bin, ok_un, ok_var, ok_C, ok_call, ok_callK, ok_cons, ok_nil, ok_args, ok_tru, ok_not, ok_and, ok_or, ok_eNot, ok_eAnd, ok_eOr, ok_if, ok_cmp, ok_chain, ok_ofC, ok_oNone, ok_oSome, ok_sl, ok_met, ok_rev, ok_items, ok_lenSet, ok_pairs0, ok_pairs, ok_dict, ok_iSeq, ok_rng1, ok_rng2, ok_comp, ok_comp0, ok_for, List.getElem?_cons_zero, List.getElem?_cons_succ, Option.some.injEq, Sl.val.injEq, exists_eq_left', List.nil_append, List.append_nil, List.length_cons, List.length_nil, true_and, and_true, and_self, Nat.zero_add, Nat.reduceAdd, Nat.reduceLeDiff, gAdd_i, gSub_i, gNeg_i, gBl_e, gCmpI_i, gLst_o, gTup_o, gN_e, List.set_cons_zero, List.set_cons_succ, truD_b, gIsN_n, isNonD, gLen_l, gInt_b, gInt_i, Option.map_some, Bool.false_eq_true, if_true, if_false, Bool.not_true, Bool.not_false, keyD, walkD, ok_sOwn, ok_sFz, ok_cBor, ok_eBor, ok_sPut, ok_xNil, ok_xVal, ok_xOwn, ok_zip, ok_enum, ok_star, ok_sortItems, ok_dict0, ok_ixO, ok_parX, ok_parX3, gIxA_l, gIxA_t, gEqA_i, gEqA_s, atI_0, atI_1, atI_2, atI_3, gCmpO_i, intO, seqOf, isFlat, ok_isX, ok_attr, ok_raise, setO]
    first | done | exact ⟨rfl, rfl⟩ | rfl
  obtain ⟨rfl, rfl⟩ := hm
  simp only [ok_seq, ok_asg, ok_par, ok_ret, ok_retN, ok_sNil, ok_sIf, ok_bin, ok_un, ok_var, ok_C, ok_call, ok_callK, ok_cons, ok_nil, ok_args, ok_tru, ok_not, ok_and, ok_or, ok_eNot, ok_eAnd, ok_eOr, ok_if, ok_cmp, ok_chain, ok_ofC, ok_oNone, ok_oSome, ok_sl, ok_met, ok_rev, ok_items, ok_lenSet, ok_pairs0, ok_pairs, ok_dict, ok_iSeq, ok_rng1, ok_rng2, ok_comp, ok_comp0, ok_for, List.getElem?_cons_zero, List.getElem?_cons_succ, Option.some.injEq, Sl.val.injEq, exists_eq_left', List.nil_append, List.append_nil, List.length_cons, List.length_nil, true_and, and_true, and_self, Nat.zero_add, Nat.reduceAdd, Nat.reduceLeDiff, gAdd_i, gSub_i, gNeg_i, gBl_e, gCmpI_i, gLst_o, gTup_o, gN_e, List.set_cons_zero, List.set_cons_succ, truD_b, gIsN_n, isNonD, gLen_l, gInt_b, gInt_i, Option.map_some, Bool.false_eq_true, if_true, if_false, Bool.not_true, Bool.not_false, keyD, walkD, ok_sOwn, ok_sFz, ok_cBor, ok_eBor, ok_sPut, ok_xNil, ok_xVal, ok_xOwn, ok_zip, ok_enum, ok_star, ok_sortItems, ok_dict0, ok_ixO, ok_parX, ok_parX3, gIxA_l, gIxA_t, gEqA_i, gEqA_s, atI_0, atI_1, atI_2, atI_3, gCmpO_i, intO, seqOf, isFlat, ok_isX, ok_attr, ok_raise]
theorem call_of {n : Nat} {F : List D → M D} {fs : Ev → M (List D)} {ρ : Ev} {c : Churn} {xs : List D} {r : R D} (h : fs ρ c = .ok xs c) (hl : xs.length = n) (e : F xs c = r) : eCall n F [] fs ρ c = r := by
  unfold eCall
  simp only [bind, M.bind, h, List.append_nil]
  rw [if_pos hl]
  exact e
theorem gcd_bad {c : Churn} : F_gcd_of [.lst []] c = .exn (badN "numbers") c := by kernel_rfl
theorem lcm_bad {c : Churn} : F_lcm_of [.str "1"] c = .exn (badN "numbers") c := by kernel_rfl
theorem rest_bad {c : Churn} : F_rest_of [.int 1, .int 0] c = .exn (badN "m") c := by kernel_rfl
theorem both_bad {v : D} {c : Churn} : F_both_rests [.tup [.int 0, .int 0], v] c = .exn (badN "one") c := by kernel_rfl
theorem flags_bad {v : D} {c : Churn} : F_L_flags [.exc "BadNumber" ["part"] [v]] c = .ok (.lst ((rangeD 0 21).map (isAt 0))) c := by kernel_rfl
theorem flags_miss {v : D} {c : Churn} : F_L_flags [.exc "Missing" ["value"] [v]] c = .ok (.lst ((rangeD 0 21).map (isAt (-1)))) c := by kernel_rfl
theorem mul_21 : gMul (.lst [.bl false]) (.int 21) = some (.lst ((rangeD 0 21).map (isAt (-1)))) := by kernel_rfl
theorem law_true : LawTrue 10 g_law := LawTrue.of fun s hs => by
  have g0 : Good 0 ⟨s.take 60, 0, 0⟩ := ⟨Int.le_refl _, Int.le_refl _, Int.le_refl _, by rw [List.length_take]; show min 60 s.length ≤ 63; omega⟩
  show Ok (g_law (lv s .no .no .no .no .no .no .no .no) ⟨s.take 60, 0, 0⟩) _
  unfold g_law
  refine ok_step (fun ρ c => (∃ a2 a3 a4 a5 a6 a7 a9, ρ = lv s a2 a3 a4 a5 a6 a7 .no a9) ∧ Good 300 c) ?_ fun ρ c hm => ?_
  · rw [ok_for]
    simp only [ok_rng1, ok_args, ok_cons, ok_nil, ok_C]
    refine ⟨_, rng1_i (by decide) (by decide), ?_⟩
    have h21 : (rangeD 0 21).length = 21 := by unfold rangeD; simp
    refine for_count (B := 2 ^ 20) (n := 0) (fun n ρ c => (∃ a2 a3 a4 a5 a6 a7 a9, ρ = lv s a2 a3 a4 a5 a6 a7 .no a9) ∧ Good n c) 10 (fun d hd n ρ c hB hI => ?_) ⟨⟨_, _, _, _, _, _, _, rfl⟩, g0⟩ (by rw [h21]; omega) fun ρ c hI => ⟨rfl, hI.1, by have := hI.2; rw [h21] at this; exact this.mono (by omega)⟩
    obtain ⟨⟨a2, a3, a4, a5, a6, a7, a9, rfl⟩, g⟩ := hI
    unfold rangeD at hd
    obtain ⟨j, hj, rfl⟩ := List.mem_map.mp hd
    have hj := List.mem_range.mp hj
    have i0 : 0 ≤ (0 : Int) + (j : Int) := by omega
    have i1 : (0 : Int) + (j : Int) < 21 := by omega
    generalize (0 : Int) + (j : Int) = i at i0 i1
    refine ⟨lv s (.val (.int i)) a3 a4 a5 a6 a7 .no a9, rfl, ?_⟩
    refine ok_step (fun ρ c1 => ∃ a b, ρ = lv s (.val (.int i)) (.val a) (.val b) a5 a6 a7 .no a9 ∧ Val a ∧ Val b ∧ Good (n + 10) c1) ?_ fun ρ c1 hm => ?_
    · unfold lv
      simp only [ok_seq, ok_asg, ok_par, ok_ret, ok_retN, ok_sNil, ok_sIf, ok_bin, ok_un, ok_var, ok_C, ok_call, ok_callK, ok_cons, ok_nil, ok_args, ok_tru, ok_not, ok_and, ok_or, ok_eNot, ok_eAnd, ok_eOr, ok_if, ok_cmp, ok_chain, ok_ofC, ok_oNone, ok_oSome, ok_sl, ok_met, ok_rev, ok_items, ok_lenSet, ok_pairs0, ok_pairs, ok_dict, ok_iSeq, ok_rng1, ok_rng2, ok_comp, ok_comp0, ok_for, List.getElem?_cons_zero, List.getElem?_cons_succ, Option.some.injEq, Sl.val.injEq, exists_eq_left', List.nil_append, List.append_nil, List.length_cons, List.length_nil, true_and, and_true, and_self, Nat.zero_add, Nat.reduceAdd, Nat.reduceLeDiff, gAdd_i, gSub_i, gNeg_i, gBl_e, gCmpI_i, gLst_o, gTup_o, gN_e, List.set_cons_zero, List.set_cons_succ, truD_b, gIsN_n, isNonD, gLen_l, gInt_b, gInt_i, Option.map_some, Bool.false_eq_true, if_true, if_false, Bool.not_true, Bool.not_false, keyD, walkD, ok_sOwn, ok_sFz, ok_cBor, ok_eBor, ok_sPut, ok_xNil, ok_xVal, ok_xOwn, ok_zip, ok_enum, ok_star, ok_sortItems, ok_dict0, ok_ixO, ok_parX, ok_parX3, gIxA_l, gIxA_t, gEqA_i, gEqA_s, atI_0, atI_1, atI_2, atI_3, gCmpO_i, intO, seqOf, isFlat, ok_isX, ok_attr, ok_raise]
      refine value_ok g (by omega) fun a c1 ha g => ?_
      try simp only [ok_seq, ok_asg, ok_par, ok_ret, ok_retN, ok_sNil, ok_sIf, ok_bin, ok_un, ok_var, ok_C, ok_call, ok_callK, ok_cons, ok_nil, ok_args, ok_tru, ok_not, ok_and, ok_or, ok_eNot, ok_eAnd, ok_eOr, ok_if, ok_cmp, ok_chain, ok_ofC, ok_oNone, ok_oSome, ok_sl, ok_met, ok_rev, ok_items, ok_lenSet, ok_pairs0, ok_pairs, ok_dict, ok_iSeq, ok_rng1, ok_rng2, ok_comp, ok_comp0, ok_for, List.getElem?_cons_zero, List.getElem?_cons_succ, Option.some.injEq, Sl.val.injEq, exists_eq_left', List.nil_append, List.append_nil, List.length_cons, List.length_nil, true_and, and_true, and_self, Nat.zero_add, Nat.reduceAdd, Nat.reduceLeDiff, gAdd_i, gSub_i, gNeg_i, gBl_e, gCmpI_i, gLst_o, gTup_o, gN_e, List.set_cons_zero, List.set_cons_succ, truD_b, gIsN_n, isNonD, gLen_l, gInt_b, gInt_i, Option.map_some, Bool.false_eq_true, if_true, if_false, Bool.not_true, Bool.not_false, keyD, walkD, ok_sOwn, ok_sFz, ok_cBor, ok_eBor, ok_sPut, ok_xNil, ok_xVal, ok_xOwn, ok_zip, ok_enum, ok_star, ok_sortItems, ok_dict0, ok_ixO, ok_parX, ok_parX3, gIxA_l, gIxA_t, gEqA_i, gEqA_s, atI_0, atI_1, atI_2, atI_3, gCmpO_i, intO, seqOf, isFlat, ok_isX, ok_attr, ok_raise]
      refine value_ok g (by omega) fun b c2 hb g => ?_
      try simp only [ok_seq, ok_asg, ok_par, ok_ret, ok_retN, ok_sNil, ok_sIf, ok_bin, ok_un, ok_var, ok_C, ok_call, ok_callK, ok_cons, ok_nil, ok_args, ok_tru, ok_not, ok_and, ok_or, ok_eNot, ok_eAnd, ok_eOr, ok_if, ok_cmp, ok_chain, ok_ofC, ok_oNone, ok_oSome, ok_sl, ok_met, ok_rev, ok_items, ok_lenSet, ok_pairs0, ok_pairs, ok_dict, ok_iSeq, ok_rng1, ok_rng2, ok_comp, ok_comp0, ok_for, List.getElem?_cons_zero, List.getElem?_cons_succ, Option.some.injEq, Sl.val.injEq, exists_eq_left', List.nil_append, List.append_nil, List.length_cons, List.length_nil, true_and, and_true, and_self, Nat.zero_add, Nat.reduceAdd, Nat.reduceLeDiff, gAdd_i, gSub_i, gNeg_i, gBl_e, gCmpI_i, gLst_o, gTup_o, gN_e, List.set_cons_zero, List.set_cons_succ, truD_b, gIsN_n, isNonD, gLen_l, gInt_b, gInt_i, Option.map_some, Bool.false_eq_true, if_true, if_false, Bool.not_true, Bool.not_false, keyD, walkD, ok_sOwn, ok_sFz, ok_cBor, ok_eBor, ok_sPut, ok_xNil, ok_xVal, ok_xOwn, ok_zip, ok_enum, ok_star, ok_sortItems, ok_dict0, ok_ixO, ok_parX, ok_parX3, gIxA_l, gIxA_t, gEqA_i, gEqA_s, atI_0, atI_1, atI_2, atI_3, gCmpO_i, intO, seqOf, isFlat, ok_isX, ok_attr, ok_raise]
      exact ⟨_, rfl, a, b, rfl, ha, hb, g⟩
    obtain ⟨a, b, rfl, ha, hb, g⟩ := hm
    refine ok_step (fun ρ c2 => ρ = lv s (.val (.int i)) (.val a) (.val b) (.val (.lst (dueD i a b))) a6 a7 .no a9 ∧ Good (n + 10) c2) ?_ fun ρ c2 hm => ?_
    · have e16 : gCmpO ltI ltL (.int i) (.int 16) = some (decide (i < 16)) := by kernel_rfl
      have e19 : gCmpO ltI ltL (.int i) (.int 19) = some (decide (i < 19)) := by kernel_rfl
      unfold lv dueD
      simp only [ok_seq, ok_asg, ok_par, ok_ret, ok_retN, ok_sNil, ok_sIf, ok_bin, ok_un, ok_var, ok_C, ok_call, ok_callK, ok_cons, ok_nil, ok_args, ok_tru, ok_not, ok_and, ok_or, ok_eNot, ok_eAnd, ok_eOr, ok_if, ok_cmp, ok_chain, ok_ofC, ok_oNone, ok_oSome, ok_sl, ok_met, ok_rev, ok_items, ok_lenSet, ok_pairs0, ok_pairs, ok_dict, ok_iSeq, ok_rng1, ok_rng2, ok_comp, ok_comp0, ok_for, List.getElem?_cons_zero, List.getElem?_cons_succ, Option.some.injEq, Sl.val.injEq, exists_eq_left', List.nil_append, List.append_nil, List.length_cons, List.length_nil, true_and, and_true, and_self, Nat.zero_add, Nat.reduceAdd, Nat.reduceLeDiff, gAdd_i, gSub_i, gNeg_i, gBl_e, gCmpI_i, gLst_o, gTup_o, gN_e, List.set_cons_zero, List.set_cons_succ, truD_b, gIsN_n, isNonD, gLen_l, gInt_b, gInt_i, Option.map_some, Bool.false_eq_true, if_true, if_false, Bool.not_true, Bool.not_false, keyD, walkD, ok_sOwn, ok_sFz, ok_cBor, ok_eBor, ok_sPut, ok_xNil, ok_xVal, ok_xOwn, ok_zip, ok_enum, ok_star, ok_sortItems, ok_dict0, ok_ixO, ok_parX, ok_parX3, gIxA_l, gIxA_t, gEqA_i, gEqA_s, atI_0, atI_1, atI_2, atI_3, gCmpO_i, intO, seqOf, isFlat, ok_isX, ok_attr, ok_raise, e16, e19]
      by_cases h1 : i < 16
      · rw [if_pos (decide_eq_true h1), if_pos h1]
        first | exact ⟨rfl, g⟩ | exact g
      · rw [if_neg (by simpa using h1), if_neg h1]
        try simp only [ok_seq, ok_asg, ok_par, ok_ret, ok_retN, ok_sNil, ok_sIf, ok_bin, ok_un, ok_var, ok_C, ok_call, ok_callK, ok_cons, ok_nil, ok_args, ok_tru, ok_not, ok_and, ok_or, ok_eNot, ok_eAnd, ok_eOr, ok_if, ok_cmp, ok_chain, ok_ofC, ok_oNone, ok_oSome, ok_sl, ok_met, ok_rev, ok_items, ok_lenSet, ok_pairs0, ok_pairs, ok_dict, ok_iSeq, ok_rng1, ok_rng2, ok_comp, ok_comp0, ok_for, List.getElem?_cons_zero, List.getElem?_cons_succ, Option.some.injEq, Sl.val.injEq, exists_eq_left', List.nil_append, List.append_nil, List.length_cons, List.length_nil, true_and, and_true, and_self, Nat.zero_add, Nat.reduceAdd, Nat.reduceLeDiff, gAdd_i, gSub_i, gNeg_i, gBl_e, gCmpI_i, gLst_o, gTup_o, gN_e, List.set_cons_zero, List.set_cons_succ, truD_b, gIsN_n, isNonD, gLen_l, gInt_b, gInt_i, Option.map_some, Bool.false_eq_true, if_true, if_false, Bool.not_true, Bool.not_false, keyD, walkD, ok_sOwn, ok_sFz, ok_cBor, ok_eBor, ok_sPut, ok_xNil, ok_xVal, ok_xOwn, ok_zip, ok_enum, ok_star, ok_sortItems, ok_dict0, ok_ixO, ok_parX, ok_parX3, gIxA_l, gIxA_t, gEqA_i, gEqA_s, atI_0, atI_1, atI_2, atI_3, gCmpO_i, intO, seqOf, isFlat, ok_isX, ok_attr, ok_raise, e19]
        by_cases h2 : i < 19
        · rw [if_pos (decide_eq_true h2), if_pos h2]
          first | exact ⟨rfl, g⟩ | exact g
        · rw [if_neg (by simpa using h2), if_neg h2]
          first | exact ⟨rfl, g⟩ | exact g
    obtain ⟨rfl, g⟩ := hm
    obtain ⟨e, F⟩ := fct i0 i1 a b
    rw [ok_for]
    have eit : Ok ((iSeq (eArgs gTup (aCons (eCall 3 F_L_by_place [] (aCons (eVar 2) (aCons (eVar 3) (aCons (eVar 4) aNil)))) (aCons (eCall 3 F_L_by_name [] (aCons (eVar 2) (aCons (eVar 3) (aCons (eVar 4) aNil)))) aNil)))) (lv s (.val (.int i)) (.val a) (.val b) (.val (.lst (dueD i a b))) a6 a7 .no a9) c2) fun ds c3 => ds = [e, e] ∧ c2 = c3 := by
      unfold lv
      simp only [ok_seq, ok_asg, ok_par, ok_ret, ok_retN, ok_sNil, ok_sIf, ok_bin, ok_un, ok_var, ok_C, ok_call, ok_callK, ok_cons, ok_nil, ok_args, ok_tru, ok_not, ok_and, ok_or, ok_eNot, ok_eAnd, ok_eOr, ok_if, ok_cmp, ok_chain, ok_ofC, ok_oNone, ok_oSome, ok_sl, ok_met, ok_rev, ok_items, ok_lenSet, ok_pairs0, ok_pairs, ok_dict, ok_iSeq, ok_rng1, ok_rng2, ok_comp, ok_comp0, ok_for, List.getElem?_cons_zero, List.getElem?_cons_succ, Option.some.injEq, Sl.val.injEq, exists_eq_left', List.nil_append, List.append_nil, List.length_cons, List.length_nil, true_and, and_true, and_self, Nat.zero_add, Nat.reduceAdd, Nat.reduceLeDiff, gAdd_i, gSub_i, gNeg_i, gBl_e, gCmpI_i, gLst_o, gTup_o, gN_e, List.set_cons_zero, List.set_cons_succ, truD_b, gIsN_n, isNonD, gLen_l, gInt_b, gInt_i, Option.map_some, Bool.false_eq_true, if_true, if_false, Bool.not_true, Bool.not_false, keyD, walkD, ok_sOwn, ok_sFz, ok_cBor, ok_eBor, ok_sPut, ok_xNil, ok_xVal, ok_xOwn, ok_zip, ok_enum, ok_star, ok_sortItems, ok_dict0, ok_ixO, ok_parX, ok_parX3, gIxA_l, gIxA_t, gEqA_i, gEqA_s, atI_0, atI_1, atI_2, atI_3, gCmpO_i, intO, seqOf, isFlat, ok_isX, ok_attr, ok_raise, F.place, F.name, ok_ok]
      first | done | exact ⟨rfl, rfl⟩ | exact ⟨_, rfl, rfl, rfl⟩
    refine eit.mono fun ds c3 ⟨e1, e2⟩ => ?_
    subst e1 e2
    refine for_count (B := 2 ^ 20) (n := n + 10) (fun n ρ c => (∃ a6 a7, ρ = lv s (.val (.int i)) (.val a) (.val b) (.val (.lst (dueD i a b))) a6 a7 .no a9) ∧ Good n c) 0 (fun dd hdd n2 ρ c hB hI => ?_) ⟨⟨_, _, rfl⟩, g⟩ (by simp; omega) fun ρ c hI => ?_
    · obtain ⟨⟨b6, b7, rfl⟩, g⟩ := hI
      have ed : dd = e := by simpa using hdd
      subst ed
      refine ⟨lv s (.val (.int i)) (.val a) (.val b) (.val (.lst (dueD i a b))) (.val dd) b7 .no a9, rfl, ?_⟩
      refine Ok.mono (err_ok F ha hb) fun p c1 ⟨e1, ⟨x7, e2⟩, e3⟩ => ?_
      rw [← e3]
      exact ⟨e1, ⟨_, x7, e2⟩, g⟩
    · obtain ⟨⟨b6, b7, e⟩, g⟩ := hI
      exact ⟨rfl, ⟨_, _, _, _, b6, b7, _, e⟩, g.mono (by simp)⟩
  obtain ⟨⟨a2, a3, a4, a5, a6, a7, a9, rfl⟩, g⟩ := hm
  refine ok_step (fun ρ c1 => ∃ v, ρ = lv s a2 (.val v) a4 a5 a6 a7 .no a9 ∧ Val v ∧ Good 305 c1) ?_ fun ρ c1 hm => ?_
  · unfold lv
    simp only [ok_seq, ok_asg, ok_par, ok_ret, ok_retN, ok_sNil, ok_sIf, ok_bin, ok_un, ok_var, ok_C, ok_call, ok_callK, ok_cons, ok_nil, ok_args, ok_tru, ok_not, ok_and, ok_or, ok_eNot, ok_eAnd, ok_eOr, ok_if, ok_cmp, ok_chain, ok_ofC, ok_oNone, ok_oSome, ok_sl, ok_met, ok_rev, ok_items, ok_lenSet, ok_pairs0, ok_pairs, ok_dict, ok_iSeq, ok_rng1, ok_rng2, ok_comp, ok_comp0, ok_for, List.getElem?_cons_zero, List.getElem?_cons_succ, Option.some.injEq, Sl.val.injEq, exists_eq_left', List.nil_append, List.append_nil, List.length_cons, List.length_nil, true_and, and_true, and_self, Nat.zero_add, Nat.reduceAdd, Nat.reduceLeDiff, gAdd_i, gSub_i, gNeg_i, gBl_e, gCmpI_i, gLst_o, gTup_o, gN_e, List.set_cons_zero, List.set_cons_succ, truD_b, gIsN_n, isNonD, gLen_l, gInt_b, gInt_i, Option.map_some, Bool.false_eq_true, if_true, if_false, Bool.not_true, Bool.not_false, keyD, walkD, ok_sOwn, ok_sFz, ok_cBor, ok_eBor, ok_sPut, ok_xNil, ok_xVal, ok_xOwn, ok_zip, ok_enum, ok_star, ok_sortItems, ok_dict0, ok_ixO, ok_parX, ok_parX3, gIxA_l, gIxA_t, gEqA_i, gEqA_s, atI_0, atI_1, atI_2, atI_3, gCmpO_i, intO, seqOf, isFlat, ok_isX, ok_attr, ok_raise]
    refine value_ok g (by omega) fun a c1 ha g => ?_
    exact ⟨a, rfl, ha, g⟩
  obtain ⟨v, rfl, hv, g⟩ := hm
  obtain ⟨z, er⟩ := val_repr hv
  have es : gEqX true (.str z) (.str z) = some false := by rw [eqX_str]; simp
  refine ok_ifS false ?_ (fun z => by cases z) fun _ => ?_
  · have e1 : attrD "value" (.exc "Missing" ["value"] [v]) = some v := rfl
    have e2 : isXb ["DuelError"] (.exc "Missing" ["value"] [v]) = some true := rfl
    unfold lv
    simp only [ok_seq, ok_asg, ok_par, ok_ret, ok_retN, ok_sNil, ok_sIf, ok_bin, ok_un, ok_var, ok_C, ok_call, ok_callK, ok_cons, ok_nil, ok_args, ok_tru, ok_not, ok_and, ok_or, ok_eNot, ok_eAnd, ok_eOr, ok_if, ok_cmp, ok_chain, ok_ofC, ok_oNone, ok_oSome, ok_sl, ok_met, ok_rev, ok_items, ok_lenSet, ok_pairs0, ok_pairs, ok_dict, ok_iSeq, ok_rng1, ok_rng2, ok_comp, ok_comp0, ok_for, List.getElem?_cons_zero, List.getElem?_cons_succ, Option.some.injEq, Sl.val.injEq, exists_eq_left', List.nil_append, List.append_nil, List.length_cons, List.length_nil, true_and, and_true, and_self, Nat.zero_add, Nat.reduceAdd, Nat.reduceLeDiff, gAdd_i, gSub_i, gNeg_i, gBl_e, gCmpI_i, gLst_o, gTup_o, gN_e, List.set_cons_zero, List.set_cons_succ, truD_b, gIsN_n, isNonD, gLen_l, gInt_b, gInt_i, Option.map_some, Bool.false_eq_true, if_true, if_false, Bool.not_true, Bool.not_false, keyD, walkD, ok_sOwn, ok_sFz, ok_cBor, ok_eBor, ok_sPut, ok_xNil, ok_xVal, ok_xOwn, ok_zip, ok_enum, ok_star, ok_sortItems, ok_dict0, ok_ixO, ok_parX, ok_parX3, gIxA_l, gIxA_t, gEqA_i, gEqA_s, atI_0, atI_1, atI_2, atI_3, gCmpO_i, intO, seqOf, isFlat, ok_isX, ok_attr, ok_raise, ok_mkK, ok_mk, List.reverse_cons, List.reverse_nil, List.nil_append, e1, e2, er, es, flags_miss, ok_ok, mul_21, flags_ne]
  have c1_ : ∀ ρ c, eLam 3 g_L_caught2 (eCall 1 F_gcd_of [] (aCons (eArgs gLst aNil) aNil)) ρ c = .ok (.exc "BadNumber" ["part"] [.str "numbers"]) c := fun ρ c => caught_ok (call_of (xs := [.lst []]) rfl rfl gcd_bad)
  have c2_ : ∀ ρ c, eLam 3 g_L_caught2 (eCall 1 F_lcm_of [] (aCons (eC (.str "1")) aNil)) ρ c = .ok (.exc "BadNumber" ["part"] [.str "numbers"]) c := fun ρ c => caught_ok (call_of (xs := [.str "1"]) rfl rfl lcm_bad)
  have c3_ : ∀ ρ c, eLam 3 g_L_caught2 (eCall 2 F_rest_of [] (aCons (eC (.int 1)) (aCons (eC (.int 0)) aNil))) ρ c = .ok (.exc "BadNumber" ["part"] [.str "m"]) c := fun ρ c => caught_ok (call_of (xs := [.int 1, .int 0]) rfl rfl rest_bad)
  have c4_ : ∀ a8 c, eLam 3 g_L_caught2 (eCall 2 F_both_rests [] (aCons (eArgs gTup (aCons (eC (.int 0)) (aCons (eC (.int 0)) aNil))) (aCons (eVar 3) aNil))) (lv s a2 (.val v) a4 a5 a6 a7 a8 a9) c = .ok (.exc "BadNumber" ["part"] [.str "one"]) c := fun a8 c => caught_ok (call_of (xs := [.tup [.int 0, .int 0], v]) rfl rfl both_bad)
  refine ok_step (fun ρ c2 => ρ = lv s a2 (.val v) a4 a5 a6 a7 (.own (.lst [.exc "BadNumber" ["part"] [.str "numbers"]])) a9 ∧ c1 = c2) ?_ fun ρ c2 hm => ?_
  · simp only [ok_sOwn, ok_args, ok_cons, ok_nil, c1_, ok_ok]
    unfold lv
    simp only [ok_seq, ok_asg, ok_par, ok_ret, ok_retN, ok_sNil, ok_sIf, ok_bin, ok_un, ok_var, ok_C, ok_call, ok_callK, ok_cons, ok_nil, ok_args, ok_tru, ok_not, ok_and, ok_or, ok_eNot, ok_eAnd, ok_eOr, ok_if, ok_cmp, ok_chain, ok_ofC, ok_oNone, ok_oSome, ok_sl, ok_met, ok_rev, ok_items, ok_lenSet, ok_pairs0, ok_pairs, ok_dict, ok_iSeq, ok_rng1, ok_rng2, ok_comp, ok_comp0, ok_for, List.getElem?_cons_zero, List.getElem?_cons_succ, Option.some.injEq, Sl.val.injEq, exists_eq_left', List.nil_append, List.append_nil, List.length_cons, List.length_nil, true_and, and_true, and_self, Nat.zero_add, Nat.reduceAdd, Nat.reduceLeDiff, gAdd_i, gSub_i, gNeg_i, gBl_e, gCmpI_i, gLst_o, gTup_o, gN_e, List.set_cons_zero, List.set_cons_succ, truD_b, gIsN_n, isNonD, gLen_l, gInt_b, gInt_i, Option.map_some, Bool.false_eq_true, if_true, if_false, Bool.not_true, Bool.not_false, keyD, walkD, ok_sOwn, ok_sFz, ok_cBor, ok_eBor, ok_sPut, ok_xNil, ok_xVal, ok_xOwn, ok_zip, ok_enum, ok_star, ok_sortItems, ok_dict0, ok_ixO, ok_parX, ok_parX3, gIxA_l, gIxA_t, gEqA_i, gEqA_s, atI_0, atI_1, atI_2, atI_3, gCmpO_i, intO, seqOf, isFlat, ok_isX, ok_attr, ok_raise]
    first | done | exact ⟨rfl, rfl⟩ | exact ⟨_, rfl, rfl, rfl⟩
  obtain ⟨rfl, rfl⟩ := hm
  have ht : ∀ xs : List D, tyD "list" (.lst xs) = true := fun _ => rfl
  have step : ∀ (xs : List D) (act : Ev → M D) (d : D), (∀ a8, act (lv s a2 (.val v) a4 a5 a6 a7 a8 a9) c1 = .ok d c1) → xs.length ≤ 5 → Ok (sMut 8 "list" gAppend (aCons act aNil) (lv s a2 (.val v) a4 a5 a6 a7 (.own (.lst xs)) a9) c1) fun p c2 => p.2 = .nx ∧ p.1 = lv s a2 (.val v) a4 a5 a6 a7 (.own (.lst (xs ++ [d]))) a9 ∧ c1 = c2 := fun xs act d h hl => by
    have hap : gAppend (.lst xs) [d] = some (.non, .lst (xs ++ [d])) := if_pos (Nat.lt_of_le_of_lt hl (by decide))
    rw [ok_sMut]
    unfold lv at h ⊢
    refine ⟨_, rfl, ?_⟩
    simp only [ok_seq, ok_asg, ok_par, ok_ret, ok_retN, ok_sNil, ok_sIf, ok_bin, ok_un, ok_var, ok_C, ok_call, ok_callK, ok_cons, ok_nil, ok_args, ok_tru, ok_not, ok_and, ok_or, ok_eNot, ok_eAnd, ok_eOr, ok_if, ok_cmp, ok_chain, ok_ofC, ok_oNone, ok_oSome, ok_sl, ok_met, ok_rev, ok_items, ok_lenSet, ok_pairs0, ok_pairs, ok_dict, ok_iSeq, ok_rng1, ok_rng2, ok_comp, ok_comp0, ok_for, List.getElem?_cons_zero, List.getElem?_cons_succ, Option.some.injEq, Sl.val.injEq, exists_eq_left', List.nil_append, List.append_nil, List.length_cons, List.length_nil, true_and, and_true, and_self, Nat.zero_add, Nat.reduceAdd, Nat.reduceLeDiff, gAdd_i, gSub_i, gNeg_i, gBl_e, gCmpI_i, gLst_o, gTup_o, gN_e, List.set_cons_zero, List.set_cons_succ, truD_b, gIsN_n, isNonD, gLen_l, gInt_b, gInt_i, Option.map_some, Bool.false_eq_true, if_true, if_false, Bool.not_true, Bool.not_false, keyD, walkD, ok_sOwn, ok_sFz, ok_cBor, ok_eBor, ok_sPut, ok_xNil, ok_xVal, ok_xOwn, ok_zip, ok_enum, ok_star, ok_sortItems, ok_dict0, ok_ixO, ok_parX, ok_parX3, gIxA_l, gIxA_t, gEqA_i, gEqA_s, atI_0, atI_1, atI_2, atI_3, gCmpO_i, intO, seqOf, isFlat, ok_isX, ok_attr, ok_raise, ht, h, ok_ok, hap]
    exact ⟨_, _, rfl, rfl⟩
  refine ok_step (fun ρ c2 => ρ = lv s a2 (.val v) a4 a5 a6 a7 (.own (.lst [.exc "BadNumber" ["part"] [.str "numbers"], .exc "BadNumber" ["part"] [.str "numbers"]])) a9 ∧ c1 = c2) (step [.exc "BadNumber" ["part"] [.str "numbers"]] _ _ (fun a8 => c2_ _ _) (by decide)) fun ρ c2 hm => ?_
  obtain ⟨rfl, rfl⟩ := hm
  refine ok_step (fun ρ c2 => ρ = lv s a2 (.val v) a4 a5 a6 a7 (.own (.lst [.exc "BadNumber" ["part"] [.str "numbers"], .exc "BadNumber" ["part"] [.str "numbers"], .exc "BadNumber" ["part"] [.str "m"]])) a9 ∧ c1 = c2) (step [.exc "BadNumber" ["part"] [.str "numbers"], .exc "BadNumber" ["part"] [.str "numbers"]] _ _ (fun a8 => c3_ _ _) (by decide)) fun ρ c2 hm => ?_
  obtain ⟨rfl, rfl⟩ := hm
  refine ok_step (fun ρ c2 => ρ = lv s a2 (.val v) a4 a5 a6 a7 (.own (.lst [.exc "BadNumber" ["part"] [.str "numbers"], .exc "BadNumber" ["part"] [.str "numbers"], .exc "BadNumber" ["part"] [.str "m"], .exc "BadNumber" ["part"] [.str "one"]])) a9 ∧ c1 = c2) (step [.exc "BadNumber" ["part"] [.str "numbers"], .exc "BadNumber" ["part"] [.str "numbers"], .exc "BadNumber" ["part"] [.str "m"]] _ _ (fun a8 => c4_ a8 _) (by decide)) fun ρ c2 hm => ?_
  obtain ⟨rfl, rfl⟩ := hm
  unfold lv
  simp only [ok_seq, ok_asg, ok_par, ok_ret, ok_retN, ok_sNil, ok_sIf, ok_bin, ok_un, ok_var, ok_C, ok_call, ok_callK, ok_cons, ok_nil, ok_args, ok_tru, ok_not, ok_and, ok_or, ok_eNot, ok_eAnd, ok_eOr, ok_if, ok_cmp, ok_chain, ok_ofC, ok_oNone, ok_oSome, ok_sl, ok_met, ok_rev, ok_items, ok_lenSet, ok_pairs0, ok_pairs, ok_dict, ok_iSeq, ok_rng1, ok_rng2, ok_comp, ok_comp0, ok_for, List.getElem?_cons_zero, List.getElem?_cons_succ, Option.some.injEq, Sl.val.injEq, exists_eq_left', List.nil_append, List.append_nil, List.length_cons, List.length_nil, true_and, and_true, and_self, Nat.zero_add, Nat.reduceAdd, Nat.reduceLeDiff, gAdd_i, gSub_i, gNeg_i, gBl_e, gCmpI_i, gLst_o, gTup_o, gN_e, List.set_cons_zero, List.set_cons_succ, truD_b, gIsN_n, isNonD, gLen_l, gInt_b, gInt_i, Option.map_some, Bool.false_eq_true, if_true, if_false, Bool.not_true, Bool.not_false, keyD, walkD, ok_sOwn, ok_sFz, ok_cBor, ok_eBor, ok_sPut, ok_xNil, ok_xVal, ok_xOwn, ok_zip, ok_enum, ok_star, ok_sortItems, ok_dict0, ok_ixO, ok_parX, ok_parX3, gIxA_l, gIxA_t, gEqA_i, gEqA_s, atI_0, atI_1, atI_2, atI_3, gCmpO_i, intO, seqOf, isFlat, ok_isX, ok_attr, ok_raise]
  refine ⟨_, rfl, _, rfl, (by show 4 ≤ sizeLine; decide), ?_⟩
  have ea : atI ((rangeD 0 21).map (isAt 0)) (0 : Int) = some (.bl true) := by kernel_rfl
  refine comp_map (fun d => match d with | .exc _ _ [x] => x | _ => .non) (fun d hd c => ?_) ?_
  · obtain ⟨t, rfl⟩ : ∃ t : Str, d = .exc "BadNumber" ["part"] [.str t] := by
      simp only [List.mem_cons, List.not_mem_nil, or_false] at hd
      rcases hd with rfl | rfl | rfl | rfl <;> exact ⟨_, rfl⟩
    refine ⟨[.val (.scr s), .val .chn, a2, .val v, a4, a5, .val (.exc "BadNumber" ["part"] [.str t]), a7, .val (.lst [.exc "BadNumber" ["part"] [.str "numbers"], .exc "BadNumber" ["part"] [.str "numbers"], .exc "BadNumber" ["part"] [.str "m"], .exc "BadNumber" ["part"] [.str "one"]]), a9], rfl, rfl, ?_⟩
    have ep : attrD "part" (.exc "BadNumber" ["part"] [.str t]) = some (.str t) := rfl
    apply eq_of_ok
    simp only [ok_seq, ok_asg, ok_par, ok_ret, ok_retN, ok_sNil, ok_sIf, ok_bin, ok_un, ok_var, ok_C, ok_call, ok_callK, ok_cons, ok_nil, ok_args, ok_tru, ok_not, ok_and, ok_or, ok_eNot, ok_eAnd, ok_eOr, ok_if, ok_cmp, ok_chain, ok_ofC, ok_oNone, ok_oSome, ok_sl, ok_met, ok_rev, ok_items, ok_lenSet, ok_pairs0, ok_pairs, ok_dict, ok_iSeq, ok_rng1, ok_rng2, ok_comp, ok_comp0, ok_for, List.getElem?_cons_zero, List.getElem?_cons_succ, Option.some.injEq, Sl.val.injEq, exists_eq_left', List.nil_append, List.append_nil, List.length_cons, List.length_nil, true_and, and_true, and_self, Nat.zero_add, Nat.reduceAdd, Nat.reduceLeDiff, gAdd_i, gSub_i, gNeg_i, gBl_e, gCmpI_i, gLst_o, gTup_o, gN_e, List.set_cons_zero, List.set_cons_succ, truD_b, gIsN_n, isNonD, gLen_l, gInt_b, gInt_i, Option.map_some, Bool.false_eq_true, if_true, if_false, Bool.not_true, Bool.not_false, keyD, walkD, ok_sOwn, ok_sFz, ok_cBor, ok_eBor, ok_sPut, ok_xNil, ok_xVal, ok_xOwn, ok_zip, ok_enum, ok_star, ok_sortItems, ok_dict0, ok_ixO, ok_parX, ok_parX3, gIxA_l, gIxA_t, gEqA_i, gEqA_s, atI_0, atI_1, atI_2, atI_3, gCmpO_i, intO, seqOf, isFlat, ok_isX, ok_attr, ok_raise, flags_bad, ok_ok, ea, ep]
  · exact ⟨_, by kernel_rfl, rfl⟩
end G
theorem PySem.Challenge.cw_claimduel_k00_errors_keep_their_fields_holds : PySem.Challenge.rw_claimduel_k00_errors_keep_their_fields.Holds :=
  G.holds_of G.law_true
