import PyProof.Rows.All
import HandS.ForMost
import HandS.Defaults
import HandS.IsInst
import HandS.Wide
import HandS.Flow
import HandS.Conv
import HandS.RaiseMore
import HandS.TupAny
import HandS.Style
import HandS.Text
import HandS.Deep
import HandS.StrMore
import HandS.ListItems
import PyProof.ReprRoads
import PyProof.RowDictHeap
import HandS.Strs
import HandS.SetKeys
import KE.SortData
import KE.DataCmp
import HandS.HeadHook2
import HandS.Head2
import HandS.Iter
import PySem.Challenge.RW_claimduel_k01_plain_values_and_settings
set_option Elab.async false
set_option linter.all false
set_option maxRecDepth 100000
set_option maxHeartbeats 4000000
/-! G1: values as trees (D), how they lie in the heap (Rl), the draws' state, the monad of what a def does (M), readings over it. -/
namespace G
open PySem PySem.Spec PyProof.Rows L2

/-- the draws' list, and the list of its cells -/
structure Dr where
  a : Addr
  cc : Addr
  ne : cc ≠ a
instance : Coe Dr Addr := ⟨Dr.a⟩
/-- a value as a tree -/
inductive D where
  | non | bl (b : Bool) | int (i : Int) | str (x : Str) | lst (xs : List D) | tup (xs : List D)
  | dic (ks : List Key) (vs : List D) | obj (a : Addr) | ty (n : String) | chn
instance : Inhabited D := ⟨.non⟩

/-- a tuple that is tracked, or an object of the module -/
def TupAt (K : PySem.W.Frag) (H : Hp) (a : Addr) (xs : List V) : Prop :=
  H a = some (.tup xs) ∨ ∃ (dd : Option Addr) (us : List Value) (n : Nat) (sl : Array (Option Value)), K.lookup a = some ⟨.type "tuple", dd, .seq us.toArray n, sl⟩ ∧ us.length ≤ sizeLine ∧ Vals xs us
theorem TupAt.of {K : PySem.W.Frag} {H : Hp} {a : Addr} {xs : List V} (h : H a = some (.tup xs)) : TupAt K H a xs := .inl h
theorem TupAt.s {K : PySem.W.Frag} {H : Hp} {a : Addr} {xs : List V} (h : TupAt K H a xs) : SqT K H a xs := by
  rcases h with h | ⟨dd, us, n, sl, e, l, r⟩
  · exact SqT.of h
  · exact .inr ⟨_, us.toArray, n, e, rfl, rfl, by simpa using l, by simpa using r⟩
mutual
/-- v lies in H as the tree d; Z: the addresses that may still change -/
inductive Rl (K : PySem.W.Frag) (ca : Dr) (Z : Addr → Prop) (H : Hp) : V → D → Prop
  | non : Rl K ca Z H .non .non
  | bl (b : Bool) : Rl K ca Z H (.bl b) (.bl b)
  | int (i : Int) : Rl K ca Z H (.int i) (.int i)
  | str (x : Str) : Rl K ca Z H (.str x) (.str x)
  | ty (n : String) : Rl K ca Z H (.ty n) (.ty n)
  | obj (a : Addr) : Rl K ca Z H (.ref a) (.obj a)
  | chn : Rl K ca Z H (.ref ca) .chn
  | lst {a : Addr} {vs : List V} {ds : List D} : ¬ Z a → H a = some (.lst vs) → RlA K ca Z H vs ds → Rl K ca Z H (.ref a) (.lst ds)
  | tup {a : Addr} {vs : List V} {ds : List D} : TupAt K H a vs → RlA K ca Z H vs ds → Rl K ca Z H (.ref a) (.tup ds)
  | dic {a : Addr} {kvs : List (Key × V)} {ds : List D} : ¬ Z a → H a = some (.dK kvs) → RlA K ca Z H (kvs.map (·.2)) ds → Rl K ca Z H (.ref a) (.dic (kvs.map (·.1)) ds)
inductive RlA (K : PySem.W.Frag) (ca : Dr) (Z : Addr → Prop) (H : Hp) : List V → List D → Prop
  | nil : RlA K ca Z H [] []
  | cons {v : V} {vs : List V} {d : D} {ds : List D} : Rl K ca Z H v d → RlA K ca Z H vs ds → RlA K ca Z H (v :: vs) (d :: ds)
end

def MuO : HO → Prop
  | .lst _ => True
  | .dK _ => True
  | _ => False
/-- all stays, but what changes at P is a list or a dict and remains one -/
def ExtP (P : Addr → Prop) (H H' : Hp) : Prop := ∀ b o, H b = some o → H' b = some o ∨ (P b ∧ MuO o ∧ ∃ o', H' b = some o' ∧ MuO o')
section
variable {P P1 P2 : Addr → Prop} {H H1 H2 H' : Hp}
theorem ExtP.refl : ExtP P H H := fun _ _ h => .inl h
theorem ExtP.of (h : ∀ b o, H b = some o → H' b = some o) : ExtP P H H' := fun b o e => .inl (h b o e)
theorem ExtP.new {p : Addr} {o : HO} (h : H p = none) : ExtP P H (upd H p o) := .of fun b x e => by rw [upd_ne (ne_of_none e h)]; exact e
theorem ExtP.trans (a : ExtP P H H1) (b : ExtP P H1 H2) : ExtP P H H2 := fun c o h => by
  rcases a c o h with h1 | ⟨p, m, o', h1, m1⟩
  · exact b c o h1
  · rcases b c o' h1 with h2 | ⟨_, _, o2, h2, m2⟩
    · exact .inr ⟨p, m, o', h2, m1⟩
    · exact .inr ⟨p, m, o2, h2, m2⟩
theorem ExtP.mono (a : ExtP P H H1) (h : ∀ b, P b → P1 b) : ExtP P1 H H1 := fun c o e => (a c o e).imp id fun ⟨p, r⟩ => ⟨h c p, r⟩
theorem ExtP.there (a : ExtP P H H1) {b : Addr} (h : H1 b = none) : H b = none := by
  cases e : H b with
  | none => rfl
  | some o =>
    rcases a b o e with h1 | ⟨_, _, o', h1, _⟩
    · rw [h] at h1; cases h1
    · rw [h] at h1; cases h1
theorem ExtP.at_ (a : ExtP P H H1) {b : Addr} {o : HO} (e : H b = some o) (h : ¬ P b ∨ ¬ MuO o) : H1 b = some o := by
  rcases a b o e with h1 | ⟨p, m, _⟩
  · exact h1
  · rcases h with h | h
    · exact absurd p h
    · exact absurd m h
theorem ExtP.tup (a : ExtP P H H1) {K : PySem.W.Frag} {b : Addr} {xs : List V} (h : TupAt K H b xs) : TupAt K H1 b xs := h.imp (fun h => a.at_ h (.inr id)) id
theorem ExtP.lstz (a : ExtP P H H1) {K : PySem.W.Frag} {b : Addr} {xs : List V} (hb : ¬ P b) (h : SqL K H b xs) : SqL K H1 b xs := by
  rcases h with (h | ⟨o, h⟩) | h
  · exact .inl (.inl (a.at_ h (.inl hb)))
  · exact .inl (.inr ⟨o, a.at_ h (.inr id)⟩)
  · exact .inr h
end
section
variable {K : PySem.W.Frag} {ca : Dr} {P Z Z' : Addr → Prop} {H H' : Hp}
mutual
theorem Rl.ext (e : ExtP P H H') (hz : ∀ b, P b → Z b) : ∀ {v : V} {d : D}, Rl K ca Z H v d → Rl K ca Z H' v d
  | _, _, .non => .non
  | _, _, .bl b => .bl b
  | _, _, .int i => .int i
  | _, _, .str x => .str x
  | _, _, .ty n => .ty n
  | _, _, .obj a => .obj a
  | _, _, .chn => .chn
  | _, _, .lst n h r => .lst n (e.at_ h (.inl fun p => n (hz _ p))) (RlA.ext e hz r)
  | _, _, .tup h r => .tup (e.tup h) (RlA.ext e hz r)
  | _, _, .dic n h r => .dic n (e.at_ h (.inl fun p => n (hz _ p))) (RlA.ext e hz r)
theorem RlA.ext (e : ExtP P H H') (hz : ∀ b, P b → Z b) : ∀ {vs : List V} {ds : List D}, RlA K ca Z H vs ds → RlA K ca Z H' vs ds
  | _, _, .nil => .nil
  | _, _, .cons h r => .cons (Rl.ext e hz h) (RlA.ext e hz r)
end
mutual
theorem Rl.anti (hz : ∀ b, Z' b → Z b) : ∀ {v : V} {d : D}, Rl K ca Z H v d → Rl K ca Z' H v d
  | _, _, .non => .non
  | _, _, .bl b => .bl b
  | _, _, .int i => .int i
  | _, _, .str x => .str x
  | _, _, .ty n => .ty n
  | _, _, .obj a => .obj a
  | _, _, .chn => .chn
  | _, _, .lst n h r => .lst (fun z => n (hz _ z)) h (RlA.anti hz r)
  | _, _, .tup h r => .tup h (RlA.anti hz r)
  | _, _, .dic n h r => .dic (fun z => n (hz _ z)) h (RlA.anti hz r)
theorem RlA.anti (hz : ∀ b, Z' b → Z b) : ∀ {vs : List V} {ds : List D}, RlA K ca Z H vs ds → RlA K ca Z' H vs ds
  | _, _, .nil => .nil
  | _, _, .cons h r => .cons (Rl.anti hz h) (RlA.anti hz r)
end
theorem RlA.length : ∀ {vs : List V} {ds : List D}, RlA K ca Z H vs ds → vs.length = ds.length
  | _, _, .nil => rfl
  | _, _, .cons _ r => congrArg Nat.succ (RlA.length r)
theorem RlA.append : ∀ {vs : List V} {ds : List D} {ws : List V} {es : List D}, RlA K ca Z H vs ds → RlA K ca Z H ws es → RlA K ca Z H (vs ++ ws) (ds ++ es)
  | _, _, _, _, .nil, s => s
  | _, _, _, _, .cons h r, s => .cons h (RlA.append r s)
theorem RlA.get : ∀ {vs : List V} {ds : List D} {i : Nat} {d : D}, RlA K ca Z H vs ds → ds[i]? = some d → ∃ v, vs[i]? = some v ∧ Rl K ca Z H v d
  | _, _, _, _, .nil, e => by simp at e
  | _, _, 0, _, .cons h _, e => by simp at e; subst e; exact ⟨_, rfl, h⟩
  | _, _, i + 1, _, .cons _ r, e => by
    obtain ⟨v, h1, h2⟩ := RlA.get (i := i) r (by simpa using e)
    exact ⟨v, by simpa using h1, h2⟩
theorem RlA.getV : ∀ {vs : List V} {ds : List D} {i : Nat} {v : V}, RlA K ca Z H vs ds → vs[i]? = some v → ∃ d, ds[i]? = some d ∧ Rl K ca Z H v d
  | _, _, _, _, .nil, e => by simp at e
  | _, _, 0, _, .cons h _, e => by simp at e; subst e; exact ⟨_, rfl, h⟩
  | _, _, i + 1, _, .cons _ r, e => by
    obtain ⟨v, h1, h2⟩ := RlA.getV (i := i) r (by simpa using e)
    exact ⟨v, by simpa using h1, h2⟩
theorem RlA.take : ∀ (n : Nat) {vs : List V} {ds : List D}, RlA K ca Z H vs ds → RlA K ca Z H (vs.take n) (ds.take n)
  | 0, _, _, _ => .nil
  | _ + 1, _, _, .nil => .nil
  | n + 1, _, _, .cons h r => .cons h (RlA.take n r)
theorem RlA.drop : ∀ (n : Nat) {vs : List V} {ds : List D}, RlA K ca Z H vs ds → RlA K ca Z H (vs.drop n) (ds.drop n)
  | 0, _, _, r => r
  | _ + 1, _, _, .nil => .nil
  | n + 1, _, _, .cons _ r => RlA.drop n r
theorem RlA.reverse {vs : List V} {ds : List D} (r : RlA K ca Z H vs ds) : RlA K ca Z H vs.reverse ds.reverse := by
  induction ds generalizing vs with
  | nil => cases r; exact .nil
  | cons d ds ih =>
    cases r with
    | cons h r => rw [List.reverse_cons, List.reverse_cons]; exact (ih r).append (.cons h .nil)
theorem RlA.snoc {vs : List V} {ds : List D} {v : V} {d : D} (r : RlA K ca Z H vs ds) (h : Rl K ca Z H v d) : RlA K ca Z H (vs ++ [v]) (ds ++ [d]) := r.append (.cons h .nil)
end

/-! ### the draws' state -/
structure Churn where
  cells : List Int
  at_ : Int
  left : Int
def ChOk (K : PySem.W.Frag) (ca : Dr) (H : Hp) (c : Churn) : Prop :=
  H ca = some (.lst [.ref ca.cc, .int c.at_, .int c.left]) ∧ H ca.cc = some (.lst (c.cells.map V.int))

/-! ### what a def does: draws, a value, an error, or stuck -/
structure Exn where
  cls : Str
  fs : List (Str × D)
inductive R (α : Type) where
  | ok (a : α) (c : Churn)
  | exn (x : Exn) (c : Churn)
  | stuck
def M (α : Type) : Type := Churn → R α
def M.pure {α : Type} (a : α) : M α := fun c => .ok a c
def M.bind {α β : Type} (m : M α) (f : α → M β) : M β := fun c => match m c with
  | .ok a c' => f a c'
  | .exn x c' => .exn x c'
  | .stuck => .stuck
instance : Monad M where
  pure := M.pure
  bind := M.bind
def stuck {α : Type} : M α := fun _ => .stuck
def raiseM {α : Type} (x : Exn) : M α := fun c => .exn x c
def liftO {α : Type} : Option α → M α
  | some a => M.pure a
  | none => stuck
def At {α : Type} (r : R α) (k : α → Churn → Prop) (e : Exn → Churn → Prop) : Prop := match r with
  | .ok a c => k a c
  | .exn x c => e x c
  | .stuck => False
theorem At.mono {α : Type} {r : R α} {k k' : α → Churn → Prop} {e e' : Exn → Churn → Prop} (h : At r k e) (hk : ∀ a c, k a c → k' a c) (he : ∀ x c, e x c → e' x c) : At r k' e' := by
  cases r with
  | ok a c => exact hk a c h
  | exn x c => exact he x c h
  | stuck => exact h
theorem At.bind {α β : Type} {m : M α} {f : α → M β} {c : Churn} {k : β → Churn → Prop} {e : Exn → Churn → Prop} : At ((m >>= f) c) k e ↔ At (m c) (fun a c1 => At (f a c1) k e) e := by
  show At (M.bind m f c) k e ↔ _
  unfold M.bind
  cases h : m c with
  | ok a c' => exact Iff.rfl
  | exn x c' => exact Iff.rfl
  | stuck => exact Iff.rfl

def XRel (K : PySem.W.Frag) (ca : Dr) (Z : Addr → Prop) (H : Hp) (x : Exn) (cv : Value) (od : Option Addr) : Prop :=
  cv = .ref (match PySem.W.nsIn K mainGlobals x.cls with | some (some (.ref a)) => a | _ => 0) ∧
    ∃ d fs, od = some d ∧ H d = some (.xd fs) ∧ fs.map (·.1) = x.fs.map (·.1) ∧ RlA K ca Z H (fs.map (·.2)) (x.fs.map (·.2))
def U (Z Y : Addr → Prop) : Addr → Prop := fun a => Z a ∨ Y a
/-- the one address that a call may change: the draws' list -/
abbrev Ext (ca : Dr) : Hp → Hp → Prop := ExtP (· = ca)
section
variable (K : PySem.W.Frag) (ca : Dr) (E : XK) (Z : Addr → Prop) (H : Hp)
def EOk (x : Exn) (c : Churn) : Prop := ∀ cv od H', Ext ca H H' → XRel K ca Z H' x cv od → ChOk K ca H' c → E cv od H'
def Do {α : Type} (r : R α) (k : α → Churn → Prop) : Prop := At r k (EOk K ca E Z H)
end
section
variable {K : PySem.W.Frag} {ca : Dr} {E : XK} {Z : Addr → Prop} {H H1 : Hp}
theorem EOk.ext (e : Ext ca H H1) {x : Exn} {c : Churn} (h : EOk K ca E Z H x c) : EOk K ca E Z H1 x c := fun cv od H' e' r co => h cv od H' (e.trans e') r co
theorem Do.mono {α : Type} {r : R α} {k k' : α → Churn → Prop} (h : Do K ca E Z H r k) (hk : ∀ a c, k a c → k' a c) : Do K ca E Z H r k' := At.mono h hk fun _ _ z => z
theorem Do.ext {α : Type} {r : R α} {k : α → Churn → Prop} (e : Ext ca H H1) (h : Do K ca E Z H r k) : Do K ca E Z H1 r k := At.mono h (fun _ _ z => z) fun _ _ z => z.ext e
theorem Do.bind {α β : Type} {m : M α} {f : α → M β} {c : Churn} {k : β → Churn → Prop} (h : Do K ca E Z H ((m >>= f) c) k) : Do K ca E Z H (m c) fun a c1 => Do K ca E Z H (f a c1) k := At.bind.mp h
theorem Do.lift {α : Type} {o : Option α} {c : Churn} {k : α → Churn → Prop} (h : Do K ca E Z H (liftO o c) k) : ∃ a, o = some a ∧ k a c := by
  cases o with
  | none => exact h.elim
  | some a => exact ⟨a, rfl, h⟩
end

/-! ### a frame -/
inductive Sl where
  | no | val (d : D) | own (ds : List D)
abbrev Ev := List Sl
/-- what may still change is tracked, the draws' list is among it -/
structure ZOk (ca : Dr) (Z : Addr → Prop) (H : Hp) : Prop where
  zca : Z ca
  zcc : ¬ Z ca.cc
  zin : ∀ b, Z b → ∃ o, H b = some o
theorem ExtP.thereS {P : Addr → Prop} {H H' : Hp} (x : ExtP P H H') {b : Addr} (h : ∃ o, H b = some o) : ∃ o, H' b = some o := by
  obtain ⟨o, h⟩ := h
  rcases x b o h with h1 | ⟨_, _, o', h1, _⟩
  · exact ⟨o, h1⟩
  · exact ⟨o', h1⟩
theorem ZOk.ext {ca : Dr} {Z P : Addr → Prop} {H H' : Hp} (z : ZOk ca Z H) (x : ExtP P H H') : ZOk ca Z H' := ⟨z.zca, z.zcc, fun b h => x.thereS (z.zin b h)⟩
theorem ZOk.free {ca : Dr} {Z : Addr → Prop} {H : Hp} (z : ZOk ca Z H) {p : Addr} (n : H p = none) : ¬ Z p := fun h => by
  obtain ⟨o, e⟩ := z.zin p h
  rw [n] at e; cases e
structure EnvOk (K : PySem.W.Frag) (ca : Dr) (Z Y : Addr → Prop) (H : Hp) (σ : L2.St) (ρ : Ev) : Prop where
  zok : ZOk ca (U Z Y) H
  zca : Z ca
  yca : ¬ Y ca
  len : σ.length = ρ.length
  val : ∀ (i : Nat) (d : D), ρ[i]? = some (.val d) → ∃ v, σ[i]? = some (some v) ∧ Rl K ca (U Z Y) H v d
  own : ∀ (i : Nat) (ds : List D), ρ[i]? = some (.own ds) → ∃ a vs, σ[i]? = some (some (.ref a)) ∧ Y a ∧ H a = some (.lst vs) ∧ RlA K ca (U Z Y) H vs ds
  inj : ∀ (i j : Nat) (a : Addr) (ds es : List D), ρ[i]? = some (.own ds) → ρ[j]? = some (.own es) → σ[i]? = some (some (.ref a)) → σ[j]? = some (some (.ref a)) → i = j
section
variable {K : PySem.W.Frag} {ca : Dr} {Z Y : Addr → Prop} {H H' : Hp} {σ : L2.St} {ρ : Ev}
theorem EnvOk.zc (e : EnvOk K ca Z Y H σ ρ) : ∀ b : Addr, b = ca → U Z Y b := fun b h => h ▸ .inl e.zca
theorem EnvOk.ext (e : EnvOk K ca Z Y H σ ρ) (x : Ext ca H H') : EnvOk K ca Z Y H' σ ρ where
  zok := e.zok.ext x
  zca := e.zca
  yca := e.yca
  len := e.len
  val := fun i d h => let ⟨v, h1, h2⟩ := e.val i d h; ⟨v, h1, h2.ext x e.zc⟩
  own := fun i ds h => let ⟨a, vs, h1, h2, h3, h4⟩ := e.own i ds h; ⟨a, vs, h1, h2, x.at_ h3 (.inl fun z => e.yca (z ▸ h2)), h4.ext x e.zc⟩
  inj := e.inj
end

/-! ### readings -/
section
variable (K : PySem.W.Frag) (ca : Dr) (E : XK)
/-- an expression does f -/
def tD (f : Ev → M D) : TE := fun σ H Q => ∃ Z Y ρ c, EnvOk K ca Z Y H σ ρ ∧ ChOk K ca H c ∧
  Do K ca E (U Z Y) H (f ρ c) fun d c' => ∀ v H', Ext ca H H' → Rl K ca (U Z Y) H' v d → ChOk K ca H' c' → Q v H'
def tT (f : Ev → M Bool) : TT := fun σ H Q => ∃ Z Y ρ c, EnvOk K ca Z Y H σ ρ ∧ ChOk K ca H c ∧
  Do K ca E (U Z Y) H (f ρ c) fun b c' => ∀ H', Ext ca H H' → ChOk K ca H' c' → Q b H'
def tAs (f : Ev → M (List D)) : TA := fun σ H Q => ∃ Z Y ρ c, EnvOk K ca Z Y H σ ρ ∧ ChOk K ca H c ∧
  Do K ca E (U Z Y) H (f ρ c) fun ds c' => ∀ vs H', Ext ca H H' → RlA K ca (U Z Y) H' vs ds → ChOk K ca H' c' → Q vs H'
end
/-- what a rule of values asks, for trees -/
def BinD (K : PySem.W.Frag) (ca : Dr) (r : R2) (g : D → D → Option D) : Prop := ∀ (Z : Addr → Prop) (H : Hp) (c : Churn) (x y : V) (d e d' : D) (Q : VK), ZOk ca Z H → ChOk K ca H c → Rl K ca Z H x d → Rl K ca Z H y e → g d e = some d' →
  (∀ v H', Ext ca H H' → Rl K ca Z H' v d' → ChOk K ca H' c → Q v H') → r x y H Q
def UnD (K : PySem.W.Frag) (ca : Dr) (r : V → Hp → VK → Prop) (g : D → Option D) : Prop := ∀ (Z : Addr → Prop) (H : Hp) (c : Churn) (x : V) (d d' : D) (Q : VK), ZOk ca Z H → ChOk K ca H c → Rl K ca Z H x d → g d = some d' →
  (∀ v H', Ext ca H H' → Rl K ca Z H' v d' → ChOk K ca H' c → Q v H') → r x H Q
def CalD (K : PySem.W.Frag) (ca : Dr) (r : List V → Hp → VK → Prop) (g : List D → Option D) : Prop := ∀ (Z : Addr → Prop) (H : Hp) (c : Churn) (xs : List V) (ds : List D) (d' : D) (Q : VK), ZOk ca Z H → ChOk K ca H c → RlA K ca Z H xs ds → g ds = some d' →
  (∀ v H', Ext ca H H' → Rl K ca Z H' v d' → ChOk K ca H' c → Q v H') → r xs H Q

/-! ### what expressions do -/
def eVar (i : Nat) : Ev → M D := fun ρ => match ρ[i]? with
  | some (.val d) => pure d
  | _ => stuck
def eC (d : D) : Ev → M D := fun _ => pure d
def eBin (g : D → D → Option D) (fa fb : Ev → M D) : Ev → M D := fun ρ => fa ρ >>= fun x => fb ρ >>= fun y => liftO (g x y)
def eUn (g : D → Option D) (fa : Ev → M D) : Ev → M D := fun ρ => fa ρ >>= fun x => liftO (g x)
def aNil : Ev → M (List D) := fun _ => pure []
def aCons (f : Ev → M D) (g : Ev → M (List D)) : Ev → M (List D) := fun ρ => f ρ >>= fun x => g ρ >>= fun xs => pure (x :: xs)
def eArgs (g : List D → Option D) (fs : Ev → M (List D)) : Ev → M D := fun ρ => fs ρ >>= fun xs => liftO (g xs)
def truD : D → Option Bool
  | .non => some false
  | .bl b => some b
  | .int i => some (i != 0)
  | .str y => if y.length ≤ sizeLine then some ((y.length : Int) != 0) else none
  | .lst xs => some !xs.isEmpty
  | .tup xs => some !xs.isEmpty
  | .dic ks _ => some !ks.isEmpty
  | _ => none
def cTru (f : Ev → M D) : Ev → M Bool := fun ρ => f ρ >>= fun x => liftO (truD x)
def cNot (f : Ev → M Bool) : Ev → M Bool := fun ρ => f ρ >>= fun b => pure !b
def cAnd (f g : Ev → M Bool) : Ev → M Bool := fun ρ => f ρ >>= fun b => if b = true then g ρ else pure false
def cOr (f g : Ev → M Bool) : Ev → M Bool := fun ρ => f ρ >>= fun b => if b = true then pure true else g ρ
def eNot (f : Ev → M D) : Ev → M D := fun ρ => f ρ >>= fun x => liftO (truD x) >>= fun b => pure (.bl !b)
def eAnd (f g : Ev → M D) : Ev → M D := fun ρ => f ρ >>= fun x => liftO (truD x) >>= fun b => if b = true then g ρ else pure x
def eOr (f g : Ev → M D) : Ev → M D := fun ρ => f ρ >>= fun x => liftO (truD x) >>= fun b => if b = true then pure x else g ρ
def eIf (c : Ev → M Bool) (f g : Ev → M D) : Ev → M D := fun ρ => c ρ >>= fun b => if b = true then f ρ else g ρ

section
variable {X : Cx} {ca : Dr} {E : XK} {a b : Expr} {pos : Pos} {fa fb : Ev → M D}
theorem d_var (i : Nat) {x : Str} (hN : X.N[i]? = some x := by rfl) (hv : Vis X.env.scope x := by first | exact Or.inl rfl | exact Or.inr (Or.inl rfl) | exact Or.inr (Or.inr rfl)) (hd : (x == ("__debug__" : Str)) = false := by decide)
    (hcd : (x == ("__classdict__" : Str)) = false := by decide) : PE X (.Name x pos) (tD X.K ca E (eVar i)) := by
  refine ⟨fun pins s σ H Q I h => (pe_var (i := i) hN hv hd hcd).run pins s σ H Q I ?_⟩
  obtain ⟨Z, Y, ρ, c, eo, co, h⟩ := h
  unfold eVar at h
  cases e : ρ[i]? with
  | none => rw [e] at h; exact h.elim
  | some s =>
    rw [e] at h
    cases s with
    | no => exact h.elim
    | own ds => exact h.elim
    | val d =>
      obtain ⟨v, h1, h2⟩ := eo.val i d e
      exact ⟨v, h1, h v H .refl h2 co⟩
theorem d_con {e : Expr} {v : V} {d : D} (hp : PE X e (tC v)) (hr : ∀ Z H, Rl X.K ca Z H v d) : PE X e (tD X.K ca E (eC d)) := by
  refine ⟨fun pins s σ H Q I h => hp.run pins s σ H Q I ?_⟩
  obtain ⟨Z, Y, ρ, c, eo, co, h⟩ := h
  exact h v H .refl (hr _ _) co
theorem d_int {i : Int} {j} : PE X (.Constant (.int i) j pos) (tD X.K ca E (eC (.int i))) := d_con pe_int fun _ _ => .int i
theorem d_bl {i : Bool} {j} : PE X (.Constant (.bool i) j pos) (tD X.K ca E (eC (.bl i))) := d_con pe_bl fun _ _ => .bl i
theorem d_non {j} : PE X (.Constant .none j pos) (tD X.K ca E (eC .non)) := d_con pe_non fun _ _ => .non
theorem d_str {i : Str} {j} : PE X (.Constant (.str i) j pos) (tD X.K ca E (eC (.str i))) := d_con pe_str fun _ _ => .str i

theorem bin_run {r : R2} {g : D → D → Option D} (hr : BinD X.K ca r g) {σ : L2.St} {H : Hp} {Q : VK} (h : tD X.K ca E (eBin g fa fb) σ H Q) : tOp r (tD X.K ca E fa) (tD X.K ca E fb) σ H Q := by
  obtain ⟨Z, Y, ρ, c, eo, co, h⟩ := h
  refine ⟨Z, Y, ρ, c, eo, co, (Do.bind h).mono fun d c1 h1 x H1 e1 r1 co1 => ?_⟩
  refine ⟨Z, Y, ρ, c1, eo.ext e1, co1, ((Do.bind h1).ext e1).mono fun d2 c2 h2 y H2 e2 r2 co2 => ?_⟩
  obtain ⟨d', hg, h3⟩ := Do.lift h2
  exact hr (U Z Y) H2 c2 x y d d2 d' Q (eo.zok.ext (e1.trans e2)) co2 (r1.ext e2 eo.zc) r2 hg fun v H' e' r' co' => h3 v H' ((e1.trans e2).trans e') r' co'
theorem d_bin {op : Operator} {r : R2} {g : D → D → Option D} (ho : OpR X (binaryOp op) r) (hr : BinD X.K ca r g) (ha : PE X a (tD X.K ca E fa)) (hb : PE X b (tD X.K ca E fb)) :
    PE X (.BinOp a op b pos) (tD X.K ca E (eBin g fa fb)) :=
  ⟨fun pins s σ H Q I h => (pe_op ho ha hb).run pins s σ H Q I (bin_run hr h)⟩
theorem d_cmp {op : CmpOp} {r : R2} {g : D → D → Option D} (ho : OpR X (compareOp op) r) (hr : BinD X.K ca r g) (ha : PE X a (tD X.K ca E fa)) (hb : PE X b (tD X.K ca E fb)) (hm : behindInMarks op b = false) :
    PE X (.Compare a [op] [b] pos) (tD X.K ca E (eBin g fa fb)) :=
  ⟨fun pins s σ H Q I h => (pe_cmpR ho ha hb hm).run pins s σ H Q I (bin_run hr h)⟩
theorem d_un {op : UnaryOp} {r : V → Hp → VK → Prop} {g : D → Option D} (ho : UnR X (unaryOp op) r) (hr : UnD X.K ca r g) (ha : PE X a (tD X.K ca E fa)) : PE X (.UnaryOp op a pos) (tD X.K ca E (eUn g fa)) := by
  refine ⟨fun pins s σ H Q I h => (pe_un ho ha).run pins s σ H Q I ?_⟩
  obtain ⟨Z, Y, ρ, c, eo, co, h⟩ := h
  refine ⟨Z, Y, ρ, c, eo, co, (Do.bind h).mono fun d c1 h1 x H1 e1 r1 co1 => ?_⟩
  obtain ⟨d', hg, h3⟩ := Do.lift h1
  exact hr (U Z Y) H1 c1 x d d' Q (eo.zok.ext e1) co1 r1 hg fun v H' e' r' co' => h3 v H' (e1.trans e') r' co'
/-! argument lists -/
theorem da_nil : PA X [] (tAs X.K ca E aNil) := by
  refine ⟨fun p pins s σ H Q I h => pa_nil.run p pins s σ H Q I ?_⟩
  obtain ⟨Z, Y, ρ, c, eo, co, h⟩ := h
  exact h [] H .refl .nil co
theorem da_cons {e : Expr} {es : List Expr} {f : Ev → M D} {g : Ev → M (List D)} (ha : PE X e (tD X.K ca E f)) (hr : PA X es (tAs X.K ca E g)) (hs : starEach (e :: es) X.env = (false, eval e X.env) :: starEach es X.env := by rfl) :
    PA X (e :: es) (tAs X.K ca E (aCons f g)) := by
  refine ⟨fun p pins s σ H Q I h => (pa_cons ha hr hs).run p pins s σ H Q I ?_⟩
  obtain ⟨Z, Y, ρ, c, eo, co, h⟩ := h
  refine ⟨Z, Y, ρ, c, eo, co, (Do.bind h).mono fun d c1 h1 x H1 e1 r1 co1 => ?_⟩
  refine ⟨Z, Y, ρ, c1, eo.ext e1, co1, ((Do.bind h1).ext e1).mono fun ds c2 h2 ys H2 e2 r2 co2 => ?_⟩
  exact h2 (x :: ys) H2 (e1.trans e2) (.cons (r1.ext e2 eo.zc) r2) co2
/-! displays -/
def gTup (xs : List D) : Option D := if xs.length ≤ sizeLine then some (.tup xs) else none
def gLst (xs : List D) : Option D := if xs.length ≤ sizeLine then some (.lst xs) else none
theorem ChOk.ne {K : PySem.W.Frag} {H : Hp} {c : Churn} (h : ChOk K ca H c) {p : Addr} (n : H p = none) : p ≠ ca := fun z => by
  obtain ⟨h1, _⟩ := h
  rw [← z, n] at h1; cases h1
theorem ChOk.ext {K : PySem.W.Frag} {H H' : Hp} {c : Churn} (h : ChOk K ca H c) (e : ∀ b o, H b = some o → H' b = some o) : ChOk K ca H' c := by
  obtain ⟨h1, h2⟩ := h
  exact ⟨e _ _ h1, e _ _ h2⟩
theorem upd_keeps {H : Hp} {p : Addr} {o : HO} (n : H p = none) : ∀ b x, H b = some x → upd H p o b = some x := fun b x e => by rw [upd_ne (ne_of_none e n)]; exact e
theorem ChOk.new {K : PySem.W.Frag} {H : Hp} {c : Churn} {p : Addr} {o : HO} (h : ChOk K ca H c) (n : H p = none) : ChOk K ca (upd H p o) c := h.ext (upd_keeps n)
end
end G

set_option Elab.async false
set_option linter.all false
set_option maxRecDepth 100000
set_option maxHeartbeats 4000000
/-! G2: tests, and | or | not | if, displays, calls of built-ins, subscripts, slices. -/
namespace G
open PySem PySem.Spec PyProof.Rows L2
section
variable {X : Cx} {ca : Dr} {E : XK} {a b e : Expr} {rest : List Expr} {es : List Expr} {pos : Pos} {fa fb f g : Ev → M D} {c1 c2 : Ev → M Bool} {fs : Ev → M (List D)}
theorem tru_of {K : PySem.W.Frag} {ca : Dr} {Z : Addr → Prop} {H : Hp} {v : V} {d : D} {k : Bool} (r : Rl K ca Z H v d) (h : truD d = some k) : TruV K v H k := by
  cases r with
  | non => exact (Option.some.inj h).symm
  | bl b => exact (Option.some.inj h).symm
  | int i => exact (Option.some.inj h).symm
  | str y =>
    have h : (if y.length ≤ sizeLine then some ((y.length : Int) != 0) else none) = some k := h
    by_cases hl : y.length ≤ sizeLine
    · rw [if_pos hl] at h
      exact ⟨hl, (Option.some.inj h).symm⟩
    · rw [if_neg hl] at h
      cases h
  | ty n => cases h
  | obj a => cases h
  | chn => cases h
  | lst n hH ra =>
    refine .inl ⟨_, SqL.of hH, ?_⟩
    have := ra.length
    rw [← Option.some.inj h]
    cases ra <;> rfl
  | tup hH ra =>
    refine .inr (.inl ⟨_, hH.s, ?_⟩)
    rw [← Option.some.inj h]
    cases ra <;> rfl
  | dic n hH ra =>
    refine .inr (.inr ⟨_, hH, ?_⟩)
    rw [← Option.some.inj h]
    simp
theorem dt_tru (ha : PE X e (tD X.K ca E f)) (he : ∀ whole, isTrue e X.env whole = (do let v ← whole; standAt e.pos; holding [v] (truthy v)) := by intro _; rfl) : PT X e (tT X.K ca E (cTru f)) := by
  refine ⟨fun pins s σ H Q I h => (pt_truth ha he).run pins s σ H Q I ?_⟩
  obtain ⟨Z, Y, ρ, c, eo, co, h⟩ := h
  refine ⟨Z, Y, ρ, c, eo, co, (Do.bind h).mono fun d c1 h1 x H1 e1 r1 co1 => ?_⟩
  obtain ⟨k, hk, h2⟩ := Do.lift h1
  exact ⟨k, tru_of r1 hk, h2 H1 e1 co1⟩
theorem dt_not (ha : PT X a (tT X.K ca E c1)) : PT X (.UnaryOp .Not a pos) (tT X.K ca E (cNot c1)) := by
  refine ⟨fun pins s σ H Q I h => (pt_not ha).run pins s σ H Q I ?_⟩
  obtain ⟨Z, Y, ρ, c, eo, co, h⟩ := h
  exact ⟨Z, Y, ρ, c, eo, co, (Do.bind h).mono fun k c1 h1 H1 e1 co1 => h1 H1 e1 co1⟩
theorem dw_and1 (ha : PT X a (tT X.K ca E c1)) : PW X (.BoolOp .And [a] pos) (tT X.K ca E c1) := pw_and1 ha
theorem dw_or1 (ha : PT X a (tT X.K ca E c1)) : PW X (.BoolOp .Or [a] pos) (tT X.K ca E c1) := pw_or1 ha
theorem dw_and (ha : PT X a (tT X.K ca E c1)) (hb : PW X (.BoolOp .And (b :: rest) pos) (tT X.K ca E c2)) : PW X (.BoolOp .And (a :: b :: rest) pos) (tT X.K ca E (cAnd c1 c2)) := by
  refine ⟨fun wh pins s σ H Q I h => (pw_and ha hb).run wh pins s σ H Q I ?_⟩
  obtain ⟨Z, Y, ρ, c, eo, co, h⟩ := h
  refine ⟨Z, Y, ρ, c, eo, co, (Do.bind h).mono fun k c1 h1 H1 e1 co1 => ?_⟩
  cases k with
  | false => exact iteF (h1 H1 e1 co1)
  | true => exact iteT ⟨Z, Y, ρ, c1, eo.ext e1, co1, (Do.ext e1 h1).mono fun k2 c2 h2 H2 e2 co2 => h2 H2 (e1.trans e2) co2⟩
theorem dw_or (ha : PT X a (tT X.K ca E c1)) (hb : PW X (.BoolOp .Or (b :: rest) pos) (tT X.K ca E c2)) : PW X (.BoolOp .Or (a :: b :: rest) pos) (tT X.K ca E (cOr c1 c2)) := by
  refine ⟨fun wh pins s σ H Q I h => (pw_or ha hb).run wh pins s σ H Q I ?_⟩
  obtain ⟨Z, Y, ρ, c, eo, co, h⟩ := h
  refine ⟨Z, Y, ρ, c, eo, co, (Do.bind h).mono fun k c1 h1 H1 e1 co1 => ?_⟩
  cases k with
  | true => exact iteT (h1 H1 e1 co1)
  | false => exact iteF ⟨Z, Y, ρ, c1, eo.ext e1, co1, (Do.ext e1 h1).mono fun k2 c2 h2 H2 e2 co2 => h2 H2 (e1.trans e2) co2⟩
theorem d_not (ha : PE X a (tD X.K ca E f)) : PE X (.UnaryOp .Not a pos) (tD X.K ca E (eNot f)) := by
  refine ⟨fun pins s σ H Q I h => (pe_notT ha).run pins s σ H Q I ?_⟩
  obtain ⟨Z, Y, ρ, c, eo, co, h⟩ := h
  refine ⟨Z, Y, ρ, c, eo, co, (Do.bind h).mono fun d c1 h1 x H1 e1 r1 co1 => ?_⟩
  obtain ⟨k, hk, h2⟩ := Do.lift (Do.bind h1)
  exact ⟨k, tru_of r1 hk, h2 _ H1 e1 (.bl _) co1⟩
theorem d_one {op} (ha : PE X a (tD X.K ca E f)) : PE X (.BoolOp op [a] pos) (tD X.K ca E f) := pe_one ha
theorem d_and (ha : PE X a (tD X.K ca E f)) (hb : PE X (.BoolOp .And (b :: rest) pos) (tD X.K ca E g)) : PE X (.BoolOp .And (a :: b :: rest) pos) (tD X.K ca E (eAnd f g)) := by
  refine ⟨fun pins s σ H Q I h => (pe_andT ha hb).run pins s σ H Q I ?_⟩
  obtain ⟨Z, Y, ρ, c, eo, co, h⟩ := h
  refine ⟨Z, Y, ρ, c, eo, co, (Do.bind h).mono fun d c1 h1 x H1 e1 r1 co1 => ?_⟩
  obtain ⟨k, hk, h2⟩ := Do.lift (Do.bind h1)
  refine ⟨k, tru_of r1 hk, ?_⟩
  cases k with
  | false => exact iteF (h2 x H1 e1 r1 co1)
  | true => exact iteT ⟨Z, Y, ρ, c1, eo.ext e1, co1, (Do.ext e1 h2).mono fun d2 c2 h3 y H2 e2 r2 co2 => h3 y H2 (e1.trans e2) r2 co2⟩
theorem d_or (ha : PE X a (tD X.K ca E f)) (hb : PE X (.BoolOp .Or (b :: rest) pos) (tD X.K ca E g)) : PE X (.BoolOp .Or (a :: b :: rest) pos) (tD X.K ca E (eOr f g)) := by
  refine ⟨fun pins s σ H Q I h => (pe_orT ha hb).run pins s σ H Q I ?_⟩
  obtain ⟨Z, Y, ρ, c, eo, co, h⟩ := h
  refine ⟨Z, Y, ρ, c, eo, co, (Do.bind h).mono fun d c1 h1 x H1 e1 r1 co1 => ?_⟩
  obtain ⟨k, hk, h2⟩ := Do.lift (Do.bind h1)
  refine ⟨k, tru_of r1 hk, ?_⟩
  cases k with
  | true => exact iteT (h2 x H1 e1 r1 co1)
  | false => exact iteF ⟨Z, Y, ρ, c1, eo.ext e1, co1, (Do.ext e1 h2).mono fun d2 c2 h3 y H2 e2 r2 co2 => h3 y H2 (e1.trans e2) r2 co2⟩
theorem d_if {t : Expr} (ht : PT X t (tT X.K ca E c1)) (ha : PE X a (tD X.K ca E f)) (hb : PE X b (tD X.K ca E g)) : PE X (.IfExp t a b pos) (tD X.K ca E (eIf c1 f g)) := by
  refine ⟨fun pins s σ H Q I h => (pe_ifExp ht ha hb).run pins s σ H Q I ?_⟩
  obtain ⟨Z, Y, ρ, c, eo, co, h⟩ := h
  refine ⟨Z, Y, ρ, c, eo, co, (Do.bind h).mono fun k c1 h1 H1 e1 co1 => ?_⟩
  cases k with
  | true => exact iteT ⟨Z, Y, ρ, c1, eo.ext e1, co1, (Do.ext e1 h1).mono fun d2 c2 h3 y H2 e2 r2 co2 => h3 y H2 (e1.trans e2) r2 co2⟩
  | false => exact iteF ⟨Z, Y, ρ, c1, eo.ext e1, co1, (Do.ext e1 h1).mono fun d2 c2 h3 y H2 e2 r2 co2 => h3 y H2 (e1.trans e2) r2 co2⟩

/-! comparisons that tell a bool -/
def BinB (K : PySem.W.Frag) (ca : Dr) (r : R2) (g : D → D → Option Bool) : Prop := ∀ (Z : Addr → Prop) (H : Hp) (c : Churn) (x y : V) (d e : D) (k : Bool) (Q : VK), ZOk ca Z H → ChOk K ca H c → Rl K ca Z H x d → Rl K ca Z H y e → g d e = some k →
  (∀ H', Ext ca H H' → ChOk K ca H' c → Q (.bl k) H') → r x y H Q
def gBl (g : D → D → Option Bool) : D → D → Option D := fun x y => (g x y).map D.bl
theorem BinB.d {r : R2} {g : D → D → Option Bool} (h : BinB X.K ca r g) : BinD X.K ca r (gBl g) := fun Z H c x y d e d' Q z co r1 r2 hg q => by
  unfold gBl at hg
  cases hk : g d e with
  | none => rw [hk] at hg; cases hg
  | some k =>
    rw [hk] at hg
    have e1 : D.bl k = d' := Option.some.inj hg
    subst e1
    exact h Z H c x y d e k Q z co r1 r2 hk fun H' e' co' => q (.bl k) H' e' (.bl k) co'
def cCmp (g : D → D → Option Bool) (fa fb : Ev → M D) : Ev → M Bool := fun ρ => fa ρ >>= fun x => fb ρ >>= fun y => liftO (g x y)
theorem dt_cmp {op : CmpOp} {r : R2} {g : D → D → Option Bool} (ho : OpR X (compareOp op) r) (hr : BinB X.K ca r g) (ha : PE X a (tD X.K ca E fa)) (hb : PE X b (tD X.K ca E fb)) (hm : behindInMarks op b = false) :
    PT X (.Compare a [op] [b] pos) (tT X.K ca E (cCmp g fa fb)) := by
  refine ⟨fun pins s σ H Q I h => (pt_cmpR ho ha hb hm).run pins s σ H Q I ?_⟩
  obtain ⟨Z, Y, ρ, c, eo, co, h⟩ := h
  refine ⟨Z, Y, ρ, c, eo, co, (Do.bind h).mono fun d c1 h1 x H1 e1 r1 co1 => ?_⟩
  refine ⟨Z, Y, ρ, c1, eo.ext e1, co1, ((Do.bind h1).ext e1).mono fun d2 c2 h2 y H2 e2 r2 co2 => ?_⟩
  obtain ⟨k, hk, h3⟩ := Do.lift h2
  exact hr (U Z Y) H2 c2 x y d d2 k _ (eo.zok.ext (e1.trans e2)) co2 (r1.ext e2 eo.zc) r2 hk fun H' e' co' => ⟨k, rfl, h3 H' ((e1.trans e2).trans e') co'⟩
/-- a op b op' c -/
def cChain (g g' : D → D → Option Bool) (fa fb fc : Ev → M D) : Ev → M Bool := fun ρ => fa ρ >>= fun x => fb ρ >>= fun y => liftO (g x y) >>= fun k => if k = true then (fc ρ >>= fun z => liftO (g' y z)) else pure false
theorem chain_run {r r' : R2} {g g' : D → D → Option Bool} (hr : BinB X.K ca r g) (hr' : BinB X.K ca r' g') {fc : Ev → M D} {σ : L2.St} {H : Hp} {Q : VK} (h : tT X.K ca E (cChain g g' fa fb fc) σ H fun k H' => Q (.bl k) H') :
    tChain r r' (tD X.K ca E fa) (tD X.K ca E fb) (tD X.K ca E fc) σ H Q := by
  obtain ⟨Z, Y, ρ, c, eo, co, h⟩ := h
  refine ⟨Z, Y, ρ, c, eo, co, (Do.bind h).mono fun d c1 h1 x H1 e1 r1 co1 => ?_⟩
  refine ⟨Z, Y, ρ, c1, eo.ext e1, co1, ((Do.bind h1).ext e1).mono fun d2 c2 h2 y H2 e2 r2 co2 => ?_⟩
  obtain ⟨k, hk, h3⟩ := Do.lift (Do.bind h2)
  refine hr (U Z Y) H2 c2 x y d d2 k _ (eo.zok.ext (e1.trans e2)) co2 (r1.ext e2 eo.zc) r2 hk fun H3 e3 co3 => ⟨k, rfl, ?_⟩
  cases k with
  | false => exact iteF (h3 H3 ((e1.trans e2).trans e3) co3)
  | true =>
    refine iteT ⟨Z, Y, ρ, c2, eo.ext ((e1.trans e2).trans e3), co3, (Do.ext ((e1.trans e2).trans e3) (Do.bind h3)).mono fun d3 c3 h4 z H4 e4 r4 co4 => ?_⟩
    obtain ⟨k2, hk2, h5⟩ := Do.lift h4
    exact hr' (U Z Y) H4 c3 y z d2 d3 k2 _ (eo.zok.ext (((e1.trans e2).trans e3).trans e4)) co4 (r2.ext (e3.trans e4) eo.zc) r4 hk2 fun H' e' co' => h5 H' ((((e1.trans e2).trans e3).trans e4).trans e') co'
theorem dt_chain {op op' : CmpOp} {r r' : R2} {g g' : D → D → Option Bool} {c' : Expr} {fc : Ev → M D} (ho : OpR X (compareOp op) r) (ho' : OpR X (compareOp op') r') (hr : BinB X.K ca r g) (hr' : BinB X.K ca r' g')
    (ha : PE X a (tD X.K ca E fa)) (hb : PE X b (tD X.K ca E fb)) (hc : PE X c' (tD X.K ca E fc)) (hm : lastMarks [op, op'] [b, c'] = false := by with_unfolding_all rfl) : PT X (.Compare a [op, op'] [b, c'] pos) (tT X.K ca E (cChain g g' fa fb fc)) := by
  refine ⟨fun pins s σ H Q I h => (pt_chain ho ho' ha hb hc hm).run pins s σ H Q I ?_⟩
  refine chain_run (Q := fun x H' => ∃ k, x = .bl k ∧ Q k H') hr hr' ?_
  obtain ⟨Z, Y, ρ, c, eo, co, h⟩ := h
  exact ⟨Z, Y, ρ, c, eo, co, h.mono fun k c1 h1 H1 e1 co1 => ⟨k, rfl, h1 H1 e1 co1⟩⟩
def eOfC (c : Ev → M Bool) : Ev → M D := fun ρ => c ρ >>= fun b => pure (.bl b)
theorem d_chain {op op' : CmpOp} {r r' : R2} {g g' : D → D → Option Bool} {c' : Expr} {fc : Ev → M D} (ho : OpR X (compareOp op) r) (ho' : OpR X (compareOp op') r') (hr : BinB X.K ca r g) (hr' : BinB X.K ca r' g')
    (ha : PE X a (tD X.K ca E fa)) (hb : PE X b (tD X.K ca E fb)) (hc : PE X c' (tD X.K ca E fc)) (hm : lastMarks [op, op'] [b, c'] = false := by with_unfolding_all rfl) : PE X (.Compare a [op, op'] [b, c'] pos) (tD X.K ca E (eOfC (cChain g g' fa fb fc))) := by
  refine ⟨fun pins s σ H Q I h => (pe_chain ho ho' ha hb hc hm).run pins s σ H Q I (chain_run hr hr' ?_)⟩
  obtain ⟨Z, Y, ρ, c, eo, co, h⟩ := h
  exact ⟨Z, Y, ρ, c, eo, co, (Do.bind h).mono fun k c1 h1 H1 e1 co1 => h1 (.bl k) H1 e1 (.bl k) co1⟩
/-! displays -/
theorem d_tup {x1} (ha : PA X es (tAs X.K ca E fs)) : PE X (.Tuple es x1 pos) (tD X.K ca E (eArgs gTup fs)) := by
  refine ⟨fun pins s σ H Q I h => (pe_tup ha).run pins s σ H Q I ?_⟩
  obtain ⟨Z, Y, ρ, c, eo, co, h⟩ := h
  refine ⟨Z, Y, ρ, c, eo, co, (Do.bind h).mono fun ds c1 h1 xs H1 e1 r1 co1 => ?_⟩
  obtain ⟨d', hg, h2⟩ := Do.lift h1
  unfold gTup at hg
  by_cases hl : ds.length ≤ sizeLine
  · rw [if_pos hl] at hg
    have e2 : D.tup ds = d' := Option.some.inj hg
    subst e2
    refine ⟨by rw [r1.length]; exact hl, fun p np => ?_⟩
    exact h2 (.ref p) _ (e1.trans (ExtP.new np)) (.tup (TupAt.of upd_same) (r1.ext (ExtP.new np) eo.zc)) (co1.new np)
  · rw [if_neg hl] at hg; cases hg
theorem d_lst (ha : PA X es (tAs X.K ca E fs)) : PE X (.List es pos) (tD X.K ca E (eArgs gLst fs)) := by
  refine ⟨fun pins s σ H Q I h => (pe_lst ha).run pins s σ H Q I ?_⟩
  obtain ⟨Z, Y, ρ, c, eo, co, h⟩ := h
  refine ⟨Z, Y, ρ, c, eo, co, (Do.bind h).mono fun ds c1 h1 xs H1 e1 r1 co1 => ?_⟩
  obtain ⟨d', hg, h2⟩ := Do.lift h1
  unfold gLst at hg
  by_cases hl : ds.length ≤ sizeLine
  · rw [if_pos hl] at hg
    have e2 : D.lst ds = d' := Option.some.inj hg
    subst e2
    refine ⟨by rw [r1.length]; exact hl, fun p np => ?_⟩
    exact h2 (.ref p) _ (e1.trans (ExtP.new np)) (.lst ((eo.zok.ext e1).free np) upd_same (r1.ext (ExtP.new np) eo.zc)) (co1.new np)
  · rw [if_neg hl] at hg; cases hg
/-! built-in functions and types, by name -/
variable {x : Str} {p : Pos} {id T : String} {r : List V → Hp → VK → Prop} {gl : List D → Option D}
theorem call_run (hr : CalD X.K ca r gl) {σ : L2.St} {H : Hp} {Q : VK} (h : tD X.K ca E (eArgs gl fs) σ H Q) : tCB r (tAs X.K ca E fs) σ H Q := by
  obtain ⟨Z, Y, ρ, c, eo, co, h⟩ := h
  refine ⟨Z, Y, ρ, c, eo, co, (Do.bind h).mono fun ds c1 h1 xs H1 e1 r1 co1 => ?_⟩
  obtain ⟨d', hg, h2⟩ := Do.lift h1
  exact hr (U Z Y) H1 c1 xs ds d' Q (eo.zok.ext e1) co1 r1 hg fun v H' e' r' co' => h2 v H' (e1.trans e') r' co'
theorem d_callB (hc : CallR X (.builtin id) r) (hr : CalD X.K ca r gl) (hm : X.mg x = none) (hv : bootBuiltins x = some (.builtin id)) (ha : PA X (e :: es) (tAs X.K ca E fs)) (hg : Gl X x := by rfl) (hn : x ≠ "__name__" := by decide) (hd : (x == ("__debug__" : Str)) = false := by decide)
    (he : starEach (e :: es) X.env = (false, eval e X.env) :: starEach es X.env := by rfl) (hpl : (backTo pos (starEach es X.env)).any (·.1) = false := by rfl) :
    PE X (.Call (.Name x p) (e :: es) [] pos) (tD X.K ca E (eArgs gl fs)) :=
  ⟨fun pins s σ H Q I h => (pe_callB hc hg hm hv ha hn hd he hpl).run pins s σ H Q I (call_run hr h)⟩
theorem d_callTy (hc : CallR X (.type T) r) (hr : CalD X.K ca r gl) (hm : X.mg x = none) (hv : bootBuiltins x = some (.type T)) (ha : PA X (e :: es) (tAs X.K ca E fs)) (hg : Gl X x := by rfl) (hn : x ≠ "__name__" := by decide) (hd : (x == ("__debug__" : Str)) = false := by decide)
    (he : starEach (e :: es) X.env = (false, eval e X.env) :: starEach es X.env := by rfl) (hpl : (backTo pos (starEach es X.env)).any (·.1) = false := by rfl) :
    PE X (.Call (.Name x p) (e :: es) [] pos) (tD X.K ca E (eArgs gl fs)) :=
  ⟨fun pins s σ H Q I h => (pe_callTy hc hg hm hv ha hn hd he hpl).run pins s σ H Q I (call_run hr h)⟩
/-! subscripts -/
theorem d_ix {r : R2} {g2 : D → D → Option D} (hi : IxR X r) (hr : BinD X.K ca r g2) (ha : PE X a (tD X.K ca E fa)) (hb : PE X b (tD X.K ca E fb)) (hs : PlainIx b := by exact fun _ _ => rfl) : PE X (.Subscript a b pos) (tD X.K ca E (eBin g2 fa fb)) :=
  ⟨fun pins s σ H Q I h => (pe_ix hi ha hb hs).run pins s σ H Q I (bin_run hr h)⟩
/-! slices -/
def SliD (K : PySem.W.Frag) (ca : Dr) (r : V → Option Int → Option Int → Hp → VK → Prop) (g : D → Option Int → Option Int → Option D) : Prop := ∀ (Z : Addr → Prop) (H : Hp) (c : Churn) (x : V) (d d' : D) (lo hi : Option Int) (Q : VK), ZOk ca Z H → ChOk K ca H c → Rl K ca Z H x d → g d lo hi = some d' →
  (∀ v H', Ext ca H H' → Rl K ca Z H' v d' → ChOk K ca H' c → Q v H') → r x lo hi H Q
def oNone : Ev → M (Option Int) := fun _ => pure none
def intO : D → Option Int
  | .int i => some i
  | _ => none
def oSome (f : Ev → M D) : Ev → M (Option Int) := fun ρ => f ρ >>= fun x => liftO (intO x) >>= fun i => pure (some i)
def tOp' (K : PySem.W.Frag) (ca : Dr) (E : XK) (f : Ev → M (Option Int)) : TO := fun σ H Q => ∃ Z Y ρ c, EnvOk K ca Z Y H σ ρ ∧ ChOk K ca H c ∧
  Do K ca E (U Z Y) H (f ρ c) fun o c' => ∀ H', Ext ca H H' → ChOk K ca H' c' → Q o H'
theorem do_none : PO X none (tOp' X.K ca E oNone) := by
  refine ⟨fun pins s σ H Q I h => po_none.run pins s σ H Q I ?_⟩
  obtain ⟨Z, Y, ρ, c, eo, co, h⟩ := h
  exact h H .refl co
theorem do_some (ha : PE X e (tD X.K ca E f)) : PO X (some e) (tOp' X.K ca E (oSome f)) := by
  refine ⟨fun pins s σ H Q I h => (po_some ha).run pins s σ H Q I ?_⟩
  obtain ⟨Z, Y, ρ, c, eo, co, h⟩ := h
  refine ⟨Z, Y, ρ, c, eo, co, (Do.bind h).mono fun d c1 h1 x H1 e1 r1 co1 => ?_⟩
  obtain ⟨i, hi, h2⟩ := Do.lift (Do.bind h1)
  cases r1 with
  | int j =>
    have e2 : j = i := Option.some.inj hi
    subst e2
    exact ⟨j, rfl, h2 H1 e1 co1⟩
  | _ => cases hi
def eSl (g : D → Option Int → Option Int → Option D) (f : Ev → M D) (l u : Ev → M (Option Int)) : Ev → M D := fun ρ => f ρ >>= fun x => l ρ >>= fun i => u ρ >>= fun j => liftO (g x i j)
theorem d_slice {r : V → Option Int → Option Int → Hp → VK → Prop} {g3 : D → Option Int → Option Int → Option D} {lo hi : Option Expr} {p2 : Pos} {l u : Ev → M (Option Int)} (hs : SlR X r) (hr : SliD X.K ca r g3) (ha : PE X a (tD X.K ca E fa)) (hl : PO X lo (tOp' X.K ca E l)) (hu : PO X hi (tOp' X.K ca E u)) :
    PE X (.Subscript a (.Slice lo hi none p2) pos) (tD X.K ca E (eSl g3 fa l u)) := by
  refine ⟨fun pins s σ H Q I h => (pe_slice hs ha hl hu).run pins s σ H Q I ?_⟩
  obtain ⟨Z, Y, ρ, c, eo, co, h⟩ := h
  refine ⟨Z, Y, ρ, c, eo, co, (Do.bind h).mono fun d c1 h1 x H1 e1 r1 co1 => ?_⟩
  refine ⟨Z, Y, ρ, c1, eo.ext e1, co1, ((Do.bind h1).ext e1).mono fun i c2 h2 H2 e2 co2 => ?_⟩
  refine ⟨Z, Y, ρ, c2, eo.ext (e1.trans e2), co2, ((Do.bind h2).ext (e1.trans e2)).mono fun j c3 h3 H3 e3 co3 => ?_⟩
  obtain ⟨d', hg, h4⟩ := Do.lift h3
  exact hr (U Z Y) H3 c3 x d d' i j Q (eo.zok.ext ((e1.trans e2).trans e3)) co3 (r1.ext (e2.trans e3) eo.zc) hg fun v H' e' r' co' => h4 v H' (((e1.trans e2).trans e3).trans e') r' co'
/-! methods of built-in types -/
def MetD (K : PySem.W.Frag) (ca : Dr) (T : String) (r : V → List V → Hp → VK → Prop) (g : D → List D → Option D) : Prop := ∀ (Z : Addr → Prop) (H : Hp) (c : Churn) (x : V) (xs : List V) (d d' : D) (ds : List D) (Q : VK), ZOk ca Z H → ChOk K ca H c → Rl K ca Z H x d → RlA K ca Z H xs ds → g d ds = some d' →
  (∀ v H', Ext ca H H' → Rl K ca Z H' v d' → ChOk K ca H' c → Q v H') → r x xs H Q
def tyD : String → D → Bool
  | "str", .str _ => true
  | "list", .lst _ => true
  | "dict", .dic _ _ => true
  | _, _ => false
theorem tyD_ok {T : String} {K : PySem.W.Frag} {ca : Dr} {Z : Addr → Prop} {H : Hp} {x : V} {d : D} (r : Rl K ca Z H x d) (h : tyD T d = true) : tyV K T x H := by
  unfold tyD at h
  split at h
  · cases r; rfl
  · cases r with | lst n hH ra => exact .inl ⟨rfl, _, SqL.of hH⟩
  · cases r with | dic n hH ra => exact .inr (.inr (.inl ⟨rfl, .inl ⟨_, hH⟩⟩))
  · cases h
def eMet (T : String) (g : D → List D → Option D) (fo : Ev → M D) (fs : Ev → M (List D)) : Ev → M D := fun ρ => fo ρ >>= fun x => liftO (if tyD T x = true then some () else none) >>= fun _ => fs ρ >>= fun xs => liftO (g x xs)
section
variable {name : Str} {apos cpos : Pos} {rm : V → List V → Hp → VK → Prop} {gm : D → List D → Option D} {o : Expr}
theorem d_bm (pa : PlainAttrs T) (slot : Slot T name id) (hty : typeOf (.builtin id) = pure (.type "method_descriptor")) (hm : MtR X id rm) (hr : MetD X.K ca T rm gm) (ho : PE X o (tD X.K ca E fa)) (ha : PA X (e :: es) (tAs X.K ca E fs))
    (hbase : attributeBase o name X.env (eval o X.env) = eval o X.env := by rfl)
    (hfew : ((backTo cpos (starEach (e :: es) X.env)).all (fun x => !x.1) && (backToKw cpos (keywordEach [] X.env)).all (fun x => x.1.isSome)
      && decide ((e :: es).length + ([] : List Keyword).length + (if ([] : List Keyword).isEmpty then 0 else 1) < 30)) = true := by rfl)
    (hline : (apos.endLine == cpos.line) = true := by rfl) (hst : starEach (e :: es) X.env = (false, eval e X.env) :: starEach es X.env := by rfl) (hpl : (backTo cpos (starEach es X.env)).any (·.1) = false := by rfl) :
    PE X (.Call (.Attribute o name apos) (e :: es) [] cpos) (tD X.K ca E (eMet T gm fa fs)) := by
  refine ⟨fun pins s σ H Q I h => (pe_bm pa slot hty hm ho ha hbase hfew hline hst hpl).run pins s σ H Q I ?_⟩
  obtain ⟨Z, Y, ρ, c, eo, co, h⟩ := h
  refine ⟨Z, Y, ρ, c, eo, co, (Do.bind h).mono fun d c1 h1 x H1 e1 r1 co1 => ?_⟩
  obtain ⟨_, hk, h2⟩ := Do.lift (Do.bind h1)
  have ty : tyD T d = true := by
    by_cases z : tyD T d = true
    · exact z
    · rw [if_neg z] at hk; cases hk
  refine ⟨tyD_ok r1 ty, Z, Y, ρ, c1, eo.ext e1, co1, ((Do.bind h2).ext e1).mono fun ds c2 h3 ys H2 e2 r2 co2 => ?_⟩
  obtain ⟨d', hg, h4⟩ := Do.lift h3
  exact hr (U Z Y) H2 c2 x ys d d' ds Q (eo.zok.ext (e1.trans e2)) co2 (r1.ext e2 eo.zc) r2 hg fun v H' e' r' co' => h4 v H' ((e1.trans e2).trans e') r' co'
end
end
end G

set_option Elab.async false
set_option linter.all false
set_option maxRecDepth 100000
set_option maxHeartbeats 4000000
/-! G3: statements, targets, loops, comprehensions, the calls of defs. -/
namespace G
open PySem PySem.Spec PyProof.Rows L2
inductive Ctl where
  | nx | bk | ct | ret (d : D)
abbrev Sm := Ev → M (Ev × Ctl)
structure Step (ca : Dr) (Y : Addr → Prop) (H : Hp) (Y' : Addr → Prop) (H' : Hp) : Prop where
  ext : ExtP (fun b => b = ca ∨ Y b) H H'
  own : ∀ b, Y' b → Y b ∨ H b = none
section
variable {ca : Dr} {Y Y1 Y2 : Addr → Prop} {H H1 H2 : Hp}
theorem Step.refl : Step ca Y H Y H := ⟨.refl, fun _ h => .inl h⟩
theorem Step.of (e : Ext ca H H1) : Step ca Y H Y H1 := ⟨e.mono fun _ => .inl, fun _ h => .inl h⟩
theorem Step.trans (a : Step ca Y H Y1 H1) (b : Step ca Y1 H1 Y2 H2) : Step ca Y H Y2 H2 where
  ext := fun c o h => by
    have keep : (c = ca ∨ Y1 c) → (c = ca ∨ Y c) := fun z => z.imp id fun y => (a.own c y).resolve_right fun n => by rw [h] at n; cases n
    rcases a.ext c o h with h1 | ⟨p, m, o', h1, m1⟩
    · rcases b.ext c o h1 with h2 | ⟨p2, m2, o2, h2, m3⟩
      · exact .inl h2
      · exact .inr ⟨keep p2, m2, o2, h2, m3⟩
    · rcases b.ext c o' h1 with h2 | ⟨p2, m2, o2, h2, m3⟩
      · exact .inr ⟨p, m, o', h2, m1⟩
      · exact .inr ⟨p, m, o2, h2, m3⟩
  own := fun c y => by
    rcases b.own c y with h | h
    · exact a.own c h
    · exact .inr (a.ext.there h)
end
/-- fewer places are free where a tree lies -/
theorem Rl.grow_aux {K : PySem.W.Frag} {ca : Dr} {Z Z' : Addr → Prop} {H : Hp} (hz : ∀ b, Z' b → Z b ∨ H b = none) : (∀ {v : V} {d : D}, Rl K ca Z H v d → Rl K ca Z' H v d) ∧ ∀ {vs : List V} {ds : List D}, RlA K ca Z H vs ds → RlA K ca Z' H vs ds := by
  have n : ∀ {a : Addr} {o : HO}, H a = some o → ¬ Z a → ¬ Z' a := fun e h z => (hz _ z).elim h fun q => by rw [e] at q; cases q
  constructor
  · intro v d h
    induction h using Rl.rec (motive_2 := fun vs ds _ => RlA K ca Z' H vs ds) with
    | non => exact .non
    | bl b => exact .bl b
    | int i => exact .int i
    | str x => exact .str x
    | ty n => exact .ty n
    | obj a => exact .obj a
    | chn => exact .chn
    | lst h1 h2 _ ih => exact .lst (n h2 h1) h2 ih
    | tup h1 _ ih => exact .tup h1 ih
    | dic h1 h2 _ ih => exact .dic (n h2 h1) h2 ih
    | nil => exact .nil
    | cons _ _ ih1 ih2 => exact .cons ih1 ih2
  · intro vs ds h
    induction h using RlA.rec (motive_1 := fun v d _ => Rl K ca Z' H v d) with
    | non => exact .non
    | bl b => exact .bl b
    | int i => exact .int i
    | str x => exact .str x
    | ty n => exact .ty n
    | obj a => exact .obj a
    | chn => exact .chn
    | lst h1 h2 _ ih => exact .lst (n h2 h1) h2 ih
    | tup h1 _ ih => exact .tup h1 ih
    | dic h1 h2 _ ih => exact .dic (n h2 h1) h2 ih
    | nil => exact .nil
    | cons _ _ ih1 ih2 => exact .cons ih1 ih2
theorem Rl.grow {K : PySem.W.Frag} {ca : Dr} {Z Z' : Addr → Prop} {H : Hp} (hz : ∀ b, Z' b → Z b ∨ H b = none) {v : V} {d : D} (h : Rl K ca Z H v d) : Rl K ca Z' H v d := (Rl.grow_aux hz).1 h
theorem RlA.grow {K : PySem.W.Frag} {ca : Dr} {Z Z' : Addr → Prop} {H : Hp} (hz : ∀ b, Z' b → Z b ∨ H b = none) {vs : List V} {ds : List D} (h : RlA K ca Z H vs ds) : RlA K ca Z' H vs ds := (Rl.grow_aux hz).2 h

section
variable (K : PySem.W.Frag) (ca : Dr) (E : XK)
def EOkS (Z Y : Addr → Prop) (H : Hp) (x : Exn) (c : Churn) : Prop := ∀ Y' cv od H', Step ca Y H Y' H' → XRel K ca (U Z Y') H' x cv od → ChOk K ca H' c → E cv od H'
def Fin (Z : Addr → Prop) (Dn : Ends) (Y : Addr → Prop) (H : Hp) (p : Ev × Ctl) (c : Churn) : Prop :=
  ∀ Y' σ' H', Step ca Y H Y' H' → EnvOk K ca Z Y' H' σ' p.1 → ChOk K ca H' c → match p.2 with
    | .nx => Dn.nx σ' H'
    | .bk => Dn.bk σ' H'
    | .ct => Dn.ct σ' H'
    | .ret d => ∀ v, Rl K ca (U Z Y') H' v d → Dn.rt v H'
def DoS (Z : Addr → Prop) (Dn : Ends) (Y : Addr → Prop) (H : Hp) (r : R (Ev × Ctl)) : Prop := At r (Fin K ca Z Dn Y H) (EOkS K ca E Z Y H)
/-- a statement does g -/
def tS (g : Sm) : TS := fun Dn σ H => ∃ Z Y ρ c, EnvOk K ca Z Y H σ ρ ∧ ChOk K ca H c ∧ DoS K ca E Z Dn Y H (g ρ c)
end
section
variable {K : PySem.W.Frag} {ca : Dr} {E : XK} {Z Y Y1 : Addr → Prop} {Dn : Ends} {H H1 : Hp} {σ : L2.St} {ρ : Ev}
theorem EOkS.step (e : Step ca Y H Y1 H1) {x : Exn} {c : Churn} (h : EOkS K ca E Z Y H x c) : EOkS K ca E Z Y1 H1 x c := fun Y' cv od H' e' r co => h Y' cv od H' (e.trans e') r co
theorem EOkS.e (e : Ext ca H H1) {x : Exn} {c : Churn} (h : EOkS K ca E Z Y H x c) : EOk K ca E (U Z Y) H1 x c := fun cv od H' e' r co => h Y cv od H' (.of (e.trans e')) r co
theorem Fin.step (e : Step ca Y H Y1 H1) {p : Ev × Ctl} {c : Churn} (h : Fin K ca Z Dn Y H p c) : Fin K ca Z Dn Y1 H1 p c := fun Y' σ' H' e' eo co => h Y' σ' H' (e.trans e') eo co
theorem DoS.step (e : Step ca Y H Y1 H1) {r : R (Ev × Ctl)} (h : DoS K ca E Z Dn Y H r) : DoS K ca E Z Dn Y1 H1 r := At.mono h (fun _ _ z => z.step e) fun _ _ z => z.step e
/-- an expression at the head of a statement -/
theorem DoS.expr {α : Type} {m : M α} {f : α → M (Ev × Ctl)} {c : Churn} (h : DoS K ca E Z Dn Y H ((m >>= f) c)) : Do K ca E (U Z Y) H (m c) fun a c1 => DoS K ca E Z Dn Y H (f a c1) :=
  At.mono (At.bind.mp h) (fun _ _ z => z) fun _ _ z => z.e .refl
theorem EnvOk.set (e : EnvOk K ca Z Y H σ ρ) (i : Nat) {v : V} {d : D} (r : Rl K ca (U Z Y) H v d) : EnvOk K ca Z Y H (σ.set i (some v)) (ρ.set i (.val d)) where
  zok := e.zok
  zca := e.zca
  yca := e.yca
  len := by rw [List.length_set, List.length_set, e.len]
  val := fun j d' h => by
    rw [List.getElem?_set] at h ⊢
    by_cases hj : i = j
    · subst hj
      rw [if_pos rfl] at h ⊢
      by_cases hl : i < ρ.length
      · rw [if_pos hl] at h
        rw [if_pos (e.len ▸ hl)]
        cases h
        exact ⟨v, rfl, r⟩
      · rw [if_neg hl] at h; cases h
    · rw [if_neg hj] at h ⊢
      exact e.val j d' h
  own := fun j ds h => by
    rw [List.getElem?_set] at h ⊢
    by_cases hj : i = j
    · subst hj
      rw [if_pos rfl] at h
      by_cases hl : i < ρ.length
      · rw [if_pos hl] at h; cases h
      · rw [if_neg hl] at h; cases h
    · rw [if_neg hj] at h ⊢
      exact e.own j ds h
  inj := fun j k a ds es h1 h2 h3 h4 => by
    have ne : ∀ {j : Nat} {ds : List D}, (ρ.set i (.val d))[j]? = some (.own ds) → i ≠ j := fun {j ds} h z => by
      subst z
      rw [List.getElem?_set, if_pos rfl] at h
      split at h <;> cases h
    have n1 := ne h1
    have n2 := ne h2
    rw [List.getElem?_set, if_neg n1] at h1 h3
    rw [List.getElem?_set, if_neg n2] at h2 h4
    exact e.inj j k a ds es h1 h2 h3 h4
/-- a slot forgotten -/
theorem EnvOk.forget (e : EnvOk K ca Z Y H σ ρ) (i : Nat) : EnvOk K ca Z Y H (σ.set i none) (ρ.set i .no) where
  zok := e.zok
  zca := e.zca
  yca := e.yca
  len := by rw [List.length_set, List.length_set, e.len]
  val := fun j d' h => by
    rw [List.getElem?_set] at h ⊢
    by_cases hj : i = j
    · subst hj
      rw [if_pos rfl] at h
      split at h <;> cases h
    · rw [if_neg hj] at h ⊢
      exact e.val j d' h
  own := fun j ds h => by
    rw [List.getElem?_set] at h ⊢
    by_cases hj : i = j
    · subst hj
      rw [if_pos rfl] at h
      split at h <;> cases h
    · rw [if_neg hj] at h ⊢
      exact e.own j ds h
  inj := fun j k a ds es h1 h2 h3 h4 => by
    have ne : ∀ {j : Nat} {ds : List D}, (ρ.set i .no)[j]? = some (.own ds) → i ≠ j := fun {j ds} h z => by
      subst z
      rw [List.getElem?_set, if_pos rfl] at h
      split at h <;> cases h
    have n1 := ne h1
    have n2 := ne h2
    rw [List.getElem?_set, if_neg n1] at h1 h3
    rw [List.getElem?_set, if_neg n2] at h2 h4
    exact e.inj j k a ds es h1 h2 h3 h4
end

/-! ### small statements -/
def sSeq (a b : Sm) : Sm := fun ρ => a ρ >>= fun p => match p.2 with
  | .nx => b p.1
  | _ => pure p
def sNil : Sm := fun ρ => pure (ρ, .nx)
def sRet (f : Ev → M D) : Sm := fun ρ => f ρ >>= fun d => pure (ρ, .ret d)
def sRetN : Sm := fun ρ => pure (ρ, .ret .non)
def sIf (c : Ev → M Bool) (a b : Sm) : Sm := fun ρ => c ρ >>= fun k => if k = true then a ρ else b ρ
def sExpr (f : Ev → M D) : Sm := fun ρ => f ρ >>= fun _ => pure (ρ, .nx)
def sBrk : Sm := fun ρ => pure (ρ, .bk)
def sCnt : Sm := fun ρ => pure (ρ, .ct)
def sNever : Sm := fun _ => stuck
abbrev Tg := D → Ev → Option Ev
def gN (i : Nat) : Tg := fun d ρ => some (ρ.set i (.val d))
def gNs : List Tg → List D → Ev → Option Ev
  | [], [], ρ => some ρ
  | t :: ts, d :: ds, ρ => (t d ρ).bind fun ρ' => gNs ts ds ρ'
  | _, _, _ => none
def gT (ts : List Tg) : Tg := fun d ρ => match d with
  | .tup ds => gNs ts ds ρ
  | _ => none
def sAsg (t : Tg) (f : Ev → M D) : Sm := fun ρ => f ρ >>= fun d => liftO (t d ρ) >>= fun ρ' => pure (ρ', .nx)
section
variable {X : Cx} {ca : Dr} {E : XK} {e : Expr} {st : Stmt} {rest : List Stmt} {pos : Pos} {f : Ev → M D} {a b g : Sm} {c : Ev → M Bool}
theorem ss_nil : PSs X [] (tS X.K ca E sNil) := by
  refine ⟨fun pins s σ H Dn I h => pss_nil.run pins s σ H Dn I ?_⟩
  obtain ⟨Z, Y, ρ, c, eo, co, h⟩ := h
  exact h Y σ H .refl eo co
theorem ss_one (h : PS X st (tS X.K ca E a)) : PSs X [st] (tS X.K ca E a) := pss_one h
theorem ss_cons (h1 : PS X st (tS X.K ca E a)) (h2 : PSs X rest (tS X.K ca E b)) : PSs X (st :: rest) (tS X.K ca E (sSeq a b)) := by
  refine ⟨fun pins s σ H Dn I h => (pss_cons h1 h2).run pins s σ H Dn I ?_⟩
  obtain ⟨Z, Y, ρ, c, eo, co, h⟩ := h
  refine ⟨Z, Y, ρ, c, eo, co, At.mono (At.bind.mp h) (fun p c1 h1 => ?_) fun _ _ z => z⟩
  intro Y' σ' H' st' eo' co'
  obtain ⟨ρ1, ctl⟩ := p
  cases ctl with
  | nx => exact ⟨Z, Y', ρ1, c1, eo', co', DoS.step st' h1⟩
  | bk => exact h1 Y' σ' H' st' eo' co'
  | ct => exact h1 Y' σ' H' st' eo' co'
  | ret d => exact h1 Y' σ' H' st' eo' co'
theorem s_pass : PS X (.Pass pos) (tS X.K ca E sNil) := by
  refine ⟨fun pins s σ H Dn I h => ps_pass.run pins s σ H Dn I ?_⟩
  obtain ⟨Z, Y, ρ, c, eo, co, h⟩ := h
  exact h Y σ H .refl eo co
theorem s_brk : PS X (.Break pos) (tS X.K ca E sBrk) := by
  refine ⟨fun pins s σ H Dn I h => ps_break.run pins s σ H Dn I ?_⟩
  obtain ⟨Z, Y, ρ, c, eo, co, h⟩ := h
  exact h Y σ H .refl eo co
theorem s_cnt : PS X (.Continue pos) (tS X.K ca E sCnt) := by
  refine ⟨fun pins s σ H Dn I h => ps_continue.run pins s σ H Dn I ?_⟩
  obtain ⟨Z, Y, ρ, c, eo, co, h⟩ := h
  exact h Y σ H .refl eo co
theorem s_never : PS X st (tS X.K ca E sNever) := by
  refine ⟨fun pins s σ H Dn I h => ?_⟩
  obtain ⟨Z, Y, ρ, c, eo, co, h⟩ := h
  exact h.elim
theorem s_ret (he : PE X e (tD X.K ca E f)) : PS X (.Return (some e) pos) (tS X.K ca E (sRet f)) := by
  refine ⟨fun pins s σ H Dn I h => (ps_ret he).run pins s σ H Dn I ?_⟩
  obtain ⟨Z, Y, ρ, c, eo, co, h⟩ := h
  exact ⟨Z, Y, ρ, c, eo, co, (DoS.expr h).mono fun d c1 h1 v H1 e1 r1 co1 => h1 Y σ H1 (.of e1) (eo.ext e1) co1 v r1⟩
theorem s_retN : PS X (.Return none pos) (tS X.K ca E sRetN) := by
  refine ⟨fun pins s σ H Dn I h => ps_retN.run pins s σ H Dn I ?_⟩
  obtain ⟨Z, Y, ρ, c, eo, co, h⟩ := h
  exact h Y σ H .refl eo co .non .non
theorem s_expr (he : PE X e (tD X.K ca E f)) (hs : swapsWith e none pos.line X.env = pure false := by rfl) : PS X (.Expr e pos) (tS X.K ca E (sExpr f)) := by
  refine ⟨fun pins s σ H Dn I h => (ps_expr he hs).run pins s σ H Dn I ?_⟩
  obtain ⟨Z, Y, ρ, c, eo, co, h⟩ := h
  exact ⟨Z, Y, ρ, c, eo, co, (DoS.expr h).mono fun d c1 h1 v H1 e1 r1 co1 => h1 Y σ H1 (.of e1) (eo.ext e1) co1⟩
theorem s_if {t : Expr} {p q : List Stmt} (hc : PT X t (tT X.K ca E c)) (ha : PSs X p (tS X.K ca E a)) (hb : PSs X q (tS X.K ca E b)) : PS X (.If t p q pos) (tS X.K ca E (sIf c a b)) := by
  refine ⟨fun pins s σ H Dn I h => (ps_if hc ha hb).run pins s σ H Dn I ?_⟩
  obtain ⟨Z, Y, ρ, c, eo, co, h⟩ := h
  refine ⟨Z, Y, ρ, c, eo, co, (DoS.expr h).mono fun k c1 h1 H1 e1 co1 => ?_⟩
  cases k with
  | true => exact iteT ⟨Z, Y, ρ, c1, eo.ext e1, co1, DoS.step (.of e1) h1⟩
  | false => exact iteF ⟨Z, Y, ρ, c1, eo.ext e1, co1, DoS.step (.of e1) h1⟩
/-! ### targets -/
/-- all slots but these stay -/
def OnlyAt (is : List Nat) (σ σ' : L2.St) : Prop := σ'.length = σ.length ∧ ∀ j, j ∉ is → σ'[j]? = σ[j]?
def TgD (K : PySem.W.Frag) (ca : Dr) (g : TG) (t : Tg) (is : List Nat) : Prop := ∀ (Z Y : Addr → Prop) (H : Hp) (σ : L2.St) (ρ ρ' : Ev) (v : V) (d : D) (Q : L2.St → Hp → Prop), EnvOk K ca Z Y H σ ρ → Rl K ca (U Z Y) H v d → t d ρ = some ρ' →
  (∀ σ', EnvOk K ca Z Y H σ' ρ' → OnlyAt is σ σ' → Q σ' H) → g v σ H Q
def TgsD (K : PySem.W.Frag) (ca : Dr) (g : TGs) (ts : List Tg) (is : List Nat) : Prop := ∀ (Z Y : Addr → Prop) (H : Hp) (σ : L2.St) (ρ ρ' : Ev) (vs : List V) (ds : List D) (Q : L2.St → Hp → Prop), EnvOk K ca Z Y H σ ρ → RlA K ca (U Z Y) H vs ds → gNs ts ds ρ = some ρ' →
  (∀ σ', EnvOk K ca Z Y H σ' ρ' → OnlyAt is σ σ' → Q σ' H) → g vs σ H Q
theorem OnlyAt.trans {is js : List Nat} {σ σ1 σ2 : L2.St} (a : OnlyAt is σ σ1) (b : OnlyAt js σ1 σ2) : OnlyAt (is ++ js) σ σ2 :=
  ⟨b.1.trans a.1, fun j hj => (b.2 j fun z => hj (List.mem_append_right _ z)).trans (a.2 j fun z => hj (List.mem_append_left _ z))⟩
theorem tg_name (i : Nat) : TgD X.K ca (gName i) (gN i) [i] := fun Z Y H σ ρ ρ' v d Q eo r e q => by
  cases e
  exact q _ (eo.set i r) ⟨List.length_set, fun j hj => List.getElem?_set_ne (by intro z; exact hj (by simp [z]))⟩
theorem tgs_nil : TgsD X.K ca gNil [] [] := fun Z Y H σ ρ ρ' vs ds Q eo r e q => by
  cases r with
  | nil => cases e; exact ⟨rfl, q σ eo ⟨rfl, fun _ _ => rfl⟩⟩
  | cons _ _ => cases e
theorem tgs_cons {g1 : TG} {gs : TGs} {t : Tg} {ts : List Tg} {is js : List Nat} (h1 : TgD X.K ca g1 t is) (h2 : TgsD X.K ca gs ts js) : TgsD X.K ca (gCons g1 gs) (t :: ts) (is ++ js) := fun Z Y H σ ρ ρ' vs ds Q eo r e q => by
  cases r with
  | nil => cases e
  | cons r1 r2 =>
    rename_i v vs d ds
    have e' : (t d ρ).bind (fun ρ' => gNs ts ds ρ') = some ρ' := e
    cases ht : t d ρ with
    | none => rw [ht] at e'; cases e'
    | some ρ1 =>
      rw [ht] at e'
      exact ⟨v, vs, rfl, h1 Z Y H σ ρ ρ1 v d _ eo r1 ht fun σ1 eo1 o1 => h2 Z Y H σ1 ρ1 ρ' vs ds Q eo1 r2 e' fun σ2 eo2 o2 => q σ2 eo2 (o1.trans o2)⟩
theorem gNs_len : ∀ {ts : List Tg} {ds : List D} {ρ ρ' : Ev}, gNs ts ds ρ = some ρ' → ds.length = ts.length
  | [], [], _, _, _ => rfl
  | [], _ :: _, _, _, h => by cases h
  | _ :: _, [], _, _, h => by cases h
  | t :: ts, d :: ds, ρ, ρ', h => by
    have e' : (t d ρ).bind (fun ρ' => gNs ts ds ρ') = some ρ' := h
    cases ht : t d ρ with
    | none => rw [ht] at e'; cases e'
    | some ρ1 => rw [ht] at e'; exact congrArg Nat.succ (gNs_len e')
theorem tg_tup {gs : TGs} {ts : List Tg} {is : List Nat} {n : Nat} (h : TgsD X.K ca gs ts is) (hn : ts.length = n := by rfl) : TgD X.K ca (L2.gTup X.K n gs) (gT ts) is := fun Z Y H σ ρ ρ' v d Q eo r e q => by
  cases r with
  | tup hs ra => exact ⟨_, _, rfl, hs.s, by rw [ra.length, gNs_len e, hn], h Z Y H σ ρ ρ' _ _ Q eo ra e q⟩
  | _ => cases e
theorem asg_run {te : TE} {tg : TG} {t : Tg} {is : List Nat} (ht : TgD X.K ca tg t is) {Dn : Ends} {σ : L2.St} {H : Hp} (hte : te = tD X.K ca E f) (h : tS X.K ca E (sAsg t f) Dn σ H) : tAsg te tg Dn σ H := by
  subst hte
  obtain ⟨Z, Y, ρ, c, eo, co, h⟩ := h
  refine ⟨Z, Y, ρ, c, eo, co, (DoS.expr h).mono fun d c1 h1 v H1 e1 r1 co1 => ?_⟩
  obtain ⟨ρ', hρ, h2⟩ := Do.lift (DoS.expr h1)
  exact ht Z Y H1 σ ρ ρ' v d _ (eo.ext e1) r1 hρ fun σ' eo' _ => h2 Y σ' H1 (.of e1) eo' co1
theorem s_set (i : Nat) {x : Str} {pos' : Pos} (hN : X.N.Nodup) (he : PE X e (tD X.K ca E f)) (hi : X.N[i]? = some x := by rfl) (hx : Loc X.env.scope x := by first | exact Or.inl rfl | exact Or.inr rfl)
    (hs : swapsWith e (some (.Name x pos')) pos.line X.env = pure false := by rfl) (hf : X.fn x = true ∨ X.env.scope.names.lookup x = some .local := by first | exact .inl rfl | exact .inr rfl) :
    PS X (.Assign [.Name x pos'] e pos) (tS X.K ca E (sAsg (gN i) f)) :=
  ⟨fun pins s σ H Dn I h => (ps_set hN hi hx he hs hf).run pins s σ H Dn I (asg_run (tg_name i) rfl h)⟩
theorem s_asg {te : Expr} {tg : TG} {t : Tg} {is : List Nat} (he : PE X e (tD X.K ca E f)) (hg : PG X te tg) (ht : TgD X.K ca tg t is) (hs : swapsWithSole [te] e pos.line X.env = pure false := by rfl) (hw : swappedStores [te] e X.env = pure none := by rfl)
    (h1 : (assignEach [te] X.env).map (·.2) = [assign te X.env] := by rfl) : PS X (.Assign [te] e pos) (tS X.K ca E (sAsg t f)) :=
  ⟨fun pins s σ H Dn I h => (ps_asg he hg hs hw h1).run pins s σ H Dn I (asg_run ht rfl h)⟩
/-- a, b = x, y: stored from the right, no tuple -/
def sPar (i j : Nat) (fs : Ev → M (List D)) : Sm := fun ρ => fs ρ >>= fun ds => match ds with
  | [d, e] => pure ((ρ.set i (.val d)).set j (.val e), .nx)
  | _ => stuck
theorem s_par (i j : Nat) {x y : Str} {a b : Expr} {fs : Ev → M (List D)} {px py pt : Pos} {kt k2 pt2} (hc : X.calm = true) (hN : X.N.Nodup) (ha : PA X [a, b] (tAs X.K ca E fs)) (hi : X.N[i]? = some x := by rfl) (hj : X.N[j]? = some y := by rfl) (hij : i ≠ j := by decide)
    (hx : X.env.scope.names.lookup x = some .local := by rfl) (hy : X.env.scope.names.lookup y = some .local := by rfl)
    (hw : swappedStores [.Tuple [.Name x px, .Name y py] kt pt] (.Tuple [a, b] k2 pt2) X.env = pure (some [x, y]) := by rfl)
    (hs : swapsWithSole [.Tuple [.Name x px, .Name y py] kt pt] (.Tuple [a, b] k2 pt2) pos.line X.env = pure false := by rfl) :
    PS X (.Assign [.Tuple [.Name x px, .Name y py] kt pt] (.Tuple [a, b] k2 pt2) pos) (tS X.K ca E (sPar i j fs)) := by
  refine ⟨fun pins s σ H Dn I h => (ps_par hc hN hi hj hij hx hy ha hw hs).run pins s σ H Dn I ?_⟩
  obtain ⟨Z, Y, ρ, c, eo, co, h⟩ := h
  refine ⟨Z, Y, ρ, c, eo, co, (DoS.expr h).mono fun ds c1 h1 vs H1 e1 r1 co1 => ?_⟩
  match ds, r1, h1 with
  | [d, e], .cons r1 (.cons r2 .nil), h1 => exact ⟨_, _, rfl, h1 Y _ H1 (.of e1) (((eo.ext e1).set i r1).set j r2) co1⟩
  | [], r1, h1 => exact h1.elim
  | [_], r1, h1 => exact h1.elim
  | _ :: _ :: _ :: _, r1, h1 => exact h1.elim
end
end G

set_option Elab.async false
set_option linter.all false
set_option maxRecDepth 100000
set_option maxHeartbeats 4000000
/-! G4: what is walked, for, while, comprehensions, the calls of defs, a def by its body. -/
namespace G
open PySem PySem.Spec PyProof.Rows L2
/-! ### what is walked -/
structure Yld (K : PySem.W.Frag) (ca : Dr) (W : Addr → Prop) (H : Hp) (ds : List D) (J : It) : Prop where
  go : ∀ (P : Addr → Prop) (i : Nat) (H' : Hp), (∀ b, P b → W b) → ExtP P H H' → i < ds.length → J.go i H'
  stop : ∀ (P : Addr → Prop) (H' : Hp), (∀ b, P b → W b) → ExtP P H H' → J.stop ds.length H'
  yld : ∀ (P W' : Addr → Prop) (i : Nat) (H' : Hp) (x : V) (H'' : Hp) (d : D), (∀ b, W' b → W b ∨ H b = none) → (∀ b, P b → W b) → ExtP P H H' → J.yld i H' x H'' → ds[i]? = some d → (∀ b o, H' b = some o → H'' b = some o) ∧ Rl K ca W' H'' x d
def tI (K : PySem.W.Frag) (ca : Dr) (E : XK) (f : Ev → M (List D)) : TI := fun σ H R => ∃ Z Y ρ c, EnvOk K ca Z Y H σ ρ ∧ ChOk K ca H c ∧
  Do K ca E (U Z Y) H (f ρ c) fun ds c' => ∀ J H', Ext ca H H' → ChOk K ca H' c' → Yld K ca (U Z Y) H' ds J → R J H'
def seqD : D → Option (List D)
  | .lst xs => some xs
  | .tup xs => some xs
  | _ => none
def iSeqL (f : Ev → M D) : Ev → M (List D) := fun ρ => f ρ >>= fun d => liftO (match d with | .lst xs => some xs | _ => none)
def iSeqT (f : Ev → M D) : Ev → M (List D) := fun ρ => f ρ >>= fun d => liftO (match d with | .tup xs => some xs | _ => none)
theorem Rl.later {K : PySem.W.Frag} {ca : Dr} {W W' P : Addr → Prop} {H H' : Hp} {v : V} {d : D} (r : Rl K ca W H v d) (g : ∀ b, W' b → W b ∨ H b = none) (hP : ∀ b, P b → W b) (ex : ExtP P H H') : Rl K ca W' H' v d :=
  ((r.grow (Z' := fun b => W b ∨ W' b) fun b z => z.elim .inl (g b)).ext ex fun b z => .inl (hP b z)).anti fun b z => .inr z
theorem RlA.later {K : PySem.W.Frag} {ca : Dr} {W W' P : Addr → Prop} {H H' : Hp} {v : List V} {d : List D} (r : RlA K ca W H v d) (g : ∀ b, W' b → W b ∨ H b = none) (hP : ∀ b, P b → W b) (ex : ExtP P H H') : RlA K ca W' H' v d :=
  ((r.grow (Z' := fun b => W b ∨ W' b) fun b z => z.elim .inl (g b)).ext ex fun b z => .inl (hP b z)).anti fun b z => .inr z
section
variable {X : Cx} {ca : Dr} {E : XK} {tg e : Expr} {f : Ev → M D} {pos : Pos}
theorem yld_list {K : PySem.W.Frag} {W : Addr → Prop} {H : Hp} {a : Addr} {vs : List V} {ds : List D} (n : ¬ W a) (h : H a = some (.lst vs)) (r : RlA K ca W H vs ds) : Yld K ca W H ds (Itl K a) := by
  refine ⟨fun P i H' hP x hi => ?_, fun P H' hP x => ?_, fun P W' i H' x H'' d g hP ex y hd => ?_⟩
  · have hi' : i < vs.length := by rw [r.length]; exact hi
    exact ⟨vs, vs[i], SqL.of (x.at_ h (.inl fun z => n (hP _ z))), List.getElem?_eq_getElem hi'⟩
  · exact ⟨vs, SqL.of (x.at_ h (.inl fun z => n (hP _ z))), by rw [r.length]; exact Nat.le_refl _⟩
  · obtain ⟨rfl, f⟩ := y
    obtain ⟨v, hv, rv⟩ := r.get hd
    have := (f vs (SqL.of (ex.at_ h (.inl fun z => n (hP _ z))))).symm.trans hv
    cases this
    exact ⟨fun _ _ z => z, rv.later g hP ex⟩
theorem yld_tup {K : PySem.W.Frag} {W : Addr → Prop} {H : Hp} {a : Addr} {vs : List V} {ds : List D} (h : TupAt K H a vs) (r : RlA K ca W H vs ds) : Yld K ca W H ds (Itt K a) := by
  refine ⟨fun P i H' hP x hi => ?_, fun P H' hP x => ?_, fun P W' i H' x H'' d g hP ex y hd => ?_⟩
  · have hi' : i < vs.length := by rw [r.length]; exact hi
    exact ⟨vs, vs[i], (x.tup h).s, List.getElem?_eq_getElem hi'⟩
  · exact ⟨vs, (x.tup h).s, by rw [r.length]; exact Nat.le_refl _⟩
  · obtain ⟨rfl, f⟩ := y
    obtain ⟨v, hv, rv⟩ := r.get hd
    have := (f vs (ex.tup h).s).symm.trans hv
    cases this
    exact ⟨fun _ _ z => z, rv.later g hP ex⟩
theorem i_list (h : PE X e (tD X.K ca E f)) : PI X tg e (tI X.K ca E (iSeqL f)) := by
  refine ⟨fun pins s σ H R I hw => (pi_list h).run pins s σ H R I ?_⟩
  obtain ⟨Z, Y, ρ, c, eo, co, hw⟩ := hw
  refine ⟨Z, Y, ρ, c, eo, co, (Do.bind hw).mono fun d c1 h1 v H1 e1 r1 co1 => ?_⟩
  obtain ⟨ds, hd, h2⟩ := Do.lift h1
  cases r1 with
  | lst n hH ra =>
    cases hd
    exact ⟨_, rfl, ⟨_, SqL.of hH⟩, h2 _ H1 e1 co1 (yld_list n hH ra)⟩
  | _ => cases hd
theorem i_tup (h : PE X e (tD X.K ca E f)) : PI X tg e (tI X.K ca E (iSeqT f)) := by
  refine ⟨fun pins s σ H R I hw => (pi_tup h).run pins s σ H R I ?_⟩
  obtain ⟨Z, Y, ρ, c, eo, co, hw⟩ := hw
  refine ⟨Z, Y, ρ, c, eo, co, (Do.bind hw).mono fun d c1 h1 v H1 e1 r1 co1 => ?_⟩
  obtain ⟨ds, hd, h2⟩ := Do.lift h1
  cases r1 with
  | tup hH ra =>
    cases hd
    exact ⟨_, rfl, ⟨_, hH.s⟩, h2 _ H1 e1 co1 (yld_tup hH ra)⟩
  | _ => cases hd
def rangeD (lo hi : Int) : List D := (List.range (hi - lo).toNat).map fun (i : Nat) => D.int (lo + (i : Int))
def rng1 : List D → Option (List D)
  | [.int j] => if -(2 ^ 62) ≤ j ∧ j < 2 ^ 62 then some (rangeD 0 j) else none
  | _ => none
def rng2 : List D → Option (List D)
  | [.int i, .int j] => if -(2 ^ 62) ≤ i ∧ i < 2 ^ 62 ∧ -(2 ^ 62) ≤ j ∧ j < 2 ^ 62 then some (rangeD i j) else none
  | _ => none
def iRange1 (fs : Ev → M (List D)) : Ev → M (List D) := fun ρ => fs ρ >>= fun ds => liftO (rng1 ds)
def iRange2 (fs : Ev → M (List D)) : Ev → M (List D) := fun ρ => fs ρ >>= fun ds => liftO (rng2 ds)
theorem yld_range {K : PySem.W.Frag} {W : Addr → Prop} {H : Hp} {lo : Int} {n : Nat} : Yld K ca W H ((List.range n).map fun (i : Nat) => D.int (lo + (i : Int))) (Itr lo n) := by
  refine ⟨fun P i H' hP x hi => ?_, fun P H' hP x => ?_, fun P W' i H' x H'' d g hP ex y hd => ?_⟩
  · rw [List.length_map, List.length_range] at hi; exact hi
  · show n ≤ _
    rw [List.length_map, List.length_range]
    exact Nat.le_refl _
  · obtain ⟨rfl, rfl⟩ := y
    rw [List.getElem?_map] at hd
    have hi : i < n := by
      by_cases z : i < n
      · exact z
      · rw [List.getElem?_eq_none (by rw [List.length_range]; omega)] at hd; cases hd
    rw [List.getElem?_range hi] at hd
    cases hd
    exact ⟨fun _ _ z => z, .int _⟩
theorem i_range1 {a : Expr} {fs : Ev → M (List D)} {p : Pos} (hm : X.mg "range" = none) (ha : PA X [a] (tAs X.K ca E fs)) (hg : Gl X "range" := by rfl) (hs : starEach [a] X.env = [(false, eval a X.env)] := by rfl) :
    PI X tg (.Call (.Name "range" p) [a] [] pos) (tI X.K ca E (iRange1 fs)) := by
  refine ⟨fun pins s σ H R I hw => (pi_range1 hg hm ha hs).run pins s σ H R I ?_⟩
  obtain ⟨Z, Y, ρ, c, eo, co, hw⟩ := hw
  refine ⟨Z, Y, ρ, c, eo, co, (Do.bind hw).mono fun d c1 h1 vs H1 e1 r1 co1 => ?_⟩
  obtain ⟨ds, hd, h2⟩ := Do.lift h1
  match d, r1, hd with
  | [.int j], .cons (.int _) .nil, hd =>
    have hd : (if -(2 ^ 62) ≤ j ∧ j < 2 ^ 62 then some (rangeD 0 j) else none) = some ds := hd
    by_cases hj : -(2 ^ 62) ≤ j ∧ j < 2 ^ 62
    · rw [if_pos hj] at hd
      cases hd
      refine ⟨j, rfl, hj.1, hj.2, h2 _ H1 e1 co1 ?_⟩
      have e0 : (j - 0).toNat = j.toNat := by rw [Int.sub_zero]
      unfold rangeD
      rw [e0]
      exact yld_range
    · rw [if_neg hj] at hd; cases hd
theorem i_range2 {a b : Expr} {fs : Ev → M (List D)} {p : Pos} (hm : X.mg "range" = none) (ha : PA X [a, b] (tAs X.K ca E fs)) (hg : Gl X "range" := by rfl) (hs : starEach [a, b] X.env = [(false, eval a X.env), (false, eval b X.env)] := by rfl) (hs2 : starEach [b] X.env = [(false, eval b X.env)] := by rfl) :
    PI X tg (.Call (.Name "range" p) [a, b] [] pos) (tI X.K ca E (iRange2 fs)) := by
  refine ⟨fun pins s σ H R I hw => (pi_range2 hg hm ha hs hs2).run pins s σ H R I ?_⟩
  obtain ⟨Z, Y, ρ, c, eo, co, hw⟩ := hw
  refine ⟨Z, Y, ρ, c, eo, co, (Do.bind hw).mono fun d c1 h1 vs H1 e1 r1 co1 => ?_⟩
  obtain ⟨ds, hd, h2⟩ := Do.lift h1
  match d, r1, hd with
  | [.int i, .int j], .cons (.int _) (.cons (.int _) .nil), hd =>
    have hd : (if -(2 ^ 62) ≤ i ∧ i < 2 ^ 62 ∧ -(2 ^ 62) ≤ j ∧ j < 2 ^ 62 then some (rangeD i j) else none) = some ds := hd
    by_cases hj : -(2 ^ 62) ≤ i ∧ i < 2 ^ 62 ∧ -(2 ^ 62) ≤ j ∧ j < 2 ^ 62
    · rw [if_pos hj] at hd
      cases hd
      exact ⟨i, j, rfl, hj, h2 _ H1 e1 co1 yld_range⟩
    · rw [if_neg hj] at hd; cases hd
end
/-! ### for -/
def forM' (t : Tg) (body : Sm) : List D → Sm
  | [], ρ => pure (ρ, .nx)
  | d :: ds, ρ => liftO (t d ρ) >>= fun ρ1 => body ρ1 >>= fun p => match p.2 with
    | .nx => forM' t body ds p.1
    | .ct => forM' t body ds p.1
    | .bk => pure (p.1, .nx)
    | .ret d => pure (p.1, .ret d)
def sFor (t : Tg) (it : Ev → M (List D)) (body : Sm) : Sm := fun ρ => it ρ >>= fun ds => forM' t body ds ρ
section
variable {X : Cx} {ca : Dr} {E : XK} {tg e : Expr} {pos : Pos}
theorem s_for {g : TG} {t : Tg} {is : List Nat} {it : Ev → M (List D)} {body : List Stmt} {b : Sm} (hc : X.calm = true) (hp : PassesOwn (model X.prog X.w) X.A X.env X.xe) (hi : PI X tg e (tI X.K ca E it)) (hg : PG X tg g) (ht : TgD X.K ca g t is) (hb : PSs X body (tS X.K ca E b))
    (hs : ∀ x, foldedSetIterable e X.env x = pure x := by intro _; rfl) : PS X (.For tg e body [] pos) (tS X.K ca E (sFor t it b)) := by
  refine ⟨fun pins s σ H Dn I h => (ps_for hp hc hi hg hb hs).run pins s σ H Dn I ?_⟩
  obtain ⟨Z, Y, ρ, c, eo, co, h⟩ := h
  refine ⟨Z, Y, ρ, c, eo, co, (DoS.expr h).mono fun ds c1 h1 J H1 e1 co1 y => ?_⟩
  refine ⟨fun i m σ' H' => m = ds.length - i ∧ i ≤ ds.length ∧ ∃ Y' ρ' c', Step ca Y H1 Y' H' ∧ EnvOk X.K ca Z Y' H' σ' ρ' ∧ ChOk X.K ca H' c' ∧ DoS X.K ca E Z Dn Y' H' (forM' t b (ds.drop i) ρ' c'),
    ⟨ds.length, by omega, by omega, Y, ρ, c1, .refl, eo.ext e1, co1, DoS.step (.of e1) h1⟩, ?_⟩
  rintro i m σ' H' ⟨rfl, hi', Y', ρ', c', st, eo', co', hd⟩
  have hP : ∀ b : Addr, (b = ca ∨ Y b) → U Z Y b := fun b z => z.elim (fun z => .inl (z ▸ eo.zca)) .inr
  have hg' : ∀ b, U Z Y' b → U Z Y b ∨ H1 b = none := fun b z => z.elim (fun z => .inl (.inl z)) fun z => (st.own b z).imp .inr id
  by_cases hi : i < ds.length
  · refine .inr ⟨y.go _ i H' hP st.ext hi, fun σ2 H2 => ∃ Y2 ρ2 c2, Step ca Y H1 Y2 H2 ∧ EnvOk X.K ca Z Y2 H2 σ2 ρ2 ∧ ChOk X.K ca H2 c2 ∧ DoS X.K ca E Z Dn Y2 H2 (forM' t b (ds.drop (i + 1)) ρ2 c2),
      fun σ2 H2 ⟨Y2, ρ2, c2, q1, q2, q3, q4⟩ => ⟨ds.length - (i + 1), by omega, rfl, hi, Y2, ρ2, c2, q1, q2, q3, q4⟩, fun x H'' hy => ?_⟩
    obtain ⟨keep, rx⟩ := y.yld _ (U Z Y') i H' x H'' ds[i] hg' hP st.ext hy (List.getElem?_eq_getElem hi)
    rw [List.drop_eq_getElem_cons hi] at hd
    have ex : Ext ca H' H'' := .of keep
    obtain ⟨ρ1, hρ, h2⟩ := Do.lift (DoS.expr (show DoS X.K ca E Z Dn Y' H' (((liftO (t ds[i] ρ')) >>= fun ρ1 => b ρ1 >>= fun p => match p.2 with
      | .nx => forM' t b (ds.drop (i + 1)) p.1
      | .ct => forM' t b (ds.drop (i + 1)) p.1
      | .bk => pure (p.1, .nx)
      | .ret d => pure (p.1, .ret d)) c') from hd))
    refine ht Z Y' H'' σ' ρ' ρ1 x ds[i] _ (eo'.ext ex) rx hρ fun σ2 eo2 _ => ?_
    refine ⟨Z, Y', ρ1, c', eo2, co'.ext keep, At.mono (At.bind.mp h2) (fun p c2 h3 => ?_) fun _ _ z => z.step (.of ex)⟩
    intro Y3 σ3 H3 st3 eo3 co3
    have st4 : Step ca Y' H' Y3 H3 := (Step.of ex).trans st3
    obtain ⟨ρ3, ctl⟩ := p
    cases ctl with
    | nx => exact ⟨Y3, ρ3, c2, st.trans st4, eo3, co3, DoS.step st4 h3⟩
    | ct => exact ⟨Y3, ρ3, c2, st.trans st4, eo3, co3, DoS.step st4 h3⟩
    | bk => exact h3 Y3 σ3 H3 st4 eo3 co3
    | ret d => exact h3 Y3 σ3 H3 st4 eo3 co3
  · have ei : i = ds.length := by omega
    subst ei
    rw [List.drop_length] at hd
    exact .inl ⟨y.stop _ H' hP st.ext, hd Y' σ' H' .refl eo' co'⟩
/-! ### while: n turns at most -/
def whileM (c : Ev → M Bool) (body : Sm) : Nat → Sm
  | 0, _ => stuck
  | n + 1, ρ => c ρ >>= fun k => if k = true then (body ρ >>= fun p => match p.2 with
    | .nx => whileM c body n p.1
    | .ct => whileM c body n p.1
    | .bk => pure (p.1, .nx)
    | .ret d => pure (p.1, .ret d)) else pure (ρ, .nx)
theorem s_while {test : Expr} {body : List Stmt} {c : Ev → M Bool} {b : Sm} (n : Ev → Nat) (hp : PassesOwn (model X.prog X.w) X.A X.env X.xe) (hc : PT X test (tT X.K ca E c)) (hb : PSs X body (tS X.K ca E b)) : PS X (.While test body [] pos) (tS X.K ca E fun ρ => whileM c b (n ρ) ρ) := by
  refine ⟨fun pins s σ H Dn I h => (ps_while hp hc hb).run pins s σ H Dn I ?_⟩
  obtain ⟨Z, Y, ρ, c, eo, co, h⟩ := h
  refine ⟨fun m σ' H' => ∃ Y' ρ' c', Step ca Y H Y' H' ∧ EnvOk X.K ca Z Y' H' σ' ρ' ∧ ChOk X.K ca H' c' ∧ DoS X.K ca E Z Dn Y' H' (whileM _ b m ρ' c'), ⟨n ρ, Y, ρ, c, .refl, eo, co, h⟩, ?_⟩
  rintro m σ' H' ⟨Y', ρ', c', st, eo', co', hd⟩
  cases m with
  | zero => exact hd.elim
  | succ m =>
    refine ⟨Z, Y', ρ', c', eo', co', (DoS.expr hd).mono fun k c1 h1 H1 e1 co1 => ?_⟩
    cases k with
    | true =>
      refine iteT ⟨fun σ2 H2 => ∃ Y2 ρ2 c2, Step ca Y H Y2 H2 ∧ EnvOk X.K ca Z Y2 H2 σ2 ρ2 ∧ ChOk X.K ca H2 c2 ∧ DoS X.K ca E Z Dn Y2 H2 (whileM _ b m ρ2 c2), fun σ2 H2 q => ⟨m, Nat.lt_succ_self m, q⟩, ?_⟩
      refine ⟨Z, Y', ρ', c1, eo'.ext e1, co1, At.mono (At.bind.mp h1) (fun p c2 h3 => ?_) fun _ _ z => z.step (.of e1)⟩
      intro Y3 σ3 H3 st3 eo3 co3
      have st4 : Step ca Y' H' Y3 H3 := (Step.of e1).trans st3
      obtain ⟨ρ3, ctl⟩ := p
      cases ctl with
      | nx => exact ⟨Y3, ρ3, c2, st.trans st4, eo3, co3, DoS.step st4 h3⟩
      | ct => exact ⟨Y3, ρ3, c2, st.trans st4, eo3, co3, DoS.step st4 h3⟩
      | bk => exact h3 Y3 σ3 H3 st4 eo3 co3
      | ret d => exact h3 Y3 σ3 H3 st4 eo3 co3
    | false => exact iteF (h1 Y' σ' H1 (.of e1) (eo'.ext e1) co1)
end
end G

set_option Elab.async false
set_option linter.all false
set_option maxRecDepth 100000
set_option maxHeartbeats 4000000
/-! G5: comprehensions, the calls of defs, a def by its body. -/
namespace G
open PySem PySem.Spec PyProof.Rows L2
def wipeE (ρ : Ev) : List Nat → Ev
  | [] => ρ
  | v :: vs => (wipeE ρ vs).set v .no
/-- no error leaves -/
def nx {α : Type} (m : M α) : M α := fun c => match m c with
  | .ok a c' => .ok a c'
  | _ => .stuck
def compM (t : Tg) (cnd : Ev → M Bool) (f : Ev → M D) (ρ : Ev) : List D → M (List D)
  | [] => pure []
  | d :: ds => liftO (t d ρ) >>= fun ρ1 => cnd ρ1 >>= fun b => if b = true then (f ρ1 >>= fun y => compM t cnd f ρ ds >>= fun ys => pure (y :: ys)) else compM t cnd f ρ ds
def eComp (t : Tg) (it : Ev → M (List D)) (cnd : Ev → M Bool) (f : Ev → M D) (vs : List Nat) : Ev → M D := fun ρ => it ρ >>= fun ds =>
  if ds.length ≤ sizeLine then (nx (compM t cnd f (wipeE ρ vs) ds) >>= fun ys => pure (.lst ys)) else stuck
section
variable {K : PySem.W.Frag} {ca : Dr} {E E' : XK} {Z Y : Addr → Prop} {H H1 H' : Hp} {σ : L2.St} {ρ : Ev}
theorem Do.nx {α : Type} {m : M α} {c : Churn} {k : α → Churn → Prop} (h : Do K ca E Z H ((nx m) c) k) : At (m c) k fun _ _ => False := by
  unfold G.nx at h
  cases e : m c with
  | ok a c' => rw [e] at h; exact h
  | exn x c' => rw [e] at h; exact h.elim
  | stuck => rw [e] at h; exact h.elim
theorem At.doE {α : Type} {r : R α} {k : α → Churn → Prop} (h : At r k fun _ _ => False) : Do K ca E Z H r k := At.mono h (fun _ _ z => z) fun _ _ z => z.elim
theorem EnvOk.wipe (e : EnvOk K ca Z Y H σ ρ) : ∀ vs : List Nat, EnvOk K ca Z Y H (L2.wipe σ vs) (wipeE ρ vs)
  | [] => e
  | v :: vs => (EnvOk.wipe e vs).forget v
theorem EnvOk.blk (e : EnvOk K ca Z Y H σ ρ) {D : Addr} (n : H D = none) (nca : ca ≠ D) (ncc : ca.cc ≠ D) (x : Ext ca H H') {o : HO} (hD : H' D = some o) : EnvOk K ca Z (fun b => Y b ∨ b = D) H' σ ρ := by
  have g : ∀ b, U Z (fun b => Y b ∨ b = D) b → U Z Y b ∨ H b = none := fun b z => z.elim (fun z => .inl (.inl z)) fun z => z.elim (fun z => .inl (.inr z)) fun z => .inr (z ▸ n)
  refine ⟨⟨.inl e.zca, fun z => z.elim (fun z => e.zok.zcc (.inl z)) fun z => z.elim (fun z => e.zok.zcc (.inr z)) ncc, fun b z => ?_⟩, e.zca, fun z => z.elim e.yca nca, e.len, fun i d h => ?_, fun i ds h => ?_, e.inj⟩
  · rcases z with z | z | z
    · exact x.thereS (e.zok.zin b (.inl z))
    · exact x.thereS (e.zok.zin b (.inr z))
    · exact ⟨o, z ▸ hD⟩
  · obtain ⟨v, h1, h2⟩ := e.val i d h
    exact ⟨v, h1, h2.later g e.zc x⟩
  · obtain ⟨a, vs, h1, h2, h3, h4⟩ := e.own i ds h
    exact ⟨a, vs, h1, .inl h2, x.at_ h3 (.inl fun z => e.yca (z ▸ h2)), h4.later g e.zc x⟩
end
theorem wipe_in {σ : L2.St} {j : Nat} (hj : j < σ.length) : ∀ {vs : List Nat}, j ∈ vs → (L2.wipe σ vs)[j]? = some none
  | v :: vs, h => by
    show ((L2.wipe σ vs).set v none)[j]? = some none
    by_cases e : v = j
    · subst e
      rw [List.getElem?_set_self (by rw [wipe_length]; exact hj)]
    · rw [List.getElem?_set_ne e]
      exact wipe_in hj ((List.mem_cons.mp h).resolve_left fun z => e z.symm)
theorem wipe_same {σ σ2 : L2.St} {is vs : List Nat} (h : OnlyAt is (L2.wipe σ vs) σ2) (hs : ∀ i ∈ is, i ∈ vs) : L2.wipe σ2 vs = L2.wipe σ vs := by
  have hl : σ2.length = σ.length := by rw [h.1, wipe_length]
  refine List.ext_getElem? fun j => ?_
  by_cases hj : j ∈ vs
  · by_cases hb : j < σ.length
    · rw [wipe_in (by rw [hl]; exact hb) hj, wipe_in hb hj]
    · rw [List.getElem?_eq_none (by rw [wipe_length, hl]; omega), List.getElem?_eq_none (by rw [wipe_length]; omega)]
  · rw [wipe_out hj, h.2 j fun z => hj (hs j z)]
section
variable {X : Cx} {ca : Dr} {E : XK} {pos : Pos}
theorem comp_run {wi : TI} {g : TG} {t : Tg} {is vs : List Nat} {it : Ev → M (List D)} {cnd : Ev → M Bool} {f : Ev → M D} (hw : wi = tI X.K ca E it) (ht : TgD X.K ca g t is) (hv : ∀ i ∈ is, i ∈ vs)
    {σ : L2.St} {H : Hp} {Q : VK} (h : tD X.K ca E (eComp t it cnd f vs) σ H Q) : tLc wi g (tT X.K ca E0 cnd) (tD X.K ca E0 f) vs σ H Q := by
  subst hw
  obtain ⟨Z, Y, ρ, c, eo, co, h⟩ := h
  refine ⟨Z, Y, ρ, c, eo, co, (Do.bind h).mono fun ds c1 h1 J H1 e1 co1 y => fun A nA => ?_⟩
  by_cases hz : ds.length ≤ sizeLine
  · rw [if_pos hz] at h1
    have h2 := (Do.bind h1).nx
    have eo1 := eo.ext e1
    have nca : ca ≠ A := fun z => co1.ne nA z.symm
    have KK : ∀ ys c2, (∀ v H', Ext ca H H' → Rl X.K ca (U Z Y) H' v (.lst ys) → ChOk X.K ca H' c2 → Q v H') → True := fun _ _ _ => trivial
    refine ⟨fun i m H' => m = ds.length - i ∧ i ≤ ds.length ∧ ∃ acc ys c', H' A = some (.lst acc) ∧ Ext ca H1 H' ∧ ChOk X.K ca H' c' ∧ RlA X.K ca (U Z fun b => Y b ∨ b = A) H' acc ys ∧ ys.length ≤ i ∧
        At (compM t cnd f (wipeE ρ vs) (ds.drop i) c') (fun zs c2 => ∀ v H', Ext ca H H' → Rl X.K ca (U Z Y) H' v (.lst (ys ++ zs)) → ChOk X.K ca H' c2 → Q v H') fun _ _ => False,
      ⟨ds.length, by omega, by omega, [], [], c1, upd_same, ExtP.new nA, co1.new nA, .nil, Nat.le_refl _, h2⟩, ?_⟩
    rintro i m H' ⟨rfl, hi', acc, ys, c', hA, x1, co', ra, hl, hd⟩
    have xH : Ext ca H H' := e1.trans x1
    have eoB : EnvOk X.K ca Z (fun b => Y b ∨ b = A) H' (L2.wipe σ vs) (wipeE ρ vs) := (eo1.blk nA nca (fun z => by have q := co1.2; rw [z, nA] at q; cases q) x1 hA).wipe vs
    by_cases hi : i < ds.length
    · refine .inr ⟨y.go _ i H' eo.zc x1 hi, fun H2 => ∃ acc ys c', H2 A = some (.lst acc) ∧ Ext ca H1 H2 ∧ ChOk X.K ca H2 c' ∧ RlA X.K ca (U Z fun b => Y b ∨ b = A) H2 acc ys ∧ ys.length ≤ i + 1 ∧
        At (compM t cnd f (wipeE ρ vs) (ds.drop (i + 1)) c') (fun zs c2 => ∀ v H', Ext ca H H' → Rl X.K ca (U Z Y) H' v (.lst (ys ++ zs)) → ChOk X.K ca H' c2 → Q v H') fun _ _ => False,
        fun H2 ⟨acc, ys, c', q⟩ => ⟨ds.length - (i + 1), by omega, rfl, hi, acc, ys, c', q⟩, fun x H'' hy => ?_⟩
      have gB : ∀ b, U Z (fun b => Y b ∨ b = A) b → U Z Y b ∨ H1 b = none := fun b z => z.elim (fun z => .inl (.inl z)) fun z => z.elim (fun z => .inl (.inr z)) fun z => .inr (z ▸ nA)
      obtain ⟨keep, rx⟩ := y.yld _ (U Z fun b => Y b ∨ b = A) i H' x H'' ds[i] gB eo.zc x1 hy (List.getElem?_eq_getElem hi)
      have ex : Ext ca H' H'' := .of keep
      rw [List.drop_eq_getElem_cons hi] at hd
      have hd1 := At.bind.mp hd
      cases hρ : t ds[i] (wipeE ρ vs) with
      | none => rw [hρ] at hd1; exact hd1.elim
      | some ρ1 =>
        rw [hρ] at hd1
        refine ht Z _ H'' _ _ ρ1 x ds[i] _ (eoB.ext ex) rx hρ fun σ2 eo2 o2 => ⟨wipe_same o2 hv, ?_⟩
        refine ⟨Z, _, ρ1, c', eo2, co'.ext keep, At.doE (At.mono (At.bind.mp hd1) (fun b c2 h3 H3 e3 co3 => ?_) fun _ _ z => z)⟩
        cases b with
        | false => exact iteF ⟨acc, ys, c2, e3.at_ (keep _ _ hA) (.inl fun z => nca z.symm), (x1.trans ex).trans e3, co3, ra.ext (ex.trans e3) eoB.zc, by omega, h3⟩
        | true =>
          refine iteT ⟨Z, _, ρ1, c2, eo2.ext e3, co3, At.doE (At.mono (At.bind.mp h3) (fun d c4 h4 v H4 e4 r4 co4 => ?_) fun _ _ z => z)⟩
          have h4' := At.bind.mp h4
          have hA4 : H4 A = some (.lst acc) := e4.at_ (e3.at_ (keep _ _ hA) (.inl fun z => nca z.symm)) (.inl fun z => nca z.symm)
          have xD : ExtP (fun b => b = A) H4 (upd H4 A (.lst (acc ++ [v]))) := fun b o q => by
            by_cases hb : b = A
            · subst hb
              rw [hA4] at q; cases q
              exact .inr ⟨rfl, trivial, _, upd_same, trivial⟩
            · exact .inl (by rw [upd_ne hb]; exact q)
          have ra4 := ra.ext ((ex.trans e3).trans e4) eoB.zc
          refine ⟨acc, hA4, by rw [ra.length]; omega, acc ++ [v], ys ++ [d], c4, upd_same, ?_, ?_, (ra4.snoc r4).ext xD fun b z => .inr (.inr z), by rw [List.length_append]; simp; omega, ?_⟩
          · intro b o q
            have nb : b ≠ A := fun z => by rw [z, nA] at q; cases q
            rw [upd_ne nb]
            exact (((x1.trans ex).trans e3).trans e4) b o q
          · have nc : ca.cc ≠ A := fun z => by
              have q := co1.2
              rw [z, nA] at q; cases q
            exact ⟨by rw [upd_ne nca]; exact co4.1, by rw [upd_ne nc]; exact co4.2⟩
          · exact At.mono h4' (fun zs c5 h5 => by rw [List.append_assoc]; exact h5) fun _ _ z => z
    · have ei : i = ds.length := by omega
      subst ei
      rw [List.drop_length] at hd
      have hd' : ∀ v H', Ext ca H H' → Rl X.K ca (U Z Y) H' v (.lst (ys ++ [])) → ChOk X.K ca H' c' → Q v H' := hd
      rw [List.append_nil] at hd'
      exact .inl ⟨y.stop _ H' eo.zc x1, hd' _ H' xH (.lst (eo1.zok.free nA) hA (ra.anti fun b z => z.elim .inl fun z => .inr (.inl z))) co'⟩
  · rw [if_neg hz] at h1; exact h1.elim
theorem dts_nil : PTs X [] (tT X.K ca E fun _ => pure true) := by
  refine ⟨fun pins s σ H Q I h => pts_nil.run pins s σ H Q I ?_⟩
  obtain ⟨Z, Y, ρ, c, eo, co, h⟩ := h
  exact h H .refl co
theorem dts_one {c : Expr} {cnd : Ev → M Bool} (h : PT X c (tT X.K ca E cnd)) : PTs X [c] (tT X.K ca E cnd) := pts_one h
theorem d_comp {elt tg iter : Expr} {ifs : List Expr} {scope : Scope} (own : List (Str × Nat)) {g : TG} {t : Tg} {is : List Nat} {it : Ev → M (List D)} {cnd : Ev → M Bool} {f : Ev → M D} (hc : X.calm = true) (hN : X.N.Nodup) (ok : BlkOk X.N X.env.scope scope own)
    (hi : PI X tg iter (tI X.K ca E it)) (ht : TgD X.K ca g t is) (hg : ∀ (s : Shared) (H : Hp) (C : Addr) (cl : List (Str × Addr)) (fp : List Addr), PG (X.blk s H scope (compEnvC scope cl C X.env) fp) tg g)
    (hcn : ∀ (s : Shared) (H : Hp) (C : Addr) (cl : List (Str × Addr)) (fp : List Addr), PTs (X.blk s H scope (compEnvC scope cl C X.env) fp) ifs (tT X.K ca E0 cnd))
    (he : ∀ (s : Shared) (H : Hp) (C : Addr) (cl : List (Str × Addr)) (fp : List Addr), PE (X.blk s H scope (compEnvC scope cl C X.env) fp) elt (tD X.K ca E0 f)) (hv : ∀ i ∈ is, i ∈ own.map (·.2) := by decide) (hs : ∀ x, foldedSetIterable iter X.env x = pure x := by intro _; rfl) :
    PE X (.ListComp elt [⟨tg, iter, ifs, 0⟩] scope pos) (tD X.K ca E (eComp t it cnd f (own.map (·.2)))) :=
  ⟨fun pins s σ H Q I h => (pe_lc (own := own) hc hN hi ok hg hcn he hs).run pins s σ H Q I (comp_run rfl ht hv h)⟩
theorem s_setComp (i : Nat) {y : Str} {py spos : Pos} {elt tg iter : Expr} {ifs : List Expr} {scope : Scope} (own : List (Str × Nat)) {g : TG} {t : Tg} {is : List Nat} {it : Ev → M (List D)} {cnd : Ev → M Bool} {f : Ev → M D} (hc : X.calm = true) (hN : X.N.Nodup) (ok : BlkOk X.N X.env.scope scope own)
    (hi : PI X tg iter (tI X.K ca E it)) (ht : TgD X.K ca g t is) (hg : ∀ (s : Shared) (H : Hp) (C : Addr) (cl : List (Str × Addr)) (fp : List Addr), PG (X.blk s H scope (compEnvC scope cl C X.env) fp) tg g)
    (hcn : ∀ (s : Shared) (H : Hp) (C : Addr) (cl : List (Str × Addr)) (fp : List Addr), PTs (X.blk s H scope (compEnvC scope cl C X.env) fp) ifs (tT X.K ca E0 cnd))
    (he : ∀ (s : Shared) (H : Hp) (C : Addr) (cl : List (Str × Addr)) (fp : List Addr), PE (X.blk s H scope (compEnvC scope cl C X.env) fp) elt (tD X.K ca E0 f)) (hsw : swapsWith (.ListComp elt [⟨tg, iter, ifs, 0⟩] scope pos) (some (.Name y py)) spos.line X.env = pure true)
    (hy : X.N[i]? = some y := by rfl) (hyl : X.env.scope.names.lookup y = some .local := by rfl) (hv : ∀ i ∈ is, i ∈ own.map (·.2) := by decide) (hs : ∀ x, foldedSetIterable iter X.env x = pure x := by intro _; rfl) :
    PS X (.Assign [.Name y py] (.ListComp elt [⟨tg, iter, ifs, 0⟩] scope pos) spos) (tS X.K ca E (sAsg (gN i) (eComp t it cnd f (own.map (·.2))))) := by
  refine ⟨fun pins s σ H Dn I h => (ps_setLc (own := own) hc hN hy hyl hsw hi ok hg hcn he hs).run pins s σ H Dn I ?_⟩
  have h1 := asg_run (f := eComp t it cnd f (own.map (·.2))) (tg_name (X := X) (ca := ca) i) rfl h
  exact comp_run (Q := fun x H1 => gName i x σ H1 Dn.nx) rfl ht hv (show tD X.K ca E (eComp t it cnd f (own.map (·.2))) σ H _ from h1)
end

/-! ### defs: where no repr runs around -/
/-- the def at f keeps the promise, called where no repr is under way -/
structure FnG (P : Program) (w : World) (K : PySem.W.Frag) (mg : Str → Option Value) (base : Heap) (CX : CXT) (k : Nat) (f : Addr) (fd : FuncData) (ps : List Str) (sp : Sp) : Prop where
  arity : ∀ xs H Q E, sp xs H Q E → xs.length = ps.length
  runs : ∀ (A : Around) (outer : List Env) (s : Shared) (H : Hp) (args : Args) (us : List Value) (xs : List V) (Q : VK) (E : XK), A.guards = some [] → Room k A →
    Env0 P w K mg base A outer s H → BindsTo s fd args (ps.zip us) → Vals xs us → sp xs H Q E → codeAny (model P w) A (.call (.ref f) args) (CR CX outer P w H s Q E) s
theorem FnG.mono {P : Program} {w : World} {K : PySem.W.Frag} {mg : Str → Option Value} {base : Heap} {CX : CXT} {j k : Nat} {f : Addr} {fd : FuncData} {ps : List Str} {sp : Sp} (F : FnG P w K mg base CX j f fd ps sp) (h : j ≤ k) : FnG P w K mg base CX k f fd ps sp :=
  ⟨F.arity, fun A o s H a us xs Q E g room => F.runs A o s H a us xs Q E g (room.mono h)⟩
theorem FnOk.g {P : Program} {w : World} {K : PySem.W.Frag} {mg : Str → Option Value} {base : Heap} {CX : CXT} {k : Nat} {f : Addr} {fd : FuncData} {ps : List Str} {sp : Sp} (F : FnOk P w K mg base CX k f fd ps sp) : FnG P w K mg base CX k f fd ps sp :=
  ⟨F.len, fun A o s H a us xs Q E _ room => F.run A o s H a us xs Q E room⟩
theorem CR.back {X : Cx} {CX : CXT} {E : XK} {pins : List (Addr × Obj)} {σ : L2.St} {H : Hp} {s : Shared} {Q : VK} (hx : Passes CX X E) (I : L2.Inv X pins σ H s) {r : Result} {s' : Shared} (h : CR CX X.stack X.prog X.w H s Q E r s') :
    wants (EP X pins σ Q) X.xe r s' := by
  match r, h with
  | .error e, h => exact hx pins σ H s e s' I h
  | .ok (.ret u), h => exact I.after h
  | .ok .next, h => exact h.elim
  | .ok .brk, h => exact h.elim
  | .ok .cont, h => exact h.elim
section
variable {X : Cx} {CX : CXT} {E : XK} {k : Nat} {f : Addr} {fd : FuncData} {ps kn : List Str} {sp : Sp}
theorem runG {pins : List (Addr × Obj)} {σ : L2.St} {H : Hp} {s : Shared} {Q : VK} {us ds : List Value} {vs dvs : List V} (F : FnG X.prog X.w X.K X.mg X.base CX k f fd ps sp) (gd : X.A.guards = some []) (hr : Room k X.A) (hb : Binds X.K fd ps ds) (hd : Vals dvs ds) (hx : Passes CX X E)
    (I : L2.Inv X pins σ H s) (r : Vals vs us) (h : sp (vs ++ dvs) H Q E) : wpAny (model X.prog X.w) X.A (call (.ref f) us) (EP X pins σ Q) X.xe s :=
  have rr := r.append hd
  wpAny_call (codeAny_mono (F.runs X.A X.stack s H ⟨us, []⟩ _ _ Q E gd hr I.env0 (hb s us I.kIn (rr.length.symm.trans (F.arity _ _ _ _ h))) rr h) fun _ _ => CR.back hx I)
theorem runGK {pins : List (Addr × Obj)} {σ : L2.St} {H : Hp} {s : Shared} {Q : VK} {us ws : List Value} {vs zs : List V} {m : Nat} {g : List Value → List Value → List Value} {gV : List V → List V → List V} (F : FnG X.prog X.w X.K X.mg X.base CX k f fd ps sp) (gd : X.A.guards = some [])
    (hr : Room k X.A) (hb : KBn X.K fd ps m kn g gV) (hx : Passes CX X E) (I : L2.Inv X pins σ H s) (r : Vals vs us) (rz : Vals zs ws) (l1 : vs.length = m) (l2 : zs.length = kn.length) (h : sp (gV vs zs) H Q E) :
    wpAny (model X.prog X.w) X.A (call (.ref f) us (kn.zip ws)) (EP X pins σ Q) X.xe s :=
  wpAny_call (codeAny_mono (F.runs X.A X.stack s H ⟨us, kn.zip ws⟩ _ _ Q E gd hr I.env0 (hb.to s us ws I.kIn (r.length.symm.trans l1) (rz.length.symm.trans l2)) (hb.rel r rz) h) fun _ _ => CR.back hx I)
end
/-! ### defs -/
/-- a def's promise: called with trees it does F -/
def spD (K : PySem.W.Frag) (n : Nat) (F : List D → M D) : Sp := fun vs H Q E => ∃ (ca : Dr) (Z : Addr → Prop) (c : Churn) (ds : List D), ZOk ca Z H ∧ ChOk K ca H c ∧ RlA K ca Z H vs ds ∧ ds.length = n ∧
  Do K ca E Z H (F ds c) fun d c' => ∀ v H', Ext ca H H' → Rl K ca Z H' v d → ChOk K ca H' c' → Q v H'
theorem spD_len {K : PySem.W.Frag} {n : Nat} {F : List D → M D} {vs : List V} {H : Hp} {Q : VK} {E : XK} (h : spD K n F vs H Q E) : vs.length = n := by
  obtain ⟨ca, Z, c, ds, _, _, r, e, _⟩ := h
  rw [r.length, e]
def eCall (n : Nat) (F : List D → M D) (dds : List D) (fs : Ev → M (List D)) : Ev → M D := fun ρ => fs ρ >>= fun xs => if (xs ++ dds).length = n then F (xs ++ dds) else stuck
/-- the arguments by their places -/
def pick {α : Type} (ix : List Nat) (xs : List α) : List α := ix.filterMap fun i => xs[i]?
def eCallK (n m k : Nat) (ix : List Nat) (F : List D → M D) (fs ks : Ev → M (List D)) : Ev → M D := fun ρ => fs ρ >>= fun xs => ks ρ >>= fun zs => if xs.length = m ∧ zs.length = k ∧ (pick ix (xs ++ zs)).length = n then F (pick ix (xs ++ zs)) else stuck
section
variable {X : Cx} {ca : Dr} {E : XK} {pos : Pos}
theorem RlA.pick {K : PySem.W.Frag} {Z : Addr → Prop} {H : Hp} {vs : List V} {ds : List D} (r : RlA K ca Z H vs ds) : ∀ ix : List Nat, RlA K ca Z H (pick ix vs) (pick ix ds)
  | [] => .nil
  | i :: ix => by
    have ih := RlA.pick r ix
    unfold G.pick at ih ⊢
    rw [List.filterMap_cons, List.filterMap_cons]
    cases hd : ds[i]? with
    | none =>
      have : vs[i]? = none := by
        rw [List.getElem?_eq_none_iff] at hd ⊢
        rw [r.length]; exact hd
      rw [this]
      exact ih
    | some d =>
      obtain ⟨v, hv, rv⟩ := r.get hd
      rw [hv]
      exact .cons rv ih
theorem Vals.pick {vs : List V} {us : List Value} (r : Vals vs us) : ∀ ix : List Nat, Vals (pick ix vs) (pick ix us)
  | [] => .nil
  | i :: ix => by
    have ih := Vals.pick r ix
    unfold G.pick at ih ⊢
    rw [List.filterMap_cons, List.filterMap_cons]
    cases hd : vs[i]? with
    | none =>
      rw [r.none_of hd]
      exact ih
    | some d =>
      obtain ⟨v, hv, rv⟩ := r.get hd
      rw [hv]
      exact .cons rv ih
variable {CX : CXT} {k n : Nat} {fA : Addr} {fd : FuncData} {ps : List Str} {F : List D → M D} {x : Str} {p : Pos} {e : Expr} {es : List Expr} {fs ks : Ev → M (List D)}
theorem d_call {dvs : List V} {dds : List D} {dus : List Value} (Fk : FnG X.prog X.w X.K X.mg X.base CX k fA fd ps (spD X.K n F)) (gd : X.A.guards = some []) (hr : Room k X.A) (hm : X.mg x = some (.ref fA)) (hk : PySem.W.keepIn X.K (.ref fA) = true) (hb : Binds X.K fd ps dus) (hd : Vals dvs dus) (hx : Passes CX X E)
    (hdd : ∀ Z H, RlA X.K ca Z H dvs dds) (ha : PA X (e :: es) (tAs X.K ca E fs)) (hg : Gl X x := by rfl) (hdb : (x == ("__debug__" : Str)) = false := by decide)
    (he : starEach (e :: es) X.env = (false, eval e X.env) :: starEach es X.env := by rfl) (hpl : (backTo pos (starEach es X.env)).any (·.1) = false := by rfl) : PE X (.Call (.Name x p) (e :: es) [] pos) (tD X.K ca E (eCall n F dds fs)) := by
  refine ⟨fun pins s σ H Q I h => ?_⟩
  have h' : tAs X.K ca E fs σ H fun vs H1 => spD X.K n F (vs ++ dvs) H1 Q E := ?_
  · refine wpAny_Call_Name_kw (ld_glob I hg hm (PySem.W.callWith_K (h₀ := X.base) I.ok.mod.kin hk ?_ he hpl) hdb)
    exact thn (ha.run pos pins s σ H _ I h') fun us s1 ⟨vs, H1, I1, r, q⟩ => ⟨I1.kIn, runG Fk gd hr hb hd hx I1 r q⟩
  obtain ⟨Z, Y, ρ, c, eo, co, h⟩ := h
  refine ⟨Z, Y, ρ, c, eo, co, (Do.bind h).mono fun ds c1 h1 vs H1 e1 r1 co1 => ?_⟩
  by_cases hl : (ds ++ dds).length = n
  · rw [if_pos hl] at h1
    exact ⟨ca, U Z Y, c1, ds ++ dds, eo.zok.ext e1, co1, r1.append (hdd _ _), hl, (h1.ext e1).mono fun d c2 h2 v H' e' r' co' => h2 v H' (e1.trans e') r' co'⟩
  · rw [if_neg hl] at h1; exact h1.elim
/-! keywords -/
structure PKD (X : Cx) (ca : Dr) (E : XK) (kws : List Keyword) (ks : Ev → M (List D)) : Prop where
  pk : PK X kws (tAs X.K ca E ks)
variable {kws : List Keyword} {kn : List Str} {nm : Option Str} {kpos : Pos} {f1 : Ev → M D}
theorem dk_nil : PK X [] (tAs X.K ca E aNil) := by
  refine ⟨fun p pins s σ H Q I h => pk_nil.run p pins s σ H Q I ?_⟩
  obtain ⟨Z, Y, ρ, c, eo, co, h⟩ := h
  exact h [] H .refl .nil co
theorem dk_cons (ha : PE X e (tD X.K ca E f1)) (hr : PK X kws (tAs X.K ca E ks)) : PK X (⟨nm, e, kpos⟩ :: kws) (tAs X.K ca E (aCons f1 ks)) := by
  refine ⟨fun p pins s σ H Q I h => (pk_cons ha hr).run p pins s σ H Q I ?_⟩
  obtain ⟨Z, Y, ρ, c, eo, co, h⟩ := h
  refine ⟨Z, Y, ρ, c, eo, co, (Do.bind h).mono fun d c1 h1 x H1 e1 r1 co1 => ?_⟩
  refine ⟨Z, Y, ρ, c1, eo.ext e1, co1, ((Do.bind h1).ext e1).mono fun ds c2 h2 ys H2 e2 r2 co2 => ?_⟩
  exact h2 (x :: ys) H2 (e1.trans e2) (.cons (r1.ext e2 eo.zc) r2) co2
/-- f(e, .., k = v, ..) where all parameters are given -/
theorem kb_of {K : PySem.W.Frag} {m : Nat} {ix : List Nat} (h : ∀ (s : Shared) (us ws : List Value), K.In s.heap → us.length = m → ws.length = kn.length → BindsTo s fd ⟨us, kn.zip ws⟩ (ps.zip (pick ix (us ++ ws)))) :
    KBn K fd ps m kn (fun us ws => pick ix (us ++ ws)) (fun vs zs => pick ix (vs ++ zs)) := ⟨h, fun r1 r2 => Vals.pick (r1.append r2) ix⟩
theorem d_callK {m : Nat} {ix : List Nat} (Fk : FnG X.prog X.w X.K X.mg X.base CX k fA fd ps (spD X.K n F)) (gd : X.A.guards = some []) (hr : Room k X.A) (hm : X.mg x = some (.ref fA)) (hk : PySem.W.keepIn X.K (.ref fA) = true)
    (hb : KBn X.K fd ps m kn (fun us ws => pick ix (us ++ ws)) (fun vs zs => pick ix (vs ++ zs))) (hx : Passes CX X E) (ha : PA X (e :: es) (tAs X.K ca E fs)) (hkw : PK X kws (tAs X.K ca E ks)) (hg : Gl X x := by rfl)
    (hall : (backToKw pos (keywordEach kws X.env)).all (·.1.isSome) = true := by rfl) (hks : (backToKw pos (keywordEach kws X.env)).filterMap (·.1) = kn := by rfl) (hdb : (x == ("__debug__" : Str)) = false := by decide)
    (he : starEach (e :: es) X.env = (false, eval e X.env) :: starEach es X.env := by rfl) (hpl : ((backTo pos (starEach (e :: es) X.env)).any (·.1) || (backToKw pos (keywordEach kws X.env)).any (·.1.isNone)) = false := by rfl) :
    PE X (.Call (.Name x p) (e :: es) kws pos) (tD X.K ca E (eCallK n m kn.length ix F fs ks)) := by
  refine ⟨fun pins s σ H Q I h => ?_⟩
  have h' : tAs X.K ca E fs σ H fun vs H1 => tAs X.K ca E ks σ H1 fun zs H2 => vs.length = m ∧ zs.length = kn.length ∧ spD X.K n F (pick ix (vs ++ zs)) H2 Q E := ?_
  · refine wpAny_Call_Name_kw (ld_glob I hg hm (PySem.W.callWith_KW (h₀ := X.base) I.ok.mod.kin hk hall ?_ hpl he) hdb)
    refine thn (ha.run pos pins s σ H _ I h') fun us s1 ⟨vs, H1, I1, r, q⟩ => thn (hkw.run pos pins s1 σ H1 _ I1 q) fun ws s2 ⟨zs, H2, I2, rz, l1, l2, q2⟩ => ⟨I2.kIn, ?_⟩
    rw [hks]
    exact runGK Fk gd hr hb hx I2 r rz l1 l2 q2
  obtain ⟨Z, Y, ρ, c, eo, co, h⟩ := h
  refine ⟨Z, Y, ρ, c, eo, co, (Do.bind h).mono fun ds c1 h1 vs H1 e1 r1 co1 => ?_⟩
  refine ⟨Z, Y, ρ, c1, eo.ext e1, co1, ((Do.bind h1).ext e1).mono fun es c2 h2 zs H2 e2 r2 co2 => ?_⟩
  by_cases hl : ds.length = m ∧ es.length = kn.length ∧ (pick ix (ds ++ es)).length = n
  · rw [if_pos hl] at h2
    have e12 := e1.trans e2
    exact ⟨by rw [r1.length, hl.1], by rw [r2.length, hl.2.1], ca, U Z Y, c2, _, eo.zok.ext e12, co2, ((r1.ext e2 eo.zc).append r2).pick ix, hl.2.2, (h2.ext e12).mono fun d c3 h3 v H' e' r' co' => h3 v H' (e12.trans e') r' co'⟩
  · rw [if_neg hl] at h2; exact h2.elim
theorem d_callK0 {ix : List Nat} (Fk : FnG X.prog X.w X.K X.mg X.base CX k fA fd ps (spD X.K n F)) (gd : X.A.guards = some []) (hr : Room k X.A) (hm : X.mg x = some (.ref fA)) (hk : PySem.W.keepIn X.K (.ref fA) = true)
    (hb : KBn X.K fd ps 0 kn (fun us ws => pick ix (us ++ ws)) (fun vs zs => pick ix (vs ++ zs))) (hx : Passes CX X E) (hkw : PK X kws (tAs X.K ca E ks)) (hg : Gl X x := by rfl)
    (hall : (backToKw pos (keywordEach kws X.env)).all (·.1.isSome) = true := by rfl) (hks : (backToKw pos (keywordEach kws X.env)).filterMap (·.1) = kn := by rfl) (hdb : (x == ("__debug__" : Str)) = false := by decide)
    (hpl : ((backTo pos (starEach [] X.env)).any (·.1) || (backToKw pos (keywordEach kws X.env)).any (·.1.isNone)) = false := by rfl) :
    PE X (.Call (.Name x p) [] kws pos) (tD X.K ca E (eCallK n 0 kn.length ix F aNil ks)) := by
  refine ⟨fun pins s σ H Q I h => ?_⟩
  refine wpAny_Call_Name_kw (ld_glob I hg hm ?_ hdb)
  refine PySem.W.callWith_KW0 (h₀ := X.base) I.ok.mod.kin hk hall ?_ hpl
  have h' : tAs X.K ca E ks σ H fun zs H2 => zs.length = kn.length ∧ spD X.K n F (pick ix ([] ++ zs)) H2 Q E := by
    obtain ⟨Z, Y, ρ, c, eo, co, h⟩ := h
    have h := Do.bind (show Do X.K ca E (U Z Y) H ((ks ρ >>= fun zs => if ([] : List D).length = 0 ∧ zs.length = kn.length ∧ (pick ix ([] ++ zs)).length = n then F (pick ix ([] ++ zs)) else stuck) c) _ from h)
    refine ⟨Z, Y, ρ, c, eo, co, h.mono fun es c2 h2 zs H2 e2 r2 co2 => ?_⟩
    by_cases hl : ([] : List D).length = 0 ∧ es.length = kn.length ∧ (pick ix ([] ++ es)).length = n
    · rw [if_pos hl] at h2
      exact ⟨by rw [r2.length, hl.2.1], ca, U Z Y, c2, _, eo.zok.ext e2, co2, ((RlA.nil).append r2).pick ix, hl.2.2, (h2.ext e2).mono fun d c3 h3 v H' e' r' co' => h3 v H' (e2.trans e') r' co'⟩
    · rw [if_neg hl] at h2; exact h2.elim
  refine thn (hkw.run pos pins s σ H _ I h') fun ws s2 ⟨zs, H2, I2, rz, l2, q2⟩ => ⟨I2.kIn, ?_⟩
  rw [hks]
  exact runGK (us := []) (vs := []) Fk gd hr hb hx I2 .nil rz rfl l2 q2
end
/-! a def by its body -/
def runDef (N : Nat) (g : Sm) : List D → M D := fun ds => g (ds.map Sl.val ++ List.replicate (N - ds.length) Sl.no) >>= fun p => match p.2 with
  | .ret d => pure d
  | .nx => pure .non
  | _ => stuck
theorem env_start {K : PySem.W.Frag} {ca : Dr} {Z : Addr → Prop} {H : Hp} {N : List Str} {vs : List V} {ds : List D} (z : ZOk ca Z H) (r : RlA K ca Z H vs ds) : EnvOk K ca Z (fun _ => False) H (start N vs) (ds.map Sl.val ++ List.replicate (N.length - ds.length) Sl.no) := by
  have hl := r.length
  have nown : ∀ (i : Nat) (es : List D), (ds.map Sl.val ++ List.replicate (N.length - ds.length) Sl.no)[i]? ≠ some (.own es) := fun i es h => by
    have := List.mem_of_getElem? h
    rcases List.mem_append.mp this with h | h
    · obtain ⟨d, _, e⟩ := List.mem_map.mp h
      cases e
    · exact absurd (List.eq_of_mem_replicate h) (by intro z; cases z)
  refine ⟨⟨.inl z.zca, fun h => h.elim z.zcc False.elim, fun b h => h.elim (z.zin b) False.elim⟩, z.zca, id, ?_, fun i d h => ?_, fun i es h => absurd h (nown i es), fun i j a es es' h => absurd h (nown i es)⟩
  · unfold L2.start
    simp [hl]
  · by_cases hi : i < ds.length
    · rw [List.getElem?_append_left (by simpa using hi), List.getElem?_map] at h
      cases hd : ds[i]? with
      | none => rw [hd] at h; cases h
      | some d' =>
        rw [hd] at h
        cases h
        obtain ⟨v, hv, rv⟩ := r.get hd
        refine ⟨v, ?_, rv.anti fun b h => h.elim id False.elim⟩
        unfold L2.start
        rw [List.getElem?_append_left (by simpa [hl] using hi), List.getElem?_map, hv]
        rfl
    · rw [List.getElem?_append_right (by simpa using hi)] at h
      exact absurd (List.eq_of_mem_replicate (List.mem_of_getElem? h)) (by intro z; cases z)
section
variable {P : Program} {w : World} {K : PySem.W.Frag} {mg : Str → Option Value} {base : Heap} {x qual : Str} {params : Arguments} {body : List Stmt} {scope : Scope} {dvs : List V} {kws : List (Str × V)} {f : Addr} {fd : FuncData}
/-- the body's end, as the promise wants it -/
theorem body_end {ca : Dr} {E : XK} {N : List Str} {g : Sm} {Z : Addr → Prop} {H : Hp} {vs : List V} {ds : List D} {c : Churn} {Q : VK} (z : ZOk ca Z H) (co : ChOk K ca H c) (r : RlA K ca Z H vs ds)
    (h : Do K ca E Z H (runDef N.length g ds c) fun d c' => ∀ v H', Ext ca H H' → Rl K ca Z H' v d → ChOk K ca H' c' → Q v H') : tS K ca E g { nx := fun _ H' => Q .non H', rt := Q } (start N vs) H := by
  refine ⟨Z, fun _ => False, _, c, env_start z r, co, At.mono (At.bind.mp h) (fun p c1 h1 => ?_) fun x c1 h1 => ?_⟩
  · intro Y' σ' H' st eo' co'
    have ex : Ext ca H H' := st.ext.mono fun b z => z.elim id False.elim
    obtain ⟨ρ1, ctl⟩ := p
    cases ctl with
    | nx => exact h1 .non H' ex .non co'
    | bk => exact h1.elim
    | ct => exact h1.elim
    | ret d => exact fun v rv => h1 v H' ex (rv.anti fun b => .inl) co'
  · intro Y' cv od H' st xr co'
    refine h1 cv od H' (st.ext.mono fun b z => z.elim id False.elim) ?_ co'
    obtain ⟨e1, d, fs, e2, e3, e4, e5⟩ := xr
    exact ⟨e1, d, fs, e2, e3, e4, e5.anti fun b => .inl⟩
/-- a def by its body, entered where no repr is under way -/
theorem FunD.okG {CX : CXT} {N ps : List Str} {k : Nat} {sp : Sp} (F : FunD K x qual params body scope dvs kws f fd) (S : FnScope N ps scope) (len : ∀ xs H Q E, sp xs H Q E → xs.length = ps.length)
    (inside : ∀ (cdv : Value) (A : Around) (outer : List Env) (s : Shared) (H : Hp) (xs : List V) (Q : VK) (E : XK), A.guards = some [] → Room k (A.deeper (envOfC qual scope s.heap.objs.size f cdv)) → sp xs H Q E →
      ∃ t, PSs (cxOf CX P w K mg base N qual scope f cdv A outer s H E) body t ∧ t { nx := fun _ H' => Q .non H', rt := Q } (start N xs) H) : FnG P w K mg base CX (k + 1) f fd ps sp := by
  obtain ⟨oc, od, dV, kV, doc, pm, an, cdv, ct, osl, rfl, found, coded, _, _⟩ := F.ex
  refine ⟨len, fun A outer s H args us xs Q E gd room e0 bound r wish => ?_⟩
  obtain ⟨t, does, want⟩ := inside cdv A outer s H xs Q E gd (room.deeper _) wish
  have inK : K.In s.heap := e0.mod.kin.keeps fun b o e => (e0.bs b o e).1
  refine codeAny_call_function room.depth (inK _ _ found) rfl S.co S.gen rfl (PySem.W.codeRec_of inK coded) (bound _ _ _ _ ?_)
  refine wpAny_newFunctionEnv_cells S.kind (fun y hy => ?_) fun env ee s1 frame => ?_
  · rcases S.par y.1 (List.of_mem_zip hy).1 with loc | cel
    · exact Or.inl loc
    · exact Or.inr ⟨cel, PySem.W.cellsFrom_some _ _ _ (Or.inl cel)⟩
  subst ee
  refine ⟨(e0.mod.nolimit.keeps fun b o e => (e0.bs b o e).1).keeps frame.toInCall.keep, codeAny_func ?_⟩
  have begun : L2.Inv (cxOf CX P w K mg base N qual scope f cdv A outer s H E) [] (start N xs) H s1 := inv_start S room.hd e0 (len _ _ _ _ wish) r frame
  refine wpAny_mono (does.run [] s1 (start N xs) H _ begun want) (fun way s' hs => ?_) fun _ _ z => z
  match way, hs with
  | .ret u, ⟨v, _, H', J, rv, q⟩ => exact ⟨v, H', J.os, J.bare, J.base, J.hok, rv, q⟩
  | .next, ⟨_, H', J, q⟩ => exact ⟨V.non, H', J.os, J.bare, J.base, J.hok, rfl, q⟩
  | .brk, ⟨_, _, _, q⟩ => exact q.elim
  | .cont, ⟨_, _, _, q⟩ => exact q.elim
/-- a def that lets nothing out -/
theorem FunD.okD {N ps : List Str} {k : Nat} {g : Sm} (F : FunD K x qual params body scope dvs kws f fd) (S : FnScope N ps scope)
    (hbody : ∀ (ca : Dr) (cdv : Value) (A : Around) (outer : List Env) (s : Shared) (H : Hp) (E : XK), A.guards = some [] → Room k (A.deeper (envOfC qual scope s.heap.objs.size f cdv)) → PSs (cxOf CX0 P w K mg base N qual scope f cdv A outer s H E).nox body (tS K ca E0 g)) :
    FnG P w K mg base CX0 (k + 1) f fd ps (spD K ps.length fun ds => G.nx (runDef N.length g ds)) := by
  refine FunD.okG F S (fun vs H Q E h => spD_len h) fun cdv A outer s H vs Q E gd hr h => ?_
  obtain ⟨ca, Z, c, ds, z, co, r, hl, h⟩ := h
  exact ⟨tS K ca E0 g, PSs.nox (hbody ca cdv A outer s H E gd hr), body_end z co r (At.doE h.nx)⟩
end
end G

set_option Elab.async false
set_option linter.all false
set_option maxRecDepth 100000
set_option maxHeartbeats 4000000
/-! G6: the operations on trees: arithmetic, comparisons, len, int, abs, str, displays, subscripts, slices. -/
namespace G
open PySem PySem.Spec PyProof.Rows L2
section
variable {K : PySem.W.Frag} {ca : Dr} {X : Cx}
/-! ### arithmetic -/
def gAdd : D → D → Option D
  | .int i, .int j => some (.int (i + j))
  | .str a, .str b => if a.length + b.length ≤ sizeLine then some (.str (a ++ b)) else none
  | .lst xs, .lst ys => if xs.length + ys.length ≤ sizeLine then some (.lst (xs ++ ys)) else none
  | .tup xs, .tup ys => if xs.length + ys.length ≤ sizeLine then some (.tup (xs ++ ys)) else none
  | _, _ => none
def rAddD (K : PySem.W.Frag) : R2 := fun x y H Q => rI0 (fun i j => .int (i + j)) x y H Q ∨ (∃ i j, x = .str i ∧ y = .str j ∧ i.length + j.length ≤ sizeLine ∧ Q (.str (i ++ j)) H) ∨ rCat x y H Q ∨ rCatA K x y H Q
theorem op_addD : OpR X (binaryOp .Add) (rAddD X.K) := op_add.or (op_add_str.or (op_cat.or op_catA))
theorem bin_add : BinD K ca (rAddD K) gAdd := fun Z H c x y d e d' Q z co r1 r2 hg q => by
  unfold gAdd at hg
  split at hg
  · rename_i i j
    cases hg; cases r1; cases r2
    exact .inl ⟨_, _, rfl, rfl, q _ H .refl (.int _) co⟩
  · rename_i i j
    split at hg
    · rename_i hl
      cases hg; cases r1; cases r2
      exact .inr (.inl ⟨_, _, rfl, rfl, hl, q _ H .refl (.str _) co⟩)
    · cases hg
  · split at hg
    · rename_i hl
      cases hg
      cases r1 with | lst n1 h1 a1 => cases r2 with | lst n2 h2 a2 =>
      exact .inr (.inr (.inl ⟨_, _, _, _, rfl, rfl, h1, h2, by rw [a1.length, a2.length]; exact hl, fun p np => q _ _ (ExtP.new np) (.lst (z.free np) upd_same ((a1.append a2).ext (ExtP.new (P := (· = (ca : Addr))) np) fun b e => e ▸ z.zca)) (co.new np)⟩))
    · cases hg
  · split at hg
    · rename_i xs ys hl
      cases hg
      cases r1 with | tup h1 a1 => cases r2 with | tup h2 a2 =>
      refine .inr (.inr (.inr ⟨_, _, _, _, rfl, rfl, h1.s, h2.s, by rw [a1.length, a2.length]; exact hl, fun e => ?_, fun e1 e => ?_, fun _ _ p np => ?_⟩))
      · subst e; cases a1
        exact q _ H .refl (.tup h2 a2) co
      · subst e; cases a2
        rw [List.append_nil] at q
        exact q _ H .refl (.tup h1 a1) co
      · exact q _ _ (ExtP.new np) (.tup (TupAt.of upd_same) ((a1.append a2).ext (ExtP.new (P := (· = (ca : Addr))) np) fun b e => e ▸ z.zca)) (co.new np)
    · cases hg
  · cases hg
def gInt2 (ok : Int → Int → Bool) (f : Int → Int → Int) : D → D → Option D
  | .int i, .int j => if ok i j = true then some (.int (f i j)) else none
  | _, _ => none
theorem bin_int2 {C : Int → Int → Prop} {ok : Int → Int → Bool} {f : Int → Int → Int} (h : ∀ i j, ok i j = true → C i j) : BinD K ca (rI C fun i j => .int (f i j)) (gInt2 ok f) := fun Z H c x y d e d' Q z co r1 r2 hg q => by
  unfold gInt2 at hg
  split at hg
  · rename_i i j
    split at hg
    · rename_i hl
      cases hg; cases r1; cases r2
      exact ⟨_, _, rfl, rfl, h _ _ hl, q _ H .refl (.int _) co⟩
    · cases hg
  · cases hg
def rIS (C : Int → Int → Prop) (g : Int → Int → V) : R2 := rI C g
def gSub : D → D → Option D := gInt2 (fun _ _ => true) fun i j => i - j
theorem op_subD : OpR X (binaryOp .Sub) (rI (fun _ _ => True) fun i j => .int (i - j)) := fun pins s σ H x y v u Q I rx ry ⟨i, j, e1, e2, _, q⟩ => op_sub pins s σ H x y v u Q I rx ry ⟨i, j, e1, e2, q⟩
theorem bin_sub : BinD K ca (rI (fun _ _ => True) fun i j => .int (i - j)) gSub := bin_int2 fun _ _ _ => trivial
def okDiv (_ j : Int) : Bool := decide (0 < j) && decide (j.natAbs.log2 < 9000)
def gDiv : D → D → Option D := gInt2 okDiv fun i j => i / j
theorem bin_div : BinD K ca (rI CDivW fun i j => .int (i / j)) gDiv := bin_int2 fun i j h => by
  have h := Bool.and_eq_true_iff.mp h
  exact ⟨of_decide_eq_true h.1, of_decide_eq_true h.2⟩
def gMod : D → D → Option D := gInt2 (fun _ j => decide (0 < j)) fun i j => i % j
theorem bin_mod : BinD K ca (rI (fun _ j => 0 < j) fun i j => .int (i % j)) gMod := bin_int2 fun i j h => of_decide_eq_true h
def okPow (i j : Int) : Bool := decide (0 ≤ j) && (decide (j ≤ 1000000) && decide (i.natAbs < 2 ^ 64))
def gPow : D → D → Option D := gInt2 okPow fun i j => i ^ j.toNat
theorem bin_pow : BinD K ca (rI CPow fun i j => .int (i ^ j.toNat)) gPow := bin_int2 fun i j h => by
  have h := Bool.and_eq_true_iff.mp h
  have h2 := Bool.and_eq_true_iff.mp h.2
  exact ⟨of_decide_eq_true h.1, of_decide_eq_true h2.1, of_decide_eq_true h2.2⟩
def okMul (i j : Int) : Bool := (decide (-(2 ^ 64) < i) && decide (i < 2 ^ 64)) || ((decide (-(2 ^ 64) < j) && decide (j < 2 ^ 64)) || decide (i.natAbs.log2 + j.natAbs.log2 < 1000000))
def gMul : D → D → Option D
  | .int i, .int j => if okMul i j = true then some (.int (i * j)) else none
  | .lst xs, .int k => if -(2 ^ 63) ≤ k ∧ k < 2 ^ 63 ∧ xs.length * k.toNat ≤ sizeLine then some (.lst (List.replicate k.toNat xs).flatten) else none
  | _, _ => none
def rMulD : R2 := fun x y H Q => rI (fun i j => CMul i j ∨ CMulW i j) (fun i j => .int (i * j)) x y H Q ∨ rRep x y H Q
theorem op_mulD : OpR X (binaryOp .Mult) rMulD := OpR.or (fun pins s σ H x y v u Q I rx ry ⟨i, j, e1, e2, h, q⟩ => h.elim (fun h => op_mul pins s σ H x y v u Q I rx ry ⟨i, j, e1, e2, h, q⟩) fun h => op_mulW pins s σ H x y v u Q I rx ry ⟨i, j, e1, e2, h, q⟩) op_rep
theorem okMul_ok {i j : Int} (h : okMul i j = true) : CMul i j ∨ CMulW i j := by
  unfold okMul at h
  rcases Bool.or_eq_true_iff.mp h with h | h
  · have h := Bool.and_eq_true_iff.mp h
    exact .inl (.inl ⟨of_decide_eq_true h.1, of_decide_eq_true h.2⟩)
  · rcases Bool.or_eq_true_iff.mp h with h | h
    · have h := Bool.and_eq_true_iff.mp h
      exact .inl (.inr ⟨of_decide_eq_true h.1, of_decide_eq_true h.2⟩)
    · exact .inr (show i.natAbs.log2 + j.natAbs.log2 < 1000000 from of_decide_eq_true h)
theorem RlA.rep {Z : Addr → Prop} {H : Hp} {vs : List V} {ds : List D} (r : RlA K ca Z H vs ds) : ∀ n : Nat, RlA K ca Z H (List.replicate n vs).flatten (List.replicate n ds).flatten
  | 0 => .nil
  | n + 1 => by rw [List.replicate_succ, List.replicate_succ, List.flatten_cons, List.flatten_cons]; exact r.append (RlA.rep r n)
theorem bin_mul : BinD K ca rMulD gMul := fun Z H c x y d e d' Q z co r1 r2 hg q => by
  unfold gMul at hg
  split at hg
  · split at hg
    · rename_i hl
      cases hg; cases r1; cases r2
      exact .inl ⟨_, _, rfl, rfl, okMul_ok hl, q _ H .refl (.int _) co⟩
    · cases hg
  · split at hg
    · rename_i hl
      cases hg
      cases r2
      cases r1 with | lst n1 h1 a1 =>
      refine .inr ⟨_, _, _, rfl, rfl, h1, hl.1, hl.2.1, by rw [a1.length]; exact hl.2.2, fun p np => q _ _ (ExtP.new np) (.lst (z.free np) upd_same ((a1.rep _).ext (ExtP.new (P := (· = (ca : Addr))) np) fun b e => e ▸ z.zca)) (co.new np)⟩
    · cases hg
  · cases hg
def gNeg : D → Option D
  | .int i => some (.int (-i))
  | _ => none
theorem un_negD : UnD K ca (rU fun i => .int (-i)) gNeg := fun Z H c x d d' Q z co r hg q => by
  cases r with
  | int i => cases hg; exact ⟨_, rfl, q _ H .refl (.int _) co⟩
  | _ => cases hg
/-! ### comparisons -/
def gCmpI (f : Int → Int → Bool) : D → D → Option Bool
  | .int i, .int j => some (f i j)
  | _, _ => none
theorem cmp_int {f : Int → Int → Bool} : BinB K ca (rI0 fun i j => .bl (f i j)) (gCmpI f) := fun Z H c x y d e k Q z co r1 r2 hg q => by
  unfold gCmpI at hg
  split at hg
  · cases hg; cases r1; cases r2
    exact ⟨_, _, rfl, rfl, q H .refl co⟩
  · cases hg
def ltI (i j : Int) : Bool := decide (i < j)
def leI (i j : Int) : Bool := decide (i ≤ j)
def gtI (i j : Int) : Bool := decide (j < i)
def geI (i j : Int) : Bool := decide (j ≤ i)
def isNonD : D → Bool
  | .non => true
  | _ => false
def gIsN (neg : Bool) : D → D → Option Bool
  | d, .non => some (if neg then !isNonD d else isNonD d)
  | _, _ => none
theorem isNon_of {Z : Addr → Prop} {H : Hp} {v : V} {d : D} (r : Rl K ca Z H v d) : decide (v = .non) = isNonD d := by
  cases r <;> first | rfl | simp [isNonD]
theorem cmp_isN : BinB K ca (fun x y H Q => y = .non ∧ Q (.bl (decide (x = .non))) H) (gIsN false) := fun Z H c x y d e k Q z co r1 r2 hg q => by
  cases r2 with
  | non => cases hg; exact ⟨rfl, by rw [isNon_of r1]; exact q H .refl co⟩
  | _ => cases hg
theorem cmp_notN : BinB K ca (fun x y H Q => y = .non ∧ Q (.bl (!decide (x = .non))) H) (gIsN true) := fun Z H c x y d e k Q z co r1 r2 hg q => by
  cases r2 with
  | non => cases hg; exact ⟨rfl, by rw [isNon_of r1]; exact q H .refl co⟩
  | _ => cases hg
/-! deep == -/
mutual
def toPy : D → Option PyData
  | .non => some .none
  | .bl b => some (.bool b)
  | .int i => some (.int i)
  | .str x => some (.str x)
  | .lst xs => (toPyA xs).map .list
  | .tup xs => (toPyA xs).map .tuple
  | _ => none
def toPyA : List D → Option (List PyData)
  | [] => some []
  | d :: ds => (toPy d).bind fun p => (toPyA ds).map (p :: ·)
end
mutual
theorem Rl.dp {Z : Addr → Prop} {H : Hp} : ∀ {v : V} {d : D} {p : PyData}, Rl K ca Z H v d → toPy d = some p → Dp K H v p
  | _, _, _, .non, e => by simp only [toPy] at e; cases e; exact .non
  | _, _, _, .bl b, e => by simp only [toPy] at e; cases e; exact .bl b
  | _, _, _, .int b, e => by simp only [toPy] at e; cases e; exact .int b
  | _, _, _, .str b, e => by simp only [toPy] at e; cases e; exact .str b
  | _, _, _, .ty n, e => by simp only [toPy] at e; cases e
  | _, _, _, .obj n, e => by simp only [toPy] at e; cases e
  | _, _, _, .chn, e => by simp only [toPy] at e; cases e
  | _, _, _, .dic _ _ _, e => by simp only [toPy] at e; cases e
  | _, _, _, .lst (ds := ds) n h r, e => by
    simp only [toPy] at e
    cases hp : toPyA ds with
    | none => rw [hp] at e; cases e
    | some ps => rw [hp] at e; cases e; exact .lst (SqL.of h) (RlA.dp r hp)
  | _, _, _, .tup (ds := ds) h r, e => by
    simp only [toPy] at e
    cases hp : toPyA ds with
    | none => rw [hp] at e; cases e
    | some ps => rw [hp] at e; cases e; exact .tup h.s (RlA.dp r hp)
theorem RlA.dp {Z : Addr → Prop} {H : Hp} : ∀ {vs : List V} {ds : List D} {ps : List PyData}, RlA K ca Z H vs ds → toPyA ds = some ps → DpAll K H vs ps
  | _, _, _, .nil, e => by simp only [toPyA] at e; cases e; exact .nil
  | _, _, _, .cons (d := d) (ds := ds) h r, e => by
    simp only [toPyA] at e
    cases hp : toPy d with
    | none => rw [hp] at e; cases e
    | some p =>
      rw [hp] at e
      cases hq : toPyA ds with
      | none => rw [hq] at e; cases e
      | some ps => rw [hq] at e; cases e; exact .cons (Rl.dp h hp) (RlA.dp r hq)
end
def gEq (neg : Bool) : D → D → Option Bool := fun x y => (toPy x).bind fun p => (toPy y).bind fun q => if SeqAt.shaped p = true ∧ SeqAt.shaped q = true then some (if neg then !PyData.eqv p q else PyData.eqv p q) else none
theorem eq_un {neg : Bool} {x y : D} {k : Bool} (h : gEq neg x y = some k) : ∃ p q, toPy x = some p ∧ toPy y = some q ∧ SeqAt.shaped p = true ∧ SeqAt.shaped q = true ∧ k = if neg then !PyData.eqv p q else PyData.eqv p q := by
  unfold gEq at h
  cases hp : toPy x with
  | none => rw [hp] at h; cases h
  | some p =>
    rw [hp] at h
    cases hq : toPy y with
    | none => rw [hq] at h; cases h
    | some q =>
      rw [hq] at h
      have h : (if SeqAt.shaped p = true ∧ SeqAt.shaped q = true then some (if neg then !PyData.eqv p q else PyData.eqv p q) else none) = some k := h
      by_cases hs : SeqAt.shaped p = true ∧ SeqAt.shaped q = true
      · rw [if_pos hs] at h
        exact ⟨p, q, rfl, rfl, hs.1, hs.2, (Option.some.inj h).symm⟩
      · rw [if_neg hs] at h; cases h
theorem cmp_eq : BinB K ca (rEqD K) (gEq false) := fun Z H c x y d e k Q z co r1 r2 hg q => by
  obtain ⟨p, p2, h1, h2, s1, s2, rfl⟩ := eq_un hg
  exact ⟨p, p2, r1.dp h1, r2.dp h2, s1, s2, q H .refl co⟩
theorem cmp_ne : BinB K ca (rNeD K) (gEq true) := fun Z H c x y d e k Q z co r1 r2 hg q => by
  obtain ⟨p, p2, h1, h2, s1, s2, rfl⟩ := eq_un hg
  exact ⟨p, p2, r1.dp h1, r2.dp h2, s1, s2, q H .refl co⟩
/-! in: flat items; signs -/
def flD : D → Option V
  | .non => some .non
  | .bl b => some (.bl b)
  | .int i => some (.int i)
  | .str x => some (.str x)
  | _ => none
def flA : List D → Option (List V)
  | [] => some []
  | d :: ds => (flD d).bind fun v => (flA ds).map (v :: ·)
theorem fl_of {Z : Addr → Prop} {H : Hp} {v u : V} {d : D} (r : Rl K ca Z H v d) (h : flD d = some u) : v = u ∧ flatV v = true := by
  cases r <;> first | (cases h; exact ⟨rfl, rfl⟩) | cases h
theorem flA_of {Z : Addr → Prop} {H : Hp} : ∀ {vs us : List V} {ds : List D}, RlA K ca Z H vs ds → flA ds = some us → vs = us ∧ vs.all flatV = true
  | _, _, _, .nil, h => by cases h; exact ⟨rfl, rfl⟩
  | _, _, _, .cons (d := d) (ds := ds) r ra, h => by
    unfold flA at h
    cases hd : flD d with
    | none => rw [hd] at h; cases h
    | some w =>
      rw [hd] at h
      cases hs : flA ds with
      | none => rw [hs] at h; cases h
      | some ws =>
        rw [hs] at h
        cases h
        obtain ⟨e1, f1⟩ := fl_of r hd
        obtain ⟨e2, f2⟩ := flA_of ra hs
        exact ⟨by rw [e1, e2], by rw [List.all_cons, f1, f2]; rfl⟩
def seqOf : D → Option (List D)
  | .lst xs => some xs
  | .tup xs => some xs
  | _ => none
def gInF (neg : Bool) : D → D → Option Bool := fun x y => (seqOf y).bind fun ys => (flD x).bind fun v => (flA ys).map fun vs => if neg then !inV v vs else inV v vs
theorem cmp_inF {neg : Bool} : BinB K ca (rIn K neg) (gInF neg) := fun Z H c x y d e k Q z co r1 r2 hg q => by
  unfold gInF at hg
  cases hs : seqOf e with
  | none => rw [hs] at hg; cases hg
  | some ys =>
    rw [hs] at hg
    have hg : ((flD d).bind fun v => (flA ys).map fun vs => if neg then !inV v vs else inV v vs) = some k := hg
    cases hd : flD d with
    | none => rw [hd] at hg; cases hg
    | some v =>
      rw [hd] at hg
      have hg : ((flA ys).map fun vs => if neg then !inV v vs else inV v vs) = some k := hg
      cases ha : flA ys with
      | none => rw [ha] at hg; cases hg
      | some vs =>
        rw [ha] at hg
        cases hg
        obtain ⟨rfl, f1⟩ := fl_of r1 hd
        cases r2 with
        | lst n h r =>
          cases hs
          obtain ⟨rfl, f2⟩ := flA_of r ha
          exact ⟨_, _, rfl, .inl (SqL.of h), f1, f2, q H .refl co⟩
        | tup h r =>
          cases hs
          obtain ⟨rfl, f2⟩ := flA_of r ha
          exact ⟨_, _, rfl, .inr h.s, f1, f2, q H .refl co⟩
        | _ => cases hs
/-- the one sign of a text -/
def sign? (x : Str) : Option Nat := match x.cps with
  | ⟨[c]⟩ => some c
  | _ => none
theorem sign_of {x : Str} {c : Nat} (h : sign? x = some c) : x = ⟨#[c]⟩ := by
  unfold sign? at h
  split at h
  · rename_i c' e
    cases h
    cases x with | mk cps => cases e; rfl
  · cases h
def gInS (neg : Bool) : D → D → Option Bool
  | .str x, .str z => (sign? x).map fun c => if neg then !decide (c ∈ z.cps.toList) else decide (c ∈ z.cps.toList)
  | _, _ => none
theorem cmp_inS : BinB K ca (fun x y H Q => ∃ (c : Nat) (z : Str), x = .str ⟨#[c]⟩ ∧ y = .str z ∧ Q (.bl (decide (c ∈ z.cps.toList))) H) (gInS false) := fun Z H c x y d e k Q z co r1 r2 hg q => by
  unfold gInS at hg
  split at hg
  · rename_i a b
    cases ha : sign? a with
    | none => rw [ha] at hg; cases hg
    | some s =>
      rw [ha] at hg; cases hg; cases r1; cases r2
      exact ⟨s, _, by rw [sign_of ha], rfl, q H .refl co⟩
  · cases hg
theorem cmp_notInS : BinB K ca (fun x y H Q => ∃ (c : Nat) (z : Str), x = .str ⟨#[c]⟩ ∧ y = .str z ∧ Q (.bl (!decide (c ∈ z.cps.toList))) H) (gInS true) := fun Z H c x y d e k Q z co r1 r2 hg q => by
  unfold gInS at hg
  split at hg
  · rename_i a b
    cases ha : sign? a with
    | none => rw [ha] at hg; cases hg
    | some s =>
      rw [ha] at hg; cases hg; cases r1; cases r2
      exact ⟨s, _, by rw [sign_of ha], rfl, q H .refl co⟩
  · cases hg
/-! ### len, int, abs -/
def gLen : List D → Option D
  | [.str z] => if z.length ≤ sizeLine then some (.int z.length) else none
  | [.lst xs] => some (.int xs.length)
  | [.tup xs] => some (.int xs.length)
  | [.dic ks _] => some (.int ks.length)
  | _ => none
def rLenD (K : PySem.W.Frag) : List V → Hp → VK → Prop := fun xs H Q => (∃ x n, xs = [x] ∧ LenV K x H n ∧ Q (.int n) H) ∨ ∃ a kvs, xs = [V.ref a] ∧ H a = some (.dK kvs) ∧ Q (.int kvs.length) H
theorem cr_lenD : CallR X (.builtin "len") (rLenD X.K) := CallR.or call_len call_lenD
theorem cal_len : CalD K ca (rLenD K) gLen := fun Z H c xs ds d' Q z co r hg q => by
  unfold gLen at hg
  split at hg
  · split at hg
    · rename_i hl
      cases hg
      cases r with | cons r1 r2 => cases r1; cases r2; exact .inl ⟨_, _, rfl, ⟨hl, rfl⟩, q _ H .refl (.int _) co⟩
    · cases hg
  · cases hg
    cases r with | cons r1 r2 => cases r1 with | lst n h ra => cases r2; exact .inl ⟨_, _, rfl, .inl ⟨_, SqL.of h, ra.length.symm⟩, q _ H .refl (.int _) co⟩
  · cases hg
    cases r with | cons r1 r2 => cases r1 with | tup h ra => cases r2; exact .inl ⟨_, _, rfl, .inr ⟨_, h.s, ra.length.symm⟩, q _ H .refl (.int _) co⟩
  · cases hg
    cases r with | cons r1 r2 => cases r1 with | dic n h ra => cases r2; exact .inr ⟨_, _, rfl, h, by rw [List.length_map] at q; exact q _ H .refl (.int _) co⟩
  · cases hg
def gInt : List D → Option D
  | [.int i] => some (.int i)
  | [.bl b] => some (.int (if b then 1 else 0))
  | _ => none
theorem cal_int : CalD K ca (fun xs H Q => (∃ i, xs = [.int i] ∧ Q (.int i) H) ∨ ∃ k, xs = [.bl k] ∧ Q (.int (if k then 1 else 0)) H) gInt := fun Z H c xs ds d' Q z co r hg q => by
  unfold gInt at hg
  split at hg
  · cases hg; cases r with | cons r1 r2 => cases r1; cases r2; exact .inl ⟨_, rfl, q _ H .refl (.int _) co⟩
  · cases hg; cases r with | cons r1 r2 => cases r1; cases r2; exact .inr ⟨_, rfl, q _ H .refl (.int _) co⟩
  · cases hg
def gAbs : List D → Option D
  | [.int i] => some (.int (if i < 0 then -i else i))
  | _ => none
theorem cal_abs : CalD K ca (fun xs H Q => ∃ i, xs = [.int i] ∧ Q (.int (if i < 0 then -i else i)) H) gAbs := fun Z H c xs ds d' Q z co r hg q => by
  unfold gAbs at hg
  split at hg
  · cases hg; cases r with | cons r1 r2 => cases r1; cases r2; exact ⟨_, rfl, q _ H .refl (.int _) co⟩
  · cases hg
def gStr : List D → Option D
  | [.int i] => if i.natAbs.log2 < 1920 then some (.str (toString i)) else none
  | [.str x] => some (.str x)
  | _ => none
def rStrD : List V → Hp → VK → Prop := fun xs H Q => (∃ i, xs = [.int i] ∧ i.natAbs.log2 < 1920 ∧ Q (.str (toString i)) H) ∨ ∃ a, xs = [.str a] ∧ Q (.str a) H
theorem cr_strD : CallR X (.type "str") rStrD := CallR.or call_str_int SkE.call_str_str
theorem cal_str : CalD K ca rStrD gStr := fun Z H c xs ds d' Q z co r hg q => by
  unfold gStr at hg
  split at hg
  · split at hg
    · rename_i hl
      cases hg; cases r with | cons r1 r2 => cases r1; cases r2; exact .inl ⟨_, rfl, hl, q _ H .refl (.str _) co⟩
    · cases hg
  · cases hg; cases r with | cons r1 r2 => cases r1; cases r2; exact .inr ⟨_, rfl, q _ H .refl (.str _) co⟩
  · cases hg
/-! ### subscripts -/
def gIx : D → D → Option D
  | .lst xs, .int i => atI xs i
  | .tup xs, .int i => atI xs i
  | .str z, .int i => if z.length ≤ sizeLine then (atI z.cps.toList i).map fun c => .str ⟨#[c]⟩ else none
  | _, _ => none
theorem atI_rl {Z : Addr → Prop} {H : Hp} {vs : List V} {ds : List D} {i : Int} {d : D} (r : RlA K ca Z H vs ds) (h : atI ds i = some d) : ∃ v, atI vs i = some v ∧ Rl K ca Z H v d := by
  unfold atI at h ⊢
  rw [r.length]
  cases hj : ixN ds.length i with
  | none => rw [hj] at h; cases h
  | some j => rw [hj] at h; exact r.get h
theorem ix_D : BinD K ca (rIx K) gIx := fun Z H c x y d e d' Q z co r1 r2 hg q => by
  unfold gIx at hg
  split at hg
  · cases r2
    cases r1 with | lst n h ra =>
    obtain ⟨v, h1, h2⟩ := atI_rl ra hg
    exact .inl ⟨_, _, _, _, rfl, rfl, SqL.of h, h1, q _ H .refl h2 co⟩
  · cases r2
    cases r1 with | tup h ra =>
    obtain ⟨v, h1, h2⟩ := atI_rl ra hg
    exact .inr (.inl ⟨_, _, _, _, rfl, rfl, h.s, h1, q _ H .refl h2 co⟩)
  · split at hg
    · rename_i zz i hl
      cases r1; cases r2
      cases hc : atI zz.cps.toList i with
      | none => rw [hc] at hg; cases hg
      | some ch =>
        rw [hc] at hg; cases hg
        exact .inr (.inr ⟨_, _, _, rfl, rfl, hl, hc, q _ H .refl (.str _) co⟩)
    · cases hg
  · cases hg
/-! ### slices -/
def cutD (xs : List D) (lo hi : Option Int) : List D := (xs.drop (HT.sIx xs.length 0 lo)).take (HT.sIx xs.length xs.length hi - HT.sIx xs.length 0 lo)
def gSl : D → Option Int → Option Int → Option D
  | .lst xs, lo, hi => some (.lst (cutD xs lo hi))
  | .tup xs, lo, hi => some (.tup (cutD xs lo hi))
  | .str z, lo, hi => if z.length ≤ sizeLine then some (.str (cutS z lo hi)) else none
  | _, _, _ => none
def rSlD (K : PySem.W.Frag) : V → Option Int → Option Int → Hp → VK → Prop := fun x lo hi H Q => rSlL K x lo hi H Q ∨ rSlA K x lo hi H Q ∨ rSlS x lo hi H Q
theorem sl_D : SlR X (rSlD X.K) := SlR.or sl_list (SlR.or sl_tupA sl_str)
theorem RlA.cut {Z : Addr → Prop} {H : Hp} {vs : List V} {ds : List D} (r : RlA K ca Z H vs ds) (lo hi : Option Int) : RlA K ca Z H (cutV vs lo hi) (cutD ds lo hi) := by
  unfold cutV cutD
  rw [r.length]
  exact (r.drop _).take _
theorem sli_D : SliD K ca (rSlD K) gSl := fun Z H c x d d' lo hi Q z co r hg q => by
  unfold gSl at hg
  split at hg
  · cases hg
    cases r with | lst n h ra =>
    exact .inl ⟨_, _, rfl, SqL.of h, fun p np => q _ _ (ExtP.new np) (.lst (z.free np) upd_same ((ra.cut _ _).ext (ExtP.new (P := (· = (ca : Addr))) np) fun b e => e ▸ z.zca)) (co.new np)⟩
  · rename_i xs
    cases hg
    cases r with | tup h ra =>
    refine .inr (.inl ⟨_, _, rfl, h.s, fun e => ?_, fun _ p np => q _ _ (ExtP.new np) (.tup (TupAt.of upd_same) ((ra.cut _ _).ext (ExtP.new (P := (· = (ca : Addr))) np) fun b e => e ▸ z.zca)) (co.new np)⟩)
    have e2 : cutD xs lo hi = xs := by
      unfold cutD
      rw [← ra.length, e.1, e.2, List.drop_zero, Nat.sub_zero, ra.length, List.take_length]
    rw [e2] at q
    exact q _ H .refl (.tup h ra) co
  · split at hg
    · rename_i hl
      cases hg; cases r
      exact .inr (.inr ⟨_, rfl, hl, q _ H .refl (.str _) co⟩)
    · cases hg
  · cases hg
def eRev (f : Ev → M D) : Ev → M D := fun ρ => f ρ >>= fun x => liftO (match x with | .lst xs => some (.lst xs.reverse) | _ => none)
theorem d_revL {E : XK} {e : Expr} {f : Ev → M D} {k : Nat} {p1 p2 p3 pos : Pos} (he : PE X e (tD X.K ca E f)) : PE X (.Subscript e (.Slice none none (some (.UnaryOp .USub (.Constant (.int 1) k p1) p2)) p3) pos) (tD X.K ca E (eRev f)) := by
  refine ⟨fun pins s σ H Q I h => (pe_revL he).run pins s σ H Q I ?_⟩
  obtain ⟨Z, Y, ρ, c, eo, co, h⟩ := h
  refine ⟨Z, Y, ρ, c, eo, co, (Do.bind h).mono fun d c1 h1 x H1 e1 r1 co1 => ?_⟩
  obtain ⟨d', hg, h2⟩ := Do.lift h1
  cases r1 with
  | lst n hh ra =>
    cases hg
    exact ⟨_, _, rfl, SqL.of hh, fun p np => h2 _ _ (e1.trans (ExtP.new np)) (.lst ((eo.zok.ext e1).free np) upd_same (ra.reverse.ext (ExtP.new (P := (· = (ca : Addr))) np) eo.zc)) (co1.new np)⟩
  | _ => cases hg
/-! ### list(x), tuple(x), all, any -/
def gList : List D → Option D
  | [.lst xs] => some (.lst xs)
  | [.tup xs] => some (.lst xs)
  | _ => none
theorem cal_list : CalD K ca (fun xs H Q => ∃ p ys, xs = [.ref p] ∧ (SqL K H p ys ∨ SqT K H p ys) ∧ ∀ l, H l = none → Q (.ref l) (upd H l (.lst ys))) gList := fun Z H c xs ds d' Q z co r hg q => by
  unfold gList at hg
  split at hg
  · cases hg; cases r with | cons r1 r2 => cases r1 with | lst n h ra => cases r2; exact ⟨_, _, rfl, .inl (SqL.of h), fun p np => q _ _ (ExtP.new np) (.lst (z.free np) upd_same (ra.ext (ExtP.new (P := (· = (ca : Addr))) np) fun b e => e ▸ z.zca)) (co.new np)⟩
  · cases hg; cases r with | cons r1 r2 => cases r1 with | tup h ra => cases r2; exact ⟨_, _, rfl, .inr h.s, fun p np => q _ _ (ExtP.new np) (.lst (z.free np) upd_same (ra.ext (ExtP.new (P := (· = (ca : Addr))) np) fun b e => e ▸ z.zca)) (co.new np)⟩
  · cases hg
def gTuple : List D → Option D
  | [.lst xs] => some (.tup xs)
  | [.tup xs] => some (.tup xs)
  | _ => none
theorem cal_tuple : CalD K ca (fun xs H Q => ∃ p ys, xs = [.ref p] ∧ ((SqL K H p ys ∧ ∀ l, H l = none → Q (.ref l) (upd H l (.tup ys))) ∨ (SqT K H p ys ∧ Q (.ref p) H))) gTuple := fun Z H c xs ds d' Q z co r hg q => by
  unfold gTuple at hg
  split at hg
  · cases hg; cases r with | cons r1 r2 => cases r1 with | lst n h ra => cases r2; exact ⟨_, _, rfl, .inl ⟨SqL.of h, fun p np => q _ _ (ExtP.new np) (.tup (TupAt.of upd_same) (ra.ext (ExtP.new (P := (· = (ca : Addr))) np) fun b e => e ▸ z.zca)) (co.new np)⟩⟩
  · cases hg; cases r with | cons r1 r2 => cases r1 with | tup h ra => cases r2; exact ⟨_, _, rfl, .inr ⟨h.s, q _ H .refl (.tup h ra) co⟩⟩
  · cases hg
def blA : List D → Option (List Bool)
  | [] => some []
  | .bl b :: ds => (blA ds).map (b :: ·)
  | _ => none
theorem blA_of {Z : Addr → Prop} {H : Hp} : ∀ {vs : List V} {ds : List D} {bs : List Bool}, RlA K ca Z H vs ds → blA ds = some bs → vs = bs.map V.bl
  | _, _, _, .nil, h => by cases h; rfl
  | _, _, _, .cons (d := d) (ds := ds) r ra, h => by
    cases r with
    | bl b =>
      unfold blA at h
      cases hs : blA ds with
      | none => rw [hs] at h; cases h
      | some ws => rw [hs] at h; cases h; rw [blA_of ra hs]; rfl
    | _ => unfold blA at h; cases h
def gAll : List D → Option D
  | [.lst xs] => (blA xs).map fun bs => .bl (bs.all id)
  | _ => none
def gAny : List D → Option D
  | [.lst xs] => (blA xs).map fun bs => .bl (bs.any id)
  | _ => none
theorem cal_all : CalD K ca (rAll K) gAll := fun Z H c xs ds d' Q z co r hg q => by
  unfold gAll at hg
  split at hg
  · rename_i ys
    cases r with | cons r1 r2 =>
    cases r2
    cases r1 with | lst n h ra =>
    cases hb : blA ys with
    | none => rw [hb] at hg; cases hg
    | some bs => rw [hb] at hg; cases hg; exact ⟨_, bs, rfl, by rw [← blA_of ra hb]; exact SqL.of h, q _ H .refl (.bl _) co⟩
  · cases hg
theorem cal_any : CalD K ca (rAny K) gAny := fun Z H c xs ds d' Q z co r hg q => by
  unfold gAny at hg
  split at hg
  · rename_i ys
    cases r with | cons r1 r2 =>
    cases r2
    cases r1 with | lst n h ra =>
    cases hb : blA ys with
    | none => rw [hb] at hg; cases hg
    | some bs => rw [hb] at hg; cases hg; exact ⟨_, bs, rfl, by rw [← blA_of ra hb]; exact SqL.of h, q _ H .refl (.bl _) co⟩
  · cases hg
end
end G

set_option Elab.async false
set_option linter.all false
set_option maxRecDepth 100000
set_option maxHeartbeats 4000000
/-! G7: repr of trees. -/
namespace G
open PySem PySem.Spec PyProof.Rows L2
def encK : Key → PyData
  | .inl i => .int i
  | .inr x => .str x
mutual
def toPyR : D → Option PyData
  | .non => some .none
  | .bl b => some (.bool b)
  | .int i => some (.int i)
  | .str x => some (.str x)
  | .lst xs => (toPyRA xs).map .list
  | .tup xs => (toPyRA xs).map .tuple
  | .dic ks xs => (toPyRA xs).map fun ps => .dict ((ks.map encK).zip ps)
  | _ => none
def toPyRA : List D → Option (List PyData)
  | [] => some []
  | d :: ds => (toPyR d).bind fun p => (toPyRA ds).map (p :: ·)
end
def Sys (base : Heap) : Prop := ∃ o, base.get? sysModules = some o
section
variable {X : Cx} {ca : Dr} {Z : Addr → Prop} {pins : List (Addr × Obj)} {σ : L2.St} {H : Hp} {s : Shared}
theorem Sys.ne (y : Sys X.base) (I : L2.Inv X pins σ H s) {a : Addr} {o : HO} (h : H a = some o) : a ≠ sysModules := fun z => by
  obtain ⟨ob, e⟩ := y
  have := (I.bs _ ob e).2
  rw [← z, h] at this; cases this
theorem kv_vals : ∀ {kvs : List (Key × V)} {vs : List (Key × Value)}, KV kvs vs → Vals (kvs.map (·.2)) (vs.map (·.2))
  | _, _, .nil => .nil
  | _, _, .cons q r => .cons q.2 (kv_vals r)
theorem pairs_read {h : Heap} : ∀ {kvs : List (Key × V)} {vs : List (Key × Value)} {ps : List PyData}, KV kvs vs → (∃ as, ReadsAll h (vs.map (·.2)) ps as ∧ sysModules ∉ as) →
    ∃ bs, PyProof.V.PairsRead h encK vs ((kvs.map fun p => encK p.1).zip ps) bs ∧ sysModules ∉ bs
  | _, _, ps, .nil, ⟨as, ra, hn⟩ => by
    have ra : ReadsAll h [] ps as := ra
    cases ra
    exact ⟨[], .nil, by simp⟩
  | (k, v) :: kvs, (k', u) :: vs, ps, .cons r rs, ⟨bs0, ra, hn⟩ => by
    have ra : ReadsAll h (u :: vs.map (·.2)) ps bs0 := ra
    have e : k = k' := r.1
    subst e
    cases ra
    rename_i d ds as bs h1 h2
    obtain ⟨bs', q1, q2⟩ := pairs_read rs ⟨bs, h2, fun z => hn (List.mem_append_right _ z)⟩
    exact ⟨as ++ bs', .cons h1 q1, fun z => (List.mem_append.mp z).elim (fun z => hn (List.mem_append_left _ z)) q2⟩
mutual
theorem Rl.reads (y : Sys X.base) (I : L2.Inv X pins σ H s) : ∀ {v : V} {u : Value} {d : D} {p : PyData}, Rl X.K ca Z H v d → RelV v u → toPyR d = some p → ∃ as, Reads s.heap u p as ∧ sysModules ∉ as
  | _, _, _, _, .non, r, e => by simp only [toPyR] at e; cases e; cases r; exact ⟨_, .none, by simp⟩
  | _, _, _, _, .bl b, r, e => by simp only [toPyR] at e; cases e; cases r; exact ⟨_, .bool b, by simp⟩
  | _, _, _, _, .int b, r, e => by simp only [toPyR] at e; cases e; obtain ⟨t, rfl⟩ := r; exact ⟨_, .int b t, by simp⟩
  | _, _, _, _, .str b, r, e => by simp only [toPyR] at e; cases e; obtain ⟨t, rfl⟩ := r; exact ⟨_, .str b t, by simp⟩
  | _, _, _, _, .ty n, r, e => by simp only [toPyR] at e; cases e
  | _, _, _, _, .obj n, r, e => by simp only [toPyR] at e; cases e
  | _, _, _, _, .chn, r, e => by simp only [toPyR] at e; cases e
  | _, _, _, _, .lst (ds := ds) n h ra, r, e => by
    simp only [toPyR] at e
    cases hp : toPyRA ds with
    | none => rw [hp] at e; cases e
    | some ps =>
      rw [hp] at e; cases e; cases r
      obtain ⟨its, rv, ⟨o, m, ho, hc, _, hd⟩, _⟩ := I.list (SqL.of h)
      obtain ⟨as, q, hn⟩ := RlA.reads y I ra rv hp
      exact ⟨_, .list ho hc hd q, fun z => (List.mem_cons.mp z).elim (fun z => y.ne I h z.symm) hn⟩
  | _, _, _, _, .tup (ds := ds) h ra, r, e => by
    simp only [toPyR] at e
    cases hp : toPyRA ds with
    | none => rw [hp] at e; cases e
    | some ps =>
      rw [hp] at e; cases e; cases r
      obtain ⟨its, rv, ⟨o, ho, hc, m, hd⟩, _⟩ := I.tuple h.s
      obtain ⟨as, q, hn⟩ := RlA.reads y I ra rv hp
      exact ⟨_, .tuple ho hc hd q, hn⟩
  | _, _, _, _, .dic (kvs := kvs) (ds := ds) n h ra, r, e => by
    simp only [toPyR] at e
    cases hp : toPyRA ds with
    | none => rw [hp] at e; cases e
    | some ps =>
      rw [hp] at e; cases e; cases r
      obtain ⟨_, hsm, vs, kv, dd⟩ : kvs.length ≤ sizeLine ∧ _ ∧ ∃ vs, KV kvs vs ∧ s.heap.DictOf (mixKind X.prog X.w) _ vs := I.hok _ _ h
      have rv : Vals (kvs.map (·.2)) (vs.map (·.2)) := kv_vals kv
      have q := RlA.reads y I ra rv hp
      obtain ⟨bs, pr, hn⟩ := pairs_read kv q
      rw [List.map_map]
      refine ⟨_, PyProof.V.reads_dictOf (fun k key hk => ?_) dd pr, fun z => (List.mem_cons.mp z).elim (fun z => y.ne I h z.symm) hn⟩
      rcases keyIs_shape hk with ⟨i, t, rfl, rfl⟩ | ⟨x, t, rfl, rfl⟩
      · exact .int i t
      · exact .str x t
theorem RlA.reads (y : Sys X.base) (I : L2.Inv X pins σ H s) : ∀ {vs : List V} {us : List Value} {ds : List D} {ps : List PyData}, RlA X.K ca Z H vs ds → Vals vs us → toPyRA ds = some ps → ∃ as, ReadsAll s.heap us ps as ∧ sysModules ∉ as
  | _, _, _, _, .nil, r, e => by simp only [toPyRA] at e; cases e; cases r; exact ⟨_, .nil, by simp⟩
  | _, _, _, _, .cons (d := d) (ds := ds) h ra, r, e => by
    simp only [toPyRA] at e
    cases hp : toPyR d with
    | none => rw [hp] at e; cases e
    | some p =>
      rw [hp] at e
      cases hq : toPyRA ds with
      | none => rw [hq] at e; cases e
      | some ps =>
        rw [hq] at e; cases e
        cases r with
        | cons r1 r2 =>
          obtain ⟨as, q1, n1⟩ := Rl.reads y I h r1 hp
          obtain ⟨bs, q2, n2⟩ := RlA.reads y I ra r2 hq
          exact ⟨_, .cons q1 q2, fun z => (List.mem_append.mp z).elim n1 n2⟩
end
end
def okShow (p : PyData) : Bool := p.showable && (decide (p.shown.length ≤ sizeLine) && decide (p.depth ≤ 64))
def gRepr : List D → Option D
  | [d] => (toPyR d).bind fun p => if okShow p = true then some (.str p.shown) else none
  | _ => none
section
variable {X : Cx} {ca : Dr}
def rRepr (K : PySem.W.Frag) (ca : Dr) : List V → Hp → VK → Prop := fun xs H Q => ∃ Z v d p, xs = [v] ∧ Rl K ca Z H v d ∧ toPyR d = some p ∧ okShow p = true ∧ Q (.str p.shown) H
theorem cr_repr (y : Sys X.base) (gd : X.A.guards = some []) (hu : X.A.units + 128 < cLine) : CallR X (.builtin "repr") (rRepr X.K ca) := by
  intro pins s σ H xs us Q I r h
  obtain ⟨Z, v, d, p, rfl, rl, hp, ok, q⟩ := h
  obtain ⟨u, rfl, ru⟩ := vals1 r
  have o1 := Bool.and_eq_true_iff.mp ok
  have o2 := Bool.and_eq_true_iff.mp o1.2
  have hs := o1.1
  have hz : p.shown.length ≤ sizeLine := of_decide_eq_true o2.1
  have hd : p.depth ≤ 64 := of_decide_eq_true o2.2
  obtain ⟨as, rd, hn⟩ := rl.reads y I ru hp
  cases rl with
  | non => simp only [toPyR] at hp; cases hp; cases ru; exact PySem.P.repr_of_none ⟨.str _, H, I.tok _, ⟨_, rfl⟩, by simpa only [PyData.shown] using q⟩
  | bl b => simp only [toPyR] at hp; cases hp; cases ru; exact PySem.P.repr_of_bool ⟨.str _, H, I.tok _, ⟨_, rfl⟩, by simpa only [PyData.shown] using q⟩
  | int i =>
    simp only [toPyR] at hp; cases hp; obtain ⟨t, rfl⟩ := ru
    exact PySem.P.repr_of_int (of_decide_eq_true (by simpa only [PyData.showable] using hs)) ⟨.str _, H, I.tok _, ⟨_, rfl⟩, by simpa only [PyData.shown] using q⟩
  | str x =>
    simp only [toPyR] at hp; cases hp; obtain ⟨t, rfl⟩ := ru
    exact PySem.P.repr_of_str ⟨.str _, H, I.tok _, ⟨_, rfl⟩, by simpa only [PyData.shown] using q⟩ (by simpa only [PyData.shown] using hz)
  | ty n => simp only [toPyR] at hp; cases hp
  | obj n => simp only [toPyR] at hp; cases hp
  | chn => simp only [toPyR] at hp; cases hp
  | lst => cases ru; exact repr_of_reads' rd hs (fun _ => hn) gd (by omega) (fun _ _ e => e) (fun h' u tk hk => ⟨.str _, H, I.kept (t' := tk) hk, ⟨_, rfl⟩, q⟩) hz
  | tup => cases ru; exact repr_of_reads' rd hs (fun _ => hn) gd (by omega) (fun _ _ e => e) (fun h' u tk hk => ⟨.str _, H, I.kept (t' := tk) hk, ⟨_, rfl⟩, q⟩) hz
  | dic => cases ru; exact repr_of_reads' rd hs (fun _ => hn) gd (by omega) (fun _ _ e => e) (fun h' u tk hk => ⟨.str _, H, I.kept (t' := tk) hk, ⟨_, rfl⟩, q⟩) hz
theorem cal_repr {K : PySem.W.Frag} : CalD K ca (rRepr K ca) gRepr := fun Z H c xs ds d' Q z co r hg q => by
  unfold gRepr at hg
  split at hg
  · rename_i d
    cases r with | cons r1 r2 =>
    cases r2
    cases hp : toPyR d with
    | none => rw [hp] at hg; cases hg
    | some p =>
      rw [hp] at hg
      have hg : (if okShow p = true then some (D.str p.shown) else none) = some d' := hg
      by_cases ok : okShow p = true
      · rw [if_pos ok] at hg; cases hg
        exact ⟨Z, _, d, p, rfl, r1, hp, ok, q _ H .refl (.str _) co⟩
      · rw [if_neg ok] at hg; cases hg
  · cases hg
end
end G

set_option Elab.async false
set_option linter.all false
set_option maxRecDepth 100000
set_option maxHeartbeats 4000000
/-! G8: names of classes, constants of the module, isinstance, dicts, join. -/
namespace G
open PySem PySem.Spec PyProof.Rows L2
section
variable {X : Cx} {ca : Dr} {E : XK} {pos : Pos} {K : PySem.W.Frag}
/-- a built-in class as a value -/
theorem d_ty {x : Str} (T : String) (hm : X.mg x = none) (hv : bootBuiltins x = some (.type T)) (hg : Gl X x := by rfl) (hn : x ≠ "__name__" := by decide) (hd : (x == ("__debug__" : Str)) = false := by decide) : PE X (.Name x pos) (tD X.K ca E (eC (.ty T))) :=
  d_con (pe_bltn hg hm hv (show L2.RelV (.ty T) (.type T) from rfl) hn hd) fun _ _ => .ty T
/-- a constant of the module -/
theorem d_glob {x : Str} {v : V} {u : Value} {d : D} (hm : X.mg x = some u) (r : L2.RelV v u) (hr : ∀ Z H, Rl X.K ca Z H v d) (hg : Gl X x := by rfl) (hd : (x == ("__debug__" : Str)) = false := by decide) : PE X (.Name x pos) (tD X.K ca E (eC d)) :=
  d_con (pe_glob hg hm r hd) hr
/-! ### isinstance -/
def tyName : D → Option String
  | .non => some "NoneType"
  | .bl _ => some "bool"
  | .int _ => some "int"
  | .str _ => some "str"
  | .lst _ => some "list"
  | .tup _ => some "tuple"
  | .dic _ _ => some "dict"
  | _ => none
theorem tyX_of {Z : Addr → Prop} {H : Hp} {v : V} {d : D} {n : String} (r : Rl K ca Z H v d) (h : tyName d = some n) : TyX K H v (.type n) := by
  cases r with
  | non => cases h; exact .base .non
  | bl b => cases h; exact .base (.bl b)
  | int b => cases h; exact .base (.int b)
  | str b => cases h; exact .base (.str b)
  | ty n => cases h
  | obj a => cases h
  | chn => cases h
  | lst n hH ra => cases h; exact .base (.lst hH)
  | tup hH ra =>
    cases h
    rcases hH with hH | ⟨dd, us, n, sl, e, _, _⟩
    · exact .base (.tup hH)
    · exact .kTuple e rfl
  | dic n hH ra => cases h; exact .base (.dK hH)
def subTy (a b : String) : Bool := a == b || (a == "bool" && b == "int")
def tyAs : List String := ["NoneType", "bool", "int", "str", "list", "tuple", "dict"]
def tyBs : List String := ["bool", "int", "str", "list", "tuple", "dict"]
theorem kit_all : ∀ a ∈ tyAs, ∀ b ∈ tyBs, kitB a b = some (subTy a b) := by decide +kernel
theorem ty_mem {d : D} {n : String} (h : tyName d = some n) : n ∈ tyAs := by
  cases d <;> first | (cases h; decide) | cases h
def tyNm : D → Option String
  | .ty n => if n ∈ tyBs then some n else none
  | _ => none
def tyNms : List D → Option (List String)
  | [] => some []
  | d :: ds => (tyNm d).bind fun n => (tyNms ds).map (n :: ·)
def gIsi : List D → Option D
  | [d, .tup cs] => (tyName d).bind fun a => (tyNms cs).map fun ns => .bl (ns.any (subTy a))
  | [d, c] => (tyName d).bind fun a => (tyNm c).map fun n => .bl (subTy a n)
  | _ => none
def rIsiD (K : PySem.W.Frag) : List V → Hp → VK → Prop := fun xs H Q => rIsi K xs H Q ∨ rIsiT K xs H Q ∨ rIsiK K xs H Q
theorem cr_isi : CallR X (.builtin "isinstance") (rIsiD X.K) := CallR.or call_isi (CallR.or call_isiT call_isiK)
theorem tyNm_of {Z : Addr → Prop} {H : Hp} {v : V} {d : D} {n : String} (r : Rl K ca Z H v d) (h : tyNm d = some n) : v = .ty n ∧ n ∈ tyBs := by
  cases r with
  | ty m =>
    have h : (if m ∈ tyBs then some m else none) = some n := h
    by_cases hm : m ∈ tyBs
    · rw [if_pos hm] at h; cases h; exact ⟨rfl, hm⟩
    · rw [if_neg hm] at h; cases h
  | _ => cases h
theorem tyNms_of {Z : Addr → Prop} {H : Hp} : ∀ {vs : List V} {ds : List D} {ns : List String}, RlA K ca Z H vs ds → tyNms ds = some ns → vs = ns.map V.ty ∧ ∀ n ∈ ns, n ∈ tyBs
  | _, _, _, .nil, h => by cases h; exact ⟨rfl, by simp⟩
  | _, _, _, .cons (d := d) (ds := ds) r ra, h => by
    unfold tyNms at h
    cases hd : tyNm d with
    | none => rw [hd] at h; cases h
    | some n =>
      rw [hd] at h
      cases hs : tyNms ds with
      | none => rw [hs] at h; cases h
      | some ns =>
        rw [hs] at h; cases h
        obtain ⟨e1, m1⟩ := tyNm_of r hd
        obtain ⟨e2, m2⟩ := tyNms_of ra hs
        exact ⟨by rw [e1, e2]; rfl, fun k hk => (List.mem_cons.mp hk).elim (fun e => e ▸ m1) (m2 k)⟩
theorem kitAny_all {a : String} (ha : a ∈ tyAs) : ∀ {ns : List String}, (∀ n ∈ ns, n ∈ tyBs) → PySem.W.kitAny K (.type a) (ns.map Value.type) = some (ns.any (subTy a))
  | [], _ => kitAny_nil
  | n :: ns, h => by
    have ih := kitAny_all ha (ns := ns) fun k hk => h k (List.mem_cons_of_mem _ hk)
    rw [List.map_cons, List.any_cons]
    refine kitAny_cons (kit_ty (kit_all a ha n (h n List.mem_cons_self))) (fun e => ?_) (fun e => ?_)
    · rw [e, Bool.false_or]; exact ih
    · rw [e, Bool.true_or]
theorem clsA : ∀ ns : List String, Paired ClsV (ns.map V.ty) (ns.map Value.type)
  | [] => .nil
  | n :: ns => .cons (.ty n) (clsA ns)
theorem cal_isi : CalD K ca (rIsiD K) gIsi := fun Z H c xs ds d' Q z co r hg q => by
  have one : ∀ {d k : D}, RlA K ca Z H xs [d, k] → ((tyName d).bind fun a => (tyNm k).map fun n => D.bl (subTy a n)) = some d' → rIsiD K xs H Q := by
    intro d k r hg
    cases r with | cons r1 r2 => cases r2 with | cons r2 r3 =>
    cases r3
    cases ha : tyName d with
    | none => rw [ha] at hg; cases hg
    | some a =>
      rw [ha] at hg
      cases hn : tyNm k with
      | none =>
        have hg : ((tyNm k).map fun n => D.bl (subTy a n)) = some d' := hg
        rw [hn] at hg; cases hg
      | some n =>
        have hg : ((tyNm k).map fun n => D.bl (subTy a n)) = some d' := hg
        rw [hn] at hg; cases hg
        obtain ⟨rfl, m⟩ := tyNm_of r2 hn
        exact .inl ⟨_, _, _, _, _, rfl, .ty n, tyX_of r1 ha, kit_ty (kit_all a (ty_mem ha) n m), q _ H .refl (.bl _) co⟩
  unfold gIsi at hg
  split at hg
  · rename_i d cs
    cases r with | cons r1 r2 => cases r2 with | cons r2 r3 =>
    cases r3
    cases ha : tyName d with
    | none => rw [ha] at hg; cases hg
    | some a =>
      rw [ha] at hg
      have hg : ((tyNms cs).map fun ns => D.bl (ns.any (subTy a))) = some d' := hg
      cases hn : tyNms cs with
      | none => rw [hn] at hg; cases hg
      | some ns =>
        rw [hn] at hg; cases hg
        cases r2 with
        | tup hH ra =>
          obtain ⟨rfl, m⟩ := tyNms_of ra hn
          rcases hH with hH | ⟨dd, us, k, sl, e, _, rv⟩
          · exact .inr (.inl ⟨_, _, _, _, _, _, rfl, hH, clsA ns, tyX_of r1 ha, kitAny_all (ty_mem ha) m, q _ H .refl (.bl _) co⟩)
          · have eu := ClsV.all (clsA ns) rv
            subst eu
            exact .inr (.inr ⟨_, _, _, _, _, _, _, _, rfl, e, tyX_of r1 ha, kitAny_all (ty_mem ha) m, q _ H .refl (.bl _) co⟩)
  · exact one r hg
  · cases hg
/-! ### join -/
def strA : List D → Option (List Str)
  | [] => some []
  | .str x :: ds => (strA ds).map (x :: ·)
  | _ => none
theorem strA_of {Z : Addr → Prop} {H : Hp} : ∀ {vs : List V} {ds : List D} {xs : List Str}, RlA K ca Z H vs ds → strA ds = some xs → vs = xs.map V.str
  | _, _, _, .nil, h => by cases h; rfl
  | _, _, _, .cons (d := d) (ds := ds) r ra, h => by
    cases r with
    | str b =>
      unfold strA at h
      cases hs : strA ds with
      | none => rw [hs] at h; cases h
      | some ws => rw [hs] at h; cases h; rw [strA_of ra hs]; rfl
    | _ => unfold strA at h; cases h
def gJoin : D → List D → Option D
  | .str a, [x] => (seqOf x).bind fun ds => (strA ds).bind fun ys => if (ys.map (·.length)).sum + ys.length * a.length ≤ 16777216 then some (.str (Txt.join a ys)) else none
  | _, _ => none
theorem met_join : MetD K ca "str" (fun x xs H Q => ∃ a p, ∃ ys : List Str, x = .str a ∧ xs = [.ref p] ∧ (SqL K H p (ys.map V.str) ∨ SqT K H p (ys.map V.str)) ∧
    (ys.map (·.length)).sum + ys.length * a.length ≤ 16777216 ∧ Q (.str (Txt.join a ys)) H) gJoin := fun Z H c x xs d d' ds Q z co r rs hg q => by
  unfold gJoin at hg
  split at hg
  · rename_i a e
    cases r
    cases rs with | cons r1 r2 =>
    cases r2
    cases he : seqOf e with
    | none => rw [he] at hg; cases hg
    | some es =>
      rw [he] at hg
      have hg : ((strA es).bind fun ys => if (ys.map (·.length)).sum + ys.length * a.length ≤ 16777216 then some (D.str (Txt.join a ys)) else none) = some d' := hg
      cases hy : strA es with
      | none => rw [hy] at hg; cases hg
      | some ys =>
        rw [hy] at hg
        have hg : (if (ys.map (·.length)).sum + ys.length * a.length ≤ 16777216 then some (D.str (Txt.join a ys)) else none) = some d' := hg
        by_cases hz : (ys.map (·.length)).sum + ys.length * a.length ≤ 16777216
        · rw [if_pos hz] at hg; cases hg
          cases r1 with
          | lst n hH ra => cases he; exact ⟨a, _, ys, rfl, rfl, .inl (by rw [← strA_of ra hy]; exact SqL.of hH), hz, q _ H .refl (.str _) co⟩
          | tup hH ra => cases he; exact ⟨a, _, ys, rfl, rfl, .inr (by rw [← strA_of ra hy]; exact hH.s), hz, q _ H .refl (.str _) co⟩
          | _ => cases he
        · rw [if_neg hz] at hg; cases hg
  · cases hg
/-! ### dicts -/
def keyD : D → Option Key
  | .int i => some (.inl i)
  | .str x => some (.inr x)
  | _ => none
def dKey : Key → D
  | .inl i => .int i
  | .inr x => .str x
/-- in its place, or at the end -/
def putD (ks : List Key) (vs : List D) (k : Key) (v : D) : List Key × List D := match ks, vs with
  | k' :: ks, v' :: vs => if k' = k then (k' :: ks, v :: vs) else let r := putD ks vs k v; (k' :: r.1, v' :: r.2)
  | ks, vs => (ks ++ [k], vs ++ [v])
def mergeD : List (Key × D) → List Key × List D → List Key × List D
  | [], a => a
  | (k, v) :: r, a => mergeD r (putD a.1 a.2 k v)
theorem keyD_of {Z : Addr → Prop} {H : Hp} {v : V} {d : D} {k : Key} (r : Rl K ca Z H v d) (h : keyD d = some k) : v = kV k := by
  cases r <;> first | (cases h; rfl) | cases h
theorem map_pos {kvs : List (Key × V)} {k : Key} {v : V} (h : ¬ k ∈ kvs.map (·.1)) : kvs.map (fun kv => if kv.1 = k then (kv.1, v) else kv) = kvs := by
  induction kvs with
  | nil => rfl
  | cons p r ih =>
    rw [List.map_cons, if_neg (fun e => h (by rw [List.map_cons, e]; exact List.mem_cons_self)), ih fun m => h (by rw [List.map_cons]; exact List.mem_cons_of_mem _ m)]
theorem putK_cons_eq {p : Key × V} {r : List (Key × V)} {k : Key} {v : V} (hn : ((p :: r).map (·.1)).Nodup) (e : p.1 = k) : putK (p :: r) k v = (k, v) :: r := by
  unfold putK
  rw [if_pos (by rw [List.any_cons, decide_eq_true e, Bool.true_or]), List.map_cons, if_pos e, e]
  rw [List.map_cons, List.nodup_cons, e] at hn
  rw [map_pos hn.1]
theorem putK_cons_ne {p : Key × V} {r : List (Key × V)} {k : Key} {v : V} (e : ¬ p.1 = k) : putK (p :: r) k v = p :: putK r k v := by
  unfold putK
  rw [List.any_cons, decide_eq_false e, Bool.false_or]
  by_cases h : (r.any fun kv => decide (kv.1 = k)) = true
  · rw [if_pos h, if_pos h, List.map_cons, if_neg e]
  · rw [if_neg h, if_neg h]; rfl
theorem putK_keys {r : List (Key × V)} {k : Key} {v : V} (hn : (r.map (·.1)).Nodup) : ((putK r k v).map (·.1)).Nodup ∧ (∀ j, j ∈ (putK r k v).map (·.1) ↔ j ∈ r.map (·.1) ∨ j = k) := by
  induction r with
  | nil => simp [putK]
  | cons p r ih =>
    have hn' := hn
    rw [List.map_cons, List.nodup_cons] at hn'
    by_cases e : p.1 = k
    · rw [putK_cons_eq hn e]
      subst e
      refine ⟨hn, fun j => ?_⟩
      simp
      intro h; exact .inl h
    · rw [putK_cons_ne e]
      obtain ⟨h1, h2⟩ := ih hn'.2
      refine ⟨?_, fun j => ?_⟩
      · rw [List.map_cons, List.nodup_cons]
        exact ⟨fun m => ((h2 _).mp m).elim hn'.1 e, h1⟩
      · rw [List.map_cons, List.mem_cons, h2, List.map_cons, List.mem_cons, or_assoc]
theorem rl_put {Z : Addr → Prop} {H : Hp} : ∀ {kvs : List (Key × V)} {ds : List D} {k : Key} {v : V} {d : D}, (kvs.map (·.1)).Nodup → RlA K ca Z H (kvs.map (·.2)) ds → Rl K ca Z H v d →
    (putK kvs k v).map (·.1) = (putD (kvs.map (·.1)) ds k d).1 ∧ RlA K ca Z H ((putK kvs k v).map (·.2)) (putD (kvs.map (·.1)) ds k d).2
  | [], ds, k, v, d, _, ra, r => by
    have ra : RlA K ca Z H [] ds := ra
    cases ra
    exact ⟨rfl, .cons r .nil⟩
  | p :: kvs, d' :: ds, k, v, d, hn, .cons r1 ra, r => by
    by_cases e : p.1 = k
    · rw [putK_cons_eq hn e]
      have e2 : putD ((p :: kvs).map (·.1)) (d' :: ds) k d = (p.1 :: kvs.map (·.1), d :: ds) := by
        show (if p.1 = k then (p.1 :: kvs.map (·.1), d :: ds) else _) = _
        rw [if_pos e]
      rw [e2]
      exact ⟨by rw [List.map_cons, e], .cons r ra⟩
    · rw [putK_cons_ne e]
      rw [List.map_cons, List.nodup_cons] at hn
      obtain ⟨h1, h2⟩ := rl_put (k := k) (v := v) (d := d) hn.2 ra r
      have e2 : putD ((p :: kvs).map (·.1)) (d' :: ds) k d = (p.1 :: (putD (kvs.map (·.1)) ds k d).1, d' :: (putD (kvs.map (·.1)) ds k d).2) := by
        show (if p.1 = k then (p.1 :: kvs.map (·.1), d :: ds) else _) = _
        rw [if_neg e]
      rw [e2]
      exact ⟨by rw [List.map_cons, h1], .cons r1 h2⟩
theorem rl_merge {Z : Addr → Prop} {H : Hp} : ∀ {more : List (Key × V)} {mds : List D} {kvs : List (Key × V)} {ds : List D}, (kvs.map (·.1)).Nodup → RlA K ca Z H (kvs.map (·.2)) ds → RlA K ca Z H (more.map (·.2)) mds →
    (mergeK kvs more).map (·.1) = (mergeD ((more.map (·.1)).zip mds) (kvs.map (·.1), ds)).1 ∧ RlA K ca Z H ((mergeK kvs more).map (·.2)) (mergeD ((more.map (·.1)).zip mds) (kvs.map (·.1), ds)).2
  | [], mds, kvs, ds, _, ra, rm => by
    have rm : RlA K ca Z H [] mds := rm
    cases rm
    exact ⟨rfl, ra⟩
  | (k, v) :: more, d :: mds, kvs, ds, hn, ra, .cons r1 rm => by
    obtain ⟨e1, r2⟩ := rl_put (k := k) (v := v) (d := d) hn ra r1
    have := rl_merge (more := more) (mds := mds) (putK_keys (k := k) (v := v) hn).1 r2 rm
    rw [e1] at this
    exact this
end
end G

set_option Elab.async false
set_option linter.all false
set_option maxRecDepth 100000
set_option maxHeartbeats 4000000
/-! G9: dict displays, dict(pairs), list(d.items()). -/
namespace G
open PySem PySem.Spec PyProof.Rows L2
/-- the pairs of a display, key ahead of value -/
def ePairs : List ((Ev → M D) × (Ev → M D)) → Ev → M (List (Key × D))
  | [], _ => pure []
  | (fk, fv) :: r, ρ => fk ρ >>= fun x => liftO (keyD x) >>= fun k => fv ρ >>= fun v => ePairs r ρ >>= fun ps => pure ((k, v) :: ps)
def mkDic (ps : List (Key × D)) : D := let r := mergeD ps ([], []); .dic r.1 r.2
def eDict (ps : List ((Ev → M D) × (Ev → M D))) : Ev → M D := fun ρ => ePairs ps ρ >>= fun kvs => if kvs.length ≤ 15 then pure (mkDic kvs) else stuck
section
variable {X : Cx} {ca : Dr} {E : XK} {pos : Pos} {K : PySem.W.Frag}
def trOf (K : PySem.W.Frag) (ca : Dr) (E : XK) (ps : List ((Ev → M D) × (Ev → M D))) : List (TE × TE) := ps.map fun p => (tD K ca E p.1, tD K ca E p.2)
theorem dp_nil : PPs X pos [] [] (trOf X.K ca E []) := pps_nil
theorem dp_cons {k v : Expr} {ks : List (Option Expr)} {vs : List Expr} {fk fv : Ev → M D} {ps : List ((Ev → M D) × (Ev → M D))} (hk : PE X k (tD X.K ca E fk)) (hv : PE X v (tD X.K ca E fv)) (hr : PPs X pos ks vs (trOf X.K ca E ps)) :
    PPs X pos (some k :: ks) (v :: vs) (trOf X.K ca E ((fk, fv) :: ps)) := pps_cons hk hv hr
theorem tPairs_imp : ∀ (trs : List (TE × TE)) {σ : L2.St} {H : Hp} {Q Q' : List (V × V) → Hp → Prop}, (∀ t ∈ trs, ∀ (σ : L2.St) (H : Hp) (R R' : VK), (∀ v H', R v H' → R' v H') → (t.1 σ H R → t.1 σ H R') ∧ (t.2 σ H R → t.2 σ H R')) → (∀ ps H', Q ps H' → Q' ps H') → tPairs trs σ H Q → tPairs trs σ H Q'
  | [], σ, H, Q, Q', _, h, q => h _ _ q
  | (tk, tv) :: r, σ, H, Q, Q', m, h, q => by
    have m1 := m (tk, tv) List.mem_cons_self
    refine (m1 σ H _ _ fun x H1 q1 => ?_).1 q
    exact (m1 σ H1 _ _ fun y H2 q2 => tPairs_imp r (fun t ht => m t (List.mem_cons_of_mem _ ht)) (fun ps H3 q3 => h _ _ q3) q2).2 q1
theorem pairs_run {Z Y : Addr → Prop} : ∀ {ps : List ((Ev → M D) × (Ev → M D))} {σ : L2.St} {ρ : Ev} {H : Hp} {c : Churn} {Q : List (V × V) → Hp → Prop}, EnvOk X.K ca Z Y H σ ρ → ChOk X.K ca H c →
    Do X.K ca E (U Z Y) H (ePairs ps ρ c) (fun kds c' => ∀ (kvs : List (Key × V)) (H' : Hp), Ext ca H H' → kvs.map (·.1) = kds.map (·.1) → RlA X.K ca (U Z Y) H' (kvs.map (·.2)) (kds.map (·.2)) → ChOk X.K ca H' c' → Q (kvs.map fun kv => (kV kv.1, kv.2)) H') → tPairs (trOf X.K ca E ps) σ H Q
  | [], σ, ρ, H, c, Q, eo, co, h => h [] H .refl rfl .nil co
  | (fk, fv) :: r, σ, ρ, H, c, Q, eo, co, h => by
    refine ⟨Z, Y, ρ, c, eo, co, (Do.bind h).mono fun d c1 h1 x H1 e1 r1 co1 => ?_⟩
    obtain ⟨k, hk, h2⟩ := Do.lift (Do.bind h1)
    have ex := keyD_of r1 hk
    refine ⟨Z, Y, ρ, c1, eo.ext e1, co1, ((Do.bind h2).ext e1).mono fun d2 c2 h3 y H2 e2 r2 co2 => ?_⟩
    refine pairs_run (eo.ext (e1.trans e2)) co2 (((Do.bind h3).ext (e1.trans e2)).mono fun kds c3 h4 kvs H3 e3 ek ra co3 => ?_)
    have := h4 ((k, y) :: kvs) H3 ((e1.trans e2).trans e3) (by rw [List.map_cons, List.map_cons, ek]) (.cons (r2.ext e3 eo.zc) ra) co3
    rw [List.map_cons] at this
    rw [ex]
    exact this
theorem zip_self {α β : Type} : ∀ l : List (α × β), (l.map (·.1)).zip (l.map (·.2)) = l
  | [] => rfl
  | q :: r => by rw [List.map_cons, List.map_cons, List.zip_cons_cons, zip_self r]
theorem Do.anti {K : PySem.W.Frag} {Z Z' : Addr → Prop} {H : Hp} {α : Type} {r : R α} {k : α → Churn → Prop} (hz : ∀ b, Z b → Z' b) (h : Do K ca E Z H r k) : Do K ca E Z' H r k :=
  At.mono h (fun _ _ z => z) fun x c z cv od H' e ⟨q1, d, fs, q2, q3, q4, q5⟩ co => z cv od H' e ⟨q1, d, fs, q2, q3, q4, q5.anti hz⟩ co
theorem d_dict {keys : List (Option Expr)} {values : List Expr} {ps : List ((Ev → M D) × (Ev → M D))} (h : PPs X pos keys values (trOf X.K ca E ps)) (hall : keys.all (·.isSome) = true := by rfl) (hl : keys.length = values.length := by rfl) (h0 : keys ≠ [] := by intro z; cases z) (h15 : keys.length ≤ 15 := by decide) :
    PE X (.Dict keys values pos) (tD X.K ca E (eDict ps)) := by
  refine ⟨fun pins s σ H Q I hw => (pe_disp h hall hl h0 h15).run pins s σ H Q I ?_⟩
  obtain ⟨Z, Y, ρ, c, eo, co, hw⟩ := hw
  intro p np
  have n0 : ExtP (fun b : Addr => b = ca) H (upd H p (.dK [])) := ExtP.new np
  have npca : p ≠ ca := co.ne np
  have eb : EnvOk X.K ca Z (fun b => Y b ∨ b = p) (upd H p (.dK [])) σ ρ := eo.blk np npca.symm (fun z => by have q := co.2; rw [z, np] at q; cases q) n0 upd_same
  refine pairs_run eb (co.new np) ((((Do.bind hw).ext n0).anti fun b z => z.imp id .inl).mono fun kds c1 h1 kvs H1 e1 ek ra co1 => ?_)
  by_cases hz : kds.length ≤ 15
  · rw [if_pos hz] at h1
    have h1 : ∀ v H', Ext ca H H' → Rl X.K ca (U Z Y) H' v (mkDic kds) → ChOk X.K ca H' c1 → Q v H' := h1
    have hp1 : H1 p = some (.dK []) := e1.at_ upd_same (.inl npca)
    have hlen : kvs.length = kds.length := by have := congrArg List.length ek; simpa using this
    have xp : ExtP (fun b => b = p) H1 (upd H1 p (.dK (mergeK [] kvs))) := fun b o q => by
      by_cases hb : b = p
      · subst hb
        rw [hp1] at q; cases q
        exact .inr ⟨rfl, trivial, _, upd_same, trivial⟩
      · exact .inl (by rw [upd_ne hb]; exact q)
    refine ⟨hp1, kvs, rfl, by omega, h1 _ _ ?_ ?_ ?_⟩
    · intro b o q
      have nb : b ≠ p := fun z => by rw [z, np] at q; cases q
      rw [upd_ne nb]
      exact (n0.trans e1) b o q
    · have m := rl_merge (K := X.K) (ca := ca) (Z := U Z fun b => Y b ∨ b = p) (H := H1) (more := kvs) (mds := kds.map (·.2)) (kvs := []) (ds := []) List.nodup_nil .nil ra
      rw [ek, zip_self] at m
      have r3 := (m.2.ext xp fun b z => .inr (.inr z)).anti (Z' := U Z Y) fun b z => z.imp id .inl
      have r4 := Rl.dic (K := X.K) (ca := ca) (Z := U Z Y) (eo.zok.free np) (upd_same (H := H1) (a := p) (o := .dK (mergeK [] kvs))) r3
      rw [m.1] at r4
      exact r4
    · obtain ⟨q1, q2⟩ := co1
      exact ⟨by rw [upd_ne (Ne.symm npca)]; exact q1, by rw [upd_ne (fun z => by rw [z, hp1] at q2; cases q2)]; exact q2⟩
  · rw [if_neg hz] at h1; exact h1.elim
/-! ### dict(pairs) -/
def pairD : D → Option (Key × D)
  | .tup [k, v] => (keyD k).map fun k => (k, v)
  | _ => none
def pairsD : List D → Option (List (Key × D))
  | [] => some []
  | d :: ds => (pairD d).bind fun p => (pairsD ds).map (p :: ·)
def gDict : List D → Option D
  | [.lst xs] => (pairsD xs).map mkDic
  | _ => none
theorem pairsD_of {Z : Addr → Prop} {H : Hp} : ∀ {vs : List V} {ds : List D} {kds : List (Key × D)}, RlA K ca Z H vs ds → pairsD ds = some kds →
    ∃ (as : List Addr) (kvs : List (Key × V)), vs = as.map V.ref ∧ Paired (fun p kv => SqT K H p [kV kv.1, kv.2]) as kvs ∧ kvs.map (·.1) = kds.map (·.1) ∧ RlA K ca Z H (kvs.map (·.2)) (kds.map (·.2))
  | _, _, _, .nil, h => by cases h; exact ⟨[], [], rfl, .nil, rfl, .nil⟩
  | _, _, _, .cons (d := d) (ds := ds) r ra, h => by
    unfold pairsD at h
    cases hd : pairD d with
    | none => rw [hd] at h; cases h
    | some p =>
      rw [hd] at h
      cases hs : pairsD ds with
      | none => rw [hs] at h; cases h
      | some ps =>
        rw [hs] at h; cases h
        obtain ⟨as, kvs, rfl, q1, q2, q3⟩ := pairsD_of ra hs
        unfold pairD at hd
        split at hd
        · rename_i k v
          cases hk : keyD k with
          | none => rw [hk] at hd; cases hd
          | some kk =>
            rw [hk] at hd; cases hd
            cases r with
            | tup hH rr =>
              cases rr with | cons r1 rr => cases rr with | cons r2 rr =>
              cases rr
              have e1 := keyD_of r1 hk
              subst e1
              exact ⟨_ :: as, (kk, _) :: kvs, rfl, .cons hH.s q1, by rw [List.map_cons, List.map_cons, q2], .cons r2 q3⟩
        · cases hd
theorem cal_dict : CalD K ca (fun xs H Q => ∃ (a : Addr) (ps : List Addr) (kvs : List (Key × V)), xs = [.ref a] ∧ SqL K H a (ps.map V.ref) ∧ Paired (fun p kv => SqT K H p [kV kv.1, kv.2]) ps kvs ∧
    ∀ p, H p = none → Q (.ref p) (upd H p (.dK (mergeK [] kvs)))) gDict := fun Z H c xs ds d' Q z co r hg q => by
  unfold gDict at hg
  split at hg
  · rename_i ys
    cases r with | cons r1 r2 =>
    cases r2
    cases hy : pairsD ys with
    | none => rw [hy] at hg; cases hg
    | some kds =>
      rw [hy] at hg; cases hg
      cases r1 with | lst n hH ra =>
      obtain ⟨as, kvs, rfl, q1, q2, q3⟩ := pairsD_of ra hy
      refine ⟨_, as, kvs, rfl, SqL.of hH, q1, fun p np => q _ _ (ExtP.new np) ?_ (co.new np)⟩
      have m := rl_merge (more := kvs) (mds := kds.map (·.2)) (kvs := []) (ds := []) List.nodup_nil .nil q3
      rw [q2, zip_self] at m
      have r4 := Rl.dic (K := K) (ca := ca) (Z := Z) (z.free np) (upd_same (H := H) (a := p) (o := .dK (mergeK [] kvs))) (m.2.ext (ExtP.new (P := fun b : Addr => b = ca) np) fun b e => e ▸ z.zca)
      rw [m.1] at r4
      exact r4
  · cases hg
/-! ### list(d.items()) -/
def itemsD (ks : List Key) (vs : List D) : List D := (ks.zip vs).map fun p => .tup [dKey p.1, p.2]
def eItems (f : Ev → M D) : Ev → M D := fun ρ => f ρ >>= fun d => liftO (match d with | .dic ks vs => some (.lst (itemsD ks vs)) | _ => none)
theorem kV_rl {Z : Addr → Prop} {H : Hp} (k : Key) : Rl K ca Z H (kV k) (dKey k) := by
  cases k with
  | inl i => exact .int i
  | inr x => exact .str x
theorem items_rl {Z : Addr → Prop} {H' : Hp} : ∀ {ts : List Addr} {kvs : List (Key × V)} {ds : List D}, Paired (fun (t : Addr) (q : Key × V) => H' t = some (.tup [kV q.1, q.2])) ts kvs → RlA K ca Z H' (kvs.map (·.2)) ds →
    RlA K ca Z H' (ts.map V.ref) (itemsD (kvs.map (·.1)) ds)
  | _, _, ds, .nil, r => by
    have r : RlA K ca Z H' [] ds := r
    cases r
    exact .nil
  | _, _, _, .cons (a := t) (b := kv) h hs, .cons (d := d) r rs => .cons (.tup (TupAt.of h) (.cons (kV_rl _) (.cons r .nil))) (items_rl hs rs)
theorem d_listItems {e : Expr} {f : Ev → M D} {p apos cpos : Pos} (hc : X.calm = true) (he : PE X e (tD X.K ca E f)) (hm : X.mg "list" = none) (hv : bootBuiltins "list" = some (.type "list")) (hg : Gl X "list" := by rfl) (hbase : attributeBase e "items" X.env (eval e X.env) = eval e X.env := by rfl) (hline : (apos.endLine == cpos.line) = true := by rfl)
    (hs : starEach [.Call (.Attribute e "items" apos) [] [] cpos] X.env = (false, eval (.Call (.Attribute e "items" apos) [] [] cpos) X.env) :: starEach [] X.env := by rfl) :
    PE X (.Call (.Name "list" p) [.Call (.Attribute e "items" apos) [] [] cpos] [] pos) (tD X.K ca E (eItems f)) := by
  refine ⟨fun pins s σ H Q I h => (LiI.pe_listItems hc he hg hm hv hbase hline hs).run pins s σ H Q I ?_⟩
  obtain ⟨Z, Y, ρ, c, eo, co, h⟩ := h
  refine ⟨Z, Y, ρ, c, eo, co, (Do.bind h).mono fun d c1 h1 x H1 e1 r1 co1 => ?_⟩
  obtain ⟨d', hg, h2⟩ := Do.lift h1
  cases r1 with
  | dic n hH ra =>
    cases hg
    refine ⟨_, _, rfl, hH, fun H' p ts k np nt npt hp ht => ?_⟩
    have ex : ExtP (fun b : Addr => b = ca) H1 H' := .of k
    exact h2 _ H' (e1.trans ex) (.lst ((eo.zok.ext e1).free np) hp (items_rl ht (ra.ext ex eo.zc))) (co1.ext k)
  | _ => cases hg
end
end G

set_option Elab.async false
set_option linter.all false
set_option maxRecDepth 100000
set_option maxHeartbeats 8000000
/-! GA: len(set(xs)), xs a list or a tuple of ints and texts. -/
namespace G
open PySem PySem.Spec PyProof.Rows L2
def hasK (acc : List Key) (k : Key) : Bool := acc.any fun j => decide (j = k)
theorem hasK_iff {acc : List Key} {k : Key} : hasK acc k = true ↔ k ∈ acc := by
  unfold hasK
  rw [List.any_eq_true]
  exact ⟨fun ⟨j, h, e⟩ => of_decide_eq_true e ▸ h, fun h => ⟨k, h, decide_eq_true rfl⟩⟩
theorem hasK_snoc {acc : List Key} {k j : Key} : hasK (acc ++ [k]) j = (hasK acc j || decide (j = k)) := by
  unfold hasK
  rw [List.any_append, List.any_cons, List.any_nil, Bool.or_false]
  congr 1
  by_cases e : j = k
  · rw [decide_eq_true e, decide_eq_true e.symm]
  · rw [decide_eq_false e, decide_eq_false fun z => e z.symm]
theorem setOf_as {prog : Program} {w : World} {h : Heap} {a : Addr} {S T : Key → Bool} {n m : Nat} (x : h.SetOf (mixKind prog w) a S n) (e : ∀ k, S k = T k) (en : n = m) : h.SetOf (mixKind prog w) a T m := by
  cases funext e
  cases en
  exact x
/-- one more key met -/
def stepK (acc : List Key) (k : Key) : List Key := if hasK acc k = true then acc else acc ++ [k]
/-- the keys met so far, each once -/
def metK (acc : List Key) : List Key → List Key
  | [] => acc
  | k :: r => metK (stepK acc k) r
theorem stepK_le (acc : List Key) (k : Key) : (stepK acc k).length ≤ acc.length + 1 := by
  unfold stepK
  split
  · omega
  · rw [List.length_append]; simp
theorem metK_le : ∀ (ks acc : List Key), (metK acc ks).length ≤ acc.length + ks.length
  | [], acc => Nat.le_refl _
  | k :: r, acc => by
    have h1 := metK_le r (stepK acc k)
    have h2 := stepK_le acc k
    rw [List.length_cons]
    show (metK (stepK acc k) r).length ≤ _
    omega
section
variable {prog : Program} {w : World} {A : Around} {R : Result → Shared → Prop} {I : Addr} {fp wr : List Addr} {G : Array GenState → Array GenState → Prop} {n : Nat} {P : Nat → Value → Prop} {Lp : Nat → Shared → Prop}
/-- the filling of a new set from a walk over keys -/
theorem fill_set (walk : WalksS prog w A.in1 I fp wr G n P Lp) (C : Addr) (apart : C ∉ fp) (ks : List Key) (many : ks.length = n) (few : n + 1 < scanBound) (item : ∀ i v, P i v → ∃ k, ks[i]? = some k ∧ keyIs k v = true) :
    ∀ (rest acc : List Key) (i : Nat) (u : Shared), ks.drop i = rest → i ≤ n → acc.length ≤ i → Lp i u → u.heap.SetOf (mixKind prog w) C (hasK acc) acc.length →
      (∀ u', Moved (C :: wr) G u u' → u'.heap.SetOf (mixKind prog w) C (hasK (metK acc rest)) (metK acc rest).length → R (.ok (.ret .none)) u') →
      codeAny (model prog w) A (.builtin "set.update.loop" ⟨[.ref C, .ref I], []⟩) R u := by
  have outW : C ∉ wr := fun z => apart (walk.sub _ z)
  have wider : ∀ b ∈ wr, b ∈ C :: wr := fun _ => List.mem_cons_of_mem _
  have stays : ∀ {u u' : Shared} {S : Key → Bool} {m : Nat}, Moved wr G u u' → u.heap.SetOf (mixKind prog w) C S m → u'.heap.SetOf (mixKind prog w) C S m :=
    fun mv ⟨o, es, ep, t, at_, more⟩ => ⟨o, es, ep, t, mv.heap C _ outW at_, more⟩
  intro rest
  induction rest with
  | nil =>
    intro acc i u hd hi _ st hS back
    have whole : i = n := by
      have := congrArg List.length hd
      rw [List.length_drop, List.length_nil] at this
      omega
    subst whole
    refine codeAny_builtin PyProof.Rows.F.entry_set_update_loop ?_
    rw [Around.under_plainId PyProof.Rows.F.plain_set_update_loop _]
    change wpAny _ A.in1 (pyNext (.ref I) >>= _) _ _ u
    exact wpAny_bind (walk.done u _ _ st fun u' mv => wpAny_pure (back u' (mv.mono wider) (stays mv hS)))
  | cons k rest ih =>
    intro acc i u hd hi hacc st hS back
    have more : i < n := by
      have := congrArg List.length hd
      rw [List.length_drop, List.length_cons] at this
      omega
    have here : ks[i]? = some k := by
      have := congrArg List.head? hd
      rw [List.head?_drop] at this
      simpa using this
    have behind : ks.drop (i + 1) = rest := by
      have := congrArg List.tail hd
      rw [List.tail_drop] at this
      simpa using this
    refine codeAny_builtin PyProof.Rows.F.entry_set_update_loop ?_
    rw [Around.under_plainId PyProof.Rows.F.plain_set_update_loop _]
    change wpAny _ A.in1 (pyNext (.ref I) >>= _) _ _ u
    refine wpAny_bind (walk.item i u _ _ more st fun v u' hv st' mv => ?_)
    obtain ⟨k', hk', isk⟩ := item i v hv
    rw [here] at hk'
    cases hk'
    have scan : v.scannable = true := by
      rcases keyIs_shape isk with ⟨_, _, rfl, rfl⟩ | ⟨_, _, rfl, rfl⟩ <;> rfl
    have hS' := stays mv hS
    change wpAny _ A.in1 (holding [v] (setAdd C v) >>= _) _ _ u'
    refine wpAny_bind (wpAny_holding ?_)
    unfold setAdd
    refine wpAny_holding (wpAny_bind ((mixKind prog w).pyHash (k := k) isk ?_))
    refine wpAny_setAddHashed_of (knd := mixKind prog w) (s := { u' with toks := u'.toks + 1 }) isk scan hS' (by omega) fun h' only grown => ?_
    have next : h'.SetOf (mixKind prog w) C (hasK (stepK acc k)) (stepK acc k).length := by
      unfold stepK
      by_cases hm : hasK acc k = true
      · rw [if_pos hm]
        refine setOf_as grown (fun j => ?_) (if_pos hm)
        by_cases e : j = k
        · subst e; rw [hm]; rfl
        · rw [decide_eq_false e, Bool.or_false]
      · rw [if_neg hm]
        refine setOf_as grown (fun j => hasK_snoc.symm) ?_
        rw [if_neg hm, List.length_append]; rfl
    refine wpAny_pure ⟨plainId_quiet PyProof.Rows.F.plain_set_update_loop _, ih _ (i + 1) _ behind more ?_ (walk.frame _ u' _ _ st' (Nat.le_succ _) fun b hb o e => ?_) next fun u2 mv2 fin => ?_⟩
    · have := stepK_le acc k
      omega
    · rw [only.2 b fun z => apart (z ▸ hb)]; exact e
    · refine back u2 (Moved.trans walk.gtrans ((mv.mono wider).then_heap (Nat.le_succ _) fun b o hb e => ?_) mv2) fin
      rw [only.2 b fun z => hb (by rw [z]; exact List.mem_cons_self)]; exact e
end
section
variable {prog : Program} {w : World} {A : Around} {E : Value → Shared → Prop} {s : Shared}

/-- set(l) of a list of keys -/
theorem set_of_list {l : Addr} {its : Array Value} {ks : List Key} {Q : Value → Shared → Prop} (calm : A.handled = none) (hl : s.heap.IsList l its) (many : ks.length = its.size)
    (item : ∀ (i : Nat) (v : Value), its[i]? = some v → ∃ k, ks[i]? = some k ∧ keyIs k v = true) (few : its.size + 1 < scanBound)
    (h : ∀ (g : Heap) (tk : Nat), g.SetOf (mixKind prog w) s.heap.objs.size (hasK (metK [] ks)) (metK [] ks).length → (∀ b o, s.heap.get? b = some o → g.get? b = some o) →
      Q (.ref s.heap.objs.size) { s with heap := g, toks := tk }) : wpAny (model prog w) A (call (.type "set") [.ref l]) Q E s := by
  obtain ⟨cl, below, mro⟩ := PySem.F.called_set.mro
  have made := PySem.F.called_set.made
  have sub := PySem.F.called_set.sub
  have no1 := PySem.F.called_set.notType
  have can := PySem.F.called_set.canCreate
  have one := PySem.F.typeCall_set_1 (.ref l)
  let bare (led : Bool) : Obj := { cls := .type "set", dict := none, data := .set #[] 0 (.fresh 0 0 led) }
  refine wpAny_call (codeAny_of_tree (show wpAny _ _ (callAny (.type "set") _) _ _ _ from ?_))
  refine wpAny_pure ⟨Code.quiet_builtin _ (by decide +kernel), codeAny_builtin PySem.F.entry_type_call ?_⟩
  rw [Around.under_plain (weight_type_call_type "set" [.ref l] []) rfl]
  repeat any_goals first | assumption | wp_step
  refine codeAny_mono (code_set_new_1 (.ref l) (E := E) (Q₁ := fun made u => ∃ led : Bool, made = .ref s.heap.objs.size ∧ u = { s with heap := s.heap.push (bare led) }) fun led => ⟨led, rfl, rfl⟩) fun r u hr => ?_
  match r, hr with
  | .error e, hr => exact hr
  | .ok .next, hr => exact hr.elim
  | .ok .brk, hr => exact hr.elim
  | .ok .cont, hr => exact hr.elim
  | .ok (.ret obj), hr =>
    obtain ⟨led, rfl, rfl⟩ := hr
    have atS : (s.heap.push (bare led)).get? s.heap.objs.size = some (bare led) := Heap.get?_push_size _ rfl
    have isS : Shared.TypeIs { s with heap := s.heap.push (bare led) } (.ref s.heap.objs.size) "set" := ⟨_, atS, rfl⟩
    have look := PySem.F.called_set.init.lookup
    have bind := PySem.F.called_set.init.bind (.ref s.heap.objs.size)
    repeat any_goals first | assumption | wp_step
    refine codeAny_mono (codeAny_call_builtin (R := wants (fun r u => r = .none ∧ ∃ g tk, u = { s with heap := g, toks := tk } ∧ g.SetOf (mixKind prog w) s.heap.objs.size (hasK (metK [] ks)) (metK [] ks).length ∧
        ∀ b o, s.heap.get? b = some o → g.get? b = some o) E) PySem.F.called_set.init.plain PySem.F.entry_set_init (check_set_init_1 isS ?_)) fun r2 u2 h2 => ?_
    · obtain ⟨⟨lc, ld, lda, lsl⟩, atl, lcl, nl, ldat⟩ := hl
      cases lcl
      cases ldat
      have atl' : (s.heap.push (bare led)).get? l = some { cls := .type "list", dict := ld, data := .seq its nl, slots := lsl } := Heap.get?_push_of_some _ atl
      have f1 := PySem.F.sub_list_set
      have f2 := PySem.F.sub_list_frozenset
      have f3 : (Value.type "list" == Value.type "dict") = false := by decide
      have isl : (s.heap.push (bare led)).IsList l its := ⟨_, atl', rfl, nl, rfl⟩
      have under : l < s.heap.objs.size := Heap.lt_size atl
      have sz : (s.heap.push (bare led)).objs.size = s.heap.objs.size + 1 := Heap.size_push _ _
      unfold Builtin.«set.__init__» noKeywords Builtin.Frozenset.updateFrom
      generalize keep : pyIter = it
      wp_walk
      subst keep
      refine wpAny_pyIter_list isl (wpAny_bind (wpAny_runValue ?_))
      refine fill_set ((Walks.list (by simp [calm]) (s.heap.push (bare led)).objs.size l (Nat.ne_of_lt (Nat.lt_of_lt_of_le under (by rw [sz]; exact Nat.le_succ _))) its).toS) s.heap.objs.size (fun z => by rw [sz] at z; exact (List.mem_cons.mp z).elim (fun z => absurd z (Nat.ne_of_lt (Nat.lt_succ_self _))) fun z => absurd (List.mem_singleton.mp z) (Nat.ne_of_gt under)) ks many few item ks [] 0 _ rfl (Nat.zero_le _) (Nat.le_refl _) ⟨⟨_, Heap.get?_push_size _ rfl, rfl, rfl⟩, isl.push _⟩ ?empty ?back
      case empty =>
        exact ⟨bare led, #[], 0, _, Heap.get?_push_of_some _ atS, ⟨rfl, rfl, rfl⟩, rfl, (fun e he => by simp at he), (fun k => by simp [hasK]), (by decide), (by rfl), rfl⟩
      case back =>
        rintro ⟨g, gs, dr, tk, os⟩ mv hS
        have e1 : gs = s.gens := mv.gens
        have e2 : dr = s.drawn := mv.drawn
        have e3 : os = s.os := mv.os
        cases e1; cases e2; cases e3
        refine wpAny_pure (wpAny_pure ⟨rfl, g, tk, rfl, hS, fun b o e => ?_⟩)
        have nb : b < s.heap.objs.size := Heap.lt_size e
        exact mv.heap b o (fun z => by rw [sz] at z; exact (List.mem_cons.mp z).elim (fun z => absurd z (Nat.ne_of_lt nb)) fun z => absurd (List.mem_singleton.mp z) (Nat.ne_of_lt (Nat.lt_succ_of_lt nb))) (Heap.get?_push_of_some _ (Heap.get?_push_of_some _ e))
    · match r2, h2 with
      | .error e, h2 => exact h2
      | .ok .next, h2 => exact h2.elim
      | .ok .brk, h2 => exact h2.elim
      | .ok .cont, h2 => exact h2.elim
      | .ok (.ret r), h2 =>
        obtain ⟨rfl, g, tk, rfl, hS, keeps⟩ := h2
        repeat any_goals first | assumption | wp_step
        exact h _ _ hS keeps

/-- set(l) of a tuple of keys -/
theorem set_of_tuple {l : Addr} {its : Array Value} {ks : List Key} {Q : Value → Shared → Prop} (calm : A.handled = none) (hl : s.heap.IsTuple l its) (many : ks.length = its.size)
    (item : ∀ (i : Nat) (v : Value), its[i]? = some v → ∃ k, ks[i]? = some k ∧ keyIs k v = true) (few : its.size + 1 < scanBound)
    (h : ∀ (g : Heap) (tk : Nat), g.SetOf (mixKind prog w) s.heap.objs.size (hasK (metK [] ks)) (metK [] ks).length → (∀ b o, s.heap.get? b = some o → g.get? b = some o) →
      Q (.ref s.heap.objs.size) { s with heap := g, toks := tk }) : wpAny (model prog w) A (call (.type "set") [.ref l]) Q E s := by
  obtain ⟨cl, below, mro⟩ := PySem.F.called_set.mro
  have made := PySem.F.called_set.made
  have sub := PySem.F.called_set.sub
  have no1 := PySem.F.called_set.notType
  have can := PySem.F.called_set.canCreate
  have one := PySem.F.typeCall_set_1 (.ref l)
  let bare (led : Bool) : Obj := { cls := .type "set", dict := none, data := .set #[] 0 (.fresh 0 0 led) }
  refine wpAny_call (codeAny_of_tree (show wpAny _ _ (callAny (.type "set") _) _ _ _ from ?_))
  refine wpAny_pure ⟨Code.quiet_builtin _ (by decide +kernel), codeAny_builtin PySem.F.entry_type_call ?_⟩
  rw [Around.under_plain (weight_type_call_type "set" [.ref l] []) rfl]
  repeat any_goals first | assumption | wp_step
  refine codeAny_mono (code_set_new_1 (.ref l) (E := E) (Q₁ := fun made u => ∃ led : Bool, made = .ref s.heap.objs.size ∧ u = { s with heap := s.heap.push (bare led) }) fun led => ⟨led, rfl, rfl⟩) fun r u hr => ?_
  match r, hr with
  | .error e, hr => exact hr
  | .ok .next, hr => exact hr.elim
  | .ok .brk, hr => exact hr.elim
  | .ok .cont, hr => exact hr.elim
  | .ok (.ret obj), hr =>
    obtain ⟨led, rfl, rfl⟩ := hr
    have atS : (s.heap.push (bare led)).get? s.heap.objs.size = some (bare led) := Heap.get?_push_size _ rfl
    have isS : Shared.TypeIs { s with heap := s.heap.push (bare led) } (.ref s.heap.objs.size) "set" := ⟨_, atS, rfl⟩
    have look := PySem.F.called_set.init.lookup
    have bind := PySem.F.called_set.init.bind (.ref s.heap.objs.size)
    repeat any_goals first | assumption | wp_step
    refine codeAny_mono (codeAny_call_builtin (R := wants (fun r u => r = .none ∧ ∃ g tk, u = { s with heap := g, toks := tk } ∧ g.SetOf (mixKind prog w) s.heap.objs.size (hasK (metK [] ks)) (metK [] ks).length ∧
        ∀ b o, s.heap.get? b = some o → g.get? b = some o) E) PySem.F.called_set.init.plain PySem.F.entry_set_init (check_set_init_1 isS ?_)) fun r2 u2 h2 => ?_
    · obtain ⟨⟨lc, ld, lda, lsl⟩, atl, lcl, nl, ldat⟩ := hl
      cases lcl
      cases ldat
      have atl' : (s.heap.push (bare led)).get? l = some { cls := .type "tuple", dict := ld, data := .seq its nl, slots := lsl } := Heap.get?_push_of_some _ atl
      have f1 := PySem.F.sub_tuple_set
      have f2 := PySem.F.sub_tuple_frozenset
      have f3 : (Value.type "tuple" == Value.type "dict") = false := by decide
      have isl : (s.heap.push (bare led)).IsTuple l its := ⟨_, atl', rfl, nl, rfl⟩
      have under : l < s.heap.objs.size := Heap.lt_size atl
      have sz : (s.heap.push (bare led)).objs.size = s.heap.objs.size + 1 := Heap.size_push _ _
      unfold Builtin.«set.__init__» noKeywords Builtin.Frozenset.updateFrom
      generalize keep : pyIter = it
      wp_walk
      subst keep
      refine wpAny_pyIter_tuple isl (wpAny_bind (wpAny_runValue ?_))
      refine fill_set ((Walks.tuple (by simp [calm]) (s.heap.push (bare led)).objs.size l (Nat.ne_of_lt (Nat.lt_of_lt_of_le under (by rw [sz]; exact Nat.le_succ _))) its).toS) s.heap.objs.size (fun z => by rw [sz] at z; exact (List.mem_cons.mp z).elim (fun z => absurd z (Nat.ne_of_lt (Nat.lt_succ_self _))) fun z => absurd (List.mem_singleton.mp z) (Nat.ne_of_gt under)) ks many few item ks [] 0 _ rfl (Nat.zero_le _) (Nat.le_refl _) ⟨⟨_, Heap.get?_push_size _ rfl, rfl, rfl⟩, isl.push _⟩ ?empty ?back
      case empty =>
        exact ⟨bare led, #[], 0, _, Heap.get?_push_of_some _ atS, ⟨rfl, rfl, rfl⟩, rfl, (fun e he => by simp at he), (fun k => by simp [hasK]), (by decide), (by rfl), rfl⟩
      case back =>
        rintro ⟨g, gs, dr, tk, os⟩ mv hS
        have e1 : gs = s.gens := mv.gens
        have e2 : dr = s.drawn := mv.drawn
        have e3 : os = s.os := mv.os
        cases e1; cases e2; cases e3
        refine wpAny_pure (wpAny_pure ⟨rfl, g, tk, rfl, hS, fun b o e => ?_⟩)
        have nb : b < s.heap.objs.size := Heap.lt_size e
        exact mv.heap b o (fun z => by rw [sz] at z; exact (List.mem_cons.mp z).elim (fun z => absurd z (Nat.ne_of_lt nb)) fun z => absurd (List.mem_singleton.mp z) (Nat.ne_of_lt (Nat.lt_succ_of_lt nb))) (Heap.get?_push_of_some _ (Heap.get?_push_of_some _ e))
    · match r2, h2 with
      | .error e, h2 => exact h2
      | .ok .next, h2 => exact h2.elim
      | .ok .brk, h2 => exact h2.elim
      | .ok .cont, h2 => exact h2.elim
      | .ok (.ret r), h2 =>
        obtain ⟨rfl, g, tk, rfl, hS, keeps⟩ := h2
        repeat any_goals first | assumption | wp_step
        exact h _ _ hS keeps
end
end G

set_option Elab.async false
set_option linter.all false
set_option maxRecDepth 100000
set_option maxHeartbeats 8000000
/-! GB: len(set(xs)) as an expression. -/
namespace G
open PySem PySem.Spec PyProof.Rows L2
def keysA : List D → Option (List Key)
  | [] => some []
  | d :: ds => (keyD d).bind fun k => (keysA ds).map (k :: ·)
def gLenSet (d : D) : Option D := (seqOf d).bind fun ds => (keysA ds).bind fun ks => if ks.length ≤ 4000 then some (.int (metK [] ks).length) else none
def eLenSet (f : Ev → M D) : Ev → M D := fun ρ => f ρ >>= fun d => liftO (gLenSet d)
section
variable {X : Cx} {ca : Dr} {E : XK} {K : PySem.W.Frag}
theorem keysA_of {Z : Addr → Prop} {H : Hp} : ∀ {vs : List V} {ds : List D} {ks : List Key}, RlA K ca Z H vs ds → keysA ds = some ks → vs = ks.map kV
  | _, _, _, .nil, h => by cases h; rfl
  | _, _, _, .cons (d := d) (ds := ds) r ra, h => by
    unfold keysA at h
    cases hd : keyD d with
    | none => rw [hd] at h; cases h
    | some n =>
      rw [hd] at h
      cases hs : keysA ds with
      | none => rw [hs] at h; cases h
      | some ns => rw [hs] at h; cases h; rw [keyD_of r hd, keysA_of ra hs]; rfl
theorem keyIs_of {k : Key} {u : Value} (r : L2.RelV (kV k) u) : keyIs k u = true := by
  cases k with
  | inl i => obtain ⟨t, rfl⟩ := r; exact keyIs_int i t
  | inr x => obtain ⟨t, rfl⟩ := r; exact keyIs_str x t
theorem keys_at {ks : List Key} {us : List Value} (r : Vals (ks.map kV) us) {i : Nat} {u : Value} (h : us[i]? = some u) : ∃ k, ks[i]? = some k ∧ keyIs k u = true := by
  cases hk : ks[i]? with
  | none =>
    have := r.none_of (i := i) (by rw [List.getElem?_map, hk]; rfl)
    rw [h] at this; cases this
  | some k =>
    obtain ⟨u', e, ru⟩ := r.get (i := i) (x := kV k) (by rw [List.getElem?_map, hk]; rfl)
    rw [h] at e; cases e
    exact ⟨k, rfl, keyIs_of ru⟩
def rSetLen (K : PySem.W.Frag) (ta : TE) : TE := fun σ H Q => ta σ H fun x H1 => ∃ (a : Addr) (ks : List Key), x = .ref a ∧ (SqL K H1 a (ks.map kV) ∨ SqT K H1 a (ks.map kV)) ∧ ks.length ≤ 4000 ∧ Q (.int (metK [] ks).length) H1
theorem pe_setLen {a : Expr} {ta : TE} {p p2 q pos : Pos} (hc : X.calm = true) (hm : X.mg "len" = none) (hm2 : X.mg "set" = none) (hg : Gl X "len") (hg2 : Gl X "set") (ha : PE X a ta) (na : starEach [a] X.env = (false, eval a X.env) :: starEach [] X.env)
    (nb : starEach [.Call (.Name "set" p2) [a] [] q] X.env = (false, eval (.Call (.Name "set" p2) [a] [] q) X.env) :: starEach [] X.env) :
    PE X (.Call (.Name "len" p) [.Call (.Name "set" p2) [a] [] q] [] pos) (rSetLen X.K ta) := by
  refine ⟨fun pins s σ H Q I h => Call_ (ld_blt I hg hm boot_len (PyProof.Rows.callWith_builtin1 (PyProof.Rows.args_cons ?_ nb) nb rfl))⟩
  refine Call_ (ld_blt I hg2 hm2 boot_set (PyProof.Rows.callWith_type1 (PyProof.Rows.args_cons ?_ na) na rfl))
  refine thn (ha.run pins s σ H _ I h) fun v u ⟨x, H1, J, rv, l, ks, ex, held, few, want⟩ => ?_
  subst ex
  cases rv
  have ends : ∀ (its : List Value), Vals (ks.map kV) its → ∀ (g : Heap) (tk : Nat), g.SetOf (mixKind X.prog X.w) u.heap.objs.size (hasK (metK [] ks)) (metK [] ks).length → (∀ b o, u.heap.get? b = some o → g.get? b = some o) →
      wpAny (model X.prog X.w) X.A (spliced (backTo pos (starEach [] X.env))) (fun vs u2 => wpAny (model X.prog X.w) X.A (call (.builtin "len") (Value.ref u.heap.objs.size :: vs)) (EP X pins σ Q) X.xe u2) X.xe { u with heap := g, toks := tk } := by
    intro its r g tk full keeps
    refine PyProof.Rows.args_nil ?_
    obtain ⟨o, es, ep, t, at_, ex, dat, _, _, few', fits, many⟩ := full
    have J2 : L2.Inv X pins σ H1 { u with heap := g, toks := tk } := J.kept keeps
    have small : (metK [] ks).length ≤ 4000 := by have := metK_le ks []; simp at this; omega
    exact call_len_set at_ ex dat fits (by rw [many] <;> omega) ⟨.int (metK [] ks).length, H1, J2.tok _, ⟨_, by rw [many]⟩, want⟩
  refine PyProof.Rows.args_nil ?_
  have few2 : ks.length + 1 < scanBound := by unfold scanBound; omega
  rcases held with held | held
  · obtain ⟨its, r, pl, _⟩ := J.list held
    have len : ks.length = its.toArray.size := by have := r.length; simpa using this
    exact set_of_list (J.ok.hd hc) pl.isList len (fun i v e => keys_at r (by simpa using e)) (by omega) fun g tk full keeps => ends its r g tk full keeps
  · obtain ⟨its, r, pl, _⟩ := J.tuple held
    have len : ks.length = its.toArray.size := by have := r.length; simpa using this
    exact set_of_tuple (J.ok.hd hc) pl len (fun i v e => keys_at r (by simpa using e)) (by omega) fun g tk full keeps => ends its r g tk full keeps
theorem d_lenSet {a : Expr} {f : Ev → M D} {p p2 q pos : Pos} (hc : X.calm = true) (hm : X.mg "len" = none) (hm2 : X.mg "set" = none) (ha : PE X a (tD X.K ca E f)) (hg : Gl X "len" := by rfl) (hg2 : Gl X "set" := by rfl) (na : starEach [a] X.env = (false, eval a X.env) :: starEach [] X.env := by rfl)
    (nb : starEach [.Call (.Name "set" p2) [a] [] q] X.env = (false, eval (.Call (.Name "set" p2) [a] [] q) X.env) :: starEach [] X.env := by rfl) :
    PE X (.Call (.Name "len" p) [.Call (.Name "set" p2) [a] [] q] [] pos) (tD X.K ca E (eLenSet f)) := by
  refine ⟨fun pins s σ H Q I h => (pe_setLen hc hm hm2 hg hg2 ha na nb).run pins s σ H Q I ?_⟩
  obtain ⟨Z, Y, ρ, c, eo, co, h⟩ := h
  refine ⟨Z, Y, ρ, c, eo, co, (Do.bind h).mono fun d c1 h1 x H1 e1 r1 co1 => ?_⟩
  obtain ⟨d', hg, h2⟩ := Do.lift h1
  unfold gLenSet at hg
  cases hs : seqOf d with
  | none => rw [hs] at hg; cases hg
  | some ds =>
    rw [hs] at hg
    have hg : ((keysA ds).bind fun ks => if ks.length ≤ 4000 then some (D.int (metK [] ks).length) else none) = some d' := hg
    cases hk : keysA ds with
    | none => rw [hk] at hg; cases hg
    | some ks =>
      rw [hk] at hg
      have hg : (if ks.length ≤ 4000 then some (D.int (metK [] ks).length) else none) = some d' := hg
      by_cases hl : ks.length ≤ 4000
      · rw [if_pos hl] at hg; cases hg
        cases r1 with
        | lst n hH ra => cases hs; exact ⟨_, ks, rfl, .inl (by rw [← keysA_of ra hk]; exact SqL.of hH), hl, h2 _ H1 e1 (.int _) co1⟩
        | tup hH ra => cases hs; exact ⟨_, ks, rfl, .inr (by rw [← keysA_of ra hk]; exact hH.s), hl, h2 _ H1 e1 (.int _) co1⟩
        | _ => cases hs
      · rw [if_neg hl] at hg; cases hg
end
end G

set_option Elab.async false
set_option linter.all false
set_option maxRecDepth 100000
set_option maxHeartbeats 8000000
/-! GC: sorted(xs) and < of data. -/
namespace G
open PySem PySem.Spec PyProof.Rows L2
def encD (d : D) : PyData := (toPy d).getD .none
def tupB : PyData → Bool
  | .tuple (_ :: _) => true
  | _ => false
def othB : PyData → Bool
  | .none => false
  | .tuple _ => false
  | _ => true
/-- the items can be sorted -/
def sortOk (ds : List D) : Bool := ds.all (fun d => (toPy d).isSome && decide ((encD d).depth ≤ 64)) && (ds.all (fun a => ds.all fun b => PySem.W.alike (encD a) (encD b)) && ((ds.all (fun d => tupB (encD d)) || ds.all (fun d => othB (encD d))) && decide (ds.length ≤ sizeLine)))
def sortD (ds : List D) : List D := ds.mergeSort (PySem.W.dataLe false encD)
def gSorted : List D → Option D
  | [.lst ds] => if sortOk ds = true then some (.lst (sortD ds)) else none
  | _ => none
section
variable {X : Cx} {ca : Dr} {K : PySem.W.Frag}
mutual
theorem toPy_R : ∀ {d : D} {p : PyData}, toPy d = some p → toPyR d = some p
  | .non, _, h => by simp only [toPy] at h; cases h; simp only [toPyR]
  | .bl _, _, h => by simp only [toPy] at h; cases h; simp only [toPyR]
  | .int _, _, h => by simp only [toPy] at h; cases h; simp only [toPyR]
  | .str _, _, h => by simp only [toPy] at h; cases h; simp only [toPyR]
  | .lst xs, _, h => by
    simp only [toPy] at h
    cases hx : toPyA xs with
    | none => rw [hx] at h; cases h
    | some ps => rw [hx] at h; cases h; simp only [toPyR, toPyA_R hx]; rfl
  | .tup xs, _, h => by
    simp only [toPy] at h
    cases hx : toPyA xs with
    | none => rw [hx] at h; cases h
    | some ps => rw [hx] at h; cases h; simp only [toPyR, toPyA_R hx]; rfl
  | .dic _ _, _, h => by simp only [toPy] at h; cases h
  | .obj _, _, h => by simp only [toPy] at h; cases h
  | .ty _, _, h => by simp only [toPy] at h; cases h
  | .chn, _, h => by simp only [toPy] at h; cases h
theorem toPyA_R : ∀ {ds : List D} {ps : List PyData}, toPyA ds = some ps → toPyRA ds = some ps
  | [], _, h => by simp only [toPyA] at h; cases h; simp only [toPyRA]
  | d :: ds, _, h => by
    simp only [toPyA] at h
    cases hd : toPy d with
    | none => rw [hd] at h; cases h
    | some p =>
      rw [hd] at h
      cases hs : toPyA ds with
      | none => rw [hs] at h; cases h
      | some ps => rw [hs] at h; cases h; simp only [toPyRA, toPy_R hd, toPyA_R hs]; rfl
end
def RelD (K : PySem.W.Frag) (ca : Dr) (Z : Addr → Prop) (H : Hp) (u : Value) (d : D) : Prop := ∃ v, L2.RelV v u ∧ Rl K ca Z H v d
theorem each_of {Z : Addr → Prop} {H : Hp} : ∀ {vs : List V} {us : List Value} {ds : List D}, Vals vs us → RlA K ca Z H vs ds → PySem.W.EachIs (RelD K ca Z H) us ds
  | _, _, _, .nil, .nil => .nil
  | _, _, _, .cons r rs, .cons h hs => .cons ⟨_, r, h⟩ (each_of rs hs)
theorem of_each {Z : Addr → Prop} {H : Hp} : ∀ {us : List Value} {ds : List D}, PySem.W.EachIs (RelD K ca Z H) us ds → ∃ vs, Vals vs us ∧ RlA K ca Z H vs ds
  | _, _, .nil => ⟨[], .nil, .nil⟩
  | _, _, .cons ⟨v, r, h⟩ t => by
    obtain ⟨vs, rs, hs⟩ := of_each t
    exact ⟨v :: vs, .cons r rs, .cons h hs⟩
def rSortD (K : PySem.W.Frag) (ca : Dr) : List V → Hp → VK → Prop := fun xs H Q => ∃ Z a vs ds, xs = [.ref a] ∧ SqL K H a vs ∧ RlA K ca Z H vs ds ∧ sortOk ds = true ∧ ∀ p ws, H p = none → RlA K ca Z H ws (sortD ds) → ws.length ≤ sizeLine → Q (.ref p) (upd H p (.lst ws))
theorem cr_sortD (y : Sys X.base) (hu : X.A.units + 128 < cLine) : CallR X (.builtin "sorted") (rSortD X.K ca) := by
  intro pins s σ H xs us Q I r h
  obtain ⟨Z, a, vs, ds, rfl, hS, ra, ok, q⟩ := h
  obtain ⟨u, rfl, ru⟩ := vals1 r
  cases ru
  obtain ⟨its, rv, pl, hz⟩ := I.list hS
  unfold sortOk at ok
  have o1 := Bool.and_eq_true_iff.mp ok
  have o2 := Bool.and_eq_true_iff.mp o1.2
  have o3 := Bool.and_eq_true_iff.mp o2.2
  have some_ : ∀ d ∈ ds, toPy d = some (encD d) ∧ (encD d).depth ≤ 64 := fun d hd => by
    have := Bool.and_eq_true_iff.mp (List.all_eq_true.mp o1.1 d hd)
    refine ⟨?_, of_decide_eq_true this.2⟩
    cases e : toPy d with
    | none => rw [e] at this; simp at this
    | some p => unfold encD; rw [e]; rfl
  have reads : ∀ {us : List Value} {es : List D}, PySem.W.EachIs (RelD X.K ca Z H) us es → (∀ d ∈ es, d ∈ ds) → PySem.W.EachIs (fun v d => ∃ as, Reads s.heap v (encD d) as) us es := by
    intro us es e
    induction e with
    | nil => intro _; exact .nil
    | cons h t ih =>
      intro m
      obtain ⟨v, rv, rl⟩ := h
      obtain ⟨as, rd, _⟩ := rl.reads y I rv (toPy_R (some_ _ (m _ List.mem_cons_self)).1)
      exact .cons ⟨as, rd⟩ (ih fun d hd => m d (List.mem_cons_of_mem _ hd))
  have ev := each_of rv ra
  have alk : PySem.W.AllAlike (ds.map encD) := fun p hp p' hp' => by
    obtain ⟨d, hd, rfl⟩ := List.mem_map.mp hp
    obtain ⟨d', hd', rfl⟩ := List.mem_map.mp hp'
    exact List.all_eq_true.mp (List.all_eq_true.mp o2.1 d hd) d' hd'
  have srt : PySem.W.Sortable (ds.map encD) := by
    rcases Bool.or_eq_true_iff.mp o3.1 with h | h
    · refine .inl fun p hp => ?_
      obtain ⟨d, hd, rfl⟩ := List.mem_map.mp hp
      have := List.all_eq_true.mp h d hd
      unfold tupB at this
      split at this
      · rename_i x r e; exact ⟨x, r, e⟩
      · cases this
    · refine .inr fun p hp => ?_
      obtain ⟨d, hd, rfl⟩ := List.mem_map.mp hp
      have := List.all_eq_true.mp h d hd
      exact ⟨fun e => by rw [e] at this; simp [othB] at this, fun xs e => by rw [e] at this; simp [othB] at this⟩
  have hL : ds.length ≤ sizeLine := of_decide_eq_true o3.2
  refine PySem.W.sorted_data (enc := encD) (R := RelD X.K ca Z H) pl.isList ev (reads ev fun _ h => h) alk srt hL (fun d hd => by have := (some_ d hd).2; omega) fun out hout eo => ?_
  obtain ⟨ws, rw_, rl⟩ := of_each eo
  have hlen : ws.length ≤ sizeLine := by rw [rw_.length, hout]; exact hL
  obtain ⟨n, at_⟩ := PyProof.Rows.sortedAll_at s.heap its out.toArray
  have up : s.heap.objs.size ≤ s.heap.objs.size + 1 := Nat.le_succ _
  exact ⟨.ref _, _, I.laid (a := s.heap.objs.size + 1) (o := .lst ws) (t' := s.toks) (fun _ _ e => PyProof.Rows.sortedAll_old e) up ⟨hlen, out, n, rw_, at_⟩, rfl, q _ ws (I.hok.fresh up) rl hlen⟩
theorem cal_sorted : CalD K ca (rSortD K ca) gSorted := fun Z H c xs ds d' Q z co r hg q => by
  unfold gSorted at hg
  split at hg
  · rename_i es
    by_cases ok : sortOk es = true
    · rw [if_pos ok] at hg; cases hg
      cases r with | cons r1 r2 =>
      cases r2
      cases r1 with | lst n hH ra =>
      exact ⟨Z, _, _, es, rfl, SqL.of hH, ra, ok, fun p ws np rl hl => q _ _ (ExtP.new np) (.lst (z.free np) upd_same (rl.ext (ExtP.new (P := fun b : Addr => b = ca) np) fun b e => e ▸ z.zca)) (co.new np)⟩
    · rw [if_neg ok] at hg; cases hg
  · cases hg
end
end G

set_option Elab.async false
set_option linter.all false
set_option maxRecDepth 100000
set_option maxHeartbeats 8000000
/-! GD: the draws' list, a law's end. -/
namespace G
open PySem PySem.Spec PyProof.Rows L2
section
variable {X : Cx} {ca : Dr} {E : XK} {pos : Pos} {K : PySem.W.Frag}
def getC : M Churn := fun c => .ok c c
def putC (c : Churn) : M Unit := fun _ => .ok () c
def isChn : D → Option Unit
  | .chn => some ()
  | _ => none
def chnItem (k : Int) (c : Churn) : Option D := if k = 0 then some (.lst (c.cells.map D.int)) else if k = 1 then some (.int c.at_) else if k = 2 then some (.int c.left) else none
/-- h[k] of the draws' list -/
def eChn (k : Int) (i : Nat) : Ev → M D := fun ρ => eVar i ρ >>= fun h => liftO (isChn h) >>= fun _ => getC >>= fun c => liftO (chnItem k c)
theorem ints_rl {Z : Addr → Prop} {H : Hp} : ∀ ns : List Int, RlA K ca Z H (ns.map V.int) (ns.map D.int)
  | [] => .nil
  | n :: ns => .cons (.int n) (ints_rl ns)
theorem d_chn (k : Int) (i : Nat) {x : Str} {p p2 : Pos} {j : Nat} (hN : X.N[i]? = some x := by rfl) (hv : Vis X.env.scope x := by first | exact Or.inl rfl | exact Or.inr (Or.inl rfl) | exact Or.inr (Or.inr rfl)) (hd : (x == ("__debug__" : Str)) = false := by decide)
    (hcd : (x == ("__classdict__" : Str)) = false := by decide) (hs : PlainIx (.Constant (.int k) j p2) := by exact fun _ _ => rfl) : PE X (.Subscript (.Name x p) (.Constant (.int k) j p2) pos) (tD X.K ca E (eChn k i)) := by
  refine ⟨fun pins s σ H Q I h => (pe_ix ix_list (pe_var (i := i) hN hv hd hcd) pe_int hs).run pins s σ H Q I ?_⟩
  obtain ⟨Z, Y, ρ, c, eo, co, h⟩ := h
  have h1 := Do.bind h
  unfold eVar at h1
  cases e : ρ[i]? with
  | none => rw [e] at h1; exact h1.elim
  | some sl =>
    rw [e] at h1
    cases sl with
    | no => exact h1.elim
    | own ds => exact h1.elim
    | val d =>
      obtain ⟨v, hv1, rv⟩ := eo.val i d e
      obtain ⟨_, hc, h2⟩ := Do.lift (Do.bind (show Do X.K ca E (U Z Y) H ((liftO (isChn d) >>= fun _ => getC >>= fun c => liftO (chnItem k c)) c) _ from h1))
      cases rv with
      | chn =>
        obtain ⟨d', hi, h3⟩ := Do.lift (show Do X.K ca E (U Z Y) H (liftO (chnItem k c) c) _ from h2)
        refine ⟨_, hv1, ?_⟩
        unfold chnItem at hi
        by_cases e0 : k = 0
        · subst e0; cases hi
          exact ⟨ca, _, _, _, rfl, rfl, SqL.of co.1, rfl, h3 _ H .refl (.lst eo.zok.zcc co.2 (ints_rl _)) co⟩
        · rw [if_neg e0] at hi
          by_cases e1 : k = 1
          · subst e1; cases hi
            exact ⟨ca, _, _, _, rfl, rfl, SqL.of co.1, rfl, h3 _ H .refl (.int _) co⟩
          · rw [if_neg e1] at hi
            by_cases e2 : k = 2
            · subst e2; cases hi
              exact ⟨ca, _, _, _, rfl, rfl, SqL.of co.1, rfl, h3 _ H .refl (.int _) co⟩
            · rw [if_neg e2] at hi; cases hi
      | _ => cases hc
def chnPut (k : Int) (d : D) (c : Churn) : Option Churn := match d with
  | .int n => if k = 1 then some { c with at_ := n } else if k = 2 then some { c with left := n } else none
  | _ => none
/-- h[k] = e -/
def sChn (k : Int) (i : Nat) (f : Ev → M D) : Sm := fun ρ => f ρ >>= fun d => eVar i ρ >>= fun h => liftO (isChn h) >>= fun _ => getC >>= fun c => liftO (chnPut k d c) >>= fun c' => putC c' >>= fun _ => pure (ρ, .nx)
theorem s_chn (k : Int) (i : Nat) {x : Str} {p p2 p3 : Pos} {j : Nat} {e : Expr} {f : Ev → M D} (he : PE X e (tD X.K ca E f)) (hN : X.N[i]? = some x := by rfl) (hv : Vis X.env.scope x := by first | exact Or.inl rfl | exact Or.inr (Or.inl rfl) | exact Or.inr (Or.inr rfl)) (hd : (x == ("__debug__" : Str)) = false := by decide)
    (hcd : (x == ("__classdict__" : Str)) = false := by decide)
    (ha : ∀ v, assign (.Subscript (.Name x p) (.Constant (.int k) j p2) p3) X.env v = (do
      let ov ← holding [v] (eval (.Name x p) X.env)
      let iv ← holding [v, ov] (eval (.Constant (.int k) j p2) X.env)
      standAt p3
      holding [v, ov, iv] (setItem ov iv v)
      release [v, ov, iv] []) := by intro _; rfl)
    (hs : swapsWithSole [.Subscript (.Name x p) (.Constant (.int k) j p2) p3] e pos.line X.env = pure false := by rfl) (hw : swappedStores [.Subscript (.Name x p) (.Constant (.int k) j p2) p3] e X.env = pure none := by rfl)
    (h1 : (assignEach [.Subscript (.Name x p) (.Constant (.int k) j p2) p3] X.env).map (·.2) = [assign (.Subscript (.Name x p) (.Constant (.int k) j p2) p3) X.env] := by rfl) :
    PS X (.Assign [.Subscript (.Name x p) (.Constant (.int k) j p2) p3] e pos) (tS X.K ca E (sChn k i f)) := by
  refine ⟨fun pins s σ H Dn I h => (ps_asg he (pg_sub (pe_var (i := i) hN hv hd hcd) pe_int set_list ha) hs hw h1).run pins s σ H Dn I ?_⟩
  obtain ⟨Z, Y, ρ, c, eo, co, h⟩ := h
  refine ⟨Z, Y, ρ, c, eo, co, (DoS.expr h).mono fun d c1 h1 v H1 e1 r1 co1 => ?_⟩
  have h2 := DoS.expr h1
  unfold eVar at h2
  cases e : ρ[i]? with
  | none => rw [e] at h2; exact h2.elim
  | some sl =>
    rw [e] at h2
    cases sl with
    | no => exact h2.elim
    | own ds => exact h2.elim
    | val hd =>
      obtain ⟨u, hu, ru⟩ := (eo.ext e1).val i hd e
      obtain ⟨_, hc, h3⟩ := Do.lift (DoS.expr (show DoS X.K ca E Z Dn Y H ((liftO (isChn hd) >>= fun _ => getC >>= fun c => liftO (chnPut k d c) >>= fun c' => putC c' >>= fun _ => (pure (ρ, Ctl.nx) : M (Ev × Ctl))) c1) from h2))
      cases ru with
      | chn =>
        obtain ⟨c2, hp, h4⟩ := Do.lift (DoS.expr (show DoS X.K ca E Z Dn Y H ((liftO (chnPut k d c1) >>= fun c' => putC c' >>= fun _ => (pure (ρ, Ctl.nx) : M (Ev × Ctl))) c1) from h3))
        have h5 : Fin X.K ca Z Dn Y H (ρ, .nx) c2 := h4
        have fin : ∀ (jj : Nat) (n : Int) (xs : List V), [V.ref ca.cc, .int c1.at_, .int c1.left].set jj (.int n) = xs → xs = [.ref ca.cc, .int c2.at_, .int c2.left] → c2.cells = c1.cells → Dn.nx σ (upd H1 ca (.lst ([V.ref ca.cc, .int c1.at_, .int c1.left].set jj (.int n)))) := by
          intro jj n xs ex ex2 ec
          rw [ex, ex2]
          have xt : Ext ca H1 (upd H1 ca (.lst [.ref ca.cc, .int c2.at_, .int c2.left])) := fun b o q => by
            by_cases hb : b = ca
            · subst hb
              rw [co1.1] at q; cases q
              exact .inr ⟨rfl, trivial, _, upd_same, trivial⟩
            · exact .inl (by rw [upd_ne hb]; exact q)
          exact h5 Y σ _ (.of (e1.trans xt)) ((eo.ext e1).ext xt) ⟨upd_same, by rw [upd_ne ca.ne, ec]; exact co1.2⟩
        unfold chnPut at hp
        cases r1 with
        | int n =>
          have hp : (if k = 1 then some { c1 with at_ := n } else if k = 2 then some { c1 with left := n } else none) = some c2 := hp
          by_cases k1 : k = 1
          · rw [if_pos k1] at hp; subst k1; cases hp
            exact ⟨_, hu, ⟨_, _, 1, 1, rfl, rfl, co1.1, rfl, fin 1 n _ rfl rfl rfl⟩⟩
          · rw [if_neg k1] at hp
            by_cases k2 : k = 2
            · rw [if_pos k2] at hp; subst k2; cases hp
              exact ⟨_, hu, ⟨_, _, 2, 2, rfl, rfl, co1.1, rfl, fin 2 n _ rfl rfl rfl⟩⟩
            · rw [if_neg k2] at hp; cases hp
        | _ => cases hp
      | _ => cases hc
end
/-! ### the draws' list is made -/
/-- [[int(cell) for cell in script[:60]], 0, 0] -/
def spMade (K : PySem.W.Frag) : Sp := fun vs H Q _ => ∃ (a : Addr) (ns : List Int), vs = [.ref a] ∧ SqL K H a (ns.map V.int) ∧
  ∀ (ca : Dr) H', (∀ b o, H b = some o → H' b = some o) → H ca = none → H ca.cc = none → ChOk K ca H' ⟨ns.take 60, 0, 0⟩ → Q (.ref ca) H'
theorem cut60 (ns : List Int) : cutV (ns.map V.int) none (some 60) = (ns.take 60).map V.int := by
  unfold cutV
  rw [HT.sIx_none, List.drop_zero, Nat.sub_zero, show HT.sIx (ns.map V.int).length (ns.map V.int).length (some 60) = min 60 (ns.map V.int).length from HT.sIx_nat _ _ 60, List.map_take]
  rw [List.length_map]
  by_cases h : ns.length ≤ 60
  · rw [Nat.min_eq_right h, List.take_of_length_le (by simp), List.take_of_length_le (by simpa using h)]
  · rw [Nat.min_eq_left (by omega)]
section
variable {X : Cx} {K : PySem.W.Frag}
theorem made_read {st : Stmt} {sl : L2.St} {H : Hp} {a : Addr} {ns : List Int} {Q : VK} {i : Nat} {tt : TT} (hS : SqL X.K H a (ns.map V.int)) (hx : sl[0]? = some (some (.ref a)))
    (q : ∀ (ca : Dr) H', (∀ b o, H b = some o → H' b = some o) → H ca = none → H ca.cc = none → ChOk X.K ca H' ⟨ns.take 60, 0, 0⟩ → Q (.ref ca) H') (hi : i < sl.length) :
    tLst (tCons (tLc (iList X.K (tSl (rSlL X.K) (tVar 0) tNoPart (tPart (tC (.int 60))))) (gName i) tYes (tCB (fun xs H Q => (∃ i, xs = [.int i] ∧ Q (.int i) H) ∨ ∃ k, xs = [.bl k] ∧ Q (.int (if k then 1 else 0)) H) (tCons (tVar i) tNil)) [i]) (tCons (tC (.int 0)) (tCons (tC (.int 0)) tNil))) sl H Q := by
  refine ⟨.ref a, hx, 60, rfl, a, _, rfl, hS, fun p np => ⟨p, rfl, ⟨_, SqL.of upd_same⟩, fun D nD => ?_⟩⟩
  rw [cut60]
  have npD : p ≠ D := fun z => by rw [← z, upd_same] at nD; cases nD
  have nDH : H D = none := by
    cases e : H D with
    | none => rfl
    | some o => rw [upd_ne (Ne.symm npD), e] at nD; cases nD
  refine lc_list (K := X.K) (a := p) (xs := (ns.take 60).map V.int) (fun k H' => (∀ b o, H b = some o → H' b = some o) ∧ H' p = some (.lst ((ns.take 60).map V.int)) ∧ H' D = some (.lst (((ns.take 60).take k).map V.int))) ⟨fun b o e => ?_, ?_, upd_same⟩ (fun _ _ _ h => SqL.of h.2.1) (fun k x H1 hk hP => ?_) fun H1 hP => ?_
  · rw [upd_ne (ne_of_none e nDH), upd_ne (ne_of_none e np)]; exact e
  · rw [upd_ne npD, upd_same]
  · obtain ⟨k1, k2, k3⟩ := hP
    have hk' : ((ns.take 60)[k]?).map V.int = some x := by rw [← List.getElem?_map]; exact hk
    cases hn : (ns.take 60)[k]? with
    | none => rw [hn] at hk'; cases hk'
    | some n =>
      rw [hn] at hk'
      cases hk'
      refine ⟨?_, ?_⟩
      · show ((sl.set i none).set i (some (V.int n))).set i none = sl.set i none
        rw [List.set_set, List.set_set]
      · refine iteT (B := (∀ b o, H b = some o → H1 b = some o) ∧ H1 p = some (.lst ((ns.take 60).map V.int)) ∧ H1 D = some (.lst (((ns.take 60).take (k + 1)).map V.int))) ⟨.int n, ?_, .inl ⟨n, rfl, _, k3, ?_, fun b o e => ?_, ?_, ?_⟩⟩
        · rw [List.getElem?_set_self (by rw [wipe_length]; exact hi)]
        · have : ((ns.take 60).take k).length ≤ 60 := by rw [List.length_take, List.length_take]; omega
          rw [List.length_map]
          exact Nat.lt_of_le_of_lt this (by decide)
        · rw [upd_ne (ne_of_none e nDH)]; exact k1 b o e
        · rw [upd_ne npD]; exact k2
        · have e2 : (ns.take 60).take (k + 1) = (ns.take 60).take k ++ [n] := by rw [List.take_add_one (i := k), hn]; rfl
          rw [upd_same, e2, List.map_append]; rfl
  · obtain ⟨k1, k2, k3⟩ := hP
    rw [List.length_map, List.take_length] at k3
    refine ⟨by show 3 ≤ sizeLine; decide, fun p2 np2 => ?_⟩
    have nDp : D ≠ p2 := fun z => by rw [z, np2] at k3; cases k3
    refine q ⟨p2, D, nDp⟩ _ (fun b o e => ?_) ?_ nDH ⟨upd_same, ?_⟩
    · have e1 := k1 b o e
      show upd H1 p2 _ b = some o
      rw [upd_ne (ne_of_none e1 np2)]; exact e1
    · show H p2 = none
      cases e : H p2 with
      | none => rfl
      | some o => have := k1 p2 o e; rw [np2] at this; cases this
    · show upd H1 p2 _ D = _
      rw [upd_ne nDp]; exact k3
end
end G

set_option Elab.async false
set_option linter.all false
set_option maxRecDepth 100000
set_option maxHeartbeats 8000000
/-! GE: a law's own def; the end. -/
namespace G
open PySem PySem.Spec PyProof.Rows L2
def spLaw (K : PySem.W.Frag) : Sp := fun vs H Q _ => ∃ (a : Addr) (ns : List Int), vs = [.ref a] ∧ SqL K H a (ns.map V.int) ∧ ns.length ≤ 63 ∧ ∀ H', Q (.bl true) H'
/-- the rest of the law, from the made draws' list on -/
def tSx (K : PySem.W.Frag) (E : XK) (g : Sm) : TS := fun Dn σ H => ∃ ca, tS K ca E g Dn σ H
theorem ss_any {X : Cx} {E : XK} {sts : List Stmt} {g : Sm} (h : ∀ ca, PSs X sts (tS X.K ca E g)) : PSs X sts (tSx X.K E g) :=
  ⟨fun pins s σ H Dn I ⟨ca, hw⟩ => (h ca).run pins s σ H Dn I hw⟩
/-- what is left to be shown of a law: it gives True, whatever the cells are -/
def LawTrue (n : Nat) (g : Sm) : Prop := ∀ cells : List Int, cells.length ≤ 60 → ∃ ρ c, g (.no :: .val .chn :: List.replicate (n - 2) .no) ⟨cells, 0, 0⟩ = .ok (ρ, .ret (.bl true)) c
theorem law_read {K : PySem.W.Frag} {N : List Str} {g : Sm} {vs : List V} {H : Hp} {Q : VK} {E : XK} (hN : 2 ≤ N.length) (law : LawTrue N.length g) (h : spLaw K vs H Q E) :
    tSeq (tAsg (tCall (spMade K) [] E0 (tCons (tVar 0) tNil)) (gName 1)) (tSx K E0 g) { nx := fun _ H' => Q .non H', rt := Q } (start N vs) H := by
  obtain ⟨a, ns, rfl, hS, hl, q⟩ := h
  obtain ⟨x1, x2, r, rfl⟩ : ∃ x1 x2 r, N = x1 :: x2 :: r := by
    match N, hN with
    | x1 :: x2 :: r, _ => exact ⟨x1, x2, r, rfl⟩
  have e0 : L2.start (x1 :: x2 :: r) [V.ref a] = some (.ref a) :: none :: List.replicate r.length none := by
    show [V.ref a].map some ++ List.replicate ((x1 :: x2 :: r).length - [V.ref a].length) none = _
    simp [List.replicate_succ]
  refine ⟨.ref a, by rw [e0]; rfl, a, ns, rfl, hS, fun ca H' keep n1 n2 co => ⟨ca, fun b => b = ca, fun _ => False, .no :: .val .chn :: List.replicate r.length .no, ⟨ns.take 60, 0, 0⟩, ?_, co, ?_⟩⟩
  · rw [e0]
    refine ⟨⟨.inl rfl, fun z => z.elim ca.ne False.elim, fun b z => z.elim (fun z => ⟨_, z ▸ co.1⟩) False.elim⟩, rfl, id, by simp, fun i d h => ?_, fun i es h => ?_, fun i j b es es' h => ?_⟩
    · match i, h with
      | 0, h => cases h
      | 1, h => cases h; exact ⟨_, rfl, .chn⟩
      | i + 2, h =>
        have h : (List.replicate r.length Sl.no)[i]? = some (.val d) := h
        exact absurd (List.eq_of_mem_replicate (List.mem_of_getElem? h)) (by intro z; cases z)
    · match i, h with
      | 0, h => cases h
      | 1, h => cases h
      | i + 2, h =>
        have h : (List.replicate r.length Sl.no)[i]? = some (.own es) := h
        exact absurd (List.eq_of_mem_replicate (List.mem_of_getElem? h)) (by intro z; cases z)
    · match i, h with
      | 0, h => cases h
      | 1, h => cases h
      | i + 2, h =>
        have h : (List.replicate r.length Sl.no)[i]? = some (.own es) := h
        exact absurd (List.eq_of_mem_replicate (List.mem_of_getElem? h)) (by intro z; cases z)
  · obtain ⟨ρ, c, e⟩ := law (ns.take 60) (by rw [List.length_take]; omega)
    have e : g (.no :: .val .chn :: List.replicate r.length .no) ⟨ns.take 60, 0, 0⟩ = .ok (ρ, .ret (.bl true)) c := e
    unfold DoS
    rw [e]
    intro Y' σ' H2 st eo' co'
    show ∀ v, Rl K ca _ H2 v (.bl true) → Q v H2
    intro v rv
    cases rv
    exact q H2
/-! ### the end -/
/-- the script alone may be tracked -/
def scriptAt (a : Addr) (vs : List Value) (ns : List Int) : Hp := fun b => if b = a then some (.frz { cls := .type "list", data := .seq vs.toArray } (.lst (ns.map V.int))) else none
theorem law_end {P : Program} {w : World} {K : PySem.W.Frag} {mg mb : Str → Option Value} {k : Nat} {fa a : Addr} {fd : FuncData} {x : Str} {s₁ : Shared} {vs : List Value} {ns : List Int}
    (inK : K.In s₁.heap) (hglob : s₁.heap.Ns mainGlobals mg) (hbl : s₁.heap.Ns builtinsNs mb) (hboot : ∀ x : Str, x ≠ "__name__" → mb x = bootBuiltins x) (nolim : s₁.heap.NoLimit) (sys : ∃ o es ep, s₁.heap.get? sysModules = some o ∧ o.data = .dict es ep) (nogen : s₁.gens = #[])
    (hscript : s₁.heap.get? a = some { cls := .type "list", data := .seq vs.toArray }) (areInts : IntsAre vs ns) (few : ns.length ≤ 63) (room : Room k callerA)
    (F : ∀ base : Heap, K.In base → base.Ns mainGlobals mg → Sys base → FnG P w K mg base CX0 k fa fd [x] (spLaw K)) (binds : ∀ (s : Shared) (u : Value), BindsTo s fd ⟨[u], []⟩ [(x, u)]) :
    codeAny (model P w) callerA (.call (.ref fa) ⟨[.ref a], []⟩) (fun r s' => r = .ok (.ret (.bool true)) ∧ OldK s₁.heap s'.heap ∧ s'.os = s₁.os ∧ AllBare s'.gens) s₁ := by
  have line : ns.length ≤ sizeLine := Nat.le_trans few (by decide)
  have along := areInts.length
  have vals := vals_ints areInts
  -- from any heap in which at most the script is tracked
  have go : ∀ H : Hp, (∀ b, H b = none ∨ ∃ o zs, H b = some (.frz o (.lst zs))) → SqL K H a (ns.map V.int) → HOk P w H s₁.heap → (∀ b o, H b = some o → b = a ∧ K.lookup a = none) →
      codeAny (model P w) callerA (.call (.ref fa) ⟨[.ref a], []⟩) (fun r s' => r = .ok (.ret (.bool true)) ∧ OldK s₁.heap s'.heap ∧ s'.os = s₁.os ∧ AllBare s'.gens) s₁ := by
    intro H only seq ok alone
    have low : ∀ {b : Addr} {o : Obj}, s₁.heap.get? b = some o → H b = none → (hidT s₁.heap H).get? b = some o := fun e n => hidT_get e n
    have free : ∀ {b : Addr} {m : Str → Option Value}, s₁.heap.Ns b m → H b = none := by
      intro b m ⟨o, es, ep, e, d, _⟩
      cases q : H b with
      | none => rfl
      | some u =>
        have eb := (alone b u q).1
        subst eb
        rw [hscript] at e; cases e; cases d
    have ns_low : ∀ {b : Addr} {m : Str → Option Value}, s₁.heap.Ns b m → (hidT s₁.heap H).Ns b m := fun {b m} z => by
      have n := free z
      obtain ⟨o, es, ep, e, r⟩ := z
      exact ⟨o, es, ep, low e n, r⟩
    have inBase : K.In (hidT s₁.heap H) := fun b o e => low (inK b o e) (by
      cases q : H b with
      | none => rfl
      | some u =>
        obtain ⟨eb, no⟩ := alone b u q
        subst eb
        rw [no] at e; cases e)
    have there : Sys (hidT s₁.heap H) := by
      obtain ⟨o, es, ep, e, d⟩ := sys
      refine ⟨o, low e ?_⟩
      cases q : H sysModules with
      | none => rfl
      | some u =>
        have eb := (alone _ u q).1
        rw [eb, hscript] at e; cases e; cases d
    have lim : (hidT s₁.heap H).NoLimit := by
      obtain ⟨mc, z1, z2⟩ := nolim
      exact ⟨mc, ns_low z1, z2⟩
    have start0 : Env0 P w K mg (hidT s₁.heap H) callerA [] s₁ H :=
      { frames := rfl, mod := ⟨inBase, ns_low hglob, ⟨mb, ns_low hbl, hboot⟩, lim⟩, bs := fun b o e => of_hidT e, bsz := Nat.le_of_eq (hidT_size _ _), funs := trivial, frf := fun b hb => absurd (show b ∈ ([] : List Addr) from hb) List.not_mem_nil, hok := ok, bare := .of_eq nogen }
    have ran := (F _ inBase (ns_low hglob) there).runs callerA [] s₁ H ⟨[.ref a], []⟩ [.ref a] [.ref a] (fun v _ => v = .bl true) E0 rfl room start0 (binds s₁ (.ref a)) (.cons rfl .nil) ⟨a, ns, rfl, seq, few, fun _ => rfl⟩
    refine codeAny_mono ran fun r s' z => ?_
    match r, z with
    | .error e, z => exact z.elim
    | .ok .next, z => exact z.elim
    | .ok .brk, z => exact z.elim
    | .ok .cont, z => exact z.elim
    | .ok (.ret u), ⟨v, H', os, bare, un, ok', rv, ev⟩ =>
      cases (show v = V.bl true from ev)
      cases (show u = Value.bool true from rv)
      refine ⟨rfl, OldK.of_keep fun b o e => ?_, os, bare⟩
      rcases only b with n | ⟨ob, zs, z⟩
      · exact un.keep b o e n (fun z => absurd (show b ∈ ([] : List Addr) from z) List.not_mem_nil) List.not_mem_nil
      · have e1 := (ok b _ z).1
        have e2 := (ok' b _ (un.frzs b ob _ z)).1
        rw [e] at e1; cases e1
        exact e2
  cases own : K.lookup a with
  | some o =>
    have e := inK a o own
    rw [hscript] at e; cases e
    have seq : SqL K (fun _ => none) a (ns.map V.int) := .inr ⟨_, vs.toArray, _, own, rfl, rfl, rfl, by rw [List.size_toArray, along]; exact line, by simpa using vals⟩
    exact go (fun _ => none) (fun _ => .inl rfl) seq (fun b u z => by cases (show (none : Option HO) = some u from z)) fun b u z => by cases (show (none : Option HO) = some u from z)
  | none =>
    have here : scriptAt a vs ns a = some (.frz { cls := .type "list", data := .seq vs.toArray } (.lst (ns.map V.int))) := if_pos rfl
    have off : ∀ {b : Addr}, b ≠ a → scriptAt a vs ns b = none := fun h => if_neg h
    refine go (scriptAt a vs ns) (fun b => ?_) (.inl (.inr ⟨_, here⟩)) (fun b u z => ?_) fun b u z => ?_
    · by_cases hb : b = a
      · exact .inr ⟨_, _, by rw [hb]; exact here⟩
      · exact .inl (off hb)
    · by_cases hb : b = a
      · subst hb
        rw [here] at z; cases z
        exact ⟨hscript, by rw [List.length_map]; exact line, vs, _, vals, hscript⟩
      · rw [off hb] at z; cases z
    · by_cases hb : b = a
      · exact ⟨hb, own⟩
      · rw [off hb] at z; cases z
/-- a law over a head by facts -/
theorem law_walk {l : PySem.W.OpenLaw} {k : Nat} {q : Program} {loose : List Str} {XP : (Str → Option Value) → Heap → Prop} {YP : World → Heap → Prop} {d : DefRec} {x : Str}
    (most : l.most = some 63) (nodf : d.params.defaults = []) (room : Room k callerA)
    (F : ∀ (w : World) (mg : Str → Option Value) (fa : Addr) (h : Heap), YP w h → h.Ns mainGlobals mg → mg d.name = some (.ref fa) →
      ∃ (K : PySem.W.Frag) (fd : FuncData), K.In h ∧ (∃ o es ep, h.get? sysModules = some o ∧ o.data = .dict es ep) ∧ (∀ (s : Shared) (u : Value), BindsTo s fd ⟨[u], []⟩ [(x, u)]) ∧
        ∀ base : Heap, K.In base → base.Ns mainGlobals mg → Sys base → FnG l.prog w K mg base CX0 k fa fd [x] (spLaw K)) :
    PySem.W.WalkO q loose XP YP l.row.toRowW d [] (fun f vs => PySem.call f vs) :=
  Att.attach_call most nodf fun w s₀ s₁ mg mb fa o pm cd doc a vs ns G Y _ _ _ hmg hscript areInts few nogen => by
    obtain ⟨K, fd, inK, sys, binds, keeps⟩ := F w mg fa _ Y G.T.g hmg
    exact law_end inK G.T.g G.T.b G.T.builtins G.T.nolimit sys nogen hscript areInts few room keeps binds
/-! ### the head's facts, and that sys.modules stands -/
/-- constants of the module that are tuples -/
def tupFact (K : PySem.W.Frag) (x : Str) (vs : List V) : Bool := match K.lookup (He.ga K x) with
  | some ⟨.type c, _, .seq its _, _⟩ => decide (c = "tuple") && (decide (its.size ≤ sizeLine) && He.relAll vs its.toList)
  | _ => false
theorem tupFact_ok {K : PySem.W.Frag} {x : Str} {vs : List V} (h : tupFact K x vs = true) (H : Hp) : TupAt K H (He.ga K x) vs := by
  unfold tupFact at h
  split at h
  · rename_i c dd its n sl e
    obtain ⟨h1, h2⟩ := Bool.and_eq_true_iff.mp h
    obtain ⟨h3, h4⟩ := Bool.and_eq_true_iff.mp h2
    cases of_decide_eq_true h1
    exact .inr ⟨dd, its.toList, n, sl, by simpa using e, by simpa using of_decide_eq_true h3, He.relAll_ok h4⟩
  · cases h
def sysSeen (g : Addr → Option Obj) : Bool := match g sysModules with
  | some ⟨_, _, .dict _ _, _⟩ => true
  | _ => false
/-- facts, defs, more facts over the written part, sys.modules -/
def hookX (n : Nat) (fa : List He.Fa) (fn : List He.DefD) (more : PySem.W.Frag → Bool) : PySem.W.Hook where
  α := (Bool × Bool) × He.AlD
  obs := fun s => ((sysSeen s.heap.get?, more (He.frG s.heap.get? (He.asD s.heap.get? n))), He.obsDG n fa fn s.heap.get?)
  val := fun _ => ((true, true), He.valD fn)
  says := fun _ h => (∃ o es ep, h.get? sysModules = some o ∧ o.data = .dict es ep) ∧ ∃ K : PySem.W.Frag, K.In h ∧ more K = true ∧ He.SaysD fa fn K
  of := fun _ s e => by
    have e1 := congrArg (fun z => z.1.1) e
    have e2 := congrArg (fun z => z.1.2) e
    have e3 := congrArg (fun z => z.2) e
    refine ⟨?_, He.frG s.heap.get? (He.asD s.heap.get? n), He.frG_in, e2, e3⟩
    have e1 : sysSeen s.heap.get? = true := e1
    unfold sysSeen at e1
    split at e1
    · rename_i c d es ep sl h; exact ⟨_, es, ep, h, rfl⟩
    · cases e1
  keeps := fun _ _ _ ⟨⟨o, es, ep, e, d⟩, K, hK, m, c⟩ k => ⟨⟨o, es, ep, k _ _ e, d⟩, K, PySem.W.Frag.In.keeps hK k, m, c⟩
def obsX (n : Nat) (fa : List He.Fa) (fn : List He.DefD) (more : PySem.W.Frag → Bool) (s : PySem.W.SharedT) : (Bool × Bool) × He.AlD :=
  ((sysSeen (HandSHeadRun.getT s), more (He.frG (HandSHeadRun.getT s) (He.asD (HandSHeadRun.getT s) n))), He.obsDG n fa fn (HandSHeadRun.getT s))
theorem obsX_eq {n : Nat} {fa : List He.Fa} {fn : List He.DefD} {more : PySem.W.Frag → Bool} (s : PySem.W.SharedT) : obsX n fa fn more s = (hookX n fa fn more).obs s.abs := by
  have e : HandSHeadRun.getT s = s.abs.heap.get? := funext (HandSHeadRun.getT_eq s)
  unfold obsX
  rw [e]
  rfl
end G

set_option Elab.async false
set_option linter.all false
set_option maxRecDepth 100000
set_option maxHeartbeats 8000000
/-! GF: walking a list, a tuple or a text, as the run has it. -/
namespace G
open PySem PySem.Spec PyProof.Rows L2
def signsD (x : Str) : List D := x.cps.toList.map fun c => D.str ⟨#[c]⟩
def iSeqS (f : Ev → M D) : Ev → M (List D) := fun ρ => f ρ >>= fun d => liftO (match d with | .str x => some (signsD x) | _ => none)
def walkD : D → Option (List D)
  | .lst xs => some xs
  | .tup xs => some xs
  | .str x => some (signsD x)
  | _ => none
def iSeq (f : Ev → M D) : Ev → M (List D) := fun ρ => f ρ >>= fun d => liftO (walkD d)
section
variable {X : Cx} {ca : Dr} {E : XK} {tg e : Expr} {f : Ev → M D} {pos : Pos}
theorem yld_str {K : PySem.W.Frag} {W : Addr → Prop} {H : Hp} {x : Str} : Yld K ca W H (signsD x) (Its x) := by
  have hl : (signsD x).length = x.cps.size := by unfold signsD; simp
  refine ⟨fun P i H' hP ex hi => ?_, fun P H' hP ex => ?_, fun P W' i H' v H'' d g hP ex y hd => ?_⟩
  · rw [hl] at hi; exact hi
  · show x.cps.size ≤ _
    rw [hl]; exact Nat.le_refl _
  · obtain ⟨rfl, c, hc, rfl⟩ := y
    unfold signsD at hd
    rw [List.getElem?_map, Array.getElem?_toList, hc] at hd
    cases hd
    exact ⟨fun _ _ z => z, .str _⟩
theorem i_str (h : PE X e (tD X.K ca E f)) : PI X tg e (tI X.K ca E (iSeqS f)) := by
  refine ⟨fun pins s σ H R I hw => (pi_str h).run pins s σ H R I ?_⟩
  obtain ⟨Z, Y, ρ, c, eo, co, hw⟩ := hw
  refine ⟨Z, Y, ρ, c, eo, co, (Do.bind hw).mono fun d c1 h1 v H1 e1 r1 co1 => ?_⟩
  obtain ⟨ds, hd, h2⟩ := Do.lift h1
  cases r1 with
  | str x =>
    cases hd
    exact ⟨_, rfl, h2 _ H1 e1 co1 yld_str⟩
  | _ => cases hd
theorem bind_congr {α β : Type} {m : M α} {g g' : α → M β} {c : Churn} (h : ∀ a c1, m c = .ok a c1 → g a c1 = g' a c1) : (m >>= g) c = (m >>= g') c := by
  show M.bind m g c = M.bind m g' c
  unfold M.bind
  cases e : m c with
  | ok a c1 => exact h a c1 e
  | exn x c1 => rfl
  | stuck => rfl
theorem i_seq (h : PE X e (tD X.K ca E f)) : PI X tg e (tI X.K ca E (iSeq f)) := by
  refine ⟨fun pins s σ H R I hw => ?_⟩
  obtain ⟨Z, Y, ρ, c, eo, co, hw⟩ := hw
  by_cases hs : ∃ x c1, f ρ c = .ok (.str x) c1
  · obtain ⟨x, c1, hs⟩ := hs
    refine (i_str h).run pins s σ H R I ⟨Z, Y, ρ, c, eo, co, ?_⟩
    have e : iSeqS f ρ c = iSeq f ρ c := bind_congr fun a c2 z => by rw [hs] at z; cases z; rfl
    rw [e]; exact hw
  by_cases ht : ∃ x c1, f ρ c = .ok (.tup x) c1
  · obtain ⟨x, c1, ht⟩ := ht
    refine (i_tup h).run pins s σ H R I ⟨Z, Y, ρ, c, eo, co, ?_⟩
    have e : iSeqT f ρ c = iSeq f ρ c := bind_congr fun a c2 z => by rw [ht] at z; cases z; rfl
    rw [e]; exact hw
  · refine (i_list h).run pins s σ H R I ⟨Z, Y, ρ, c, eo, co, ?_⟩
    have e : iSeqL f ρ c = iSeq f ρ c := bind_congr fun a c2 z => by
      cases a with
      | str x => exact absurd ⟨x, c2, z⟩ hs
      | tup x => exact absurd ⟨x, c2, z⟩ ht
      | _ => rfl
    rw [e]; exact hw
end
end G

set_option Elab.async false
set_option linter.all false
set_option maxRecDepth 100000
set_option maxHeartbeats 8000000
/-! GH: what a printed walk leans on: the head's facts as one premise, a def's promise as one fact, calls of it. -/
namespace G
open PySem PySem.Spec PyProof.Rows L2
theorem roomU {k : Nat} {A : Around} (r : Room k A) : A.units + 128 < cLine := by have := r.un; omega
theorem roomE {k : Nat} {A : Around} (r : Room k A) : A.units + 64 < cLine := by have := r.un; omega
/-- what the head says, over a base -/
structure Hx (fa : List He.Fa) (fn : List He.DefD) (tups : List (Str × List V)) (K : PySem.W.Frag) (mg : Str → Option Value) (base : Heap) : Prop where
  c : He.SaysD fa fn K
  G : ∃ h : Heap, K.In h ∧ h.Ns mainGlobals mg
  y : Sys base
  t : (tups.all fun p => tupFact K p.1 p.2) = true
section
variable {fa : List He.Fa} {fn : List He.DefD} {tups : List (Str × List V)} {K : PySem.W.Frag} {mg : Str → Option Value} {base : Heap}
theorem Hx.free (e : Hx fa fn tups K mg base) (i : Nat) {x : Str} (h : fa[i]? = some (.free x) := by rfl) : mg x = none := let ⟨_, a, b⟩ := e.G; He.free_ok a b (e.c.fact i h)
theorem Hx.glo (e : Hx fa fn tups K mg base) (i : Nat) {x : Str} (h : fa[i]? = some (.glo x) := by rfl) : mg x = some (.ref (He.ga K x)) := let ⟨_, a, b⟩ := e.G; He.glo_ok a b (e.c.fact i h)
theorem Hx.int (e : Hx fa fn tups K mg base) (i : Nat) {x : Str} {n : Int} (h : fa[i]? = some (.int x n) := by rfl) : ∃ t, mg x = some (.int n t) := let ⟨_, a, b⟩ := e.G; He.int_ok a b (e.c.fact i h)
theorem Hx.str (e : Hx fa fn tups K mg base) (i : Nat) {x z : Str} (h : fa[i]? = some (.str x z) := by rfl) : ∃ t, mg x = some (.str z t) := let ⟨_, a, b⟩ := e.G; He.str_ok a b (e.c.fact i h)
theorem Hx.tup (e : Hx fa fn tups K mg base) (i : Nat) {x : Str} {vs : List V} (h : tups[i]? = some (x, vs) := by rfl) (H : Hp) : TupAt K H (He.ga K x) vs := tupFact_ok (List.all_eq_true.mp e.t _ (List.mem_of_getElem? h)) H
end
section
variable {X : Cx} {ca : Dr} {E : XK} {pos : Pos}
theorem d_gInt {x : Str} {i : Int} (h : ∃ t, X.mg x = some (.int i t)) (hg : Gl X x := by rfl) (hd : (x == ("__debug__" : Str)) = false := by decide) : PE X (.Name x pos) (tD X.K ca E (eC (.int i))) := by
  obtain ⟨t, h⟩ := h
  exact d_glob (v := .int i) h ⟨t, rfl⟩ (fun _ _ => .int i) hg hd
theorem d_gStr {x z : Str} (h : ∃ t, X.mg x = some (.str z t)) (hg : Gl X x := by rfl) (hd : (x == ("__debug__" : Str)) = false := by decide) : PE X (.Name x pos) (tD X.K ca E (eC (.str z))) := by
  obtain ⟨t, h⟩ := h
  exact d_glob (v := .str z) h ⟨t, rfl⟩ (fun _ _ => .str z) hg hd
theorem flA_rl {K : PySem.W.Frag} {Z : Addr → Prop} {H : Hp} : ∀ {vs : List V} {ds : List D}, flA ds = some vs → RlA K ca Z H vs ds
  | _, [], h => by cases h; exact .nil
  | _, d :: ds, h => by
    unfold flA at h
    cases hd : flD d with
    | none => rw [hd] at h; cases h
    | some v =>
      rw [hd] at h
      cases hs : flA ds with
      | none => rw [hs] at h; cases h
      | some ws =>
        rw [hs] at h; cases h
        refine .cons ?_ (flA_rl hs)
        cases d <;> first | (cases hd; constructor) | cases hd
theorem d_gTup {x : Str} {vs : List V} {ds : List D} (h : X.mg x = some (.ref (He.ga X.K x))) (ht : ∀ H, TupAt X.K H (He.ga X.K x) vs) (hf : flA ds = some vs) (hg : Gl X x := by rfl) (hd : (x == ("__debug__" : Str)) = false := by decide) : PE X (.Name x pos) (tD X.K ca E (eC (.tup ds))) :=
  d_glob (v := .ref (He.ga X.K x)) h rfl (fun _ H => .tup (ht H) (flA_rl hf)) hg hd
end
/-- the def x at its place does F -/
structure DefG (P : Program) (w : World) (K : PySem.W.Frag) (mg : Str → Option Value) (base : Heap) (k : Nat) (x : Str) (st : Stmt) (ps : List Str) (F : List D → M D) : Prop where
  ex : ∃ fd, FunD K x x (defArgs st) (defBody st) (defScope st) [] [] (He.ga K x) fd ∧ mg x = some (.ref (He.ga K x)) ∧ FnG P w K mg base CX0 k (He.ga K x) fd ps (spD K ps.length F) ∧ Binds K fd ps []
theorem DefG.mk2 {P : Program} {w : World} {K : PySem.W.Frag} {mg : Str → Option Value} {base : Heap} {k : Nat} {x : Str} {st : Stmt} {N ps : List Str} {g : Sm} (hf : ∃ fd, FunD K x x (defArgs st) (defBody st) (defScope st) [] [] (He.ga K x) fd) (hm : mg x = some (.ref (He.ga K x))) (S : FnScope N ps (defScope st))
    (hb : ∀ (kV doc pm : Value) (an : Option Addr) (cdv ct : Value) (us : List Value), us.length = ps.length → bindArgs (PySem.W.fnOf x x (defArgs st) (defBody st) (defScope st) .none kV doc pm an cdv ct) ⟨us, []⟩ = pure (ps.zip us))
    (hbody : ∀ (ca : Dr) (cdv : Value) (A : Around) (outer : List Env) (s : Shared) (H : Hp) (E : XK), A.guards = some [] → Room k (A.deeper (envOfC x (defScope st) s.heap.objs.size (He.ga K x) cdv)) → PSs (cxOf CX0 P w K mg base N x (defScope st) (He.ga K x) cdv A outer s H E).nox (defBody st) (tS K ca E0 g)) :
    DefG P w K mg base (k + 1) x st ps fun ds => G.nx (runDef N.length g ds) := by
  obtain ⟨fd, F⟩ := hf
  exact ⟨fd, F, hm, FunD.okD F S hbody, FunD.bindsN F hb⟩
section
variable {X : Cx} {ca : Dr} {pos : Pos} {k j : Nat} {ps kn : List Str} {F : List D → M D} {x : Str} {st : Stmt} {p : Pos} {e : Expr} {es : List Expr} {fs ks : Ev → M (List D)} {kws : List Keyword}
theorem d_callG (Fk : DefG X.prog X.w X.K X.mg X.base j x st ps F) (gd : X.A.guards = some []) (hr : Room k X.A) (ha : PA X (e :: es) (tAs X.K ca E0 fs)) (hj : j ≤ k := by decide) (hg : Gl X x := by rfl) (hdb : (x == ("__debug__" : Str)) = false := by decide)
    (he : starEach (e :: es) X.env = (false, eval e X.env) :: starEach es X.env := by rfl) (hpl : (backTo pos (starEach es X.env)).any (·.1) = false := by rfl) : PE X (.Call (.Name x p) (e :: es) [] pos) (tD X.K ca E0 (eCall ps.length F [] fs)) := by
  obtain ⟨fd, FF, hm, hF, hb⟩ := Fk.ex
  exact d_call (hF.mono hj) gd hr hm FF.kp hb .nil L2.pass0 (fun _ _ => .nil) ha hg hdb he hpl
theorem kbN {K : PySem.W.Frag} {qual : Str} {params : Arguments} {body : List Stmt} {scope : Scope} {f : Addr} {fd : FuncData} (F : FunD K x qual params body scope [] [] f fd) (m : Nat) (ix : List Nat)
    (h : ∀ (kV doc pm : Value) (an : Option Addr) (cdv ct : Value) (us ws : List Value), us.length = m → ws.length = kn.length → bindArgs (PySem.W.fnOf x qual params body scope .none kV doc pm an cdv ct) ⟨us, kn.zip ws⟩ = pure (ps.zip (pick ix (us ++ ws)))) :
    KBn K fd ps m kn (fun us ws => pick ix (us ++ ws)) (fun vs zs => pick ix (vs ++ zs)) := by
  obtain ⟨oc, od, dV, kV, doc, pm, an, cdv, ct, osl, rfl, lk, hcd, hD, hK⟩ := F.ex
  rcases hD with ⟨_, rfl⟩ | ⟨e, _⟩
  · exact kb_of fun s us ws _ l1 l2 => .of_eq (h kV doc pm an cdv ct us ws l1 l2)
  · exact absurd rfl e
theorem d_callKG (m : Nat) (ix : List Nat) (Fk : DefG X.prog X.w X.K X.mg X.base j x st ps F) (gd : X.A.guards = some []) (hr : Room k X.A)
    (hb : ∀ (kV doc pm : Value) (an : Option Addr) (cdv ct : Value) (us ws : List Value), us.length = m → ws.length = kn.length → bindArgs (PySem.W.fnOf x x (defArgs st) (defBody st) (defScope st) .none kV doc pm an cdv ct) ⟨us, kn.zip ws⟩ = pure (ps.zip (pick ix (us ++ ws))))
    (ha : PA X (e :: es) (tAs X.K ca E0 fs)) (hkw : PK X kws (tAs X.K ca E0 ks)) (hj : j ≤ k := by decide) (hg : Gl X x := by rfl)
    (hall : (backToKw pos (keywordEach kws X.env)).all (·.1.isSome) = true := by rfl) (hks : (backToKw pos (keywordEach kws X.env)).filterMap (·.1) = kn := by rfl) (hdb : (x == ("__debug__" : Str)) = false := by decide)
    (he : starEach (e :: es) X.env = (false, eval e X.env) :: starEach es X.env := by rfl) (hpl : ((backTo pos (starEach (e :: es) X.env)).any (·.1) || (backToKw pos (keywordEach kws X.env)).any (·.1.isNone)) = false := by rfl) :
    PE X (.Call (.Name x p) (e :: es) kws pos) (tD X.K ca E0 (eCallK ps.length m kn.length ix F fs ks)) := by
  obtain ⟨fd, FF, hm, hF, _⟩ := Fk.ex
  exact d_callK (hF.mono hj) gd hr hm FF.kp (kbN FF m ix hb) L2.pass0 ha hkw hg hall hks hdb he hpl
theorem d_callK0G (ix : List Nat) (Fk : DefG X.prog X.w X.K X.mg X.base j x st ps F) (gd : X.A.guards = some []) (hr : Room k X.A)
    (hb : ∀ (kV doc pm : Value) (an : Option Addr) (cdv ct : Value) (us ws : List Value), us.length = 0 → ws.length = kn.length → bindArgs (PySem.W.fnOf x x (defArgs st) (defBody st) (defScope st) .none kV doc pm an cdv ct) ⟨us, kn.zip ws⟩ = pure (ps.zip (pick ix (us ++ ws))))
    (hkw : PK X kws (tAs X.K ca E0 ks)) (hj : j ≤ k := by decide) (hg : Gl X x := by rfl)
    (hall : (backToKw pos (keywordEach kws X.env)).all (·.1.isSome) = true := by rfl) (hks : (backToKw pos (keywordEach kws X.env)).filterMap (·.1) = kn := by rfl) (hdb : (x == ("__debug__" : Str)) = false := by decide)
    (hpl : ((backTo pos (starEach [] X.env)).any (·.1) || (backToKw pos (keywordEach kws X.env)).any (·.1.isNone)) = false := by rfl) :
    PE X (.Call (.Name x p) [] kws pos) (tD X.K ca E0 (eCallK ps.length 0 kn.length ix F aNil ks)) := by
  obtain ⟨fd, FF, hm, hF, _⟩ := Fk.ex
  exact d_callK0 (hF.mono hj) gd hr hm FF.kp (kbN FF 0 ix hb) L2.pass0 hkw hg hall hks hdb hpl
end
end G
namespace G
open PySem PySem.Spec PyProof.Rows L2
theorem funD_one {K : PySem.W.Frag} {x qual : Str} {params : Arguments} {body : List Stmt} {scope : Scope} {dvs : List V} {kws : List (Str × V)} {f : Addr} {fd fd' : FuncData} (F : FunD K x qual params body scope dvs kws f fd) (F' : FunD K x qual params body scope dvs kws f fd') : fd = fd' := by
  obtain ⟨oc, od, dV, kV, doc, pm, an, cdv, ct, osl, e1, lk, _⟩ := F.ex
  obtain ⟨oc', od', dV', kV', doc', pm', an', cdv', ct', osl', e1', lk', _⟩ := F'.ex
  rw [lk] at lk'
  cases lk'
  rfl
end G
namespace G
open PySem PySem.Spec PyProof.Rows L2
/-! == where texts are at hand: no look at their signs -/
def gEqX (neg : Bool) : D → D → Option Bool
  | .str a, .str b => some (if neg then !decide (a = b) else decide (a = b))
  | x, y => gEq neg x y
def rEqX (K : PySem.W.Frag) : R2 := fun x y H Q => rEq x y H Q ∨ rEqD K x y H Q
def rNeX (K : PySem.W.Frag) : R2 := fun x y H Q => rNe x y H Q ∨ rNeD K x y H Q
section
variable {X : Cx} {K : PySem.W.Frag} {ca : Dr}
theorem op_eqX (hu : X.A.units + 64 < cLine) : OpR X (compareOp .Eq) (rEqX X.K) := OpR.or op_eq (op_eqD hu)
theorem op_neX (hu : X.A.units + 64 < cLine) : OpR X (compareOp .NotEq) (rNeX X.K) := OpR.or op_ne (op_neD hu)
theorem str_dec (a b : Str) : decide (V.str a = V.str b) = decide (a = b) := by
  by_cases h : a = b
  · subst h; simp
  · rw [decide_eq_false h, decide_eq_false fun z => h (by cases z; rfl)]
theorem cmp_eqX : BinB K ca (rEqX K) (gEqX false) := fun Z H c x y d e k Q z co r1 r2 hg q => by
  unfold gEqX at hg
  split at hg
  · cases r1; cases r2
    refine .inl ⟨rfl, ?_⟩
    rw [str_dec]
    cases hg
    exact q H .refl co
  · exact .inr (cmp_eq Z H c x y d e k Q z co r1 r2 hg q)
theorem cmp_neX : BinB K ca (rNeX K) (gEqX true) := fun Z H c x y d e k Q z co r1 r2 hg q => by
  unfold gEqX at hg
  split at hg
  · cases r1; cases r2
    refine .inl ⟨rfl, ?_⟩
    rw [str_dec]
    cases hg
    exact q H .refl co
  · exact .inr (cmp_ne Z H c x y d e k Q z co r1 r2 hg q)
end
end G

set_option Elab.async false
set_option linter.all false
set_option maxRecDepth 100000
set_option maxHeartbeats 8000000
/-! GI: running mirrors: Ok r k = r ends well and k holds of what it gives; one equation for each form. -/
namespace G
open PySem PySem.Spec PyProof.Rows L2
def Ok {α : Type} (r : R α) (k : α → Churn → Prop) : Prop := match r with
  | .ok a c => k a c
  | _ => False
section
variable {α β : Type} {m : M α} {f : α → M β} {c : Churn} {a : α}
theorem Ok.ex {r : R α} {k : α → Churn → Prop} (h : Ok r k) : ∃ a c, r = .ok a c ∧ k a c := by
  cases r with
  | ok a c => exact ⟨a, c, rfl, h⟩
  | exn x c => exact h.elim
  | stuck => exact h.elim
theorem Ok.mono {r : R α} {k k' : α → Churn → Prop} (h : Ok r k) (i : ∀ a c, k a c → k' a c) : Ok r k' := by
  cases r with
  | ok a c => exact i a c h
  | exn x c => exact h
  | stuck => exact h
theorem ok_bind {k : β → Churn → Prop} : Ok ((m >>= f) c) k = Ok (m c) fun a c1 => Ok (f a c1) k := by
  show Ok (M.bind m f c) k = _
  unfold M.bind
  cases h : m c with
  | ok a c' => rfl
  | exn x c' => rfl
  | stuck => rfl
theorem ok_pure {k : α → Churn → Prop} : Ok ((pure a : M α) c) k = k a c := rfl
theorem ok_ok {k : α → Churn → Prop} : Ok (R.ok a c) k = k a c := rfl
theorem ok_lift {o : Option α} {k : α → Churn → Prop} : Ok (liftO o c) k = ∃ a, o = some a ∧ k a c := by
  apply propext
  cases o with
  | none => exact ⟨fun h => h.elim, fun ⟨_, h, _⟩ => by cases h⟩
  | some a => exact ⟨fun h => ⟨a, rfl, h⟩, fun ⟨_, h, q⟩ => by cases h; exact q⟩
theorem ok_stuck {k : α → Churn → Prop} : Ok ((stuck : M α) c) k = False := rfl
theorem ok_ite {p : Prop} [Decidable p] {m m' : M α} {k : α → Churn → Prop} : Ok ((if p then m else m') c) k = if p then Ok (m c) k else Ok (m' c) k := by split <;> rfl
theorem ok_nx {k : α → Churn → Prop} : Ok (nx m c) k = Ok (m c) k := by
  unfold nx
  cases h : m c with
  | ok a c' => rfl
  | exn x c' => rfl
  | stuck => rfl
end
section
variable {ρ : Ev} {c : Churn} {fa fb fc : Ev → M D} {c1 c2 : Ev → M Bool} {fs : Ev → M (List D)} {k : D → Churn → Prop} {kb : Bool → Churn → Prop} {ks : List D → Churn → Prop} {kp : Ev × Ctl → Churn → Prop} {s t : Sm}
theorem ok_var {i : Nat} : Ok (eVar i ρ c) k = ∃ d, ρ[i]? = some (.val d) ∧ k d c := by
  apply propext
  unfold eVar
  cases e : ρ[i]? with
  | none => exact ⟨fun h => h.elim, fun ⟨d, h, _⟩ => by cases h⟩
  | some s =>
    cases s with
    | val d => exact ⟨fun h => ⟨d, rfl, h⟩, fun ⟨_, h, q⟩ => by cases h; exact q⟩
    | no => exact ⟨fun h => h.elim, fun ⟨d, h, _⟩ => by cases h⟩
    | own ds => exact ⟨fun h => h.elim, fun ⟨d, h, _⟩ => by cases h⟩
theorem ok_C {d : D} : Ok (eC d ρ c) k = k d c := ok_pure
theorem ok_bin {g : D → D → Option D} : Ok (eBin g fa fb ρ c) k = Ok (fa ρ c) fun x c1 => Ok (fb ρ c1) fun y c2 => ∃ z, g x y = some z ∧ k z c2 := by
  unfold eBin; simp only [ok_bind, ok_lift]
theorem ok_un {g : D → Option D} : Ok (eUn g fa ρ c) k = Ok (fa ρ c) fun x c1 => ∃ z, g x = some z ∧ k z c1 := by
  unfold eUn; simp only [ok_bind, ok_lift]
theorem ok_nil : Ok (aNil ρ c) ks = ks [] c := ok_pure
theorem ok_cons : Ok (aCons fa fs ρ c) ks = Ok (fa ρ c) fun x c1 => Ok (fs ρ c1) fun xs c2 => ks (x :: xs) c2 := by
  unfold aCons; simp only [ok_bind, ok_pure]
theorem ok_args {g : List D → Option D} : Ok (eArgs g fs ρ c) k = Ok (fs ρ c) fun xs c1 => ∃ z, g xs = some z ∧ k z c1 := by
  unfold eArgs; simp only [ok_bind, ok_lift]
theorem ok_tru : Ok (cTru fa ρ c) kb = Ok (fa ρ c) fun x c1 => ∃ b, truD x = some b ∧ kb b c1 := by
  unfold cTru; simp only [ok_bind, ok_lift]
theorem ok_not : Ok (cNot c1 ρ c) kb = Ok (c1 ρ c) fun b c1 => kb (!b) c1 := by
  unfold cNot; simp only [ok_bind, ok_pure]
theorem ok_and : Ok (cAnd c1 c2 ρ c) kb = Ok (c1 ρ c) fun b c1 => if b = true then Ok (c2 ρ c1) kb else kb false c1 := by
  unfold cAnd; simp only [ok_bind, ok_ite, ok_pure]
theorem ok_or : Ok (cOr c1 c2 ρ c) kb = Ok (c1 ρ c) fun b c1 => if b = true then kb true c1 else Ok (c2 ρ c1) kb := by
  unfold cOr; simp only [ok_bind, ok_ite, ok_pure]
theorem ok_eNot : Ok (eNot fa ρ c) k = Ok (fa ρ c) fun x c1 => ∃ b, truD x = some b ∧ k (.bl !b) c1 := by
  unfold eNot; simp only [ok_bind, ok_lift, ok_pure]
theorem ok_eAnd : Ok (eAnd fa fb ρ c) k = Ok (fa ρ c) fun x c1 => ∃ b, truD x = some b ∧ if b = true then Ok (fb ρ c1) k else k x c1 := by
  unfold eAnd; simp only [ok_bind, ok_lift, ok_ite, ok_pure]
theorem ok_eOr : Ok (eOr fa fb ρ c) k = Ok (fa ρ c) fun x c1 => ∃ b, truD x = some b ∧ if b = true then k x c1 else Ok (fb ρ c1) k := by
  unfold eOr; simp only [ok_bind, ok_lift, ok_ite, ok_pure]
theorem ok_if : Ok (eIf c1 fa fb ρ c) k = Ok (c1 ρ c) fun b c1 => if b = true then Ok (fa ρ c1) k else Ok (fb ρ c1) k := by
  unfold eIf; simp only [ok_bind, ok_ite]
theorem ok_cmp {g : D → D → Option Bool} : Ok (cCmp g fa fb ρ c) kb = Ok (fa ρ c) fun x c1 => Ok (fb ρ c1) fun y c2 => ∃ z, g x y = some z ∧ kb z c2 := by
  unfold cCmp; simp only [ok_bind, ok_lift]
theorem ok_chain {g g' : D → D → Option Bool} : Ok (cChain g g' fa fb fc ρ c) kb = Ok (fa ρ c) fun x c1 => Ok (fb ρ c1) fun y c2 => ∃ z, g x y = some z ∧ if z = true then Ok (fc ρ c2) (fun w c3 => ∃ u, g' y w = some u ∧ kb u c3) else kb false c2 := by
  unfold cChain; simp only [ok_bind, ok_lift, ok_ite, ok_pure]
theorem ok_ofC : Ok (eOfC c1 ρ c) k = Ok (c1 ρ c) fun b c1 => k (.bl b) c1 := by
  unfold eOfC; simp only [ok_bind, ok_pure]
theorem ok_oNone {ko : Option Int → Churn → Prop} : Ok (oNone ρ c) ko = ko none c := ok_pure
theorem ok_oSome {ko : Option Int → Churn → Prop} : Ok (oSome fa ρ c) ko = Ok (fa ρ c) fun x c1 => ∃ i, intO x = some i ∧ ko (some i) c1 := by
  unfold oSome; simp only [ok_bind, ok_lift, ok_pure]
theorem ok_sl {g : D → Option Int → Option Int → Option D} {l u : Ev → M (Option Int)} : Ok (eSl g fa l u ρ c) k = Ok (fa ρ c) fun x c1 => Ok (l ρ c1) fun i c2 => Ok (u ρ c2) fun j c3 => ∃ z, g x i j = some z ∧ k z c3 := by
  unfold eSl; simp only [ok_bind, ok_lift]
theorem ok_met {T : String} {g : D → List D → Option D} : Ok (eMet T g fa fs ρ c) k = Ok (fa ρ c) fun x c1 => tyD T x = true ∧ Ok (fs ρ c1) fun xs c2 => ∃ z, g x xs = some z ∧ k z c2 := by
  unfold eMet; simp only [ok_bind, ok_lift]
  congr 1; funext x c1; apply propext
  by_cases h : tyD T x = true <;> simp [h]
theorem ok_call {n : Nat} {F : List D → M D} {dds : List D} : Ok (eCall n F dds fs ρ c) k = Ok (fs ρ c) fun xs c1 => (xs ++ dds).length = n ∧ Ok (F (xs ++ dds) c1) k := by
  unfold eCall; simp only [ok_bind, ok_ite, ok_stuck]
  congr 1; funext x c1; apply propext
  by_cases h : (x ++ dds).length = n <;> simp [h]
theorem ok_callK {n m j : Nat} {ix : List Nat} {F : List D → M D} {gs : Ev → M (List D)} : Ok (eCallK n m j ix F fs gs ρ c) k = Ok (fs ρ c) fun xs c1 => Ok (gs ρ c1) fun zs c2 => (xs.length = m ∧ zs.length = j ∧ (pick ix (xs ++ zs)).length = n) ∧ Ok (F (pick ix (xs ++ zs)) c2) k := by
  unfold eCallK; simp only [ok_bind, ok_ite, ok_stuck]
  congr 1; funext x c1; congr 1; funext z c2; apply propext
  by_cases h : x.length = m ∧ z.length = j ∧ (pick ix (x ++ z)).length = n <;> simp [h]
def revD : D → Option D
  | .lst xs => some (.lst xs.reverse)
  | _ => none
def itmD : D → Option D
  | .dic ks vs => some (.lst (itemsD ks vs))
  | _ => none
theorem ok_rev : Ok (eRev fa ρ c) k = Ok (fa ρ c) fun x c1 => ∃ z, revD x = some z ∧ k z c1 := by
  unfold eRev; simp only [ok_bind, ok_lift]
  rfl
theorem ok_items : Ok (eItems fa ρ c) k = Ok (fa ρ c) fun x c1 => ∃ z, itmD x = some z ∧ k z c1 := by
  unfold eItems; simp only [ok_bind, ok_lift]
  rfl
theorem ok_lenSet : Ok (eLenSet fa ρ c) k = Ok (fa ρ c) fun x c1 => ∃ z, gLenSet x = some z ∧ k z c1 := by
  unfold eLenSet; simp only [ok_bind, ok_lift]
theorem ok_chn {j : Int} {i : Nat} : Ok (eChn j i ρ c) k = ((∃ d, ρ[i]? = some (.val d) ∧ isChn d = some ()) ∧ ∃ z, chnItem j c = some z ∧ k z c) := by
  unfold eChn; simp only [ok_bind, ok_lift, ok_var]
  apply propext
  constructor
  · rintro ⟨d, h, ⟨u, hu, h2⟩⟩
    refine ⟨⟨d, h, hu⟩, ?_⟩
    simpa [getC, ok_ok, ok_lift] using h2
  · rintro ⟨⟨d, h, hu⟩, h2⟩
    refine ⟨d, h, (), hu, ?_⟩
    simpa [getC, ok_ok, ok_lift] using h2
theorem ok_pairs0 {kk : List (Key × D) → Churn → Prop} : Ok (ePairs [] ρ c) kk = kk [] c := ok_pure
theorem ok_pairs {fk fv : Ev → M D} {r} {kk : List (Key × D) → Churn → Prop} : Ok (ePairs ((fk, fv) :: r) ρ c) kk = Ok (fk ρ c) fun x c1 => ∃ y, keyD x = some y ∧ Ok (fv ρ c1) fun v c2 => Ok (ePairs r ρ c2) fun ps c3 => kk ((y, v) :: ps) c3 := by
  simp only [ePairs, ok_bind, ok_lift, ok_pure]
theorem ok_dict {ps} : Ok (eDict ps ρ c) k = Ok (ePairs ps ρ c) fun kvs c1 => kvs.length ≤ 15 ∧ k (mkDic kvs) c1 := by
  unfold eDict; simp only [ok_bind, ok_ite, ok_stuck, ok_pure]
  congr 1; funext x c1; apply propext
  by_cases h : x.length ≤ 15 <;> simp [h]
/-! what is walked, comprehensions -/
theorem ok_iSeq : Ok (iSeq fa ρ c) ks = Ok (fa ρ c) fun x c1 => ∃ z, walkD x = some z ∧ ks z c1 := by
  unfold iSeq; simp only [ok_bind, ok_lift]
theorem ok_rng1 : Ok (iRange1 fs ρ c) ks = Ok (fs ρ c) fun x c1 => ∃ z, rng1 x = some z ∧ ks z c1 := by
  unfold iRange1; simp only [ok_bind, ok_lift]
theorem ok_rng2 : Ok (iRange2 fs ρ c) ks = Ok (fs ρ c) fun x c1 => ∃ z, rng2 x = some z ∧ ks z c1 := by
  unfold iRange2; simp only [ok_bind, ok_lift]
theorem ok_comp {t : Tg} {it : Ev → M (List D)} {vs : List Nat} : Ok (eComp t it c1 fa vs ρ c) k = Ok (it ρ c) fun ds c2 => ds.length ≤ sizeLine ∧ Ok (compM t c1 fa (wipeE ρ vs) ds c2) fun ys c3 => k (.lst ys) c3 := by
  unfold eComp; simp only [ok_bind, ok_ite, ok_stuck, ok_pure, ok_nx]
  congr 1; funext x c3; apply propext
  by_cases h : x.length ≤ sizeLine <;> simp [h]
theorem ok_comp0 {t : Tg} : Ok (compM t c1 fa ρ [] c) ks = ks [] c := ok_pure
theorem ok_compS {t : Tg} {d : D} {ds : List D} : Ok (compM t c1 fa ρ (d :: ds) c) ks = ∃ ρ1, t d ρ = some ρ1 ∧ Ok (c1 ρ1 c) fun b c2 => if b = true then (Ok (fa ρ1 c2) fun y c3 => Ok (compM t c1 fa ρ ds c3) fun ys c4 => ks (y :: ys) c4) else Ok (compM t c1 fa ρ ds c2) ks := by
  simp only [compM, ok_bind, ok_lift, ok_ite, ok_pure]
/-! statements -/
theorem ok_seq : Ok (sSeq s t ρ c) kp = Ok (s ρ c) fun p c1 => match p.2 with | .nx => Ok (t p.1 c1) kp | _ => kp p c1 := by
  unfold sSeq; simp only [ok_bind]
  congr 1; funext p c1
  obtain ⟨ρ1, ctl⟩ := p
  cases ctl <;> simp only [ok_pure]
theorem ok_sNil : Ok (sNil ρ c) kp = kp (ρ, .nx) c := ok_pure
theorem ok_ret : Ok (sRet fa ρ c) kp = Ok (fa ρ c) fun d c1 => kp (ρ, .ret d) c1 := by
  unfold sRet; simp only [ok_bind, ok_pure]
theorem ok_retN : Ok (sRetN ρ c) kp = kp (ρ, .ret .non) c := ok_pure
theorem ok_sIf : Ok (sIf c1 s t ρ c) kp = Ok (c1 ρ c) fun b c2 => if b = true then Ok (s ρ c2) kp else Ok (t ρ c2) kp := by
  unfold sIf; simp only [ok_bind, ok_ite]
theorem ok_expr : Ok (sExpr fa ρ c) kp = Ok (fa ρ c) fun _ c1 => kp (ρ, .nx) c1 := by
  unfold sExpr; simp only [ok_bind, ok_pure]
theorem ok_asg {t : Tg} : Ok (sAsg t fa ρ c) kp = Ok (fa ρ c) fun d c1 => ∃ ρ1, t d ρ = some ρ1 ∧ kp (ρ1, .nx) c1 := by
  unfold sAsg; simp only [ok_bind, ok_lift, ok_pure]
theorem ok_par {i j : Nat} : Ok (sPar i j fs ρ c) kp = Ok (fs ρ c) fun ds c1 => ∃ d e, ds = [d, e] ∧ kp ((ρ.set i (.val d)).set j (.val e), .nx) c1 := by
  unfold sPar; simp only [ok_bind]
  congr 1; funext ds c1; apply propext
  match ds with
  | [d, e] => exact ⟨fun h => ⟨d, e, rfl, h⟩, fun ⟨_, _, h, q⟩ => by cases h; exact q⟩
  | [] => simp [ok_stuck]
  | [_] => simp [ok_stuck]
  | _ :: _ :: _ :: _ => simp [ok_stuck]
theorem ok_sChn {j : Int} {i : Nat} : Ok (sChn j i fa ρ c) kp = Ok (fa ρ c) fun d c1 => (∃ h, ρ[i]? = some (.val h) ∧ isChn h = some ()) ∧ ∃ c2, chnPut j d c1 = some c2 ∧ kp (ρ, .nx) c2 := by
  unfold sChn; simp only [ok_bind, ok_lift, ok_var, ok_pure]
  congr 1; funext d c1; apply propext
  constructor
  · rintro ⟨h, h1, u, hu, h2⟩
    refine ⟨⟨h, h1, hu⟩, ?_⟩
    simpa [getC, putC, ok_ok, ok_lift] using h2
  · rintro ⟨⟨h, h1, hu⟩, h2⟩
    refine ⟨h, h1, (), hu, ?_⟩
    simpa [getC, putC, ok_ok, ok_lift] using h2
theorem ok_for {t : Tg} {it : Ev → M (List D)} : Ok (sFor t it s ρ c) kp = Ok (it ρ c) fun ds c1 => Ok (forM' t s ds ρ c1) kp := by
  unfold sFor; simp only [ok_bind]
theorem ok_for0 {t : Tg} : Ok (forM' t s [] ρ c) kp = kp (ρ, .nx) c := ok_pure
theorem ok_forS {t : Tg} {d : D} {ds : List D} : Ok (forM' t s (d :: ds) ρ c) kp = ∃ ρ1, t d ρ = some ρ1 ∧ Ok (s ρ1 c) fun p c1 => match p.2 with
    | .nx => Ok (forM' t s ds p.1 c1) kp
    | .ct => Ok (forM' t s ds p.1 c1) kp
    | .bk => kp (p.1, .nx) c1
    | .ret d => kp (p.1, .ret d) c1 := by
  simp only [forM', ok_bind, ok_lift]
  congr 1; funext ρ1; congr 1; congr 1; funext p c1
  obtain ⟨ρ2, ctl⟩ := p
  cases ctl <;> simp only [ok_pure]
theorem ok_def {N : Nat} {g : Sm} {ds : List D} : Ok (G.nx (runDef N g ds) c) k = Ok (g (ds.map Sl.val ++ List.replicate (N - ds.length) Sl.no) c) fun p c1 => match p.2 with | .ret d => k d c1 | .nx => k .non c1 | _ => False := by
  rw [ok_nx]
  unfold runDef; simp only [ok_bind]
  congr 1; funext p c1
  obtain ⟨ρ2, ctl⟩ := p
  cases ctl <;> simp only [ok_pure, ok_stuck]
end
theorem LawTrue.of {n : Nat} {g : Sm} (h : ∀ cells : List Int, cells.length ≤ 60 → Ok (g (.no :: .val .chn :: List.replicate (n - 2) .no) ⟨cells, 0, 0⟩) fun p _ => p.2 = .ret (.bl true)) : LawTrue n g := fun cells hc => by
  obtain ⟨⟨ρ, ctl⟩, c, e, q⟩ := (h cells hc).ex
  cases q
  exact ⟨ρ, c, e⟩
end G

set_option Elab.async false
set_option linter.all false
set_option maxRecDepth 100000
set_option maxHeartbeats 8000000
/-! GJ: draws. -/
namespace G
open PySem PySem.Spec PyProof.Rows L2
def gDraw1 (m1 a b m2 d f m3 : Int) : Sm := (sSeq (sIf (cCmp (gEqX false) (eChn 0 0) (eArgs gLst aNil)) (sRet (eC (.int 0))) sNil)
  (sSeq (sIf (cCmp (gCmpI gtI) (eChn 2 0) (eC (.int 0))) (sSeq (sAsg (gN 2) (eArgs gInt (aCons (eChn 2 0) aNil)))
  (sSeq (sChn 2 0 (eBin gDiv (eVar 2) (eVar 1)))
  (sRet (eBin gMod (eArgs gInt (aCons (eVar 2) aNil)) (eVar 1))))) sNil)
  (sSeq (sAsg (gN 3) (eChn 1 0))
  (sSeq (sChn 1 0 (eBin gAdd (eVar 3) (eC (.int 1))))
  (sSeq (sAsg (gN 4) (eBin gIx (eChn 0 0) (eBin gMod (eArgs gInt (aCons (eVar 3) aNil)) (eArgs gLen (aCons (eChn 0 0) aNil)))))
  (sSeq (sIf (cAnd (cCmp (gCmpI ltI) (eVar 3) (eArgs gLen (aCons (eChn 0 0) aNil))) (cCmp (gCmpI geI) (eArgs gAbs (aCons (eVar 4) aNil)) (eBin gPow (eC (.int 10)) (eC (.int 18))))) (sSeq (sAsg (gN 2) (eBin gAdd (eBin gMul (eC (.int 2)) (eBin gSub (eArgs gAbs (aCons (eVar 4) aNil)) (eBin gPow (eC (.int 10)) (eC (.int 18))))) (eArgs gInt (aCons (eBin (gBl (gCmpI ltI)) (eVar 4) (eC (.int 0))) aNil))))
  (sSeq (sChn 2 0 (eBin gDiv (eArgs gInt (aCons (eVar 2) aNil)) (eVar 1)))
  (sRet (eBin gMod (eArgs gInt (aCons (eVar 2) aNil)) (eVar 1))))) sNil)
  (sSeq (sAsg (gN 5) (eBin gMod (eArgs gInt (aCons (eBin gPow (eBin gAdd (eBin gAdd (eBin gMod (eArgs gInt (aCons (eVar 4) aNil)) (eC (.int m1))) (eBin gMul (eC (.int a)) (eVar 3))) (eC (.int b))) (eC (.int 5))) aNil)) (eC (.int m2))))
  (sSeq (sAsg (gN 5) (eBin gMod (eArgs gInt (aCons (eBin gPow (eBin gAdd (eBin gAdd (eBin gMul (eVar 5) (eBin gAdd (eBin gMul (eC (.int 2)) (eVar 3)) (eC (.int d)))) (eBin gMul (eBin gMul (eC (.int f)) (eVar 3)) (eVar 3))) (eC (.int a))) (eC (.int 3))) aNil)) (eC (.int m3))))
  (sRet (eBin gMod (eArgs gInt (aCons (eBin gDiv (eVar 5) (eC (.int 64))) aNil)) (eVar 1)))))))))))
structure Good (n : Nat) (c : Churn) : Prop where
  lo : 0 ≤ c.at_
  hi : c.at_ ≤ n
  left : 0 ≤ c.left
  few : c.cells.length ≤ 60
theorem Good.mono {n n' : Nat} {c : Churn} (h : Good n c) (e : n ≤ n') : Good n' c := ⟨h.lo, by have := h.hi; omega, h.left, h.few⟩
theorem toPyA_ints : ∀ ns : List Int, toPyA (ns.map D.int) = some (ns.map PyData.int)
  | [] => rfl
  | n :: ns => by rw [List.map_cons]; unfold toPyA; rw [toPyA_ints ns]; rfl
theorem canAll_ints : ∀ ns : List Int, PyData.canLayAll0 (ns.map PyData.int) = true
  | [] => rfl
  | n :: ns => by rw [List.map_cons]; simp only [PyData.canLayAll0, canAll_ints ns, PyData.canLay0, Bool.and_true]
theorem depth_ints : ∀ ns : List Int, PyData.depthAll (ns.map PyData.int) = 0
  | [] => rfl
  | n :: ns => by rw [List.map_cons]; simp only [PyData.depthAll, depth_ints ns, PyData.depth]; rfl
theorem eq_nil_ints (ns : List Int) : gEqX false (.lst (ns.map D.int)) (.lst []) = some ns.isEmpty := by
  show gEq false (.lst (ns.map D.int)) (.lst []) = some ns.isEmpty
  have h1 : toPy (.lst (ns.map D.int)) = some (.list (ns.map PyData.int)) := by unfold toPy; rw [toPyA_ints]; rfl
  have h2 : toPy (.lst []) = some (.list []) := rfl
  have s1 : SeqAt.shaped (.list (ns.map PyData.int)) = true := by
    unfold SeqAt.shaped
    simp only [PyData.canLay0, PyData.depth, canAll_ints, depth_ints]
    decide
  have s2 : SeqAt.shaped (.list []) = true := by decide
  unfold gEq
  rw [h1, h2]
  simp only [Option.bind_some, s1, s2, and_self, if_true]
  cases ns <;> rfl
theorem atI_ints (ns : List Int) {i : Nat} (h : i < ns.length) : atI (ns.map D.int) (i : Int) = some (.int ns[i]) := by
  have e : ixN (ns.map D.int).length (i : Int) = some i := by
    unfold ixN
    have h0 : (0 : Int) ≤ (i : Int) := Int.natCast_nonneg i
    have h1 : (i : Int) < ((ns.map D.int).length : Int) := by rw [List.length_map]; exact Int.ofNat_lt.mpr h
    rw [if_pos h0, if_pos h1]
    simp
  unfold atI
  rw [e]
  simp [h]
theorem ite_t {b : Bool} {A B : Prop} (h : b = true) (q : A) : if b = true then A else B := by rw [if_pos h]; exact q
theorem ite_f {b : Bool} {A B : Prop} (h : b = false) (q : B) : if b = true then A else B := by rw [h, if_neg (by decide)]; exact q
theorem gMod_ok {i j : Int} (h : 0 < j) : gMod (.int i) (.int j) = some (.int (i % j)) := if_pos (decide_eq_true h)
theorem log_lt {j : Int} {k : Nat} (h : j.natAbs < 2 ^ k) (hk : 0 < k) : j.natAbs.log2 < k := by
  by_cases z : j.natAbs = 0
  · rw [z]; simpa using hk
  · exact (Nat.log2_lt z).mpr h
theorem gDiv_ok {i j : Int} (h : 0 < j) (h2 : j ≤ 2 ^ 62) : gDiv (.int i) (.int j) = some (.int (i / j)) :=
  if_pos (Bool.and_eq_true_iff.mpr ⟨decide_eq_true h, decide_eq_true (Nat.lt_trans (log_lt (k := 63) (by omega) (by decide)) (by decide))⟩)
theorem gMul_l {i j : Int} (h1 : -(2 ^ 64) < i) (h2 : i < 2 ^ 64) : gMul (.int i) (.int j) = some (.int (i * j)) :=
  if_pos (by unfold okMul; rw [decide_eq_true h1, decide_eq_true h2]; rfl)
theorem gMul_r {i j : Int} (h1 : -(2 ^ 64) < j) (h2 : j < 2 ^ 64) : gMul (.int i) (.int j) = some (.int (i * j)) :=
  if_pos (by unfold okMul; rw [decide_eq_true h1, decide_eq_true h2]; simp)
theorem gPow_ok {i j : Int} (h0 : 0 ≤ j) (h1 : j ≤ 1000000) (h : i.natAbs < 2 ^ 64) : gPow (.int i) (.int j) = some (.int (i ^ j.toNat)) :=
  if_pos (by unfold okPow; rw [decide_eq_true h0, decide_eq_true h1, decide_eq_true h]; rfl)
theorem one_of (x : Bool) : gInt [.bl x] = some (.int (if x then 1 else 0)) := rfl
theorem draw1 {m1 a b m2 d f m3 j : Int} {n : Nat} {c : Churn} {k : D → Churn → Prop} (hm1 : 0 < m1 ∧ m1 ≤ 2 ^ 31) (ha : 0 ≤ a ∧ a ≤ 2 ^ 20) (hb : 0 ≤ b ∧ b ≤ 2 ^ 20) (hm2 : 0 < m2 ∧ m2 ≤ 2 ^ 31) (hd : 0 ≤ d ∧ d ≤ 2 ^ 20) (hf : 0 ≤ f ∧ f ≤ 2 ^ 20) (hm3 : 0 < m3)
    (g : Good n c) (hn : n + 1 ≤ 2 ^ 20) (hj : 1 ≤ j) (hj2 : j ≤ 2 ^ 62) (q : ∀ r c', 0 ≤ r → r < j → Good (n + 1) c' → k (.int r) c') : Ok (G.nx (runDef 6 (gDraw1 m1 a b m2 d f m3) [.chn, .int j]) c) k := by
  obtain ⟨cells, at_, left⟩ := c
  rw [ok_def]
  show Ok (gDraw1 m1 a b m2 d f m3 [.val .chn, .val (.int j), .no, .no, .no, .no] _) _
  unfold gDraw1
  rw [ok_seq, ok_sIf, ok_cmp, ok_chn]
  refine ⟨⟨.chn, rfl, rfl⟩, _, rfl, ?_⟩
  rw [ok_args, ok_nil]
  refine ⟨_, rfl, _, eq_nil_ints cells, ?_⟩
  have hlo := g.lo
  have hhi := g.hi
  have hl := g.left
  simp only at hlo hhi hl
  have fin : ∀ r c', 0 ≤ r → r < j → Good (n + 1) c' → k (.int r) c' := q
  cases hc : cells with
  | nil =>
    subst hc
    rw [if_pos (by rfl), ok_ret, ok_C]
    exact q 0 _ (by omega) (by omega) (g.mono (by omega))
  | cons c0 cs =>
    rw [← hc]
    have hlen : 0 < cells.length := by rw [hc]; exact Nat.succ_pos _
    refine ite_f (by rw [hc]; rfl) ?_
    rw [ok_sNil]
    show Ok _ _
    rw [ok_seq, ok_sIf, ok_cmp, ok_chn]
    refine ⟨⟨.chn, rfl, rfl⟩, _, rfl, ?_⟩
    rw [ok_C]
    refine ⟨_, rfl, ?_⟩
    by_cases hz : 0 < left
    · refine ite_t (decide_eq_true hz) ?_
      rw [ok_seq, ok_asg, ok_args, ok_cons, ok_chn]
      refine ⟨⟨.chn, rfl, rfl⟩, _, rfl, ?_⟩
      rw [ok_nil]
      refine ⟨_, rfl, _, rfl, ?_⟩
      show Ok _ _
      rw [ok_seq, ok_sChn, ok_bin, ok_var]
      refine ⟨_, rfl, ?_⟩
      rw [ok_var]
      refine ⟨_, rfl, _, gDiv_ok (by omega) hj2, ⟨.chn, rfl, rfl⟩, _, rfl, ?_⟩
      show Ok _ _
      rw [ok_ret, ok_bin, ok_args, ok_cons, ok_var]
      refine ⟨_, rfl, ?_⟩
      rw [ok_nil]
      refine ⟨_, rfl, ?_⟩
      rw [ok_var]
      refine ⟨_, rfl, _, gMod_ok (by omega), ?_⟩
      refine q _ _ (Int.emod_nonneg _ (by omega)) (Int.emod_lt_of_pos _ (by omega)) ⟨g.lo, ?_, Int.ediv_nonneg hl (by omega), g.few⟩
      show at_ ≤ _
      omega
    · refine ite_f (decide_eq_false hz) ?_
      rw [ok_sNil]
      show Ok _ _
      rw [ok_seq, ok_asg, ok_chn]
      refine ⟨⟨.chn, rfl, rfl⟩, _, rfl, _, rfl, ?_⟩
      show Ok _ _
      rw [ok_seq, ok_sChn, ok_bin, ok_var]
      refine ⟨_, rfl, ?_⟩
      rw [ok_C]
      refine ⟨_, rfl, ⟨.chn, rfl, rfl⟩, _, rfl, ?_⟩
      show Ok _ _
      rw [ok_seq, ok_asg, ok_bin, ok_chn]
      refine ⟨⟨.chn, rfl, rfl⟩, _, rfl, ?_⟩
      rw [ok_bin, ok_args, ok_cons, ok_var]
      refine ⟨_, rfl, ?_⟩
      rw [ok_nil]
      refine ⟨_, rfl, ?_⟩
      rw [ok_args, ok_cons, ok_chn]
      refine ⟨⟨.chn, rfl, rfl⟩, _, rfl, ?_⟩
      rw [ok_nil]
      have hll : (0 : Int) < ((cells.map D.int).length : Int) := by rw [List.length_map]; exact Int.ofNat_lt.mpr hlen
      refine ⟨_, rfl, _, gMod_ok hll, ?_⟩
      have hi1 := Int.emod_nonneg at_ (by omega : ((cells.map D.int).length : Int) ≠ 0)
      have hi2 := Int.emod_lt_of_pos at_ hll
      obtain ⟨i, ei⟩ := Int.eq_ofNat_of_zero_le hi1
      rw [ei, List.length_map] at hi2
      have hi3 : i < cells.length := Int.ofNat_lt.mp hi2
      refine ⟨_, (by rw [ei]; exact atI_ints cells hi3), _, rfl, ?_⟩
      generalize cells[i] = cell
      have at1 : at_ + 1 ≤ ((n + 1 : Nat) : Int) := by omega
      have g1 : Good (n + 1) ⟨cells, at_ + 1, left⟩ := ⟨by show (0 : Int) ≤ at_ + 1; omega, at1, hl, g.few⟩
      show Ok _ _
      rw [ok_seq, ok_sIf, ok_and, ok_cmp, ok_var]
      refine ⟨_, rfl, ?_⟩
      rw [ok_args, ok_cons, ok_chn]
      refine ⟨⟨.chn, rfl, rfl⟩, _, rfl, ?_⟩
      rw [ok_nil]
      refine ⟨_, rfl, _, rfl, ?_⟩
      have hat : ∃ m : Int, at_ = m ∧ 0 ≤ m ∧ m < 2 ^ 20 := ⟨at_, rfl, hlo, by omega⟩
      have rest : ∀ (s2 : Sl), Ok (sSeq (sAsg (gN 5) (eBin gMod (eArgs gInt (aCons (eBin gPow (eBin gAdd (eBin gAdd (eBin gMod (eArgs gInt (aCons (eVar 4) aNil)) (eC (.int m1))) (eBin gMul (eC (.int a)) (eVar 3))) (eC (.int b))) (eC (.int 5))) aNil)) (eC (.int m2))))
  (sSeq (sAsg (gN 5) (eBin gMod (eArgs gInt (aCons (eBin gPow (eBin gAdd (eBin gAdd (eBin gMul (eVar 5) (eBin gAdd (eBin gMul (eC (.int 2)) (eVar 3)) (eC (.int d)))) (eBin gMul (eBin gMul (eC (.int f)) (eVar 3)) (eVar 3))) (eC (.int a))) (eC (.int 3))) aNil)) (eC (.int m3))))
  (sRet (eBin gMod (eArgs gInt (aCons (eBin gDiv (eVar 5) (eC (.int 64))) aNil)) (eVar 1)))) [.val .chn, .val (.int j), s2, .val (.int at_), .val (.int cell), .no] ⟨cells, at_ + 1, left⟩) fun p c1 => match p.2 with | .ret d => k d c1 | .nx => k .non c1 | _ => False := by
        intro s2
        have hat2 : at_ < 2 ^ 20 := by omega
        have p1 : 0 ≤ a * at_ ∧ a * at_ ≤ 2 ^ 40 := ⟨Int.mul_nonneg ha.1 hlo, by
          have := Int.mul_le_mul ha.2 (Int.le_of_lt hat2) hlo (by decide : (0 : Int) ≤ 2 ^ 20)
          have e : (2 : Int) ^ 20 * 2 ^ 20 = 2 ^ 40 := by decide
          omega⟩
        have q1 : 0 ≤ cell % m1 ∧ cell % m1 < 2 ^ 31 := ⟨Int.emod_nonneg _ (by omega), Int.lt_of_lt_of_le (Int.emod_lt_of_pos _ hm1.1) hm1.2⟩
        rw [ok_seq, ok_asg, ok_bin, ok_args, ok_cons, ok_bin, ok_bin, ok_bin, ok_bin, ok_args, ok_cons, ok_var]
        refine ⟨_, rfl, ?_⟩
        rw [ok_nil]
        refine ⟨_, rfl, ?_⟩
        rw [ok_C]
        refine ⟨_, gMod_ok hm1.1, ?_⟩
        rw [ok_bin, ok_C, ok_var]
        refine ⟨_, rfl, _, gMul_l (by omega) (by omega), _, rfl, ?_⟩
        rw [ok_C]
        refine ⟨_, rfl, ?_⟩
        rw [ok_C]
        refine ⟨_, gPow_ok (by decide) (by decide) (by omega), ?_⟩
        rw [ok_nil]
        refine ⟨_, rfl, ?_⟩
        rw [ok_C]
        refine ⟨_, gMod_ok hm2.1, _, rfl, ?_⟩
        have q2 : ∀ y : Int, 0 ≤ y % m2 ∧ y % m2 < 2 ^ 31 := fun y => ⟨Int.emod_nonneg _ (by omega), Int.lt_of_lt_of_le (Int.emod_lt_of_pos _ hm2.1) hm2.2⟩
        generalize hx : (cell % m1 + a * at_ + b) ^ (Int.toNat 5) = xx
        have q3 := q2 xx
        generalize xx % m2 = x5 at q3 ⊢
        show Ok _ _
        have p2 : 0 ≤ x5 * (2 * at_ + d) ∧ x5 * (2 * at_ + d) ≤ 2 ^ 31 * 2 ^ 22 := ⟨Int.mul_nonneg q3.1 (by omega), Int.mul_le_mul (by omega) (by omega) (by omega) (by decide)⟩
        have p3 : 0 ≤ f * at_ ∧ f * at_ ≤ 2 ^ 40 := ⟨Int.mul_nonneg hf.1 hlo, by
          have := Int.mul_le_mul hf.2 (Int.le_of_lt hat2) hlo (by decide : (0 : Int) ≤ 2 ^ 20)
          have e : (2 : Int) ^ 20 * 2 ^ 20 = 2 ^ 40 := by decide
          omega⟩
        have p4 : 0 ≤ f * at_ * at_ ∧ f * at_ * at_ ≤ 2 ^ 60 := ⟨Int.mul_nonneg p3.1 hlo, by
          have := Int.mul_le_mul p3.2 (Int.le_of_lt hat2) hlo (by decide : (0 : Int) ≤ 2 ^ 40)
          have e : (2 : Int) ^ 40 * 2 ^ 20 = 2 ^ 60 := by decide
          omega⟩
        rw [ok_seq, ok_asg, ok_bin, ok_args, ok_cons, ok_bin, ok_bin, ok_bin, ok_bin, ok_var]
        refine ⟨_, rfl, ?_⟩
        rw [ok_bin, ok_bin, ok_C, ok_var]
        refine ⟨_, rfl, _, gMul_l (by decide) (by decide), ?_⟩
        rw [ok_C]
        refine ⟨_, rfl, _, gMul_l (by omega) (by omega), ?_⟩
        rw [ok_bin, ok_bin, ok_C, ok_var]
        refine ⟨_, rfl, _, gMul_l (by omega) (by omega), ?_⟩
        rw [ok_var]
        refine ⟨_, rfl, _, gMul_l (by omega) (by omega), _, rfl, ?_⟩
        rw [ok_C]
        refine ⟨_, rfl, ?_⟩
        rw [ok_C]
        have e53 : (2 : Int) ^ 31 * 2 ^ 22 = 2 ^ 53 := by decide
        refine ⟨_, gPow_ok (by decide) (by decide) (by omega), ?_⟩
        rw [ok_nil]
        refine ⟨_, rfl, ?_⟩
        rw [ok_C]
        refine ⟨_, gMod_ok hm3, _, rfl, ?_⟩
        show Ok _ _
        rw [ok_ret, ok_bin, ok_args, ok_cons, ok_bin, ok_var]
        refine ⟨_, rfl, ?_⟩
        rw [ok_C]
        refine ⟨_, gDiv_ok (by decide) (by decide), ?_⟩
        rw [ok_nil]
        refine ⟨_, rfl, ?_⟩
        rw [ok_var]
        refine ⟨_, rfl, _, gMod_ok (by omega), ?_⟩
        exact q _ _ (Int.emod_nonneg _ (by omega)) (Int.emod_lt_of_pos _ (by omega)) g1
      by_cases h1 : at_ < ((cells.map D.int).length : Int)
      · refine ite_t (decide_eq_true h1) ?_
        rw [ok_cmp, ok_args, ok_cons, ok_var]
        refine ⟨_, rfl, ?_⟩
        rw [ok_nil]
        refine ⟨_, rfl, ?_⟩
        rw [ok_bin, ok_C, ok_C]
        refine ⟨_, gPow_ok (by decide) (by decide) (by decide), _, rfl, ?_⟩
        by_cases h2 : (10 : Int) ^ (Int.toNat 18) ≤ (if cell < 0 then -cell else cell)
        · refine ite_t (decide_eq_true h2) ?_
          rw [ok_seq, ok_asg, ok_bin, ok_bin, ok_C, ok_bin, ok_args, ok_cons, ok_var]
          refine ⟨_, rfl, ?_⟩
          rw [ok_nil]
          refine ⟨_, rfl, ?_⟩
          rw [ok_bin, ok_C, ok_C]
          refine ⟨_, gPow_ok (by decide) (by decide) (by decide), _, rfl, _, gMul_l (by decide) (by decide), ?_⟩
          rw [ok_args, ok_cons, ok_bin, ok_var]
          refine ⟨_, rfl, ?_⟩
          rw [ok_C]
          refine ⟨_, rfl, ?_⟩
          rw [ok_nil]
          refine ⟨_, rfl, _, rfl, _, rfl, ?_⟩
          show Ok _ _
          have hb01 : (0 : Int) ≤ (if ltI cell 0 then 1 else 0) := by split <;> decide
          have hr : 0 ≤ 2 * ((if cell < 0 then -cell else cell) - (10 : Int) ^ (Int.toNat 18)) + (if ltI cell 0 then 1 else 0) := by omega
          generalize 2 * ((if cell < 0 then -cell else cell) - (10 : Int) ^ (Int.toNat 18)) + (if ltI cell 0 then 1 else 0) = rr at hr ⊢
          rw [ok_seq, ok_sChn, ok_bin, ok_args, ok_cons, ok_var]
          refine ⟨_, rfl, ?_⟩
          rw [ok_nil]
          refine ⟨_, rfl, ?_⟩
          rw [ok_var]
          refine ⟨_, rfl, _, gDiv_ok (by omega) hj2, ⟨.chn, rfl, rfl⟩, _, rfl, ?_⟩
          show Ok _ _
          rw [ok_ret, ok_bin, ok_args, ok_cons, ok_var]
          refine ⟨_, rfl, ?_⟩
          rw [ok_nil]
          refine ⟨_, rfl, ?_⟩
          rw [ok_var]
          refine ⟨_, rfl, _, gMod_ok (by omega), ?_⟩
          exact q _ _ (Int.emod_nonneg _ (by omega)) (Int.emod_lt_of_pos _ (by omega)) ⟨g1.lo, g1.hi, Int.ediv_nonneg hr (by omega), g.few⟩
        · refine ite_f (decide_eq_false h2) ?_
          rw [ok_sNil]
          exact rest .no
      · refine ite_f (decide_eq_false h1) (ite_f rfl ?_)
        rw [ok_sNil]
        exact rest .no
end G

set_option Elab.async false
set_option linter.all false
set_option maxRecDepth 100000
set_option maxHeartbeats 8000000
/-! GK: small equations for running mirrors; what can be shown. -/
namespace G
open PySem PySem.Spec PyProof.Rows L2
theorem Ok.of_eq {α : Type} {r : R α} {a : α} {c : Churn} {k : α → Churn → Prop} (e : r = .ok a c) (q : k a c) : Ok r k := by rw [e]; exact q
theorem ok_eq {α : Type} {r : R α} {a : α} {c : Churn} {k : α → Churn → Prop} (e : r = .ok a c) : Ok r k = k a c := by rw [e]; rfl
theorem gAdd_i {i j : Int} : gAdd (.int i) (.int j) = some (.int (i + j)) := rfl
theorem gSub_i {i j : Int} : gSub (.int i) (.int j) = some (.int (i - j)) := rfl
theorem gNeg_i {i : Int} : gNeg (.int i) = some (.int (-i)) := rfl
theorem gBl_e {g : D → D → Option Bool} {x y : D} : gBl g x y = (g x y).map D.bl := rfl
theorem gCmpI_i {f : Int → Int → Bool} {i j : Int} : gCmpI f (.int i) (.int j) = some (f i j) := rfl
theorem gLst_o {xs : List D} (h : xs.length ≤ 1000) : gLst xs = some (.lst xs) := if_pos (Nat.le_trans h (by decide))
theorem gTup_o {xs : List D} (h : xs.length ≤ 1000) : gTup xs = some (.tup xs) := if_pos (Nat.le_trans h (by decide))
theorem gN_e {i : Nat} {d : D} {ρ : Ev} : gN i d ρ = some (ρ.set i (.val d)) := rfl
theorem truD_b {b : Bool} : truD (.bl b) = some b := rfl
theorem truD_i {i : Int} : truD (.int i) = some (i != 0) := rfl
theorem gIsN_n {neg : Bool} {d : D} : gIsN neg d .non = some (if neg then !isNonD d else isNonD d) := rfl
theorem gLen_l {xs : List D} : gLen [.lst xs] = some (.int xs.length) := rfl
theorem gInt_b {b : Bool} : gInt [.bl b] = some (.int (if b then 1 else 0)) := rfl
theorem gInt_i {i : Int} : gInt [.int i] = some (.int i) := rfl
theorem atI_mem {xs : List D} {r : Int} (h0 : 0 ≤ r) (h1 : r < xs.length) : ∃ x ∈ xs, atI xs r = some x := by
  obtain ⟨i, rfl⟩ := Int.eq_ofNat_of_zero_le h0
  have hi : i < xs.length := Int.ofNat_lt.mp h1
  refine ⟨xs[i], List.getElem_mem hi, ?_⟩
  have e : ixN xs.length (i : Int) = some i := by
    unfold ixN
    rw [if_pos h0, if_pos h1]
    simp
  unfold atI
  rw [e]
  simp [hi]
theorem rng1_i {j : Int} (h0 : 0 ≤ j) (h1 : j < 2 ^ 62) : rng1 [.int j] = some (rangeD 0 j) := if_pos ⟨by omega, h1⟩
/-! what is plain: no class, no object -/
def plainD (d : D) : Bool := (tyName d).isSome
def isIntD : D → Bool
  | .int _ => true
  | _ => false
/-! ### repr -/
def sizI (i : Int) : Bool := decide (i.natAbs < 10 ^ 60)
def sizS (x : Str) : Bool := (x.cps.toList.all fun c => decide (c < 16 ^ 8)) && decide (x.cps.size ≤ 1000)
mutual
/-- small at its leaves -/
def tame : D → Bool
  | .non => true
  | .bl _ => true
  | .int i => sizI i
  | .str x => sizS x
  | .lst xs => tameA xs
  | .tup xs => tameA xs
  | .dic ks vs => (ks.all fun k => match k with | .inl i => sizI i | .inr x => sizS x) && tameA vs
  | _ => false
def tameA : List D → Bool
  | [] => true
  | d :: ds => tame d && tameA ds
end
mutual
/-- how many leaves and boxes -/
def cnt : D → Nat
  | .lst xs => 1 + cntA xs
  | .tup xs => 1 + cntA xs
  | .dic ks vs => 1 + 2 * ks.length + cntA vs
  | _ => 1
def cntA : List D → Nat
  | [] => 0
  | d :: ds => cnt d + cntA ds
end
mutual
def hgt : D → Nat
  | .lst xs => 1 + hgtA xs
  | .tup xs => 1 + hgtA xs
  | .dic _ vs => 1 + hgtA vs
  | _ => 0
def hgtA : List D → Nat
  | [] => 0
  | d :: ds => max (hgt d) (hgtA ds)
end
theorem int_short {i : Int} (h : sizI i = true) : (PyData.shown (.int i)).length ≤ 61 ∧ i.natAbs.log2 < 1920 ∧ PyData.weight (.int i) ≤ 1000 := by
  have h : i.natAbs < 10 ^ 60 := of_decide_eq_true h
  have e := int_text_length_le10 (k := 60) (by decide) h
  have hl : i.natAbs.log2 < 200 := log_lt (Nat.lt_of_lt_of_le h (by decide)) (by decide)
  refine ⟨?_, by omega, ?_⟩
  · show (Str.ofString (toString i)).length ≤ 61
    rw [PySem.ofString_length]; exact e
  · unfold PyData.weight
    split <;> omega
theorem str_short {x : Str} (h : sizS x = true) : (x.cps.toList.all fun c => decide (c < 16 ^ 8)) = true ∧ PyData.weight (.str x) ≤ 1000 := by
  obtain ⟨h1, h2⟩ := Bool.and_eq_true_iff.mp h
  exact ⟨h1, by unfold PyData.weight; exact of_decide_eq_true h2⟩
/-- what a tame tree's data are like -/
structure Fine (p : PyData) (n h : Nat) : Prop where
  show_ : p.showable = true
  leaf : p.leavesShort 61 = true
  wt : p.weight + 1 ≤ 1002 * n
  dep : p.depth ≤ h
structure FineA (ps : List PyData) (n h : Nat) : Prop where
  show_ : PyData.showableAll ps = true
  leaf : PyData.leavesShortAll 61 ps = true
  wt : PyData.weightAll ps ≤ 1002 * n
  dep : PyData.depthAll ps ≤ h
theorem fine_int {i : Int} (h : sizI i = true) : Fine (.int i) 1 0 := by
  obtain ⟨h1, h2, h3⟩ := int_short h
  exact ⟨by unfold PyData.showable; exact decide_eq_true h2, by unfold PyData.leavesShort; exact decide_eq_true h1, by omega, Nat.le_refl _⟩
theorem fine_str {x : Str} (h : sizS x = true) : Fine (.str x) 1 0 := by
  obtain ⟨h1, h2⟩ := str_short h
  exact ⟨rfl, by unfold PyData.leavesShort; exact h1, by omega, Nat.le_refl _⟩
def keyT (k : Key) : Bool := match k with | .inl i => sizI i | .inr x => sizS x
theorem fine_key {k : Key} (h : keyT k = true) : Fine (encK k) 1 0 := by
  cases k with
  | inl i => exact fine_int h
  | inr x => exact fine_str h
theorem fine_kv : ∀ {ks : List Key} {ps : List PyData} {n h : Nat}, (ks.all keyT) = true → FineA ps n h →
    PyData.showableKv ((ks.map encK).zip ps) = true ∧ PyData.leavesShortKv 61 ((ks.map encK).zip ps) = true ∧ PyData.weightKv ((ks.map encK).zip ps) ≤ 2000 * ks.length + PyData.weightAll ps ∧ PyData.depthKv ((ks.map encK).zip ps) ≤ PyData.depthAll ps
  | [], ps, n, h, _, _ => ⟨rfl, rfl, Nat.zero_le _, Nat.zero_le _⟩
  | k :: ks, [], n, h, _, _ => ⟨rfl, rfl, Nat.zero_le _, Nat.zero_le _⟩
  | k :: ks, p :: ps, n, h, hk, f => by
    obtain ⟨k1, k2⟩ := Bool.and_eq_true_iff.mp (show (keyT k && ks.all keyT) = true from hk)
    obtain ⟨s1, s2, s3, s4⟩ := f
    simp only [PyData.showableAll, PyData.leavesShortAll, Bool.and_eq_true] at s1 s2
    have f' : FineA ps (PyData.weightAll ps) (PyData.depthAll ps) := ⟨s1.2, s2.2, by omega, Nat.le_refl _⟩
    obtain ⟨q1, q2, q3, q4⟩ := fine_kv k2 f'
    obtain ⟨r1, r2, r3, r4⟩ := fine_key k1
    refine ⟨?_, ?_, ?_, ?_⟩
    · show PyData.showableKv ((encK k, p) :: (ks.map encK).zip ps) = true
      unfold PyData.showableKv
      rw [r1, s1.1, q1]; rfl
    · show PyData.leavesShortKv 61 ((encK k, p) :: (ks.map encK).zip ps) = true
      unfold PyData.leavesShortKv
      rw [r2, s2.1, q2]; rfl
    · show PyData.weightKv ((encK k, p) :: (ks.map encK).zip ps) ≤ _
      unfold PyData.weightKv PyData.weightAll
      rw [List.length_cons]
      omega
    · show PyData.depthKv ((encK k, p) :: (ks.map encK).zip ps) ≤ _
      unfold PyData.depthKv PyData.depthAll
      omega
mutual
theorem fine_of : ∀ {d : D}, tame d = true → ∃ p, toPyR d = some p ∧ Fine p (cnt d) (hgt d)
  | .non, _ => ⟨.none, by simp only [toPyR], rfl, rfl, by unfold PyData.weight cnt; omega, Nat.le_refl _⟩
  | .bl b, _ => ⟨.bool b, by simp only [toPyR], rfl, rfl, by unfold PyData.weight cnt; omega, Nat.le_refl _⟩
  | .int i, h => ⟨.int i, by simp only [toPyR], by simpa only [cnt, hgt] using fine_int (by simpa only [tame] using h)⟩
  | .str x, h => ⟨.str x, by simp only [toPyR], by simpa only [cnt, hgt] using fine_str (by simpa only [tame] using h)⟩
  | .lst xs, h => by
    obtain ⟨ps, e, f⟩ := fineA_of (ds := xs) (by simpa only [tame] using h)
    refine ⟨.list ps, by simp only [toPyR, e, Option.map_some], ?_, ?_, ?_, ?_⟩
    · unfold PyData.showable; exact f.show_
    · unfold PyData.leavesShort; exact f.leaf
    · unfold PyData.weight cnt; have := f.wt; omega
    · unfold PyData.depth hgt; have := f.dep; omega
  | .tup xs, h => by
    obtain ⟨ps, e, f⟩ := fineA_of (ds := xs) (by simpa only [tame] using h)
    refine ⟨.tuple ps, by simp only [toPyR, e, Option.map_some], ?_, ?_, ?_, ?_⟩
    · unfold PyData.showable; exact f.show_
    · unfold PyData.leavesShort; exact f.leaf
    · unfold PyData.weight cnt; have := f.wt; omega
    · unfold PyData.depth hgt; have := f.dep; omega
  | .dic ks vs, h => by
    obtain ⟨h1, h2⟩ := Bool.and_eq_true_iff.mp (show ((ks.all fun k => match k with | .inl i => sizI i | .inr x => sizS x) && tameA vs) = true by simpa only [tame] using h)
    obtain ⟨ps, e, f⟩ := fineA_of (ds := vs) h2
    obtain ⟨q1, q2, q3, q4⟩ := fine_kv (ks := ks) (show ks.all keyT = true from h1) f
    refine ⟨.dict ((ks.map encK).zip ps), by simp only [toPyR, e, Option.map_some], ?_, ?_, ?_, ?_⟩
    · unfold PyData.showable; exact q1
    · unfold PyData.leavesShort; exact q2
    · unfold PyData.weight cnt; have := f.wt; omega
    · unfold PyData.depth hgt; have := f.dep; omega
  | .obj _, h => by simp [tame] at h
  | .ty _, h => by simp [tame] at h
  | .chn, h => by simp [tame] at h
theorem fineA_of : ∀ {ds : List D}, tameA ds = true → ∃ ps, toPyRA ds = some ps ∧ FineA ps (cntA ds) (hgtA ds)
  | [], _ => ⟨[], by simp only [toPyRA], rfl, rfl, Nat.zero_le _, Nat.zero_le _⟩
  | d :: ds, h => by
    obtain ⟨h1, h2⟩ := Bool.and_eq_true_iff.mp (show (tame d && tameA ds) = true by simpa only [tameA] using h)
    obtain ⟨p, e, f⟩ := fine_of h1
    obtain ⟨ps, e2, f2⟩ := fineA_of h2
    refine ⟨p :: ps, by simp only [toPyRA, e, e2, Option.bind_some, Option.map_some], ?_, ?_, ?_, ?_⟩
    · unfold PyData.showableAll; rw [f.show_, f2.show_]; rfl
    · unfold PyData.leavesShortAll; rw [f.leaf, f2.leaf]; rfl
    · unfold PyData.weightAll cntA; have := f.wt; have := f2.wt; omega
    · unfold PyData.depthAll hgtA; have := f.dep; have := f2.dep; omega
end
/-- the text of a tree -/
def shw (d : D) : Str := ((toPyR d).getD .none).shown
theorem gRepr_o {d : D} (t : tame d = true) (hc : cnt d ≤ 200) (hh : hgt d ≤ 60) : gRepr [d] = some (.str (shw d)) := by
  obtain ⟨p, e, f⟩ := fine_of t
  have hs := PyData.shown_le 61 (by decide) p f.leaf
  have w := f.wt
  have dp := f.dep
  have k : okShow p = true := by
    unfold okShow
    rw [f.show_, decide_eq_true (show p.shown.length ≤ sizeLine from ?_), decide_eq_true (show p.depth ≤ 64 by omega)]
    · rfl
    · have : sizeLine = 16777216 := by decide
      omega
  show (toPyR d).bind (fun p => if okShow p = true then some (D.str p.shown) else none) = _
  unfold shw
  rw [e]
  show (if okShow p = true then some (D.str p.shown) else none) = some (D.str p.shown)
  rw [if_pos k]
end G

set_option Elab.async false
set_option linter.all false
set_option maxRecDepth 100000
set_option maxHeartbeats 8000000
/-! GL: comprehensions, run; == with []. -/
namespace G
open PySem PySem.Spec PyProof.Rows L2
section
variable {t : Tg} {cnd : Ev → M Bool} {f : Ev → M D} {ρ : Ev} {c : Churn} {ks : List D → Churn → Prop}
/-- each item by itself, no draws -/
theorem comp_map (h : D → D) : ∀ {ds : List D} {ks : List D → Churn → Prop}, (∀ d ∈ ds, ∀ c, ∃ ρ1, t d ρ = some ρ1 ∧ cnd ρ1 c = .ok true c ∧ f ρ1 c = .ok (h d) c) → ks (ds.map h) c → Ok (compM t cnd f ρ ds c) ks
  | [], _, _, q => q
  | d :: ds, ks, hs, q => by
    rw [ok_compS]
    obtain ⟨ρ1, e1, e2, e3⟩ := hs d (List.mem_cons_self ..) c
    refine ⟨ρ1, e1, Ok.of_eq e2 (ite_t rfl (Ok.of_eq e3 ?_))⟩
    exact comp_map h (fun d hd => hs d (List.mem_cons_of_mem _ hd)) q
theorem comp_filter (p : D → Bool) (h : D → D) : ∀ {ds : List D} {ks : List D → Churn → Prop}, (∀ d ∈ ds, ∀ c, ∃ ρ1, t d ρ = some ρ1 ∧ cnd ρ1 c = .ok (p d) c ∧ (p d = true → f ρ1 c = .ok (h d) c)) → ks ((ds.filter p).map h) c → Ok (compM t cnd f ρ ds c) ks
  | [], _, _, q => q
  | d :: ds, ks, hs, q => by
    rw [ok_compS]
    obtain ⟨ρ1, e1, e2, e3⟩ := hs d (List.mem_cons_self ..) c
    refine ⟨ρ1, e1, Ok.of_eq e2 ?_⟩
    cases hp : p d with
    | true =>
      refine ite_t rfl (Ok.of_eq (e3 hp) ?_)
      rw [List.filter_cons_of_pos hp] at q
      exact comp_filter p h (fun d hd => hs d (List.mem_cons_of_mem _ hd)) q
    | false =>
      refine ite_f rfl ?_
      rw [List.filter_cons_of_neg (by simp [hp])] at q
      exact comp_filter p h (fun d hd => hs d (List.mem_cons_of_mem _ hd)) q
inductive F2 (R : D → D → Prop) : List D → List D → Prop
  | nil : F2 R [] []
  | cons {d y : D} {ds ys : List D} : R d y → F2 R ds ys → F2 R (d :: ds) (y :: ys)
theorem F2.length {R : D → D → Prop} : ∀ {ds ys : List D}, F2 R ds ys → ys.length = ds.length
  | _, _, .nil => rfl
  | _, _, .cons _ r => congrArg Nat.succ (F2.length r)
theorem F2.all {R : D → D → Prop} {p : D → Prop} (h : ∀ d y, R d y → p y) : ∀ {ds ys : List D}, F2 R ds ys → ∀ y ∈ ys, p y
  | _, _, .nil, y, hy => by cases hy
  | _, _, .cons r rs, y, hy => (List.mem_cons.mp hy).elim (fun e => e ▸ h _ _ r) fun hy => F2.all h rs y hy
/-- each item with s draws at most -/
theorem comp_draw (R : D → D → Prop) (s : Nat) {B : Nat} : ∀ {ds : List D} {n : Nat} {c : Churn} {ks : List D → Churn → Prop},
    (∀ d ∈ ds, ∃ ρ1, t d ρ = some ρ1 ∧ ∀ n c (kk : D → Churn → Prop), Good n c → n + s ≤ B → (∀ y c', R d y → Good (n + s) c' → kk y c') → Ok (f ρ1 c) kk) → Good n c → n + s * ds.length ≤ B →
    (∀ ys c', F2 R ds ys → Good (n + s * ds.length) c' → ks ys c') → Ok (compM t (fun _ => pure true) f ρ ds c) ks
  | [], n, c, ks, _, g, _, q => q [] c .nil g
  | d :: ds, n, c, ks, hs, g, hb, q => by
    rw [ok_compS]
    obtain ⟨ρ1, e1, e2⟩ := hs d (List.mem_cons_self ..)
    rw [List.length_cons, Nat.mul_succ] at hb q
    refine ⟨ρ1, e1, ?_⟩
    rw [ok_pure, if_pos rfl]
    refine e2 n c _ g (by omega) fun y c' r g' => ?_
    exact comp_draw R s (fun d hd => hs d (List.mem_cons_of_mem _ hd)) g' (by omega) fun ys c2 rs g2 => q (y :: ys) c2 (.cons r rs) (g2.mono (by omega))
end
theorem blA_map {p : D → Bool} : ∀ ds : List D, blA (ds.map fun d => .bl (p d)) = some (ds.map p)
  | [] => rfl
  | d :: ds => by rw [List.map_cons]; unfold blA; rw [blA_map ds]; rfl
theorem gAll_map {p : D → Bool} (ds : List D) : gAll [.lst (ds.map fun d => .bl (p d))] = some (.bl (ds.all p)) := by
  show (blA (ds.map fun d => .bl (p d))).map (fun bs => D.bl (bs.all id)) = _
  rw [blA_map]
  simp [List.all_map, Function.comp_def]
/-- can be compared -/
def okD (d : D) : Prop := ∃ p, toPy d = some p ∧ p.canLay0 = true ∧ p.depth ≤ 60
theorem okA {xs : List D} (h : ∀ x ∈ xs, okD x) : ∃ ps, toPyA xs = some ps ∧ PyData.canLayAll0 ps = true ∧ PyData.depthAll ps ≤ 60 ∧ ps.length = xs.length := by
  induction xs with
  | nil => exact ⟨[], by simp only [toPyA], rfl, Nat.zero_le _, rfl⟩
  | cons x xs ih =>
    obtain ⟨ps, e, h1, h2, h3⟩ := ih fun y hy => h y (List.mem_cons_of_mem _ hy)
    obtain ⟨p, e2, h4, h5⟩ := h x (List.mem_cons_self ..)
    refine ⟨p :: ps, by simp only [toPyA, e, e2, Option.bind_some, Option.map_some], ?_, ?_, ?_⟩
    · simp only [PyData.canLayAll0, h4, h1, Bool.and_self]
    · simp only [PyData.depthAll]; omega
    · simp [h3]
theorem okL {xs : List D} (h : ∀ x ∈ xs, okD x) : ∃ ps, toPy (.lst xs) = some (.list ps) ∧ SeqAt.shaped (.list ps) = true ∧ ps.length = xs.length := by
  obtain ⟨ps, e, h1, h2, h3⟩ := okA h
  refine ⟨ps, by simp only [toPy, e, Option.map_some], ?_, h3⟩
  unfold SeqAt.shaped
  simp only [PyData.canLay0, PyData.depth, h1, Bool.true_and]
  exact decide_eq_true (by omega)
theorem eqX_nil {neg : Bool} {xs : List D} (h : ∀ x ∈ xs, okD x) : gEqX neg (.lst xs) (.lst []) = some (if neg then !xs.isEmpty else xs.isEmpty) := by
  show gEq neg (.lst xs) (.lst []) = _
  obtain ⟨ps, e, s, l⟩ := okL h
  have h2 : toPy (.lst []) = some (.list []) := rfl
  have s2 : SeqAt.shaped (.list []) = true := by decide
  unfold gEq
  rw [e, h2]
  simp only [Option.bind_some, s, s2, and_self, if_true]
  have hv : PyData.eqv (.list ps) (.list []) = xs.isEmpty := by
    cases xs with
    | nil => cases ps with | nil => rfl | cons _ _ => cases l
    | cons _ _ => cases ps with | nil => cases l | cons _ _ => rfl
  rw [hv]
theorem okD_int (i : Int) : okD (.int i) := ⟨.int i, by simp only [toPy], rfl, Nat.zero_le _⟩
theorem okD_bl (i : Bool) : okD (.bl i) := ⟨.bool i, by simp only [toPy], rfl, Nat.zero_le _⟩
theorem okD_non : okD .non := ⟨.none, by simp only [toPy], rfl, Nat.zero_le _⟩
theorem gRepr_b {b : Bool} : gRepr [.bl b] = some (.str (shw (.bl b))) := gRepr_o rfl (by unfold cnt; decide) (by unfold hgt; decide)
theorem gRepr_b4 {a b d e : Bool} : gRepr [.lst [.bl a, .bl b, .bl d, .bl e]] = some (.str (shw (.lst [.bl a, .bl b, .bl d, .bl e]))) :=
  gRepr_o (by simp [tame, tameA]) (by simp [cnt, cntA]) (by simp [hgt, hgtA])
theorem eqX_str {neg : Bool} {a b : Str} : gEqX neg (.str a) (.str b) = some (if neg then !decide (a = b) else decide (a = b)) := rfl
end G

set_option Elab.async false
set_option linter.all false
set_option maxRecDepth 100000
set_option maxHeartbeats 8000000
/-! GM: for, texts cut. -/
namespace G
open PySem PySem.Spec PyProof.Rows L2
theorem for_inv {t : Tg} {s : Sm} (I : Ev → Churn → Prop) : ∀ {ds : List D} {ρ : Ev} {c : Churn} {kp : Ev × Ctl → Churn → Prop},
    (∀ d ∈ ds, ∀ ρ c, I ρ c → ∃ ρ1, t d ρ = some ρ1 ∧ Ok (s ρ1 c) fun p c1 => p.2 = .nx ∧ I p.1 c1) → I ρ c → (∀ ρ c, I ρ c → kp (ρ, .nx) c) → Ok (forM' t s ds ρ c) kp
  | [], ρ, c, kp, _, i, q => q ρ c i
  | d :: ds, ρ, c, kp, hs, i, q => by
    rw [ok_forS]
    obtain ⟨ρ1, e1, h⟩ := hs d (List.mem_cons_self ..) ρ c i
    refine ⟨ρ1, e1, h.mono fun p c1 ⟨e2, i2⟩ => ?_⟩
    obtain ⟨ρ2, ctl⟩ := p
    cases e2
    exact for_inv I (fun d hd => hs d (List.mem_cons_of_mem _ hd)) i2 q
/-- with a number that grows by s at each turn -/
theorem for_count {t : Tg} {b : Sm} (I : Nat → Ev → Churn → Prop) (s : Nat) : ∀ {ds : List D} {n : Nat} {ρ : Ev} {c : Churn} {kp : Ev × Ctl → Churn → Prop} {B : Nat},
    (∀ d ∈ ds, ∀ n ρ c, n + s ≤ B → I n ρ c → ∃ ρ1, t d ρ = some ρ1 ∧ Ok (b ρ1 c) fun p c1 => p.2 = .nx ∧ I (n + s) p.1 c1) → I n ρ c → n + s * ds.length ≤ B → (∀ ρ c, I (n + s * ds.length) ρ c → kp (ρ, .nx) c) → Ok (forM' t b ds ρ c) kp
  | [], n, ρ, c, kp, B, _, i, _, q => q ρ c i
  | d :: ds, n, ρ, c, kp, B, hs, i, hB, q => by
    rw [ok_forS]
    rw [List.length_cons, Nat.mul_succ] at hB q
    obtain ⟨ρ1, e1, h⟩ := hs d (List.mem_cons_self ..) n ρ c (by omega) i
    refine ⟨ρ1, e1, h.mono fun p c1 ⟨e2, i2⟩ => ?_⟩
    obtain ⟨ρ2, ctl⟩ := p
    cases e2
    have e : n + (s * ds.length + s) = n + s + s * ds.length := by omega
    rw [e] at q
    exact for_count I s (B := B) (fun d hd => hs d (List.mem_cons_of_mem _ hd)) i2 (by omega) q
abbrev sx (cs : List Nat) : Str := ⟨⟨cs⟩⟩
theorem cut_lo {cs : List Nat} {i : Nat} (h : i ≤ cs.length) : cutS (sx cs) none (some (i : Int)) = sx (cs.take i) := by
  unfold cutS
  rw [HT.sIx_none, HT.sIx_nat]
  have e : (sx cs).length = cs.length := rfl
  rw [e, Nat.min_eq_left h]
  rfl
theorem cut_hi {cs : List Nat} {i : Nat} (h : i ≤ cs.length) : cutS (sx cs) (some (i : Int)) none = sx (cs.drop i) := by
  unfold cutS
  rw [HT.sIx_none, HT.sIx_nat]
  have e : (sx cs).length = cs.length := rfl
  rw [e, Nat.min_eq_left h]
  show sx ((cs.drop i).take (cs.length - i)) = _
  rw [List.take_of_length_le (by simp)]
theorem gSl_s {cs : List Nat} {lo hi : Option Int} (h : cs.length ≤ 1000) : gSl (.str (sx cs)) lo hi = some (.str (cutS (sx cs) lo hi)) := if_pos (Nat.le_trans (show (sx cs).length ≤ 1000 from h) (by decide))
theorem sx_app (a b : List Nat) : sx a ++ sx b = sx (a ++ b) := by
  show (⟨(⟨a⟩ : Array Nat) ++ (⟨b⟩ : Array Nat)⟩ : Str) = ⟨⟨a ++ b⟩⟩
  congr 1
  simp
theorem gAdd_s {a b : List Nat} (h : a.length + b.length ≤ 1000) : gAdd (.str (sx a)) (.str (sx b)) = some (.str (sx (a ++ b))) := by
  have h2 : (sx a).length + (sx b).length ≤ sizeLine := Nat.le_trans (show (sx a).length + (sx b).length ≤ 1000 from h) (by decide)
  show (if (sx a).length + (sx b).length ≤ sizeLine then some (D.str (sx a ++ sx b)) else none) = _
  rw [if_pos h2, sx_app]
theorem str_sx (z : Str) : z = sx z.cps.toList := rfl
/-- one statement, then the rest: what holds between them -/
theorem ok_step {s t : Sm} {ρ : Ev} {c : Churn} {kp : Ev × Ctl → Churn → Prop} (mid : Ev → Churn → Prop) (h1 : Ok (s ρ c) fun p c1 => p.2 = .nx ∧ mid p.1 c1) (h2 : ∀ ρ c, mid ρ c → Ok (t ρ c) kp) : Ok (sSeq s t ρ c) kp := by
  rw [ok_seq]
  refine h1.mono fun p c1 ⟨e, m⟩ => ?_
  obtain ⟨ρ1, ctl⟩ := p
  cases e
  exact h2 ρ1 c1 m
theorem ok_stp {s t : Sm} {ρ : Ev} {c : Churn} {kp : Ev × Ctl → Churn → Prop} {mid : Ev × Ctl → Churn → Prop} (h1 : Ok (s ρ c) fun p c1 => p.2 = .nx ∧ mid p c1) (h2 : ∀ p c, mid p c → Ok (t p.1 c) kp) : Ok (sSeq s t ρ c) kp := by
  rw [ok_seq]
  refine h1.mono fun p c1 ⟨e, m⟩ => ?_
  obtain ⟨ρ1, ctl⟩ := p
  cases e
  exact h2 _ c1 m
end G

set_option Elab.async false
set_option linter.all false
set_option maxRecDepth 100000
set_option maxHeartbeats 8000000
/-! k01_plain_values_and_settings: printed: the text by places, what each def does, and that it does. -/
namespace G
open PySem PySem.Spec PyProof.Rows L2
def topS (i : Nat) : Stmt := PySem.Challenge.pw_claimduel_k01_plain_values_and_settings.main.body.getD i (.Pass ⟨0, 0, 0, 0⟩)
abbrev s_is_integer : Stmt := topS 5
abbrev s_is_within : Stmt := topS 6
abbrev s_are_integers : Stmt := topS 7
abbrev s_is_name : Stmt := topS 8
abbrev s_are_names : Stmt := topS 9
abbrev s_is_told : Stmt := topS 10
abbrev s_setting_of : Stmt := topS 11
abbrev s__law_hamper : Stmt := topS 13
abbrev s__law_delve : Stmt := topS 14
abbrev s__law_one : Stmt := topS 15
abbrev s__law_value : Stmt := topS 16
abbrev s__law_own_integer : Stmt := topS 17
abbrev s__law_name : Stmt := topS 18
abbrev s__law_is_name : Stmt := topS 19
abbrev s__law_names_right : Stmt := topS 20
abbrev s__law_setting_right : Stmt := topS 21
abbrev s_law : Stmt := topS 22
def faL : List He.Fa := [.free "int", .free "isinstance", .free "bool", .free "list", .free "tuple", .free "all", .free "str", .free "len", .int "LONGEST" 8, .glo "WORDS", .str "LETTERS" "abcdefghijklmnopqrstuvwxyz", .str "DIGITS" "0123456789", .free "set", .free "dict", .free "sorted", .free "abs", .free "range", .free "repr", .glo "is_integer", .glo "is_within", .glo "are_integers", .glo "is_name", .glo "are_names", .glo "is_told", .glo "setting_of", .glo "_law_hamper", .glo "_law_delve", .glo "_law_one", .glo "_law_value", .glo "_law_own_integer", .glo "_law_name", .glo "_law_is_name", .glo "_law_names_right", .glo "_law_setting_right", .glo "law"]
def dd_is_integer : He.DefD := ⟨("is_integer", none), "is_integer", "is_integer", defArgs s_is_integer, defBody s_is_integer, defScope s_is_integer, [], []⟩
def dd_is_within : He.DefD := ⟨("is_within", none), "is_within", "is_within", defArgs s_is_within, defBody s_is_within, defScope s_is_within, [], []⟩
def dd_are_integers : He.DefD := ⟨("are_integers", none), "are_integers", "are_integers", defArgs s_are_integers, defBody s_are_integers, defScope s_are_integers, [], []⟩
def dd_is_name : He.DefD := ⟨("is_name", none), "is_name", "is_name", defArgs s_is_name, defBody s_is_name, defScope s_is_name, [], []⟩
def dd_are_names : He.DefD := ⟨("are_names", none), "are_names", "are_names", defArgs s_are_names, defBody s_are_names, defScope s_are_names, [], []⟩
def dd_is_told : He.DefD := ⟨("is_told", none), "is_told", "is_told", defArgs s_is_told, defBody s_is_told, defScope s_is_told, [], []⟩
def dd_setting_of : He.DefD := ⟨("setting_of", none), "setting_of", "setting_of", defArgs s_setting_of, defBody s_setting_of, defScope s_setting_of, [], []⟩
def dd__law_hamper : He.DefD := ⟨("_law_hamper", none), "_law_hamper", "_law_hamper", defArgs s__law_hamper, defBody s__law_hamper, defScope s__law_hamper, [], []⟩
def dd__law_delve : He.DefD := ⟨("_law_delve", none), "_law_delve", "_law_delve", defArgs s__law_delve, defBody s__law_delve, defScope s__law_delve, [], []⟩
def dd__law_one : He.DefD := ⟨("_law_one", none), "_law_one", "_law_one", defArgs s__law_one, defBody s__law_one, defScope s__law_one, [], []⟩
def dd__law_value : He.DefD := ⟨("_law_value", none), "_law_value", "_law_value", defArgs s__law_value, defBody s__law_value, defScope s__law_value, [], []⟩
def dd__law_own_integer : He.DefD := ⟨("_law_own_integer", none), "_law_own_integer", "_law_own_integer", defArgs s__law_own_integer, defBody s__law_own_integer, defScope s__law_own_integer, [], []⟩
def dd__law_name : He.DefD := ⟨("_law_name", none), "_law_name", "_law_name", defArgs s__law_name, defBody s__law_name, defScope s__law_name, [], []⟩
def dd__law_is_name : He.DefD := ⟨("_law_is_name", none), "_law_is_name", "_law_is_name", defArgs s__law_is_name, defBody s__law_is_name, defScope s__law_is_name, [], []⟩
def dd__law_names_right : He.DefD := ⟨("_law_names_right", none), "_law_names_right", "_law_names_right", defArgs s__law_names_right, defBody s__law_names_right, defScope s__law_names_right, [], []⟩
def dd__law_setting_right : He.DefD := ⟨("_law_setting_right", none), "_law_setting_right", "_law_setting_right", defArgs s__law_setting_right, defBody s__law_setting_right, defScope s__law_setting_right, [], []⟩
def dd_law : He.DefD := ⟨("law", none), "law", "law", defArgs s_law, defBody s_law, defScope s_law, [], []⟩
def fnL : List He.DefD := [dd_is_integer, dd_is_within, dd_are_integers, dd_is_name, dd_are_names, dd_is_told, dd_setting_of, dd__law_hamper, dd__law_delve, dd__law_one, dd__law_value, dd__law_own_integer, dd__law_name, dd__law_is_name, dd__law_names_right, dd__law_setting_right, dd_law]
def tupL : List (Str × List V) := [("WORDS", [.str "and", .str "or", .str "not", .str "all", .str "some", .str "many", .str "endless", .str "yes", .str "no"])]
abbrev HxL := Hx faL fnL tupL
section
variable {P : Program} {w : World} {K : PySem.W.Frag} {mg : Str → Option Value} {base : Heap}
theorem bt_len : bootBuiltins "len" = some (.builtin "len") := by decide +kernel
theorem bt_isinstance : bootBuiltins "isinstance" = some (.builtin "isinstance") := by decide +kernel
theorem bt_repr : bootBuiltins "repr" = some (.builtin "repr") := by decide +kernel
theorem bt_abs : bootBuiltins "abs" = some (.builtin "abs") := by decide +kernel
theorem bt_all : bootBuiltins "all" = some (.builtin "all") := by decide +kernel
theorem bt_any : bootBuiltins "any" = some (.builtin "any") := by decide +kernel
theorem bt_sorted : bootBuiltins "sorted" = some (.builtin "sorted") := by decide +kernel
/-! is_integer -/
def g_is_integer : Sm := (sRet (eAnd (eArgs gIsi (aCons (eVar 0) (aCons (eC (.ty "int")) aNil))) (eNot (eArgs gIsi (aCons (eVar 0) (aCons (eC (.ty "bool")) aNil))))))
theorem sc_is_integer : FnScope ["value"] ["value"] (defScope s_is_integer) := ⟨rfl, rfl, rfl, by decide +kernel, rfl, by decide +kernel, by decide +kernel⟩
def F_is_integer : List D → M D := fun ds => G.nx (runDef 1 g_is_integer ds)
theorem ok_is_integer (e : HxL K mg base) : DefG P w K mg base 1 "is_integer" s_is_integer ["value"] F_is_integer :=
  DefG.mk2 (k := 0) (N := ["value"]) (g := g_is_integer) (e.c.def_ 0 (d := dd_is_integer)) (e.glo 18) sc_is_integer (fun _ _ _ _ _ _ us hl => match us, hl with | [_], _ => rfl) fun ca cdv A outer s H E gd hr => by
  have nd := sc_is_integer.nd
  exact (ss_one (s_ret (d_and (d_callB cr_isi cal_isi (e.free 1) (bt_isinstance) (da_cons (d_var 0) (da_cons (d_ty "int" (e.free 0) boot_int) da_nil))) (d_one (d_not (d_callB cr_isi cal_isi (e.free 1) (bt_isinstance) (da_cons (d_var 0) (da_cons (d_ty "bool" (e.free 2) boot_bool) da_nil))))))))
/-! is_within -/
def g_is_within : Sm := (sSeq (sIf (cNot (cTru (eCall 1 F_is_integer [] (aCons (eVar 0) aNil)))) (sRet (eC (.bl false))) sNil)
  (sRet (eAnd (eOr (eBin (gBl (gIsN false)) (eVar 1) (eC .non)) (eBin (gBl (gCmpI geI)) (eVar 0) (eVar 1))) (eOr (eBin (gBl (gIsN false)) (eVar 2) (eC .non)) (eBin (gBl (gCmpI leI)) (eVar 0) (eVar 2))))))
theorem sc_is_within : FnScope ["value", "least", "most"] ["value", "least", "most"] (defScope s_is_within) := ⟨rfl, rfl, rfl, by decide +kernel, rfl, by decide +kernel, by decide +kernel⟩
def F_is_within : List D → M D := fun ds => G.nx (runDef 3 g_is_within ds)
theorem ok_is_within (e : HxL K mg base) : DefG P w K mg base 2 "is_within" s_is_within ["value", "least", "most"] F_is_within :=
  DefG.mk2 (k := 1) (N := ["value", "least", "most"]) (g := g_is_within) (e.c.def_ 1 (d := dd_is_within)) (e.glo 19) sc_is_within (fun _ _ _ _ _ _ us hl => match us, hl with | [_, _, _], _ => rfl) fun ca cdv A outer s H E gd hr => by
  have nd := sc_is_within.nd
  exact (ss_cons (s_if (dt_not (dt_tru (d_callG (ok_is_integer e) gd hr (da_cons (d_var 0) da_nil)))) (ss_one (s_ret d_bl)) ss_nil)
  (ss_one (s_ret (d_and (d_or (d_cmp op_isN (BinB.d cmp_isN) (d_var 1) d_non (nomark _)) (d_one (d_cmp op_ge (BinB.d (cmp_int (f := geI))) (d_var 0) (d_var 1) (nomark _)))) (d_one (d_or (d_cmp op_isN (BinB.d cmp_isN) (d_var 2) d_non (nomark _)) (d_one (d_cmp op_le (BinB.d (cmp_int (f := leI))) (d_var 0) (d_var 2) (nomark _)))))))))
/-! are_integers -/
def g_are_integers : Sm := (sRet (eAnd (eArgs gIsi (aCons (eVar 0) (aCons (eArgs gTup (aCons (eC (.ty "list")) (aCons (eC (.ty "tuple")) aNil))) aNil))) (eArgs gAll (aCons (eComp (gN 1) (iSeq (eVar 0)) (fun _ => pure true) (eCall 1 F_is_integer [] (aCons (eVar 1) aNil)) [1]) aNil))))
theorem sc_are_integers : FnScope ["value", "each"] ["value"] (defScope s_are_integers) := ⟨rfl, rfl, rfl, by decide +kernel, rfl, by decide +kernel, by decide +kernel⟩
def F_are_integers : List D → M D := fun ds => G.nx (runDef 2 g_are_integers ds)
theorem ok_are_integers (e : HxL K mg base) : DefG P w K mg base 2 "are_integers" s_are_integers ["value"] F_are_integers :=
  DefG.mk2 (k := 1) (N := ["value", "each"]) (g := g_are_integers) (e.c.def_ 2 (d := dd_are_integers)) (e.glo 20) sc_are_integers (fun _ _ _ _ _ _ us hl => match us, hl with | [_], _ => rfl) fun ca cdv A outer s H E gd hr => by
  have nd := sc_are_integers.nd
  exact (ss_one (s_ret (d_and (d_callB cr_isi cal_isi (e.free 1) (bt_isinstance) (da_cons (d_var 0) (da_cons (d_tup (da_cons (d_ty "list" (e.free 3) boot_list) (da_cons (d_ty "tuple" (e.free 4) boot_tuple) da_nil))) da_nil))) (d_one (d_callB (cr_all rfl) cal_all (e.free 5) (bt_all) (da_cons (d_comp (own := [("each", 1)]) rfl nd (blkOk_by (by kernel_rfl)) (i_seq (d_var 0)) (tg_name 1) (fun _ _ _ _ _ => (pg_name (i := 1) nd rfl (by first | exact Or.inl rfl | exact Or.inr rfl))) (fun _ _ _ _ _ => dts_nil) (fun _ _ _ _ _ => (d_callG (ok_is_integer e) gd hr (da_cons (d_var 1) da_nil)))) da_nil))))))
/-! is_name -/
def g_is_name : Sm := (sSeq (sIf (cOr (cNot (cTru (eArgs gIsi (aCons (eVar 0) (aCons (eC (.ty "str")) aNil))))) (cOr (cNot (cChain (gCmpI leI) (gCmpI leI) (eC (.int 1)) (eArgs gLen (aCons (eVar 0) aNil)) (eC (.int 8)))) (cCmp (gInF false) (eVar 0) (eC (.tup [.str "and", .str "or", .str "not", .str "all", .str "some", .str "many", .str "endless", .str "yes", .str "no"]))))) (sRet (eC (.bl false))) sNil)
  (sRet (eAnd (eBin (gBl (gInS false)) (eBin gIx (eVar 0) (eC (.int 0))) (eC (.str "abcdefghijklmnopqrstuvwxyz"))) (eArgs gAll (aCons (eComp (gN 1) (iSeq (eVar 0)) (fun _ => pure true) (eOr (eBin (gBl (gInS false)) (eVar 1) (eC (.str "abcdefghijklmnopqrstuvwxyz"))) (eBin (gBl (gInS false)) (eVar 1) (eC (.str "0123456789")))) [1]) aNil)))))
theorem sc_is_name : FnScope ["value", "sign"] ["value"] (defScope s_is_name) := ⟨rfl, rfl, rfl, by decide +kernel, rfl, by decide +kernel, by decide +kernel⟩
def F_is_name : List D → M D := fun ds => G.nx (runDef 2 g_is_name ds)
theorem ok_is_name (e : HxL K mg base) : DefG P w K mg base 1 "is_name" s_is_name ["value"] F_is_name :=
  DefG.mk2 (k := 0) (N := ["value", "sign"]) (g := g_is_name) (e.c.def_ 3 (d := dd_is_name)) (e.glo 21) sc_is_name (fun _ _ _ _ _ _ us hl => match us, hl with | [_], _ => rfl) fun ca cdv A outer s H E gd hr => by
  have nd := sc_is_name.nd
  exact (ss_cons (s_if (dw_or (dt_not (dt_tru (d_callB cr_isi cal_isi (e.free 1) (bt_isinstance) (da_cons (d_var 0) (da_cons (d_ty "str" (e.free 6) boot_str) da_nil))))) (dw_or (dt_not (dt_chain op_le op_le (cmp_int (f := leI)) (cmp_int (f := leI)) d_int (d_callB cr_lenD cal_len (e.free 7) (bt_len) (da_cons (d_var 0) da_nil)) (d_gInt (e.int 8)))) (dw_or1 (dt_cmp op_in_seq cmp_inF (d_var 0) (d_gTup (e.glo 9) (e.tup 0) rfl) (by rfl))))).pt (ss_one (s_ret d_bl)) ss_nil)
  (ss_one (s_ret (d_and (d_cmp op_in_sign (BinB.d cmp_inS) (d_ix ix_seq ix_D (d_var 0) d_int) (d_gStr (e.str 10)) (by rfl)) (d_one (d_callB (cr_all rfl) cal_all (e.free 5) (bt_all) (da_cons (d_comp (own := [("sign", 1)]) rfl nd (blkOk_by (by kernel_rfl)) (i_seq (d_var 0)) (tg_name 1) (fun _ _ _ _ _ => (pg_name (i := 1) nd rfl (by first | exact Or.inl rfl | exact Or.inr rfl))) (fun _ _ _ _ _ => dts_nil) (fun _ _ _ _ _ => (d_or (d_cmp op_in_sign (BinB.d cmp_inS) (d_var 1) (d_gStr (e.str 10)) (by rfl)) (d_one (d_cmp op_in_sign (BinB.d cmp_inS) (d_var 1) (d_gStr (e.str 11)) (by rfl)))))) da_nil)))))))
/-! are_names -/
def g_are_names : Sm := (sSeq (sIf (cOr (cNot (cTru (eArgs gIsi (aCons (eVar 0) (aCons (eArgs gTup (aCons (eC (.ty "list")) (aCons (eC (.ty "tuple")) aNil))) aNil))))) (cNot (cTru (eArgs gAll (aCons (eComp (gN 1) (iSeq (eVar 0)) (fun _ => pure true) (eCall 1 F_is_name [] (aCons (eVar 1) aNil)) [1]) aNil))))) (sRet (eC (.bl false))) sNil)
  (sRet (eBin (gBl (gEqX false)) (eLenSet (eVar 0)) (eArgs gLen (aCons (eVar 0) aNil)))))
theorem sc_are_names : FnScope ["value", "each"] ["value"] (defScope s_are_names) := ⟨rfl, rfl, rfl, by decide +kernel, rfl, by decide +kernel, by decide +kernel⟩
def F_are_names : List D → M D := fun ds => G.nx (runDef 2 g_are_names ds)
theorem ok_are_names (e : HxL K mg base) : DefG P w K mg base 2 "are_names" s_are_names ["value"] F_are_names :=
  DefG.mk2 (k := 1) (N := ["value", "each"]) (g := g_are_names) (e.c.def_ 4 (d := dd_are_names)) (e.glo 22) sc_are_names (fun _ _ _ _ _ _ us hl => match us, hl with | [_], _ => rfl) fun ca cdv A outer s H E gd hr => by
  have nd := sc_are_names.nd
  exact (ss_cons (s_if (dw_or (dt_not (dt_tru (d_callB cr_isi cal_isi (e.free 1) (bt_isinstance) (da_cons (d_var 0) (da_cons (d_tup (da_cons (d_ty "list" (e.free 3) boot_list) (da_cons (d_ty "tuple" (e.free 4) boot_tuple) da_nil))) da_nil))))) (dw_or1 (dt_not (dt_tru (d_callB (cr_all rfl) cal_all (e.free 5) (bt_all) (da_cons (d_comp (own := [("each", 1)]) rfl nd (blkOk_by (by kernel_rfl)) (i_seq (d_var 0)) (tg_name 1) (fun _ _ _ _ _ => (pg_name (i := 1) nd rfl (by first | exact Or.inl rfl | exact Or.inr rfl))) (fun _ _ _ _ _ => dts_nil) (fun _ _ _ _ _ => (d_callG (ok_is_name e) gd hr (da_cons (d_var 1) da_nil)))) da_nil)))))).pt (ss_one (s_ret d_bl)) ss_nil)
  (ss_one (s_ret (d_cmp (op_eqX (roomE hr)) (BinB.d cmp_eqX) (d_lenSet rfl (e.free 7) (e.free 12) (d_var 0)) (d_callB cr_lenD cal_len (e.free 7) (bt_len) (da_cons (d_var 0) da_nil)) (nomark _)))))
/-! is_told -/
def g_is_told : Sm := (sRet (eAnd (eArgs gIsi (aCons (eVar 0) (aCons (eArgs gTup (aCons (eC (.ty "list")) (aCons (eC (.ty "tuple")) aNil))) aNil))) (eAnd (eBin (gBl (gEqX false)) (eArgs gLen (aCons (eVar 0) aNil)) (eC (.int 2))) (eAnd (eCall 1 F_is_name [] (aCons (eBin gIx (eVar 0) (eC (.int 0))) aNil)) (eCall 1 F_is_integer [] (aCons (eBin gIx (eVar 0) (eC (.int 1))) aNil))))))
theorem sc_is_told : FnScope ["value"] ["value"] (defScope s_is_told) := ⟨rfl, rfl, rfl, by decide +kernel, rfl, by decide +kernel, by decide +kernel⟩
def F_is_told : List D → M D := fun ds => G.nx (runDef 1 g_is_told ds)
theorem ok_is_told (e : HxL K mg base) : DefG P w K mg base 2 "is_told" s_is_told ["value"] F_is_told :=
  DefG.mk2 (k := 1) (N := ["value"]) (g := g_is_told) (e.c.def_ 5 (d := dd_is_told)) (e.glo 23) sc_is_told (fun _ _ _ _ _ _ us hl => match us, hl with | [_], _ => rfl) fun ca cdv A outer s H E gd hr => by
  have nd := sc_is_told.nd
  exact (ss_one (s_ret (d_and (d_callB cr_isi cal_isi (e.free 1) (bt_isinstance) (da_cons (d_var 0) (da_cons (d_tup (da_cons (d_ty "list" (e.free 3) boot_list) (da_cons (d_ty "tuple" (e.free 4) boot_tuple) da_nil))) da_nil))) (d_and (d_cmp (op_eqX (roomE hr)) (BinB.d cmp_eqX) (d_callB cr_lenD cal_len (e.free 7) (bt_len) (da_cons (d_var 0) da_nil)) d_int (nomark _)) (d_and (d_callG (ok_is_name e) gd hr (da_cons (d_ix ix_seq ix_D (d_var 0) d_int) da_nil)) (d_one (d_callG (ok_is_integer e) gd hr (da_cons (d_ix ix_seq ix_D (d_var 0) d_int) da_nil))))))))
/-! setting_of -/
def g_setting_of : Sm := (sSeq (sAsg (gN 1) (eIf (cTru (eArgs gIsi (aCons (eVar 0) (aCons (eC (.ty "dict")) aNil)))) (eItems (eVar 0)) (eVar 0)))
  (sSeq (sIf (cOr (cNot (cTru (eArgs gIsi (aCons (eVar 1) (aCons (eArgs gTup (aCons (eC (.ty "list")) (aCons (eC (.ty "tuple")) aNil))) aNil))))) (cNot (cTru (eArgs gAll (aCons (eComp (gN 2) (iSeq (eVar 1)) (fun _ => pure true) (eCall 1 F_is_told [] (aCons (eVar 2) aNil)) [2]) aNil))))) (sRet (eC .non)) sNil)
  (sSeq (sIf (cNot (cTru (eCall 1 F_are_names [] (aCons (eComp (gN 2) (iSeq (eVar 1)) (fun _ => pure true) (eBin gIx (eVar 2) (eC (.int 0))) [2]) aNil)))) (sRet (eC .non)) sNil)
  (sRet (eArgs gTuple (aCons (eArgs gSorted (aCons (eComp (gN 2) (iSeq (eVar 1)) (fun _ => pure true) (eArgs gTup (aCons (eBin gIx (eVar 2) (eC (.int 0))) (aCons (eBin gIx (eVar 2) (eC (.int 1))) aNil))) [2]) aNil)) aNil))))))
theorem sc_setting_of : FnScope ["value", "pairs", "each"] ["value"] (defScope s_setting_of) := ⟨rfl, rfl, rfl, by decide +kernel, rfl, by decide +kernel, by decide +kernel⟩
def F_setting_of : List D → M D := fun ds => G.nx (runDef 3 g_setting_of ds)
theorem ok_setting_of (e : HxL K mg base) : DefG P w K mg base 3 "setting_of" s_setting_of ["value"] F_setting_of :=
  DefG.mk2 (k := 2) (N := ["value", "pairs", "each"]) (g := g_setting_of) (e.c.def_ 6 (d := dd_setting_of)) (e.glo 24) sc_setting_of (fun _ _ _ _ _ _ us hl => match us, hl with | [_], _ => rfl) fun ca cdv A outer s H E gd hr => by
  have nd := sc_setting_of.nd
  exact (ss_cons (s_set 1 nd (d_if (dt_tru (d_callB cr_isi cal_isi (e.free 1) (bt_isinstance) (da_cons (d_var 0) (da_cons (d_ty "dict" (e.free 13) boot_dict) da_nil)))) (d_listItems rfl (d_var 0) (e.free 3) boot_list) (d_var 0)))
  (ss_cons (s_if (dw_or (dt_not (dt_tru (d_callB cr_isi cal_isi (e.free 1) (bt_isinstance) (da_cons (d_var 1) (da_cons (d_tup (da_cons (d_ty "list" (e.free 3) boot_list) (da_cons (d_ty "tuple" (e.free 4) boot_tuple) da_nil))) da_nil))))) (dw_or1 (dt_not (dt_tru (d_callB (cr_all rfl) cal_all (e.free 5) (bt_all) (da_cons (d_comp (own := [("each", 2)]) rfl nd (blkOk_by (by kernel_rfl)) (i_seq (d_var 1)) (tg_name 2) (fun _ _ _ _ _ => (pg_name (i := 2) nd rfl (by first | exact Or.inl rfl | exact Or.inr rfl))) (fun _ _ _ _ _ => dts_nil) (fun _ _ _ _ _ => (d_callG (ok_is_told e) gd hr (da_cons (d_var 2) da_nil)))) da_nil)))))).pt (ss_one (s_ret d_non)) ss_nil)
  (ss_cons (s_if (dt_not (dt_tru (d_callG (ok_are_names e) gd hr (da_cons (d_comp (own := [("each", 2)]) rfl nd (blkOk_by (by kernel_rfl)) (i_seq (d_var 1)) (tg_name 2) (fun _ _ _ _ _ => (pg_name (i := 2) nd rfl (by first | exact Or.inl rfl | exact Or.inr rfl))) (fun _ _ _ _ _ => dts_nil) (fun _ _ _ _ _ => (d_ix ix_seq ix_D (d_var 2) d_int))) da_nil)))) (ss_one (s_ret d_non)) ss_nil)
  (ss_one (s_ret (d_callTy call_tuple_of cal_tuple (e.free 4) boot_tuple (da_cons (d_callB (cr_sortD e.y (roomU hr)) cal_sorted (e.free 14) (bt_sorted) (da_cons (d_comp (own := [("each", 2)]) rfl nd (blkOk_by (by kernel_rfl)) (i_seq (d_var 1)) (tg_name 2) (fun _ _ _ _ _ => (pg_name (i := 2) nd rfl (by first | exact Or.inl rfl | exact Or.inr rfl))) (fun _ _ _ _ _ => dts_nil) (fun _ _ _ _ _ => (d_tup (da_cons (d_ix ix_seq ix_D (d_var 2) d_int) (da_cons (d_ix ix_seq ix_D (d_var 2) d_int) da_nil))))) da_nil)) da_nil)))))))
/-! _law_delve -/
def g__law_delve : Sm := (sSeq (sIf (cCmp (gEqX false) (eChn 0 0) (eArgs gLst aNil)) (sRet (eC (.int 0))) sNil)
  (sSeq (sIf (cCmp (gCmpI gtI) (eChn 2 0) (eC (.int 0))) (sSeq (sAsg (gN 2) (eArgs gInt (aCons (eChn 2 0) aNil)))
  (sSeq (sChn 2 0 (eBin gDiv (eVar 2) (eVar 1)))
  (sRet (eBin gMod (eArgs gInt (aCons (eVar 2) aNil)) (eVar 1))))) sNil)
  (sSeq (sAsg (gN 3) (eChn 1 0))
  (sSeq (sChn 1 0 (eBin gAdd (eVar 3) (eC (.int 1))))
  (sSeq (sAsg (gN 4) (eBin gIx (eChn 0 0) (eBin gMod (eArgs gInt (aCons (eVar 3) aNil)) (eArgs gLen (aCons (eChn 0 0) aNil)))))
  (sSeq (sIf (cAnd (cCmp (gCmpI ltI) (eVar 3) (eArgs gLen (aCons (eChn 0 0) aNil))) (cCmp (gCmpI geI) (eArgs gAbs (aCons (eVar 4) aNil)) (eBin gPow (eC (.int 10)) (eC (.int 18))))) (sSeq (sAsg (gN 2) (eBin gAdd (eBin gMul (eC (.int 2)) (eBin gSub (eArgs gAbs (aCons (eVar 4) aNil)) (eBin gPow (eC (.int 10)) (eC (.int 18))))) (eArgs gInt (aCons (eBin (gBl (gCmpI ltI)) (eVar 4) (eC (.int 0))) aNil))))
  (sSeq (sChn 2 0 (eBin gDiv (eArgs gInt (aCons (eVar 2) aNil)) (eVar 1)))
  (sRet (eBin gMod (eArgs gInt (aCons (eVar 2) aNil)) (eVar 1))))) sNil)
  (sSeq (sAsg (gN 5) (eBin gMod (eArgs gInt (aCons (eBin gPow (eBin gAdd (eBin gAdd (eBin gMod (eArgs gInt (aCons (eVar 4) aNil)) (eC (.int 2147483587))) (eBin gMul (eC (.int 40193)) (eVar 3))) (eC (.int 5417))) (eC (.int 5))) aNil)) (eC (.int 2147483629))))
  (sSeq (sAsg (gN 5) (eBin gMod (eArgs gInt (aCons (eBin gPow (eBin gAdd (eBin gAdd (eBin gMul (eVar 5) (eBin gAdd (eBin gMul (eC (.int 2)) (eVar 3)) (eC (.int 3251)))) (eBin gMul (eBin gMul (eC (.int 91099)) (eVar 3)) (eVar 3))) (eC (.int 40193))) (eC (.int 3))) aNil)) (eC (.int 2147483497))))
  (sRet (eBin gMod (eArgs gInt (aCons (eBin gDiv (eVar 5) (eC (.int 64))) aNil)) (eVar 1)))))))))))
theorem sc__law_delve : FnScope ["_law_hamper_here", "_law_many", "_law_rest", "_law_at", "_law_cell", "_law_mixed"] ["_law_hamper_here", "_law_many"] (defScope s__law_delve) := ⟨rfl, rfl, rfl, by decide +kernel, rfl, by decide +kernel, by decide +kernel⟩
def F__law_delve : List D → M D := fun ds => G.nx (runDef 6 g__law_delve ds)
theorem ok__law_delve (e : HxL K mg base) : DefG P w K mg base 1 "_law_delve" s__law_delve ["_law_hamper_here", "_law_many"] F__law_delve :=
  DefG.mk2 (k := 0) (N := ["_law_hamper_here", "_law_many", "_law_rest", "_law_at", "_law_cell", "_law_mixed"]) (g := g__law_delve) (e.c.def_ 8 (d := dd__law_delve)) (e.glo 26) sc__law_delve (fun _ _ _ _ _ _ us hl => match us, hl with | [_, _], _ => rfl) fun ca cdv A outer s H E gd hr => by
  have nd := sc__law_delve.nd
  exact (ss_cons (s_if (dt_cmp (op_eqX (roomE hr)) cmp_eqX (d_chn 0 0) (d_lst da_nil) (nomark _)) (ss_one (s_ret d_int)) ss_nil)
  (ss_cons (s_if (dt_cmp op_gt (cmp_int (f := gtI)) (d_chn 2 0) d_int (nomark _)) (ss_cons (s_set 2 nd (d_callTy call_int1 cal_int (e.free 0) boot_int (da_cons (d_chn 2 0) da_nil)))
  (ss_cons (s_chn 2 0 (d_bin op_fdivW bin_div (d_var 2) (d_var 1)))
  (ss_one (s_ret (d_bin op_mod bin_mod (d_callTy call_int1 cal_int (e.free 0) boot_int (da_cons (d_var 2) da_nil)) (d_var 1)))))) ss_nil)
  (ss_cons (s_set 3 nd (d_chn 1 0))
  (ss_cons (s_chn 1 0 (d_bin op_addD bin_add (d_var 3) d_int))
  (ss_cons (s_set 4 nd (d_ix ix_seq ix_D (d_chn 0 0) (d_bin op_mod bin_mod (d_callTy call_int1 cal_int (e.free 0) boot_int (da_cons (d_var 3) da_nil)) (d_callB cr_lenD cal_len (e.free 7) (bt_len) (da_cons (d_chn 0 0) da_nil)))))
  (ss_cons (s_if (dw_and (dt_cmp op_lt (cmp_int (f := ltI)) (d_var 3) (d_callB cr_lenD cal_len (e.free 7) (bt_len) (da_cons (d_chn 0 0) da_nil)) (nomark _)) (dw_and1 (dt_cmp op_ge (cmp_int (f := geI)) (d_callB call_abs cal_abs (e.free 15) (bt_abs) (da_cons (d_var 4) da_nil)) (d_bin op_pow bin_pow d_int d_int) (nomark _)))).pt (ss_cons (s_set 2 nd (d_bin op_addD bin_add (d_bin op_mulD bin_mul d_int (d_bin op_subD bin_sub (d_callB call_abs cal_abs (e.free 15) (bt_abs) (da_cons (d_var 4) da_nil)) (d_bin op_pow bin_pow d_int d_int))) (d_callTy call_int1 cal_int (e.free 0) boot_int (da_cons (d_cmp op_lt (BinB.d (cmp_int (f := ltI))) (d_var 4) d_int (nomark _)) da_nil))))
  (ss_cons (s_chn 2 0 (d_bin op_fdivW bin_div (d_callTy call_int1 cal_int (e.free 0) boot_int (da_cons (d_var 2) da_nil)) (d_var 1)))
  (ss_one (s_ret (d_bin op_mod bin_mod (d_callTy call_int1 cal_int (e.free 0) boot_int (da_cons (d_var 2) da_nil)) (d_var 1)))))) ss_nil)
  (ss_cons (s_set 5 nd (d_bin op_mod bin_mod (d_callTy call_int1 cal_int (e.free 0) boot_int (da_cons (d_bin op_pow bin_pow (d_bin op_addD bin_add (d_bin op_addD bin_add (d_bin op_mod bin_mod (d_callTy call_int1 cal_int (e.free 0) boot_int (da_cons (d_var 4) da_nil)) d_int) (d_bin op_mulD bin_mul d_int (d_var 3))) d_int) d_int) da_nil)) d_int))
  (ss_cons (s_set 5 nd (d_bin op_mod bin_mod (d_callTy call_int1 cal_int (e.free 0) boot_int (da_cons (d_bin op_pow bin_pow (d_bin op_addD bin_add (d_bin op_addD bin_add (d_bin op_mulD bin_mul (d_var 5) (d_bin op_addD bin_add (d_bin op_mulD bin_mul d_int (d_var 3)) d_int)) (d_bin op_mulD bin_mul (d_bin op_mulD bin_mul d_int (d_var 3)) (d_var 3))) d_int) d_int) da_nil)) d_int))
  (ss_one (s_ret (d_bin op_mod bin_mod (d_callTy call_int1 cal_int (e.free 0) boot_int (da_cons (d_bin op_fdivW bin_div (d_var 5) d_int) da_nil)) (d_var 1))))))))))))
/-! _law_one -/
def g__law_one : Sm := (sRet (eBin gIx (eVar 1) (eCall 2 F__law_delve [] (aCons (eVar 0) (aCons (eArgs gLen (aCons (eVar 1) aNil)) aNil)))))
theorem sc__law_one : FnScope ["_law_hamper_here", "_law_some"] ["_law_hamper_here", "_law_some"] (defScope s__law_one) := ⟨rfl, rfl, rfl, by decide +kernel, rfl, by decide +kernel, by decide +kernel⟩
def F__law_one : List D → M D := fun ds => G.nx (runDef 2 g__law_one ds)
theorem ok__law_one (e : HxL K mg base) : DefG P w K mg base 2 "_law_one" s__law_one ["_law_hamper_here", "_law_some"] F__law_one :=
  DefG.mk2 (k := 1) (N := ["_law_hamper_here", "_law_some"]) (g := g__law_one) (e.c.def_ 9 (d := dd__law_one)) (e.glo 27) sc__law_one (fun _ _ _ _ _ _ us hl => match us, hl with | [_, _], _ => rfl) fun ca cdv A outer s H E gd hr => by
  have nd := sc__law_one.nd
  exact (ss_one (s_ret (d_ix ix_seq ix_D (d_var 1) (d_callG (ok__law_delve e) gd hr (da_cons (d_var 0) (da_cons (d_callB cr_lenD cal_len (e.free 7) (bt_len) (da_cons (d_var 1) da_nil)) da_nil))))))
/-! _law_value -/
def g__law_value : Sm := (sSeq (sAsg (gN 1) (eCall 2 F__law_one [] (aCons (eVar 0) (aCons (eArgs gLst (aCons (eBin gSub (eCall 2 F__law_delve [] (aCons (eVar 0) (aCons (eC (.int 9)) aNil))) (eC (.int 4))) (aCons (eBin gAdd (eBin gPow (eC (.int 10)) (eC (.int 20))) (eCall 2 F__law_delve [] (aCons (eVar 0) (aCons (eC (.int 9)) aNil)))) (aCons (eUn gNeg (eCall 2 F__law_delve [] (aCons (eVar 0) (aCons (eC (.int 1000)) aNil)))) aNil)))) aNil))))
  (sSeq (sAsg (gN 2) (eArgs gLst (aCons (eVar 1) (aCons (eArgs gStr (aCons (eVar 1) aNil)) (aCons (eC .non) (aCons (eC (.bl true)) (aCons (eC (.bl false)) (aCons (eArgs gLst (aCons (eVar 1) aNil)) (aCons (eArgs gTup (aCons (eVar 1) (aCons (eC (.int 2)) aNil))) (aCons (eDict [((eVar 1), (eArgs gLst (aCons (eVar 1) aNil)))]) (aCons (eC (.str "")) (aCons (eArgs gLst aNil) (aCons (eArgs gTup aNil) (aCons (eArgs gLst (aCons (eArgs gLst (aCons (eVar 1) aNil)) (aCons (eArgs gTup (aCons (eC (.int 1)) (aCons (eArgs gLst (aCons (eC (.int 2)) aNil)) aNil))) aNil))) (aCons (eArgs gLst (aCons (eC (.bl true)) (aCons (eC (.int 0)) aNil))) (aCons (eC (.str "[1]")) aNil))))))))))))))))
  (sRet (eCall 2 F__law_one [] (aCons (eVar 0) (aCons (eVar 2) aNil))))))
theorem sc__law_value : FnScope ["_law_hamper_here", "_law_number", "_law_some"] ["_law_hamper_here"] (defScope s__law_value) := ⟨rfl, rfl, rfl, by decide +kernel, rfl, by decide +kernel, by decide +kernel⟩
def F__law_value : List D → M D := fun ds => G.nx (runDef 3 g__law_value ds)
theorem ok__law_value (e : HxL K mg base) : DefG P w K mg base 3 "_law_value" s__law_value ["_law_hamper_here"] F__law_value :=
  DefG.mk2 (k := 2) (N := ["_law_hamper_here", "_law_number", "_law_some"]) (g := g__law_value) (e.c.def_ 10 (d := dd__law_value)) (e.glo 28) sc__law_value (fun _ _ _ _ _ _ us hl => match us, hl with | [_], _ => rfl) fun ca cdv A outer s H E gd hr => by
  have nd := sc__law_value.nd
  exact (ss_cons (s_set 1 nd (d_callG (ok__law_one e) gd hr (da_cons (d_var 0) (da_cons (d_lst (da_cons (d_bin op_subD bin_sub (d_callG (ok__law_delve e) gd hr (da_cons (d_var 0) (da_cons d_int da_nil))) d_int) (da_cons (d_bin op_addD bin_add (d_bin op_pow bin_pow d_int d_int) (d_callG (ok__law_delve e) gd hr (da_cons (d_var 0) (da_cons d_int da_nil)))) (da_cons (d_un un_neg un_negD (d_callG (ok__law_delve e) gd hr (da_cons (d_var 0) (da_cons d_int da_nil)))) da_nil)))) da_nil))))
  (ss_cons (s_set 2 nd (d_lst (da_cons (d_var 1) (da_cons (d_callTy cr_strD cal_str (e.free 6) boot_str (da_cons (d_var 1) da_nil)) (da_cons d_non (da_cons d_bl (da_cons d_bl (da_cons (d_lst (da_cons (d_var 1) da_nil)) (da_cons (d_tup (da_cons (d_var 1) (da_cons d_int da_nil))) (da_cons (d_dict (dp_cons (d_var 1) (d_lst (da_cons (d_var 1) da_nil)) dp_nil)) (da_cons d_str (da_cons (d_lst da_nil) (da_cons (d_tup da_nil) (da_cons (d_lst (da_cons (d_lst (da_cons (d_var 1) da_nil)) (da_cons (d_tup (da_cons d_int (da_cons (d_lst (da_cons d_int da_nil)) da_nil))) da_nil))) (da_cons (d_lst (da_cons d_bl (da_cons d_int da_nil))) (da_cons d_str da_nil))))))))))))))))
  (ss_one (s_ret (d_callG (ok__law_one e) gd hr (da_cons (d_var 0) (da_cons (d_var 2) da_nil)))))))
/-! _law_own_integer -/
def g__law_own_integer : Sm := (sRet (eAnd (eArgs gIsi (aCons (eVar 0) (aCons (eC (.ty "int")) aNil))) (eNot (eArgs gIsi (aCons (eVar 0) (aCons (eC (.ty "bool")) aNil))))))
theorem sc__law_own_integer : FnScope ["_law_value_here"] ["_law_value_here"] (defScope s__law_own_integer) := ⟨rfl, rfl, rfl, by decide +kernel, rfl, by decide +kernel, by decide +kernel⟩
def F__law_own_integer : List D → M D := fun ds => G.nx (runDef 1 g__law_own_integer ds)
theorem ok__law_own_integer (e : HxL K mg base) : DefG P w K mg base 1 "_law_own_integer" s__law_own_integer ["_law_value_here"] F__law_own_integer :=
  DefG.mk2 (k := 0) (N := ["_law_value_here"]) (g := g__law_own_integer) (e.c.def_ 11 (d := dd__law_own_integer)) (e.glo 29) sc__law_own_integer (fun _ _ _ _ _ _ us hl => match us, hl with | [_], _ => rfl) fun ca cdv A outer s H E gd hr => by
  have nd := sc__law_own_integer.nd
  exact (ss_one (s_ret (d_and (d_callB cr_isi cal_isi (e.free 1) (bt_isinstance) (da_cons (d_var 0) (da_cons (d_ty "int" (e.free 0) boot_int) da_nil))) (d_one (d_not (d_callB cr_isi cal_isi (e.free 1) (bt_isinstance) (da_cons (d_var 0) (da_cons (d_ty "bool" (e.free 2) boot_bool) da_nil))))))))
/-! _law_name -/
def g__law_name : Sm := (sSeq (sAsg (gN 1) (eC (.str "abcdefghijklmnopqrstuvwxyz0123456789")))
  (sSeq (sAsg (gN 2) (eCall 2 F__law_one [] (aCons (eVar 0) (aCons (eArgs gLst (aCons (eC (.int 1)) (aCons (eC (.int 2)) (aCons (eC (.int 8)) (aCons (eC (.int 3)) (aCons (eC (.int 9)) (aCons (eC (.int 0)) (aCons (eC (.int 7)) aNil)))))))) aNil))))
  (sRet (eMet "str" gJoin (eC (.str "")) (aCons (eComp (gN 3) (iRange1 (aCons (eVar 2) aNil)) (fun _ => pure true) (eBin gIx (eVar 1) (eCall 2 F__law_delve [] (aCons (eVar 0) (aCons (eIf (cAnd (cCmp (gEqX false) (eVar 3) (eC (.int 0))) (cCmp (gCmpI gtI) (eCall 2 F__law_delve [] (aCons (eVar 0) (aCons (eC (.int 5)) aNil))) (eC (.int 0)))) (eC (.int 26)) (eC (.int 36))) aNil)))) [3]) aNil)))))
theorem sc__law_name : FnScope ["_law_hamper_here", "_law_letters", "_law_size", "_law_at"] ["_law_hamper_here"] (defScope s__law_name) := ⟨rfl, rfl, rfl, by decide +kernel, rfl, by decide +kernel, by decide +kernel⟩
def F__law_name : List D → M D := fun ds => G.nx (runDef 4 g__law_name ds)
theorem ok__law_name (e : HxL K mg base) : DefG P w K mg base 3 "_law_name" s__law_name ["_law_hamper_here"] F__law_name :=
  DefG.mk2 (k := 2) (N := ["_law_hamper_here", "_law_letters", "_law_size", "_law_at"]) (g := g__law_name) (e.c.def_ 12 (d := dd__law_name)) (e.glo 30) sc__law_name (fun _ _ _ _ _ _ us hl => match us, hl with | [_], _ => rfl) fun ca cdv A outer s H E gd hr => by
  have nd := sc__law_name.nd
  exact (ss_cons (s_set 1 nd d_str)
  (ss_cons (s_set 2 nd (d_callG (ok__law_one e) gd hr (da_cons (d_var 0) (da_cons (d_lst (da_cons d_int (da_cons d_int (da_cons d_int (da_cons d_int (da_cons d_int (da_cons d_int (da_cons d_int da_nil)))))))) da_nil))))
  (ss_one (s_ret (d_bm F.plainAttrs_str F.slot_str_join F.type_str_join mt_join met_join d_str (da_cons (d_comp (own := [("_law_at", 3)]) rfl nd (blkOk_by (by kernel_rfl)) (i_range1 (e.free 16) (da_cons (d_var 2) da_nil)) (tg_name 3) (fun _ _ _ _ _ => (pg_name (i := 3) nd rfl (by first | exact Or.inl rfl | exact Or.inr rfl))) (fun _ _ _ _ _ => dts_nil) (fun _ _ _ _ _ => (d_ix ix_seq ix_D (d_var 1) (d_callG (ok__law_delve e) gd hr (da_cons (d_var 0) (da_cons (d_if (dw_and (dt_cmp (op_eqX (roomE hr)) cmp_eqX (d_var 3) d_int (nomark _)) (dw_and1 (dt_cmp op_gt (cmp_int (f := gtI)) (d_callG (ok__law_delve e) gd hr (da_cons (d_var 0) (da_cons d_int da_nil))) d_int (nomark _)))).pt d_int d_int) da_nil)))))) da_nil))))))
/-! _law_is_name -/
def g__law_is_name : Sm := (sSeq (sIf (cCmp (gInF false) (eVar 0) (eArgs gTup (aCons (eC (.str "and")) (aCons (eC (.str "or")) (aCons (eC (.str "not")) (aCons (eC (.str "all")) (aCons (eC (.str "some")) (aCons (eC (.str "many")) (aCons (eC (.str "endless")) (aCons (eC (.str "yes")) (aCons (eC (.str "no")) aNil))))))))))) (sRet (eC (.bl false))) sNil)
  (sRet (eAnd (eOfC (cChain (gCmpI leI) (gCmpI leI) (eC (.int 1)) (eArgs gLen (aCons (eVar 0) aNil)) (eC (.int 8)))) (eBin (gBl (gInS true)) (eBin gIx (eVar 0) (eC (.int 0))) (eC (.str "0123456789"))))))
theorem sc__law_is_name : FnScope ["_law_value_here"] ["_law_value_here"] (defScope s__law_is_name) := ⟨rfl, rfl, rfl, by decide +kernel, rfl, by decide +kernel, by decide +kernel⟩
def F__law_is_name : List D → M D := fun ds => G.nx (runDef 1 g__law_is_name ds)
theorem ok__law_is_name (e : HxL K mg base) : DefG P w K mg base 1 "_law_is_name" s__law_is_name ["_law_value_here"] F__law_is_name :=
  DefG.mk2 (k := 0) (N := ["_law_value_here"]) (g := g__law_is_name) (e.c.def_ 13 (d := dd__law_is_name)) (e.glo 31) sc__law_is_name (fun _ _ _ _ _ _ us hl => match us, hl with | [_], _ => rfl) fun ca cdv A outer s H E gd hr => by
  have nd := sc__law_is_name.nd
  exact (ss_cons (s_if (dt_cmp op_in_seq cmp_inF (d_var 0) (d_tup (da_cons d_str (da_cons d_str (da_cons d_str (da_cons d_str (da_cons d_str (da_cons d_str (da_cons d_str (da_cons d_str (da_cons d_str da_nil)))))))))) (by rfl)) (ss_one (s_ret d_bl)) ss_nil)
  (ss_one (s_ret (d_and (d_chain op_le op_le (cmp_int (f := leI)) (cmp_int (f := leI)) d_int (d_callB cr_lenD cal_len (e.free 7) (bt_len) (da_cons (d_var 0) da_nil)) d_int) (d_one (d_cmp op_notIn_sign (BinB.d cmp_notInS) (d_ix ix_seq ix_D (d_var 0) d_int) d_str (by rfl)))))))
/-! _law_names_right -/
def g__law_names_right : Sm := (sSeq (sAsg (gN 1) (eCall 1 F__law_name [] (aCons (eVar 0) aNil)))
  (sSeq (sAsg (gN 1) (eCall 2 F__law_one [] (aCons (eVar 0) (aCons (eArgs gLst (aCons (eVar 1) (aCons (eVar 1) (aCons (eVar 1) (aCons (eCall 2 F__law_one [] (aCons (eVar 0) (aCons (eArgs gLst (aCons (eC (.str "and")) (aCons (eC (.str "or")) (aCons (eC (.str "not")) (aCons (eC (.str "all")) (aCons (eC (.str "some")) (aCons (eC (.str "many")) (aCons (eC (.str "endless")) (aCons (eC (.str "yes")) (aCons (eC (.str "no")) (aCons (eC (.str "ands")) (aCons (eC (.str "nor")) (aCons (eC (.str "yes1")) aNil))))))))))))) aNil))) aNil))))) aNil))))
  (sSeq (sPar 2 3 (aCons (eCall 2 F__law_delve [] (aCons (eVar 0) (aCons (eBin gAdd (eArgs gLen (aCons (eVar 1) aNil)) (eC (.int 1))) aNil))) (aCons (eCall 2 F__law_one [] (aCons (eVar 0) (aCons (eArgs gLst (aCons (eC (.str "A")) (aCons (eC (.str "_")) (aCons (eC (.str " ")) (aCons (eC (.str "-")) (aCons (eC (.str "\n")) (aCons (eC (.str ".")) (aCons (eC (.str ":")) (aCons (eC (.str "Z")) (aCons (eC (.str "[")) aNil)))))))))) aNil))) aNil)))
  (sSeq (sFor (gN 4) (iSeq (eArgs gTup (aCons (eVar 1) (aCons (eBin gAdd (eBin gAdd (eSl gSl (eVar 1) oNone (oSome (eVar 2))) (eVar 3)) (eSl gSl (eVar 1) (oSome (eVar 2)) oNone)) (aCons (eArgs gLst (aCons (eVar 1) aNil)) (aCons (eC .non) (aCons (eC (.int 5)) (aCons (eC (.bl true)) aNil)))))))) (sIf (cCmp (gEqX true) (eArgs gRepr (aCons (eCallK 1 0 1 [0] F_is_name aNil (aCons (eVar 4) aNil)) aNil)) (eArgs gRepr (aCons (eAnd (eArgs gIsi (aCons (eVar 4) (aCons (eC (.ty "str")) aNil))) (eAnd (eBin (gBl (gEqX false)) (eVar 4) (eVar 1)) (eCall 1 F__law_is_name [] (aCons (eVar 1) aNil)))) aNil))) (sRet (eC (.bl false))) sNil))
  (sRet (eC (.bl true)))))))
theorem sc__law_names_right : FnScope ["_law_hamper_here", "_law_name_here", "_law_at", "_law_odd", "_law_value_here"] ["_law_hamper_here"] (defScope s__law_names_right) := ⟨rfl, rfl, rfl, by decide +kernel, rfl, by decide +kernel, by decide +kernel⟩
def F__law_names_right : List D → M D := fun ds => G.nx (runDef 5 g__law_names_right ds)
theorem ok__law_names_right (e : HxL K mg base) : DefG P w K mg base 4 "_law_names_right" s__law_names_right ["_law_hamper_here"] F__law_names_right :=
  DefG.mk2 (k := 3) (N := ["_law_hamper_here", "_law_name_here", "_law_at", "_law_odd", "_law_value_here"]) (g := g__law_names_right) (e.c.def_ 14 (d := dd__law_names_right)) (e.glo 32) sc__law_names_right (fun _ _ _ _ _ _ us hl => match us, hl with | [_], _ => rfl) fun ca cdv A outer s H E gd hr => by
  have nd := sc__law_names_right.nd
  exact (ss_cons (s_set 1 nd (d_callG (ok__law_name e) gd hr (da_cons (d_var 0) da_nil)))
  (ss_cons (s_set 1 nd (d_callG (ok__law_one e) gd hr (da_cons (d_var 0) (da_cons (d_lst (da_cons (d_var 1) (da_cons (d_var 1) (da_cons (d_var 1) (da_cons (d_callG (ok__law_one e) gd hr (da_cons (d_var 0) (da_cons (d_lst (da_cons d_str (da_cons d_str (da_cons d_str (da_cons d_str (da_cons d_str (da_cons d_str (da_cons d_str (da_cons d_str (da_cons d_str (da_cons d_str (da_cons d_str (da_cons d_str da_nil))))))))))))) da_nil))) da_nil))))) da_nil))))
  (ss_cons (s_par 2 3 rfl nd (da_cons (d_callG (ok__law_delve e) gd hr (da_cons (d_var 0) (da_cons (d_bin op_addD bin_add (d_callB cr_lenD cal_len (e.free 7) (bt_len) (da_cons (d_var 1) da_nil)) d_int) da_nil))) (da_cons (d_callG (ok__law_one e) gd hr (da_cons (d_var 0) (da_cons (d_lst (da_cons d_str (da_cons d_str (da_cons d_str (da_cons d_str (da_cons d_str (da_cons d_str (da_cons d_str (da_cons d_str (da_cons d_str da_nil)))))))))) da_nil))) da_nil)))
  (ss_cons (s_for rfl PassesOwn.never (i_seq (d_tup (da_cons (d_var 1) (da_cons (d_bin op_addD bin_add (d_bin op_addD bin_add (d_slice sl_D sli_D (d_var 1) do_none (do_some (d_var 2))) (d_var 3)) (d_slice sl_D sli_D (d_var 1) (do_some (d_var 2)) do_none)) (da_cons (d_lst (da_cons (d_var 1) da_nil)) (da_cons d_non (da_cons d_int (da_cons d_bl da_nil)))))))) (pg_name (i := 4) nd rfl (by first | exact Or.inl rfl | exact Or.inr rfl)) (tg_name 4) (ss_one (s_if (dt_cmp (op_neX (roomE hr)) cmp_neX (d_callB (cr_repr e.y gd (roomU hr)) cal_repr (e.free 17) (bt_repr) (da_cons (d_callK0G (kn := ["value"]) [0] (ok_is_name e) gd hr (fun _ _ _ _ _ _ us ws h1 h2 => match us, ws, h1, h2 with | [], [_], _, _ => rfl) (dk_cons (d_var 4) dk_nil)) da_nil)) (d_callB (cr_repr e.y gd (roomU hr)) cal_repr (e.free 17) (bt_repr) (da_cons (d_and (d_callB cr_isi cal_isi (e.free 1) (bt_isinstance) (da_cons (d_var 4) (da_cons (d_ty "str" (e.free 6) boot_str) da_nil))) (d_and (d_cmp (op_eqX (roomE hr)) (BinB.d cmp_eqX) (d_var 4) (d_var 1) (nomark _)) (d_one (d_callG (ok__law_is_name e) gd hr (da_cons (d_var 1) da_nil))))) da_nil)) (nomark _)) (ss_one (s_ret d_bl)) ss_nil)))
  (ss_one (s_ret d_bl))))))
/-! _law_setting_right -/
def g__law_setting_right : Sm := (sSeq (sAsg (gN 1) (eCall 2 F__law_one [] (aCons (eVar 0) (aCons (eArgs gLst (aCons (eArgs gLst (aCons (eC (.str "x")) (aCons (eC (.str "y")) (aCons (eC (.str "a1")) aNil)))) (aCons (eArgs gLst (aCons (eC (.str "n")) aNil)) (aCons (eArgs gLst aNil) (aCons (eArgs gLst (aCons (eC (.str "zz")) (aCons (eC (.str "b")) (aCons (eC (.str "c")) (aCons (eC (.str "d")) aNil))))) aNil))))) aNil))))
  (sSeq (sAsg (gN 2) (eComp (gN 7) (iSeq (eVar 1)) (fun _ => pure true) (eArgs gTup (aCons (eVar 7) (aCons (eCall 2 F__law_one [] (aCons (eVar 0) (aCons (eArgs gLst (aCons (eBin gSub (eCall 2 F__law_delve [] (aCons (eVar 0) (aCons (eC (.int 9)) aNil))) (eC (.int 4))) (aCons (eBin gPow (eC (.int 10)) (eC (.int 50))) (aCons (eUn gNeg (eBin gPow (eC (.int 10)) (eC (.int 30)))) aNil)))) aNil))) aNil))) [7]))
  (sSeq (sPar 3 4 (aCons (eArgs gTuple (aCons (eArgs gSorted (aCons (eVar 2) aNil)) aNil)) (aCons (eCall 2 F__law_delve [] (aCons (eVar 0) (aCons (eC (.int 9)) aNil))) aNil)))
  (sSeq (sAsg (gN 5) (eComp (gN 8) (iSeq (eRev (eVar 2))) (fun _ => pure true) (eCall 2 F__law_one [] (aCons (eVar 0) (aCons (eArgs gLst (aCons (eArgs gList (aCons (eVar 8) aNil)) (aCons (eVar 8) aNil))) aNil))) [8]))
  (sSeq (sIf (cCmp (gEqX false) (eVar 4) (eC (.int 0))) (sAsg (gN 5) (eArgs gDict (aCons (eVar 2) aNil))) sNil)
  (sSeq (sIf (cAnd (cCmp (gEqX false) (eVar 4) (eC (.int 1))) (cCmp (gEqX true) (eVar 2) (eArgs gLst aNil))) (sPar 5 3 (aCons (eBin gAdd (eVar 5) (eArgs gLst (aCons (eCall 2 F__law_one [] (aCons (eVar 0) (aCons (eArgs gLst (aCons (eBin gIx (eVar 2) (eC (.int 0))) (aCons (eArgs gTup (aCons (eBin gIx (eBin gIx (eVar 2) (eC (.int 0))) (eC (.int 0))) (aCons (eC (.int 77)) aNil))) aNil))) aNil))) aNil))) (aCons (eC .non) aNil))) sNil)
  (sSeq (sIf (cAnd (cCmp (gEqX false) (eVar 4) (eC (.int 2))) (cCmp (gEqX true) (eVar 2) (eArgs gLst aNil))) (sPar 5 3 (aCons (eBin gAdd (eSl gSl (eVar 5) (oSome (eC (.int 1))) oNone) (eArgs gLst (aCons (eArgs gTup (aCons (eBin gIx (eBin gIx (eVar 2) (eUn gNeg (eC (.int 1)))) (eC (.int 0))) (aCons (eCall 2 F__law_one [] (aCons (eVar 0) (aCons (eArgs gLst (aCons (eC (.bl true)) (aCons (eC .non) (aCons (eC (.str "1")) (aCons (eArgs gLst (aCons (eC (.int 1)) aNil)) aNil))))) aNil))) aNil))) aNil))) (aCons (eC .non) aNil))) sNil)
  (sSeq (sIf (cCmp (gEqX false) (eVar 4) (eC (.int 3))) (sPar 5 3 (aCons (eBin gAdd (eVar 5) (eArgs gLst (aCons (eCall 2 F__law_one [] (aCons (eVar 0) (aCons (eArgs gLst (aCons (eArgs gTup (aCons (eC (.str "X")) (aCons (eC (.int 1)) aNil))) (aCons (eArgs gTup (aCons (eC (.str "some")) (aCons (eC (.int 1)) aNil))) (aCons (eArgs gTup (aCons (eC (.str "x")) aNil)) (aCons (eArgs gTup (aCons (eC (.str "q")) (aCons (eC (.int 1)) (aCons (eC (.int 2)) aNil)))) (aCons (eC .non) (aCons (eC (.str "x1")) (aCons (eArgs gTup (aCons (eC (.str "")) (aCons (eC (.int 0)) aNil))) (aCons (eArgs gTup (aCons (eC (.int 5)) (aCons (eC (.int 5)) aNil))) aNil))))))))) aNil))) aNil))) (aCons (eC .non) aNil))) sNil)
  (sSeq (sIf (cCmp (gEqX false) (eVar 4) (eC (.int 4))) (sPar 5 3 (aCons (eCall 2 F__law_one [] (aCons (eVar 0) (aCons (eArgs gLst (aCons (eC .non) (aCons (eC (.int 5)) (aCons (eC (.str "x")) (aCons (eC (.bl true)) (aCons (eDict [((eC (.str "x")), (eC (.bl true)))]) (aCons (eDict [((eC (.str "all")), (eC (.int 1)))]) (aCons (eDict [((eC (.int 1)), (eC (.int 1)))]) (aCons (eDict [((eC (.str "x")), (eC (.str "1")))]) aNil))))))))) aNil))) (aCons (eC .non) aNil))) sNil)
  (sSeq (sAsg (gN 6) (eArgs gRepr (aCons (eVar 5) aNil)))
  (sRet (eAnd (eBin (gBl (gEqX false)) (eArgs gRepr (aCons (eCallK 1 0 1 [0] F_setting_of aNil (aCons (eVar 5) aNil)) aNil)) (eArgs gRepr (aCons (eVar 3) aNil))) (eBin (gBl (gEqX false)) (eArgs gRepr (aCons (eVar 5) aNil)) (eVar 6))))))))))))))
theorem sc__law_setting_right : FnScope ["_law_hamper_here", "_law_names", "_law_pairs", "_law_due", "_law_way", "_law_value_here", "_law_kept", "_law_name_here", "_law_pair"] ["_law_hamper_here"] (defScope s__law_setting_right) := ⟨rfl, rfl, rfl, by decide +kernel, rfl, by decide +kernel, by decide +kernel⟩
def F__law_setting_right : List D → M D := fun ds => G.nx (runDef 9 g__law_setting_right ds)
theorem ok__law_setting_right (e : HxL K mg base) : DefG P w K mg base 4 "_law_setting_right" s__law_setting_right ["_law_hamper_here"] F__law_setting_right :=
  DefG.mk2 (k := 3) (N := ["_law_hamper_here", "_law_names", "_law_pairs", "_law_due", "_law_way", "_law_value_here", "_law_kept", "_law_name_here", "_law_pair"]) (g := g__law_setting_right) (e.c.def_ 15 (d := dd__law_setting_right)) (e.glo 33) sc__law_setting_right (fun _ _ _ _ _ _ us hl => match us, hl with | [_], _ => rfl) fun ca cdv A outer s H E gd hr => by
  have nd := sc__law_setting_right.nd
  exact (ss_cons (s_set 1 nd (d_callG (ok__law_one e) gd hr (da_cons (d_var 0) (da_cons (d_lst (da_cons (d_lst (da_cons d_str (da_cons d_str (da_cons d_str da_nil)))) (da_cons (d_lst (da_cons d_str da_nil)) (da_cons (d_lst da_nil) (da_cons (d_lst (da_cons d_str (da_cons d_str (da_cons d_str (da_cons d_str da_nil))))) da_nil))))) da_nil))))
  (ss_cons (s_setComp 2 (own := [("_law_name_here", 7)]) rfl nd (blkOk_by (by kernel_rfl)) (i_seq (d_var 1)) (tg_name 7) (fun _ _ _ _ _ => (pg_name (i := 7) nd rfl (by first | exact Or.inl rfl | exact Or.inr rfl))) (fun _ _ _ _ _ => dts_nil) (fun _ _ _ _ _ => (d_tup (da_cons (d_var 7) (da_cons (d_callG (ok__law_one e) gd hr (da_cons (d_var 0) (da_cons (d_lst (da_cons (d_bin op_subD bin_sub (d_callG (ok__law_delve e) gd hr (da_cons (d_var 0) (da_cons d_int da_nil))) d_int) (da_cons (d_bin op_pow bin_pow d_int d_int) (da_cons (d_un un_neg un_negD (d_bin op_pow bin_pow d_int d_int)) da_nil)))) da_nil))) da_nil)))) (sw_true rfl rfl rfl (by decide +kernel)))
  (ss_cons (s_par 3 4 rfl nd (da_cons (d_callTy call_tuple_of cal_tuple (e.free 4) boot_tuple (da_cons (d_callB (cr_sortD e.y (roomU hr)) cal_sorted (e.free 14) (bt_sorted) (da_cons (d_var 2) da_nil)) da_nil)) (da_cons (d_callG (ok__law_delve e) gd hr (da_cons (d_var 0) (da_cons d_int da_nil))) da_nil)))
  (ss_cons (s_setComp 5 (own := [("_law_pair", 8)]) rfl nd (blkOk_by (by kernel_rfl)) (i_seq (d_revL (d_var 2))) (tg_name 8) (fun _ _ _ _ _ => (pg_name (i := 8) nd rfl (by first | exact Or.inl rfl | exact Or.inr rfl))) (fun _ _ _ _ _ => dts_nil) (fun _ _ _ _ _ => (d_callG (ok__law_one e) gd hr (da_cons (d_var 0) (da_cons (d_lst (da_cons (d_callTy call_list_of cal_list (e.free 3) boot_list (da_cons (d_var 8) da_nil)) (da_cons (d_var 8) da_nil))) da_nil)))) (sw_true rfl rfl rfl (by decide +kernel)))
  (ss_cons (s_if (dt_cmp (op_eqX (roomE hr)) cmp_eqX (d_var 4) d_int (nomark _)) (ss_one (s_set 5 nd (d_callTy (call_dictP rfl) cal_dict (e.free 13) boot_dict (da_cons (d_var 2) da_nil)))) ss_nil)
  (ss_cons (s_if (dw_and (dt_cmp (op_eqX (roomE hr)) cmp_eqX (d_var 4) d_int (nomark _)) (dw_and1 (dt_cmp (op_neX (roomE hr)) cmp_neX (d_var 2) (d_lst da_nil) (nomark _)))).pt (ss_one (s_par 5 3 rfl nd (da_cons (d_bin op_addD bin_add (d_var 5) (d_lst (da_cons (d_callG (ok__law_one e) gd hr (da_cons (d_var 0) (da_cons (d_lst (da_cons (d_ix ix_seq ix_D (d_var 2) d_int) (da_cons (d_tup (da_cons (d_ix ix_seq ix_D (d_ix ix_seq ix_D (d_var 2) d_int) d_int) (da_cons d_int da_nil))) da_nil))) da_nil))) da_nil))) (da_cons d_non da_nil)))) ss_nil)
  (ss_cons (s_if (dw_and (dt_cmp (op_eqX (roomE hr)) cmp_eqX (d_var 4) d_int (nomark _)) (dw_and1 (dt_cmp (op_neX (roomE hr)) cmp_neX (d_var 2) (d_lst da_nil) (nomark _)))).pt (ss_one (s_par 5 3 rfl nd (da_cons (d_bin op_addD bin_add (d_slice sl_D sli_D (d_var 5) (do_some d_int) do_none) (d_lst (da_cons (d_tup (da_cons (d_ix ix_seq ix_D (d_ix ix_seq ix_D (d_var 2) (d_un un_neg un_negD d_int)) d_int) (da_cons (d_callG (ok__law_one e) gd hr (da_cons (d_var 0) (da_cons (d_lst (da_cons d_bl (da_cons d_non (da_cons d_str (da_cons (d_lst (da_cons d_int da_nil)) da_nil))))) da_nil))) da_nil))) da_nil))) (da_cons d_non da_nil)))) ss_nil)
  (ss_cons (s_if (dt_cmp (op_eqX (roomE hr)) cmp_eqX (d_var 4) d_int (nomark _)) (ss_one (s_par 5 3 rfl nd (da_cons (d_bin op_addD bin_add (d_var 5) (d_lst (da_cons (d_callG (ok__law_one e) gd hr (da_cons (d_var 0) (da_cons (d_lst (da_cons (d_tup (da_cons d_str (da_cons d_int da_nil))) (da_cons (d_tup (da_cons d_str (da_cons d_int da_nil))) (da_cons (d_tup (da_cons d_str da_nil)) (da_cons (d_tup (da_cons d_str (da_cons d_int (da_cons d_int da_nil)))) (da_cons d_non (da_cons d_str (da_cons (d_tup (da_cons d_str (da_cons d_int da_nil))) (da_cons (d_tup (da_cons d_int (da_cons d_int da_nil))) da_nil))))))))) da_nil))) da_nil))) (da_cons d_non da_nil)))) ss_nil)
  (ss_cons (s_if (dt_cmp (op_eqX (roomE hr)) cmp_eqX (d_var 4) d_int (nomark _)) (ss_one (s_par 5 3 rfl nd (da_cons (d_callG (ok__law_one e) gd hr (da_cons (d_var 0) (da_cons (d_lst (da_cons d_non (da_cons d_int (da_cons d_str (da_cons d_bl (da_cons (d_dict (dp_cons d_str d_bl dp_nil)) (da_cons (d_dict (dp_cons d_str d_int dp_nil)) (da_cons (d_dict (dp_cons d_int d_int dp_nil)) (da_cons (d_dict (dp_cons d_str d_str dp_nil)) da_nil))))))))) da_nil))) (da_cons d_non da_nil)))) ss_nil)
  (ss_cons (s_set 6 nd (d_callB (cr_repr e.y gd (roomU hr)) cal_repr (e.free 17) (bt_repr) (da_cons (d_var 5) da_nil)))
  (ss_one (s_ret (d_and (d_cmp (op_eqX (roomE hr)) (BinB.d cmp_eqX) (d_callB (cr_repr e.y gd (roomU hr)) cal_repr (e.free 17) (bt_repr) (da_cons (d_callK0G (kn := ["value"]) [0] (ok_setting_of e) gd hr (fun _ _ _ _ _ _ us ws h1 h2 => match us, ws, h1, h2 with | [], [_], _, _ => rfl) (dk_cons (d_var 5) dk_nil)) da_nil)) (d_callB (cr_repr e.y gd (roomU hr)) cal_repr (e.free 17) (bt_repr) (da_cons (d_var 3) da_nil)) (nomark _)) (d_one (d_cmp (op_eqX (roomE hr)) (BinB.d cmp_eqX) (d_callB (cr_repr e.y gd (roomU hr)) cal_repr (e.free 17) (bt_repr) (da_cons (d_var 5) da_nil)) (d_var 6) (nomark _))))))))))))))))
/-! law -/
def g_law : Sm := (sSeq (sFor (gN 2) (iRange1 (aCons (eC (.int 4)) aNil)) (sSeq (sAsg (gN 3) (eCall 1 F__law_value [] (aCons (eVar 1) aNil)))
  (sSeq (sPar 4 5 (aCons (eBin gSub (eCall 2 F__law_delve [] (aCons (eVar 1) (aCons (eC (.int 9)) aNil))) (eC (.int 4))) (aCons (eBin gSub (eCall 2 F__law_delve [] (aCons (eVar 1) (aCons (eC (.int 9)) aNil))) (eC (.int 4))) aNil)))
  (sSeq (sAsg (gN 6) (eCall 2 F__law_one [] (aCons (eVar 1) (aCons (eArgs gLst (aCons (eVar 3) (aCons (eVar 4) (aCons (eVar 5) (aCons (eBin gSub (eVar 4) (eC (.int 1))) (aCons (eBin gAdd (eVar 5) (eC (.int 1))) (aCons (eC (.int 0)) aNil))))))) aNil))))
  (sSeq (sPar 7 8 (aCons (eCall 2 F__law_one [] (aCons (eVar 1) (aCons (eArgs gLst (aCons (eVar 4) (aCons (eC .non) aNil))) aNil))) (aCons (eCall 2 F__law_one [] (aCons (eVar 1) (aCons (eArgs gLst (aCons (eVar 5) (aCons (eC .non) aNil))) aNil))) aNil)))
  (sSeq (sAsg (gN 9) (eAnd (eCall 1 F__law_own_integer [] (aCons (eVar 6) aNil)) (eAnd (eOr (eBin (gBl (gIsN false)) (eVar 7) (eC .non)) (eBin (gBl (gCmpI geI)) (eVar 6) (eVar 7))) (eOr (eBin (gBl (gIsN false)) (eVar 8) (eC .non)) (eBin (gBl (gCmpI leI)) (eVar 6) (eVar 8))))))
  (sSeq (sIf (cOr (cCmp (gEqX true) (eArgs gRepr (aCons (eCallK 1 0 1 [0] F_is_integer aNil (aCons (eVar 6) aNil)) aNil)) (eArgs gRepr (aCons (eCall 1 F__law_own_integer [] (aCons (eVar 6) aNil)) aNil))) (cCmp (gEqX true) (eArgs gRepr (aCons (eCallK 3 0 3 [2, 1, 0] F_is_within aNil (aCons (eVar 8) (aCons (eVar 7) (aCons (eVar 6) aNil)))) aNil)) (eArgs gRepr (aCons (eVar 9) aNil)))) (sRet (eC (.bl false))) sNil)
  (sSeq (sAsg (gN 10) (eComp (gN 12) (iRange1 (aCons (eCall 2 F__law_delve [] (aCons (eVar 1) (aCons (eC (.int 4)) aNil))) aNil)) (fun _ => pure true) (eCall 2 F__law_one [] (aCons (eVar 1) (aCons (eArgs gLst (aCons (eCall 2 F__law_delve [] (aCons (eVar 1) (aCons (eC (.int 9)) aNil))) (aCons (eBin gPow (eC (.int 10)) (eC (.int 40))) (aCons (eCall 2 F__law_one [] (aCons (eVar 1) (aCons (eArgs gLst (aCons (eC (.bl true)) (aCons (eC .non) (aCons (eC (.str "1")) (aCons (eArgs gLst (aCons (eC (.int 1)) aNil)) (aCons (eUn gNeg (eC (.int 7))) aNil)))))) aNil))) aNil)))) aNil))) [12]))
  (sSeq (sAsg (gN 11) (eBin (gBl (gEqX false)) (eComp (gN 13) (iSeq (eVar 10)) (cNot (cTru (eCall 1 F__law_own_integer [] (aCons (eVar 13) aNil)))) (eVar 13) [13]) (eArgs gLst aNil)))
  (sSeq (sIf (cCmp (gEqX true) (eArgs gRepr (aCons (eArgs gLst (aCons (eCallK 1 0 1 [0] F_are_integers aNil (aCons (eVar 10) aNil)) (aCons (eCall 1 F_are_integers [] (aCons (eArgs gTuple (aCons (eVar 10) aNil)) aNil)) (aCons (eCall 1 F_are_integers [] (aCons (eDict [((eC (.int 0)), (eC (.int 1)))]) aNil)) (aCons (eCall 1 F_are_integers [] (aCons (eC (.str "1")) aNil)) aNil))))) aNil)) (eArgs gRepr (aCons (eArgs gLst (aCons (eVar 11) (aCons (eVar 11) (aCons (eC (.bl false)) (aCons (eC (.bl false)) aNil))))) aNil))) (sRet (eC (.bl false))) sNil)
  (sIf (cOr (cNot (cTru (eCall 1 F__law_names_right [] (aCons (eVar 1) aNil)))) (cNot (cTru (eCall 1 F__law_setting_right [] (aCons (eVar 1) aNil))))) (sRet (eC (.bl false))) sNil)))))))))))
  (sRet (eC (.bl true))))
theorem sc_law : FnScope ["_law_script", "_law_hamper_here", "_law_turn", "_law_value_here", "_law_low", "_law_high", "_law_number", "_law_least", "_law_most", "_law_due", "_law_row", "_law_wholly", "_law_at", "_law_each"] ["_law_script"] (defScope s_law) := ⟨rfl, rfl, rfl, by decide +kernel, rfl, by decide +kernel, by decide +kernel⟩
def lawQ_k := 5
theorem body_law (e : HxL K mg base) {f : Addr} {cdv : Value} {A : Around} {outer : List Env} {s : Shared} {H : Hp} {E : XK} (gd : A.guards = some []) (hr : Room 4 (A.deeper (envOfC "law" (defScope s_law) s.heap.objs.size f cdv))) (ca : Dr) :
    PSs (cxOf CX0 P w K mg base ["_law_script", "_law_hamper_here", "_law_turn", "_law_value_here", "_law_low", "_law_high", "_law_number", "_law_least", "_law_most", "_law_due", "_law_row", "_law_wholly", "_law_at", "_law_each"] "law" (defScope s_law) f cdv A outer s H E).nox ((defBody s_law).drop 1) (tS K ca E0 g_law) := by
  have nd := sc_law.nd
  exact (ss_cons (s_for rfl PassesOwn.never (i_range1 (e.free 16) (da_cons d_int da_nil)) (pg_name (i := 2) nd rfl (by first | exact Or.inl rfl | exact Or.inr rfl)) (tg_name 2) (ss_cons (s_set 3 nd (d_callG (ok__law_value e) gd hr (da_cons (d_var 1) da_nil)))
  (ss_cons (s_par 4 5 rfl nd (da_cons (d_bin op_subD bin_sub (d_callG (ok__law_delve e) gd hr (da_cons (d_var 1) (da_cons d_int da_nil))) d_int) (da_cons (d_bin op_subD bin_sub (d_callG (ok__law_delve e) gd hr (da_cons (d_var 1) (da_cons d_int da_nil))) d_int) da_nil)))
  (ss_cons (s_set 6 nd (d_callG (ok__law_one e) gd hr (da_cons (d_var 1) (da_cons (d_lst (da_cons (d_var 3) (da_cons (d_var 4) (da_cons (d_var 5) (da_cons (d_bin op_subD bin_sub (d_var 4) d_int) (da_cons (d_bin op_addD bin_add (d_var 5) d_int) (da_cons d_int da_nil))))))) da_nil))))
  (ss_cons (s_par 7 8 rfl nd (da_cons (d_callG (ok__law_one e) gd hr (da_cons (d_var 1) (da_cons (d_lst (da_cons (d_var 4) (da_cons d_non da_nil))) da_nil))) (da_cons (d_callG (ok__law_one e) gd hr (da_cons (d_var 1) (da_cons (d_lst (da_cons (d_var 5) (da_cons d_non da_nil))) da_nil))) da_nil)))
  (ss_cons (s_set 9 nd (d_and (d_callG (ok__law_own_integer e) gd hr (da_cons (d_var 6) da_nil)) (d_and (d_or (d_cmp op_isN (BinB.d cmp_isN) (d_var 7) d_non (nomark _)) (d_one (d_cmp op_ge (BinB.d (cmp_int (f := geI))) (d_var 6) (d_var 7) (nomark _)))) (d_one (d_or (d_cmp op_isN (BinB.d cmp_isN) (d_var 8) d_non (nomark _)) (d_one (d_cmp op_le (BinB.d (cmp_int (f := leI))) (d_var 6) (d_var 8) (nomark _))))))))
  (ss_cons (s_if (dw_or (dt_cmp (op_neX (roomE hr)) cmp_neX (d_callB (cr_repr e.y gd (roomU hr)) cal_repr (e.free 17) (bt_repr) (da_cons (d_callK0G (kn := ["value"]) [0] (ok_is_integer e) gd hr (fun _ _ _ _ _ _ us ws h1 h2 => match us, ws, h1, h2 with | [], [_], _, _ => rfl) (dk_cons (d_var 6) dk_nil)) da_nil)) (d_callB (cr_repr e.y gd (roomU hr)) cal_repr (e.free 17) (bt_repr) (da_cons (d_callG (ok__law_own_integer e) gd hr (da_cons (d_var 6) da_nil)) da_nil)) (nomark _)) (dw_or1 (dt_cmp (op_neX (roomE hr)) cmp_neX (d_callB (cr_repr e.y gd (roomU hr)) cal_repr (e.free 17) (bt_repr) (da_cons (d_callK0G (kn := ["most", "least", "value"]) [2, 1, 0] (ok_is_within e) gd hr (fun _ _ _ _ _ _ us ws h1 h2 => match us, ws, h1, h2 with | [], [_, _, _], _, _ => rfl) (dk_cons (d_var 8) (dk_cons (d_var 7) (dk_cons (d_var 6) dk_nil)))) da_nil)) (d_callB (cr_repr e.y gd (roomU hr)) cal_repr (e.free 17) (bt_repr) (da_cons (d_var 9) da_nil)) (nomark _)))).pt (ss_one (s_ret d_bl)) ss_nil)
  (ss_cons (s_setComp 10 (own := [("_law_at", 12)]) rfl nd (blkOk_by (by kernel_rfl)) (i_range1 (e.free 16) (da_cons (d_callG (ok__law_delve e) gd hr (da_cons (d_var 1) (da_cons d_int da_nil))) da_nil)) (tg_name 12) (fun _ _ _ _ _ => (pg_name (i := 12) nd rfl (by first | exact Or.inl rfl | exact Or.inr rfl))) (fun _ _ _ _ _ => dts_nil) (fun _ _ _ _ _ => (d_callG (ok__law_one e) gd hr (da_cons (d_var 1) (da_cons (d_lst (da_cons (d_callG (ok__law_delve e) gd hr (da_cons (d_var 1) (da_cons d_int da_nil))) (da_cons (d_bin op_pow bin_pow d_int d_int) (da_cons (d_callG (ok__law_one e) gd hr (da_cons (d_var 1) (da_cons (d_lst (da_cons d_bl (da_cons d_non (da_cons d_str (da_cons (d_lst (da_cons d_int da_nil)) (da_cons (d_un un_neg un_negD d_int) da_nil)))))) da_nil))) da_nil)))) da_nil)))) (sw_true rfl rfl rfl (by decide +kernel)))
  (ss_cons (s_set 11 nd (d_cmp (op_eqX (roomE hr)) (BinB.d cmp_eqX) (d_comp (own := [("_law_each", 13)]) rfl nd (blkOk_by (by kernel_rfl)) (i_seq (d_var 10)) (tg_name 13) (fun _ _ _ _ _ => (pg_name (i := 13) nd rfl (by first | exact Or.inl rfl | exact Or.inr rfl))) (fun _ _ _ _ _ => (dts_one (dt_not (dt_tru (d_callG (ok__law_own_integer e) gd hr (da_cons (d_var 13) da_nil)))))) (fun _ _ _ _ _ => (d_var 13))) (d_lst da_nil) (nomark _)))
  (ss_cons (s_if (dt_cmp (op_neX (roomE hr)) cmp_neX (d_callB (cr_repr e.y gd (roomU hr)) cal_repr (e.free 17) (bt_repr) (da_cons (d_lst (da_cons (d_callK0G (kn := ["value"]) [0] (ok_are_integers e) gd hr (fun _ _ _ _ _ _ us ws h1 h2 => match us, ws, h1, h2 with | [], [_], _, _ => rfl) (dk_cons (d_var 10) dk_nil)) (da_cons (d_callG (ok_are_integers e) gd hr (da_cons (d_callTy call_tuple_of cal_tuple (e.free 4) boot_tuple (da_cons (d_var 10) da_nil)) da_nil)) (da_cons (d_callG (ok_are_integers e) gd hr (da_cons (d_dict (dp_cons d_int d_int dp_nil)) da_nil)) (da_cons (d_callG (ok_are_integers e) gd hr (da_cons d_str da_nil)) da_nil))))) da_nil)) (d_callB (cr_repr e.y gd (roomU hr)) cal_repr (e.free 17) (bt_repr) (da_cons (d_lst (da_cons (d_var 11) (da_cons (d_var 11) (da_cons d_bl (da_cons d_bl da_nil))))) da_nil)) (nomark _)) (ss_one (s_ret d_bl)) ss_nil)
  (ss_one (s_if (dw_or (dt_not (dt_tru (d_callG (ok__law_names_right e) gd hr (da_cons (d_var 1) da_nil)))) (dw_or1 (dt_not (dt_tru (d_callG (ok__law_setting_right e) gd hr (da_cons (d_var 1) da_nil)))))).pt (ss_one (s_ret d_bl)) ss_nil))))))))))))
  (ss_one (s_ret d_bl)))
/-! _law_hamper, the law's end -/
theorem sc__law_hamper : FnScope ["_law_script", "_law_cell"] ["_law_script"] (defScope s__law_hamper) := ⟨rfl, rfl, rfl, by decide +kernel, rfl, by decide +kernel, by decide +kernel⟩
theorem ok__law_hamper (e : HxL K mg base) : ∃ fd, FunD K "_law_hamper" "_law_hamper" (defArgs s__law_hamper) (defBody s__law_hamper) (defScope s__law_hamper) [] [] (He.ga K "_law_hamper") fd ∧ FnOk P w K mg base CX0 1 (He.ga K "_law_hamper") fd ["_law_script"] (spMade K) ∧ Binds K fd ["_law_script"] [] := by
  obtain ⟨fd, F⟩ := e.c.def_ 7 (d := dd__law_hamper) rfl
  have F : FunD K "_law_hamper" "_law_hamper" (defArgs s__law_hamper) (defBody s__law_hamper) (defScope s__law_hamper) [] [] (He.ga K "_law_hamper") fd := F
  refine ⟨fd, F, F.ok sc__law_hamper (fun vs H Q E h => ?_) (fun cdv A outer s H vs Q E hr h => ?_), F.bindsN (fun _ _ _ _ _ _ us hl => match us, hl with | [_], _ => rfl)⟩
  · obtain ⟨a, ns, rfl, _⟩ := h
    rfl
  obtain ⟨a, ns, rfl, hS, q⟩ := h
  have nd := sc__law_hamper.nd
  refine ⟨_, PSs.nox (pss_one (ps_ret (pe_lst (pa_cons (pe_lc (own := [("_law_cell", 1)]) rfl nd (pi_list (pe_slice sl_list (pv 0) po_none (po_some pe_int))) (blkOk_by (by kernel_rfl)) (fun _ _ _ _ _ => pg_name (i := 1) nd rfl (by first | exact Or.inl rfl | exact Or.inr rfl)) (fun _ _ _ _ _ => pts_nil)
    (fun _ _ _ _ _ => pe_callTy call_int1 rfl (e.free 0) boot_int (pa_cons (pv 1) pa_nil))) (pa_cons pe_int (pa_cons pe_int pa_nil)))))), ?_⟩
  exact made_read (X := cxOf CX0 P w K mg base ["_law_script", "_law_cell"] "_law_hamper" (defScope s__law_hamper) (He.ga K "_law_hamper") cdv A outer s H E) (st := s__law_hamper) (tt := tYes) (i := 1) hS rfl q (Nat.lt_succ_self 1)
theorem ok_law (e : HxL K mg base) (lt : LawTrue 14 g_law) : ∃ fd, FunD K "law" "law" (defArgs s_law) (defBody s_law) (defScope s_law) [] [] (He.ga K "law") fd ∧ FnG P w K mg base CX0 5 (He.ga K "law") fd ["_law_script"] (spLaw K) := by
  obtain ⟨fd, F⟩ := e.c.def_ 16 (d := dd_law) rfl
  have F : FunD K "law" "law" (defArgs s_law) (defBody s_law) (defScope s_law) [] [] (He.ga K "law") fd := F
  obtain ⟨fdH, FH, okH, bH⟩ := ok__law_hamper (P := P) (w := w) e
  have nd := sc_law.nd
  refine ⟨fd, F, FunD.okG (k := 4) F sc_law (fun vs H Q E h => ?_) (fun cdv A outer s H vs Q E gd hr h => ⟨_, PSs.nox (pss_cons (ps_set (i := 1) nd rfl (by first | exact Or.inl rfl | exact Or.inr rfl) (pe_call okH (hr.mono (by decide)) rfl (e.glo 25) FH.kp bH .nil L2.pass0 (pa_cons (pv 0) pa_nil))) (ss_any (body_law e gd hr))), law_read (by decide) lt h⟩)⟩
  obtain ⟨a, ns, rfl, _⟩ := h
  rfl
end
abbrev R0 : PySem.W.OpenRow := PySem.W.OpenLaw.row PySem.Challenge.rw_claimduel_k01_plain_values_and_settings
def moreL (K : PySem.W.Frag) : Bool := tupL.all fun p => tupFact K p.1 p.2
abbrev hkL : PySem.W.Hook := hookX 4 faL fnL moreL
def obL (s : PySem.W.SharedT) : (Bool × Bool) × He.AlD := obsX 4 faL fnL moreL s
theorem obL_eq (s : PySem.W.SharedT) : obL s = hkL.obs s.abs := obsX_eq s
def looseL : List Str := ["LETTERS", "DIGITS", "LONGEST", "WORDS", "is_integer", "is_within", "are_integers", "is_name", "are_names", "is_told", "setting_of", "_law_hamper", "_law_delve", "_law_one", "_law_value", "_law_own_integer", "_law_name", "_law_is_name", "_law_names_right", "_law_setting_right"]
theorem runL (w : World) : HandSHeadRun.RunEq R0 (PySem.W.view R0.prog [22]) hkL obL 1000 looseL w := by
  intro os
  kernel_rfl
end G
open PySem PySem.W PySem.Calls PyProof.Rows
theorem G.holds_of (lt : G.LawTrue 14 G.g_law) : PySem.Challenge.rw_claimduel_k01_plain_values_and_settings.Holds := by
  w_on; o_law
  refine HandSHeadRun.head_any (r := G.R0) (q := view G.R0.prog [22]) (H := G.hkL) (ob := G.obL) (M := 1000) (loose := G.looseL) (d := HandSHeadRun.topDef G.R0.prog 22) (kwd := []) G.obL_eq
    (by kernel_rfl) (fun s => by kernel_rfl) G.runL (by kernel_rfl) (by kernel_rfl) (by kernel_rfl) (by rfl) (by first | assumption | decide +kernel) (by decide +kernel) ⟨rfl, rfl, rfl, rfl, rfl, by decide +kernel⟩ ?hw ?hc
  case hw => w_witness2
  case hc =>
    refine G.law_walk (l := PySem.Challenge.rw_claimduel_k01_plain_values_and_settings) (k := 5) (x := "_law_script") rfl (by kernel_rfl) ⟨rfl, by decide, by decide⟩ ?F
    intro w mg fa h Y hns hmg0
    obtain ⟨sys, K, KX, more, c⟩ := Y
    have hmg : mg ("law" : PySem.Str) = some (.ref fa) := by
      have e : (HandSHeadRun.topDef G.R0.prog 22).name = ("law" : PySem.Str) := by kernel_rfl
      rw [← e]
      exact hmg0
    have hx : ∀ base : Heap, G.Sys base → G.HxL K mg base := fun base y => ⟨c, ⟨h, KX, hns⟩, y, more⟩
    have e := hmg.symm.trans (He.glo_ok KX hns (c.fact 34 (f := .glo "law") rfl))
    cases e
    obtain ⟨fd, F⟩ := c.def_ 16 (d := G.dd_law) rfl
    have F : L2.FunD K "law" "law" (L2.defArgs G.s_law) (L2.defBody G.s_law) (L2.defScope G.s_law) [] [] (He.ga K "law") fd := F
    have b := L2.FunD.bindsA (ps := ["_law_script"]) F fun _ _ _ _ _ _ us hl => match us, hl with | [_], _ => rfl
    refine ⟨K, fd, KX, sys, fun s u => b s [u] rfl, fun base _ _ y => ?_⟩
    obtain ⟨fd2, F2, k2⟩ := G.ok_law (P := (PySem.Challenge.rw_claimduel_k01_plain_values_and_settings).prog) (w := w) (hx base y) lt
    have e2 : fd2 = fd := G.funD_one F2 F
    exact e2 ▸ k2

set_option Elab.async false
set_option linter.all false
set_option maxRecDepth 100000
set_option maxHeartbeats 8000000
namespace G
open PySem PySem.Spec PyProof.Rows L2
theorem delve_ok {n : Nat} {c : Churn} {j : Int} {k : D → Churn → Prop} (g : Good n c) (hn : n + 1 ≤ 2 ^ 20) (hj : 1 ≤ j) (hj2 : j ≤ 2 ^ 62) (q : ∀ r c', 0 ≤ r → r < j → Good (n + 1) c' → k (.int r) c') : Ok (F__law_delve [.chn, .int j] c) k :=
  draw1 (by decide) (by decide) (by decide) (by decide) (by decide) (by decide) (by decide) g hn hj hj2 q
theorem one_ok {n : Nat} {c : Churn} {xs : List D} {k : D → Churn → Prop} (g : Good n c) (hn : n + 1 ≤ 2 ^ 20) (h1 : 1 ≤ xs.length) (h2 : xs.length ≤ 2 ^ 62) (q : ∀ x ∈ xs, ∀ c', Good (n + 1) c' → k x c') : Ok (F__law_one [.chn, .lst xs] c) k := by
  show Ok (G.nx (runDef 2 g__law_one [.chn, .lst xs]) c) k
  rw [ok_def]
  show Ok (g__law_one [.val .chn, .val (.lst xs)] c) _
  unfold g__law_one
  simp only [ok_seq, ok_asg, ok_par, ok_ret, ok_retN, ok_sNil, ok_sIf, ok_bin, ok_un, ok_var, ok_C, ok_call, ok_callK, ok_cons, ok_nil, ok_args, ok_tru, ok_not, ok_and, ok_or, ok_eNot, ok_eAnd, ok_eOr, ok_if, ok_cmp, ok_chain, ok_ofC, ok_oNone, ok_oSome, ok_sl, ok_met, ok_rev, ok_items, ok_lenSet, ok_pairs0, ok_pairs, ok_dict, ok_iSeq, ok_rng1, ok_rng2, ok_comp, ok_comp0, ok_for, List.getElem?_cons_zero, List.getElem?_cons_succ, Option.some.injEq, Sl.val.injEq, exists_eq_left', List.nil_append, List.append_nil, List.length_cons, List.length_nil, true_and, and_true, and_self, Nat.zero_add, Nat.reduceAdd, Nat.reduceLeDiff, gAdd_i, gSub_i, gNeg_i, gBl_e, gCmpI_i, gLst_o, gTup_o, gN_e, List.set_cons_zero, List.set_cons_succ, truD_b, gIsN_n, isNonD, gLen_l, gInt_b, gInt_i, Option.map_some, Bool.false_eq_true, if_true, if_false, Bool.not_true, Bool.not_false, keyD, walkD]
  refine delve_ok g hn (by omega) (by omega) fun r c' h0 h1 g' => ?_
  obtain ⟨x, hx, e⟩ := atI_mem h0 h1
  exact ⟨x, e, q x hx c' g'⟩
theorem value_ok {n : Nat} {c : Churn} {k : D → Churn → Prop} (g : Good n c) (hn : n + 10 ≤ 2 ^ 20) (q : ∀ d c', plainD d = true → Good (n + 5) c' → k d c') : Ok (F__law_value [.chn] c) k := by
  show Ok (G.nx (runDef 3 g__law_value [.chn]) c) k
  rw [ok_def]
  show Ok (g__law_value [.val .chn, .no, .no] c) _
  unfold g__law_value
  simp only [ok_seq, ok_asg, ok_par, ok_ret, ok_retN, ok_sNil, ok_sIf, ok_bin, ok_un, ok_var, ok_C, ok_call, ok_callK, ok_cons, ok_nil, ok_args, ok_tru, ok_not, ok_and, ok_or, ok_eNot, ok_eAnd, ok_eOr, ok_if, ok_cmp, ok_chain, ok_ofC, ok_oNone, ok_oSome, ok_sl, ok_met, ok_rev, ok_items, ok_lenSet, ok_pairs0, ok_pairs, ok_dict, ok_iSeq, ok_rng1, ok_rng2, ok_comp, ok_comp0, ok_for, List.getElem?_cons_zero, List.getElem?_cons_succ, Option.some.injEq, Sl.val.injEq, exists_eq_left', List.nil_append, List.append_nil, List.length_cons, List.length_nil, true_and, and_true, and_self, Nat.zero_add, Nat.reduceAdd, Nat.reduceLeDiff, gAdd_i, gSub_i, gNeg_i, gBl_e, gCmpI_i, gLst_o, gTup_o, gN_e, List.set_cons_zero, List.set_cons_succ, truD_b, gIsN_n, isNonD, gLen_l, gInt_b, gInt_i, Option.map_some, Bool.false_eq_true, if_true, if_false, Bool.not_true, Bool.not_false, keyD, walkD]
  refine delve_ok g (by omega) (by decide) (by decide) fun r1 c1 h0 h1 g1 => ?_
  have e20 : gPow (.int 10) (.int 20) = some (.int (10 ^ 20)) := gPow_ok (by decide) (by decide) (by decide)
  simp only [ok_seq, ok_asg, ok_par, ok_ret, ok_retN, ok_sNil, ok_sIf, ok_bin, ok_un, ok_var, ok_C, ok_call, ok_callK, ok_cons, ok_nil, ok_args, ok_tru, ok_not, ok_and, ok_or, ok_eNot, ok_eAnd, ok_eOr, ok_if, ok_cmp, ok_chain, ok_ofC, ok_oNone, ok_oSome, ok_sl, ok_met, ok_rev, ok_items, ok_lenSet, ok_pairs0, ok_pairs, ok_dict, ok_iSeq, ok_rng1, ok_rng2, ok_comp, ok_comp0, ok_for, List.getElem?_cons_zero, List.getElem?_cons_succ, Option.some.injEq, Sl.val.injEq, exists_eq_left', List.nil_append, List.append_nil, List.length_cons, List.length_nil, true_and, and_true, and_self, Nat.zero_add, Nat.reduceAdd, Nat.reduceLeDiff, gAdd_i, gSub_i, gNeg_i, gBl_e, gCmpI_i, gLst_o, gTup_o, gN_e, List.set_cons_zero, List.set_cons_succ, truD_b, gIsN_n, isNonD, gLen_l, gInt_b, gInt_i, Option.map_some, Bool.false_eq_true, if_true, if_false, Bool.not_true, Bool.not_false, keyD, walkD, e20]
  refine delve_ok g1 (by omega) (by decide) (by decide) fun r2 c2 h2 h3 g2 => ?_
  simp only [ok_seq, ok_asg, ok_par, ok_ret, ok_retN, ok_sNil, ok_sIf, ok_bin, ok_un, ok_var, ok_C, ok_call, ok_callK, ok_cons, ok_nil, ok_args, ok_tru, ok_not, ok_and, ok_or, ok_eNot, ok_eAnd, ok_eOr, ok_if, ok_cmp, ok_chain, ok_ofC, ok_oNone, ok_oSome, ok_sl, ok_met, ok_rev, ok_items, ok_lenSet, ok_pairs0, ok_pairs, ok_dict, ok_iSeq, ok_rng1, ok_rng2, ok_comp, ok_comp0, ok_for, List.getElem?_cons_zero, List.getElem?_cons_succ, Option.some.injEq, Sl.val.injEq, exists_eq_left', List.nil_append, List.append_nil, List.length_cons, List.length_nil, true_and, and_true, and_self, Nat.zero_add, Nat.reduceAdd, Nat.reduceLeDiff, gAdd_i, gSub_i, gNeg_i, gBl_e, gCmpI_i, gLst_o, gTup_o, gN_e, List.set_cons_zero, List.set_cons_succ, truD_b, gIsN_n, isNonD, gLen_l, gInt_b, gInt_i, Option.map_some, Bool.false_eq_true, if_true, if_false, Bool.not_true, Bool.not_false, keyD, walkD]
  refine delve_ok g2 (by omega) (by decide) (by decide) fun r3 c3 h4 h5 g3 => ?_
  simp only [ok_seq, ok_asg, ok_par, ok_ret, ok_retN, ok_sNil, ok_sIf, ok_bin, ok_un, ok_var, ok_C, ok_call, ok_callK, ok_cons, ok_nil, ok_args, ok_tru, ok_not, ok_and, ok_or, ok_eNot, ok_eAnd, ok_eOr, ok_if, ok_cmp, ok_chain, ok_ofC, ok_oNone, ok_oSome, ok_sl, ok_met, ok_rev, ok_items, ok_lenSet, ok_pairs0, ok_pairs, ok_dict, ok_iSeq, ok_rng1, ok_rng2, ok_comp, ok_comp0, ok_for, List.getElem?_cons_zero, List.getElem?_cons_succ, Option.some.injEq, Sl.val.injEq, exists_eq_left', List.nil_append, List.append_nil, List.length_cons, List.length_nil, true_and, and_true, and_self, Nat.zero_add, Nat.reduceAdd, Nat.reduceLeDiff, gAdd_i, gSub_i, gNeg_i, gBl_e, gCmpI_i, gLst_o, gTup_o, gN_e, List.set_cons_zero, List.set_cons_succ, truD_b, gIsN_n, isNonD, gLen_l, gInt_b, gInt_i, Option.map_some, Bool.false_eq_true, if_true, if_false, Bool.not_true, Bool.not_false, keyD, walkD]
  refine one_ok g3 (by omega) (by simp) (by simp) fun x hx c4 g4 => ?_
  have hi : ∃ i : Int, x = .int i ∧ i.natAbs < 2 ^ 100 := by
    simp only [List.mem_cons, List.not_mem_nil, or_false] at hx
    rcases hx with rfl | rfl | rfl
    · exact ⟨_, rfl, by omega⟩
    · exact ⟨_, rfl, by omega⟩
    · exact ⟨_, rfl, by omega⟩
  obtain ⟨i, rfl, hi⟩ := hi
  have es : gStr [.int i] = some (.str (toString i)) := if_pos (Nat.lt_trans (log_lt hi (by decide)) (by decide))
  simp only [ok_seq, ok_asg, ok_par, ok_ret, ok_retN, ok_sNil, ok_sIf, ok_bin, ok_un, ok_var, ok_C, ok_call, ok_callK, ok_cons, ok_nil, ok_args, ok_tru, ok_not, ok_and, ok_or, ok_eNot, ok_eAnd, ok_eOr, ok_if, ok_cmp, ok_chain, ok_ofC, ok_oNone, ok_oSome, ok_sl, ok_met, ok_rev, ok_items, ok_lenSet, ok_pairs0, ok_pairs, ok_dict, ok_iSeq, ok_rng1, ok_rng2, ok_comp, ok_comp0, ok_for, List.getElem?_cons_zero, List.getElem?_cons_succ, Option.some.injEq, Sl.val.injEq, exists_eq_left', List.nil_append, List.append_nil, List.length_cons, List.length_nil, true_and, and_true, and_self, Nat.zero_add, Nat.reduceAdd, Nat.reduceLeDiff, gAdd_i, gSub_i, gNeg_i, gBl_e, gCmpI_i, gLst_o, gTup_o, gN_e, List.set_cons_zero, List.set_cons_succ, truD_b, gIsN_n, isNonD, gLen_l, gInt_b, gInt_i, Option.map_some, Bool.false_eq_true, if_true, if_false, Bool.not_true, Bool.not_false, keyD, walkD, es]
  refine one_ok g4 (by omega) (by simp) (by simp) fun x hx c5 g5 => q x c5 ?_ g5
  simp only [List.mem_cons, List.not_mem_nil, or_false] at hx
  rcases hx with rfl | rfl | rfl | rfl | rfl | rfl | rfl | rfl | rfl | rfl | rfl | rfl | rfl | rfl <;> rfl
theorem is_integer_eq {d : D} {c : Churn} (h : plainD d = true) : F_is_integer [d] c = .ok (.bl (isIntD d)) c := by
  cases d <;> first | (exfalso; simp [plainD, tyName] at h; done) | kernel_rfl
theorem own_integer_eq {d : D} {c : Churn} (h : plainD d = true) : F__law_own_integer [d] c = .ok (.bl (isIntD d)) c := by
  cases d <;> first | (exfalso; simp [plainD, tyName] at h; done) | kernel_rfl
/-- None or a number -/
def optD (d : D) : Bool := match d with | .non => true | .int _ => true | _ => false
def within (v lo hi : D) : Bool := match v with
  | .int i => (match lo with | .int a => decide (a ≤ i) | _ => true) && (match hi with | .int b => decide (i ≤ b) | _ => true)
  | _ => false
theorem is_within_ok {v lo hi : D} {c : Churn} {k : D → Churn → Prop} (h : plainD v = true) (h1 : optD lo = true) (h2 : optD hi = true) (q : k (.bl (within v lo hi)) c) : Ok (F_is_within [v, lo, hi] c) k := by
  show Ok (G.nx (runDef 3 g_is_within [v, lo, hi]) c) k
  rw [ok_def]
  show Ok (g_is_within [.val v, .val lo, .val hi] c) _
  unfold g_is_within
  simp only [ok_seq, ok_asg, ok_par, ok_ret, ok_retN, ok_sNil, ok_sIf, ok_bin, ok_un, ok_var, ok_C, ok_call, ok_callK, ok_cons, ok_nil, ok_args, ok_tru, ok_not, ok_and, ok_or, ok_eNot, ok_eAnd, ok_eOr, ok_if, ok_cmp, ok_chain, ok_ofC, ok_oNone, ok_oSome, ok_sl, ok_met, ok_rev, ok_items, ok_lenSet, ok_pairs0, ok_pairs, ok_dict, ok_iSeq, ok_rng1, ok_rng2, ok_comp, ok_comp0, ok_for, List.getElem?_cons_zero, List.getElem?_cons_succ, Option.some.injEq, Sl.val.injEq, exists_eq_left', List.nil_append, List.append_nil, List.length_cons, List.length_nil, true_and, and_true, and_self, Nat.zero_add, Nat.reduceAdd, Nat.reduceLeDiff, gAdd_i, gSub_i, gNeg_i, gBl_e, gCmpI_i, gLst_o, gTup_o, gN_e, List.set_cons_zero, List.set_cons_succ, truD_b, gIsN_n, isNonD, gLen_l, gInt_b, gInt_i, Option.map_some, Bool.false_eq_true, if_true, if_false, Bool.not_true, Bool.not_false, keyD, walkD]
  rw [ok_eq (is_integer_eq h)]
  simp only [ok_seq, ok_asg, ok_par, ok_ret, ok_retN, ok_sNil, ok_sIf, ok_bin, ok_un, ok_var, ok_C, ok_call, ok_callK, ok_cons, ok_nil, ok_args, ok_tru, ok_not, ok_and, ok_or, ok_eNot, ok_eAnd, ok_eOr, ok_if, ok_cmp, ok_chain, ok_ofC, ok_oNone, ok_oSome, ok_sl, ok_met, ok_rev, ok_items, ok_lenSet, ok_pairs0, ok_pairs, ok_dict, ok_iSeq, ok_rng1, ok_rng2, ok_comp, ok_comp0, ok_for, List.getElem?_cons_zero, List.getElem?_cons_succ, Option.some.injEq, Sl.val.injEq, exists_eq_left', List.nil_append, List.append_nil, List.length_cons, List.length_nil, true_and, and_true, and_self, Nat.zero_add, Nat.reduceAdd, Nat.reduceLeDiff, gAdd_i, gSub_i, gNeg_i, gBl_e, gCmpI_i, gLst_o, gTup_o, gN_e, List.set_cons_zero, List.set_cons_succ, truD_b, gIsN_n, isNonD, gLen_l, gInt_b, gInt_i, Option.map_some, Bool.false_eq_true, if_true, if_false, Bool.not_true, Bool.not_false, keyD, walkD]
  cases hv : isIntD v with
  | false =>
    simp only [ok_seq, ok_asg, ok_par, ok_ret, ok_retN, ok_sNil, ok_sIf, ok_bin, ok_un, ok_var, ok_C, ok_call, ok_callK, ok_cons, ok_nil, ok_args, ok_tru, ok_not, ok_and, ok_or, ok_eNot, ok_eAnd, ok_eOr, ok_if, ok_cmp, ok_chain, ok_ofC, ok_oNone, ok_oSome, ok_sl, ok_met, ok_rev, ok_items, ok_lenSet, ok_pairs0, ok_pairs, ok_dict, ok_iSeq, ok_rng1, ok_rng2, ok_comp, ok_comp0, ok_for, List.getElem?_cons_zero, List.getElem?_cons_succ, Option.some.injEq, Sl.val.injEq, exists_eq_left', List.nil_append, List.append_nil, List.length_cons, List.length_nil, true_and, and_true, and_self, Nat.zero_add, Nat.reduceAdd, Nat.reduceLeDiff, gAdd_i, gSub_i, gNeg_i, gBl_e, gCmpI_i, gLst_o, gTup_o, gN_e, List.set_cons_zero, List.set_cons_succ, truD_b, gIsN_n, isNonD, gLen_l, gInt_b, gInt_i, Option.map_some, Bool.false_eq_true, if_true, if_false, Bool.not_true, Bool.not_false, keyD, walkD]
    have e : within v lo hi = false := by cases v <;> first | rfl | cases hv
    rw [e] at q
    exact q
  | true =>
    simp only [ok_seq, ok_asg, ok_par, ok_ret, ok_retN, ok_sNil, ok_sIf, ok_bin, ok_un, ok_var, ok_C, ok_call, ok_callK, ok_cons, ok_nil, ok_args, ok_tru, ok_not, ok_and, ok_or, ok_eNot, ok_eAnd, ok_eOr, ok_if, ok_cmp, ok_chain, ok_ofC, ok_oNone, ok_oSome, ok_sl, ok_met, ok_rev, ok_items, ok_lenSet, ok_pairs0, ok_pairs, ok_dict, ok_iSeq, ok_rng1, ok_rng2, ok_comp, ok_comp0, ok_for, List.getElem?_cons_zero, List.getElem?_cons_succ, Option.some.injEq, Sl.val.injEq, exists_eq_left', List.nil_append, List.append_nil, List.length_cons, List.length_nil, true_and, and_true, and_self, Nat.zero_add, Nat.reduceAdd, Nat.reduceLeDiff, gAdd_i, gSub_i, gNeg_i, gBl_e, gCmpI_i, gLst_o, gTup_o, gN_e, List.set_cons_zero, List.set_cons_succ, truD_b, gIsN_n, isNonD, gLen_l, gInt_b, gInt_i, Option.map_some, Bool.false_eq_true, if_true, if_false, Bool.not_true, Bool.not_false, keyD, walkD]
    cases v <;> first | cases hv | skip
    rename_i i
    cases lo <;> first | cases h1 | skip
    · cases hi <;> first | cases h2 | skip
      · simp only [ok_seq, ok_asg, ok_par, ok_ret, ok_retN, ok_sNil, ok_sIf, ok_bin, ok_un, ok_var, ok_C, ok_call, ok_callK, ok_cons, ok_nil, ok_args, ok_tru, ok_not, ok_and, ok_or, ok_eNot, ok_eAnd, ok_eOr, ok_if, ok_cmp, ok_chain, ok_ofC, ok_oNone, ok_oSome, ok_sl, ok_met, ok_rev, ok_items, ok_lenSet, ok_pairs0, ok_pairs, ok_dict, ok_iSeq, ok_rng1, ok_rng2, ok_comp, ok_comp0, ok_for, List.getElem?_cons_zero, List.getElem?_cons_succ, Option.some.injEq, Sl.val.injEq, exists_eq_left', List.nil_append, List.append_nil, List.length_cons, List.length_nil, true_and, and_true, and_self, Nat.zero_add, Nat.reduceAdd, Nat.reduceLeDiff, gAdd_i, gSub_i, gNeg_i, gBl_e, gCmpI_i, gLst_o, gTup_o, gN_e, List.set_cons_zero, List.set_cons_succ, truD_b, gIsN_n, isNonD, gLen_l, gInt_b, gInt_i, Option.map_some, Bool.false_eq_true, if_true, if_false, Bool.not_true, Bool.not_false, keyD, walkD]; exact q
      · rename_i b
        simp only [ok_seq, ok_asg, ok_par, ok_ret, ok_retN, ok_sNil, ok_sIf, ok_bin, ok_un, ok_var, ok_C, ok_call, ok_callK, ok_cons, ok_nil, ok_args, ok_tru, ok_not, ok_and, ok_or, ok_eNot, ok_eAnd, ok_eOr, ok_if, ok_cmp, ok_chain, ok_ofC, ok_oNone, ok_oSome, ok_sl, ok_met, ok_rev, ok_items, ok_lenSet, ok_pairs0, ok_pairs, ok_dict, ok_iSeq, ok_rng1, ok_rng2, ok_comp, ok_comp0, ok_for, List.getElem?_cons_zero, List.getElem?_cons_succ, Option.some.injEq, Sl.val.injEq, exists_eq_left', List.nil_append, List.append_nil, List.length_cons, List.length_nil, true_and, and_true, and_self, Nat.zero_add, Nat.reduceAdd, Nat.reduceLeDiff, gAdd_i, gSub_i, gNeg_i, gBl_e, gCmpI_i, gLst_o, gTup_o, gN_e, List.set_cons_zero, List.set_cons_succ, truD_b, gIsN_n, isNonD, gLen_l, gInt_b, gInt_i, Option.map_some, Bool.false_eq_true, if_true, if_false, Bool.not_true, Bool.not_false, keyD, walkD]
        exact q
    · rename_i a
      simp only [ok_seq, ok_asg, ok_par, ok_ret, ok_retN, ok_sNil, ok_sIf, ok_bin, ok_un, ok_var, ok_C, ok_call, ok_callK, ok_cons, ok_nil, ok_args, ok_tru, ok_not, ok_and, ok_or, ok_eNot, ok_eAnd, ok_eOr, ok_if, ok_cmp, ok_chain, ok_ofC, ok_oNone, ok_oSome, ok_sl, ok_met, ok_rev, ok_items, ok_lenSet, ok_pairs0, ok_pairs, ok_dict, ok_iSeq, ok_rng1, ok_rng2, ok_comp, ok_comp0, ok_for, List.getElem?_cons_zero, List.getElem?_cons_succ, Option.some.injEq, Sl.val.injEq, exists_eq_left', List.nil_append, List.append_nil, List.length_cons, List.length_nil, true_and, and_true, and_self, Nat.zero_add, Nat.reduceAdd, Nat.reduceLeDiff, gAdd_i, gSub_i, gNeg_i, gBl_e, gCmpI_i, gLst_o, gTup_o, gN_e, List.set_cons_zero, List.set_cons_succ, truD_b, gIsN_n, isNonD, gLen_l, gInt_b, gInt_i, Option.map_some, Bool.false_eq_true, if_true, if_false, Bool.not_true, Bool.not_false, keyD, walkD]
      by_cases ha : a ≤ i
      · simp only [geI, ha, decide_true, ok_seq, ok_asg, ok_par, ok_ret, ok_retN, ok_sNil, ok_sIf, ok_bin, ok_un, ok_var, ok_C, ok_call, ok_callK, ok_cons, ok_nil, ok_args, ok_tru, ok_not, ok_and, ok_or, ok_eNot, ok_eAnd, ok_eOr, ok_if, ok_cmp, ok_chain, ok_ofC, ok_oNone, ok_oSome, ok_sl, ok_met, ok_rev, ok_items, ok_lenSet, ok_pairs0, ok_pairs, ok_dict, ok_iSeq, ok_rng1, ok_rng2, ok_comp, ok_comp0, ok_for, List.getElem?_cons_zero, List.getElem?_cons_succ, Option.some.injEq, Sl.val.injEq, exists_eq_left', List.nil_append, List.append_nil, List.length_cons, List.length_nil, true_and, and_true, and_self, Nat.zero_add, Nat.reduceAdd, Nat.reduceLeDiff, gAdd_i, gSub_i, gNeg_i, gBl_e, gCmpI_i, gLst_o, gTup_o, gN_e, List.set_cons_zero, List.set_cons_succ, truD_b, gIsN_n, isNonD, gLen_l, gInt_b, gInt_i, Option.map_some, Bool.false_eq_true, if_true, if_false, Bool.not_true, Bool.not_false, keyD, walkD]
        cases hi <;> first | cases h2 | skip
        · simp only [ok_seq, ok_asg, ok_par, ok_ret, ok_retN, ok_sNil, ok_sIf, ok_bin, ok_un, ok_var, ok_C, ok_call, ok_callK, ok_cons, ok_nil, ok_args, ok_tru, ok_not, ok_and, ok_or, ok_eNot, ok_eAnd, ok_eOr, ok_if, ok_cmp, ok_chain, ok_ofC, ok_oNone, ok_oSome, ok_sl, ok_met, ok_rev, ok_items, ok_lenSet, ok_pairs0, ok_pairs, ok_dict, ok_iSeq, ok_rng1, ok_rng2, ok_comp, ok_comp0, ok_for, List.getElem?_cons_zero, List.getElem?_cons_succ, Option.some.injEq, Sl.val.injEq, exists_eq_left', List.nil_append, List.append_nil, List.length_cons, List.length_nil, true_and, and_true, and_self, Nat.zero_add, Nat.reduceAdd, Nat.reduceLeDiff, gAdd_i, gSub_i, gNeg_i, gBl_e, gCmpI_i, gLst_o, gTup_o, gN_e, List.set_cons_zero, List.set_cons_succ, truD_b, gIsN_n, isNonD, gLen_l, gInt_b, gInt_i, Option.map_some, Bool.false_eq_true, if_true, if_false, Bool.not_true, Bool.not_false, keyD, walkD]; simpa [within, ha] using q
        · rename_i b
          simp only [ok_seq, ok_asg, ok_par, ok_ret, ok_retN, ok_sNil, ok_sIf, ok_bin, ok_un, ok_var, ok_C, ok_call, ok_callK, ok_cons, ok_nil, ok_args, ok_tru, ok_not, ok_and, ok_or, ok_eNot, ok_eAnd, ok_eOr, ok_if, ok_cmp, ok_chain, ok_ofC, ok_oNone, ok_oSome, ok_sl, ok_met, ok_rev, ok_items, ok_lenSet, ok_pairs0, ok_pairs, ok_dict, ok_iSeq, ok_rng1, ok_rng2, ok_comp, ok_comp0, ok_for, List.getElem?_cons_zero, List.getElem?_cons_succ, Option.some.injEq, Sl.val.injEq, exists_eq_left', List.nil_append, List.append_nil, List.length_cons, List.length_nil, true_and, and_true, and_self, Nat.zero_add, Nat.reduceAdd, Nat.reduceLeDiff, gAdd_i, gSub_i, gNeg_i, gBl_e, gCmpI_i, gLst_o, gTup_o, gN_e, List.set_cons_zero, List.set_cons_succ, truD_b, gIsN_n, isNonD, gLen_l, gInt_b, gInt_i, Option.map_some, Bool.false_eq_true, if_true, if_false, Bool.not_true, Bool.not_false, keyD, walkD]; simpa [within, ha, leI] using q
      · simp only [geI, ha, decide_false, ok_seq, ok_asg, ok_par, ok_ret, ok_retN, ok_sNil, ok_sIf, ok_bin, ok_un, ok_var, ok_C, ok_call, ok_callK, ok_cons, ok_nil, ok_args, ok_tru, ok_not, ok_and, ok_or, ok_eNot, ok_eAnd, ok_eOr, ok_if, ok_cmp, ok_chain, ok_ofC, ok_oNone, ok_oSome, ok_sl, ok_met, ok_rev, ok_items, ok_lenSet, ok_pairs0, ok_pairs, ok_dict, ok_iSeq, ok_rng1, ok_rng2, ok_comp, ok_comp0, ok_for, List.getElem?_cons_zero, List.getElem?_cons_succ, Option.some.injEq, Sl.val.injEq, exists_eq_left', List.nil_append, List.append_nil, List.length_cons, List.length_nil, true_and, and_true, and_self, Nat.zero_add, Nat.reduceAdd, Nat.reduceLeDiff, gAdd_i, gSub_i, gNeg_i, gBl_e, gCmpI_i, gLst_o, gTup_o, gN_e, List.set_cons_zero, List.set_cons_succ, truD_b, gIsN_n, isNonD, gLen_l, gInt_b, gInt_i, Option.map_some, Bool.false_eq_true, if_true, if_false, Bool.not_true, Bool.not_false, keyD, walkD]
        simpa [within, ha] using q
end G

set_option Elab.async false
set_option linter.all false
set_option maxRecDepth 100000
set_option maxHeartbeats 8000000
namespace G
open PySem PySem.Spec PyProof.Rows L2
theorem plain_int {d : D} : isIntD d = true → ∃ i, d = .int i := by
  intro h
  cases d with
  | int i => exact ⟨i, rfl⟩
  | _ => cases h
theorem isi_l {ds : List D} : gIsi [.lst ds, .tup [.ty "list", .ty "tuple"]] = some (.bl true) := by kernel_rfl
theorem isi_t {ds : List D} : gIsi [.tup ds, .tup [.ty "list", .ty "tuple"]] = some (.bl true) := by kernel_rfl
theorem isi_d {ks : List Key} {ds : List D} : gIsi [.dic ks ds, .tup [.ty "list", .ty "tuple"]] = some (.bl false) := by kernel_rfl
theorem isi_s {x : Str} : gIsi [.str x, .tup [.ty "list", .ty "tuple"]] = some (.bl false) := by kernel_rfl
theorem are_body {v : D} {ds : List D} {c : Churn} {k : D → Churn → Prop} (hi : gIsi [v, .tup [.ty "list", .ty "tuple"]] = some (.bl true)) (hw : walkD v = some ds) (hl : ds.length ≤ 1000) (hp : ∀ d ∈ ds, plainD d = true) (q : k (.bl (ds.all isIntD)) c) : Ok (F_are_integers [v] c) k := by
  show Ok (G.nx (runDef 2 g_are_integers [v]) c) k
  rw [ok_def]
  show Ok (g_are_integers [.val v, .no] c) _
  unfold g_are_integers
  simp only [ok_seq, ok_asg, ok_par, ok_ret, ok_retN, ok_sNil, ok_sIf, ok_bin, ok_un, ok_var, ok_C, ok_call, ok_callK, ok_cons, ok_nil, ok_args, ok_tru, ok_not, ok_and, ok_or, ok_eNot, ok_eAnd, ok_eOr, ok_if, ok_cmp, ok_chain, ok_ofC, ok_oNone, ok_oSome, ok_sl, ok_met, ok_rev, ok_items, ok_lenSet, ok_pairs0, ok_pairs, ok_dict, ok_iSeq, ok_rng1, ok_rng2, ok_comp, ok_comp0, ok_for, List.getElem?_cons_zero, List.getElem?_cons_succ, Option.some.injEq, Sl.val.injEq, exists_eq_left', List.nil_append, List.append_nil, List.length_cons, List.length_nil, true_and, and_true, and_self, Nat.zero_add, Nat.reduceAdd, Nat.reduceLeDiff, gAdd_i, gSub_i, gNeg_i, gBl_e, gCmpI_i, gLst_o, gTup_o, gN_e, List.set_cons_zero, List.set_cons_succ, truD_b, gIsN_n, isNonD, gLen_l, gInt_b, gInt_i, Option.map_some, Bool.false_eq_true, if_true, if_false, Bool.not_true, Bool.not_false, keyD, walkD, hi, hw]
  refine ⟨ds, hw, Nat.le_trans hl (show 1000 ≤ sizeLine by decide), ?_⟩

  refine comp_map (fun d => .bl (isIntD d)) (fun d hd c => ⟨[.val v, .val d], rfl, rfl, ?_⟩) ?_
  · show eCall 1 F_is_integer [] (aCons (eVar 1) aNil) [.val v, .val d] c = _
    exact is_integer_eq (hp d hd)
  · exact ⟨_, gAll_map ds, q⟩
theorem are_not {v : D} {c : Churn} {k : D → Churn → Prop} (hi : gIsi [v, .tup [.ty "list", .ty "tuple"]] = some (.bl false)) (q : k (.bl false) c) : Ok (F_are_integers [v] c) k := by
  show Ok (G.nx (runDef 2 g_are_integers [v]) c) k
  rw [ok_def]
  show Ok (g_are_integers [.val v, .no] c) _
  unfold g_are_integers
  simp only [ok_seq, ok_asg, ok_par, ok_ret, ok_retN, ok_sNil, ok_sIf, ok_bin, ok_un, ok_var, ok_C, ok_call, ok_callK, ok_cons, ok_nil, ok_args, ok_tru, ok_not, ok_and, ok_or, ok_eNot, ok_eAnd, ok_eOr, ok_if, ok_cmp, ok_chain, ok_ofC, ok_oNone, ok_oSome, ok_sl, ok_met, ok_rev, ok_items, ok_lenSet, ok_pairs0, ok_pairs, ok_dict, ok_iSeq, ok_rng1, ok_rng2, ok_comp, ok_comp0, ok_for, List.getElem?_cons_zero, List.getElem?_cons_succ, Option.some.injEq, Sl.val.injEq, exists_eq_left', List.nil_append, List.append_nil, List.length_cons, List.length_nil, true_and, and_true, and_self, Nat.zero_add, Nat.reduceAdd, Nat.reduceLeDiff, gAdd_i, gSub_i, gNeg_i, gBl_e, gCmpI_i, gLst_o, gTup_o, gN_e, List.set_cons_zero, List.set_cons_succ, truD_b, gIsN_n, isNonD, gLen_l, gInt_b, gInt_i, Option.map_some, Bool.false_eq_true, if_true, if_false, Bool.not_true, Bool.not_false, keyD, walkD, hi]
  exact q
/-- what a row may hold -/
def rowD (d : D) : Prop := plainD d = true ∧ okD d
def okRow {n : Nat} {c : Churn} {k : D → Churn → Prop} (g : Good n c) : Prop := True
theorem row_item {n : Nat} {c : Churn} {r : Int} {k : D → Churn → Prop} {x : D} (h : x = .int r ∨ x = .bl true ∨ x = .non ∨ x = .str "1" ∨ x = .lst [.int 1]) : rowD x := by
  rcases h with rfl | rfl | rfl | rfl | rfl
  · exact ⟨rfl, okD_int _⟩
  · exact ⟨rfl, okD_bl _⟩
  · exact ⟨rfl, okD_non⟩
  · exact ⟨rfl, .str "1", by simp only [toPy], by decide +kernel, Nat.zero_le _⟩
  · exact ⟨rfl, .list [.int 1], by simp [toPy, toPyA], by decide, by decide⟩
theorem range4 {r : Int} (h0 : 0 ≤ r) (h1 : r < 4) : (rangeD 0 r).length ≤ 4 := by
  unfold rangeD
  rw [List.length_map, List.length_range]
  omega
/-- one row and what is said of it: part of a turn -/
theorem filter_nil {ds : List D} : ((ds.filter fun d => !isIntD d).map fun d => d).isEmpty = ds.all isIntD := by
  rw [List.map_id']
  induction ds with
  | nil => rfl
  | cons d ds ih =>
    cases h : isIntD d with
    | true => rw [List.filter_cons_of_neg (by simp [h]), ih]; simp [h]
    | false => rw [List.filter_cons_of_pos (by simp [h])]; simp [h]
end G

set_option Elab.async false
set_option linter.all false
set_option maxRecDepth 100000
set_option maxHeartbeats 8000000
namespace G
open PySem PySem.Spec PyProof.Rows L2
def lts : Str := "abcdefghijklmnopqrstuvwxyz"
def dgs : Str := "0123456789"
def l36 : Str := "abcdefghijklmnopqrstuvwxyz0123456789"
def nmL (cs : List Nat) : Bool := cs.all (fun c => decide (c ∈ l36.cps.toList)) && decide (cs.length ≤ 9)
theorem eqX_i {neg : Bool} {i j : Int} : gEqX neg (.int i) (.int j) = some (if neg then !(i == j) else (i == j)) := by kernel_rfl
theorem ix_str {z : Str} {r : Int} (hz : z.cps.size ≤ 1000) (h0 : 0 ≤ r) (h1 : r < z.cps.toList.length) : ∃ ch ∈ z.cps.toList, gIx (.str z) (.int r) = some (.str ⟨#[ch]⟩) := by
  obtain ⟨i, rfl⟩ := Int.eq_ofNat_of_zero_le h0
  have hi : i < z.cps.toList.length := Int.ofNat_lt.mp h1
  refine ⟨z.cps.toList[i], List.getElem_mem hi, ?_⟩
  have e : ixN z.cps.toList.length (i : Int) = some i := by
    unfold ixN
    rw [if_pos h0, if_pos h1]
    simp
  have e2 : atI z.cps.toList (i : Int) = some z.cps.toList[i] := by
    unfold atI
    rw [e]
    simp [hi]
  have hl : z.length ≤ sizeLine := Nat.le_trans (show z.length ≤ 1000 from hz) (by decide)
  show (if z.length ≤ sizeLine then (atI z.cps.toList (i : Int)).map fun c => D.str ⟨#[c]⟩ else none) = _
  rw [if_pos hl, e2]
  rfl
theorem strA_signs : ∀ cs : List Nat, strA (cs.map fun c => D.str ⟨#[c]⟩) = some (cs.map fun c => (⟨#[c]⟩ : Str))
  | [] => rfl
  | c :: cs => by rw [List.map_cons]; unfold strA; rw [strA_signs cs]; rfl
theorem join_signs : ∀ cs : List Nat, Txt.join "" (cs.map fun c => (⟨#[c]⟩ : Str)) = ⟨⟨cs⟩⟩ := by
  intro cs
  have h : ∀ l : List Nat, (Str.join "" (l.map fun c => (⟨#[c]⟩ : Str))).cps.toList = l := by
    intro l
    have e := TL.tl_join "" (l.map fun c => (⟨#[c]⟩ : Str))
    have e2 : ∀ l : List Nat, TL.joinL [] ((l.map fun c => (⟨#[c]⟩ : Str)).map TL.tl) = l := by
      intro l
      induction l with
      | nil => rfl
      | cons a l ih =>
        cases l with
        | nil => rfl
        | cons b l => exact congrArg (a :: ·) ih
    exact e.trans (e2 l)
  rw [TL.join_eq]
  have := h cs
  cases hz : Str.join "" (cs.map fun c => (⟨#[c]⟩ : Str)) with
  | mk a =>
    rw [hz] at this
    cases a with
    | mk l => cases this; rfl
theorem sum_one : ∀ cs : List Nat, ((cs.map fun c => (⟨#[c]⟩ : Str)).map (·.length)).sum = cs.length
  | [] => rfl
  | c :: cs => by
    rw [List.map_cons, List.map_cons, List.sum_cons, sum_one cs, List.length_cons]
    show 1 + cs.length = _
    omega
theorem gJoin_signs {cs : List Nat} (h : cs.length ≤ 1000) : gJoin (.str "") [.lst (cs.map fun c => D.str ⟨#[c]⟩)] = some (.str ⟨⟨cs⟩⟩) := by
  show ((strA (cs.map fun c => D.str ⟨#[c]⟩)).bind fun ys => if (ys.map (·.length)).sum + ys.length * (("" : Str)).length ≤ 16777216 then some (D.str (Txt.join "" ys)) else none) = _
  rw [strA_signs]
  show (if ((cs.map fun c => (⟨#[c]⟩ : Str)).map (·.length)).sum + (cs.map fun c => (⟨#[c]⟩ : Str)).length * (("" : Str)).length ≤ 16777216 then some (D.str (Txt.join "" (cs.map fun c => (⟨#[c]⟩ : Str)))) else none) = _
  rw [sum_one, join_signs, if_pos]
  have : (("" : Str)).length = 0 := by decide
  rw [this]
  omega
theorem f2_signs {p : Nat → Prop} : ∀ {ds ys : List D}, F2 (fun _ y => ∃ ch, p ch ∧ y = .str ⟨#[ch]⟩) ds ys → ∃ cs : List Nat, ys = cs.map (fun c => D.str ⟨#[c]⟩) ∧ (∀ c ∈ cs, p c) ∧ cs.length = ds.length
  | _, _, .nil => ⟨[], rfl, by simp, rfl⟩
  | _, _, .cons ⟨ch, hp, e⟩ r => by
    obtain ⟨cs, e2, h2, h3⟩ := f2_signs r
    refine ⟨ch :: cs, by rw [e, e2]; rfl, fun c hc => (List.mem_cons.mp hc).elim (fun z => z ▸ hp) (h2 c), by simp [h3]⟩
theorem rangeD_len {r : Int} (h : 0 ≤ r) : ((rangeD 0 r).length : Int) = r := by
  unfold rangeD
  rw [List.length_map, List.length_range]
  omega
theorem name_go {n : Nat} {c : Churn} {k : D → Churn → Prop} (g : Good n c) (hn : n + 40 ≤ 2 ^ 20) (q : ∀ cs c', nmL cs = true → Good (n + 19) c' → k (.str ⟨⟨cs⟩⟩) c') : Ok (F__law_name [.chn] c) k := by
  show Ok (G.nx (runDef 4 g__law_name [.chn]) c) k
  rw [ok_def]
  show Ok (g__law_name [.val .chn, .no, .no, .no] c) _
  unfold g__law_name
  simp only [ok_seq, ok_asg, ok_par, ok_ret, ok_retN, ok_sNil, ok_sIf, ok_bin, ok_un, ok_var, ok_C, ok_call, ok_callK, ok_cons, ok_nil, ok_args, ok_tru, ok_not, ok_and, ok_or, ok_eNot, ok_eAnd, ok_eOr, ok_if, ok_cmp, ok_chain, ok_ofC, ok_oNone, ok_oSome, ok_sl, ok_met, ok_rev, ok_items, ok_lenSet, ok_pairs0, ok_pairs, ok_dict, ok_iSeq, ok_rng1, ok_rng2, ok_comp, ok_comp0, ok_for, List.getElem?_cons_zero, List.getElem?_cons_succ, Option.some.injEq, Sl.val.injEq, exists_eq_left', List.nil_append, List.append_nil, List.length_cons, List.length_nil, true_and, and_true, and_self, Nat.zero_add, Nat.reduceAdd, Nat.reduceLeDiff, gAdd_i, gSub_i, gNeg_i, gBl_e, gCmpI_i, gLst_o, gTup_o, gN_e, List.set_cons_zero, List.set_cons_succ, truD_b, gIsN_n, isNonD, gLen_l, gInt_b, gInt_i, Option.map_some, Bool.false_eq_true, if_true, if_false, Bool.not_true, Bool.not_false, keyD, walkD]
  refine one_ok g (by omega) (by simp) (by simp) fun x hx c1 g1 => ?_
  have hi : ∃ i : Int, x = .int i ∧ 0 ≤ i ∧ i ≤ 9 := by
    simp only [List.mem_cons, List.not_mem_nil, or_false] at hx
    rcases hx with rfl | rfl | rfl | rfl | rfl | rfl | rfl <;> exact ⟨_, rfl, by decide, by decide⟩
  obtain ⟨i, rfl, i0, i9⟩ := hi
  refine ⟨rfl, _, rng1_i i0 (by omega), ?_, ?_⟩
  · have := rangeD_len i0
    have : (rangeD 0 i).length ≤ 1000 := by omega
    exact Nat.le_trans this (by decide)
  have hlen := rangeD_len i0
  refine comp_draw (fun _ y => ∃ ch, ch ∈ l36.cps.toList ∧ y = .str ⟨#[ch]⟩) 2 (B := 2 ^ 20) (fun d hd => ⟨_, rfl, fun n c kk g hn q => ?_⟩) g1 (by omega) fun ys c2 rs g2 => ?_
  · unfold rangeD at hd
    obtain ⟨j, _, rfl⟩ := List.mem_map.mp hd
    have fin : ∀ (m : Int) (c : Churn), Good (n + 1) c → 1 ≤ m → m ≤ 36 → Ok (F__law_delve [.chn, .int m] c) fun y c2 => ∃ z, gIx (.str l36) y = some z ∧ kk z c2 := fun m c g m1 m2 => by
      refine delve_ok g (by omega) m1 (by omega) fun r c3 r0 r1 g3 => ?_
      obtain ⟨ch, hc, e⟩ := ix_str (z := l36) (r := r) (by decide) r0 (Int.lt_of_lt_of_le r1 (by
        have : ((l36.cps.toList.length : Nat) : Int) = 36 := by decide
        omega))
      exact ⟨_, e, q _ c3 ⟨ch, hc, rfl⟩ (g3.mono (by omega))⟩
    simp only [ok_seq, ok_asg, ok_par, ok_ret, ok_retN, ok_sNil, ok_sIf, ok_bin, ok_un, ok_var, ok_C, ok_call, ok_callK, ok_cons, ok_nil, ok_args, ok_tru, ok_not, ok_and, ok_or, ok_eNot, ok_eAnd, ok_eOr, ok_if, ok_cmp, ok_chain, ok_ofC, ok_oNone, ok_oSome, ok_sl, ok_met, ok_rev, ok_items, ok_lenSet, ok_pairs0, ok_pairs, ok_dict, ok_iSeq, ok_rng1, ok_rng2, ok_comp, ok_comp0, ok_for, List.getElem?_cons_zero, List.getElem?_cons_succ, Option.some.injEq, Sl.val.injEq, exists_eq_left', List.nil_append, List.append_nil, List.length_cons, List.length_nil, true_and, and_true, and_self, Nat.zero_add, Nat.reduceAdd, Nat.reduceLeDiff, gAdd_i, gSub_i, gNeg_i, gBl_e, gCmpI_i, gLst_o, gTup_o, gN_e, List.set_cons_zero, List.set_cons_succ, truD_b, gIsN_n, isNonD, gLen_l, gInt_b, gInt_i, Option.map_some, Bool.false_eq_true, if_true, if_false, Bool.not_true, Bool.not_false, keyD, walkD, wipeE, eqX_i]
    by_cases hz : ((0 : Int) + (j : Int) == 0) = true
    · rw [hz]
      simp only [ok_seq, ok_asg, ok_par, ok_ret, ok_retN, ok_sNil, ok_sIf, ok_bin, ok_un, ok_var, ok_C, ok_call, ok_callK, ok_cons, ok_nil, ok_args, ok_tru, ok_not, ok_and, ok_or, ok_eNot, ok_eAnd, ok_eOr, ok_if, ok_cmp, ok_chain, ok_ofC, ok_oNone, ok_oSome, ok_sl, ok_met, ok_rev, ok_items, ok_lenSet, ok_pairs0, ok_pairs, ok_dict, ok_iSeq, ok_rng1, ok_rng2, ok_comp, ok_comp0, ok_for, List.getElem?_cons_zero, List.getElem?_cons_succ, Option.some.injEq, Sl.val.injEq, exists_eq_left', List.nil_append, List.append_nil, List.length_cons, List.length_nil, true_and, and_true, and_self, Nat.zero_add, Nat.reduceAdd, Nat.reduceLeDiff, gAdd_i, gSub_i, gNeg_i, gBl_e, gCmpI_i, gLst_o, gTup_o, gN_e, List.set_cons_zero, List.set_cons_succ, truD_b, gIsN_n, isNonD, gLen_l, gInt_b, gInt_i, Option.map_some, Bool.false_eq_true, if_true, if_false, Bool.not_true, Bool.not_false, keyD, walkD]
      refine delve_ok g (by omega) (by decide) (by decide) fun r c3 r0 r1 g3 => ?_
      simp only [ok_seq, ok_asg, ok_par, ok_ret, ok_retN, ok_sNil, ok_sIf, ok_bin, ok_un, ok_var, ok_C, ok_call, ok_callK, ok_cons, ok_nil, ok_args, ok_tru, ok_not, ok_and, ok_or, ok_eNot, ok_eAnd, ok_eOr, ok_if, ok_cmp, ok_chain, ok_ofC, ok_oNone, ok_oSome, ok_sl, ok_met, ok_rev, ok_items, ok_lenSet, ok_pairs0, ok_pairs, ok_dict, ok_iSeq, ok_rng1, ok_rng2, ok_comp, ok_comp0, ok_for, List.getElem?_cons_zero, List.getElem?_cons_succ, Option.some.injEq, Sl.val.injEq, exists_eq_left', List.nil_append, List.append_nil, List.length_cons, List.length_nil, true_and, and_true, and_self, Nat.zero_add, Nat.reduceAdd, Nat.reduceLeDiff, gAdd_i, gSub_i, gNeg_i, gBl_e, gCmpI_i, gLst_o, gTup_o, gN_e, List.set_cons_zero, List.set_cons_succ, truD_b, gIsN_n, isNonD, gLen_l, gInt_b, gInt_i, Option.map_some, Bool.false_eq_true, if_true, if_false, Bool.not_true, Bool.not_false, keyD, walkD]
      by_cases hr : gtI r 0 = true
      · simp only [hr, ok_seq, ok_asg, ok_par, ok_ret, ok_retN, ok_sNil, ok_sIf, ok_bin, ok_un, ok_var, ok_C, ok_call, ok_callK, ok_cons, ok_nil, ok_args, ok_tru, ok_not, ok_and, ok_or, ok_eNot, ok_eAnd, ok_eOr, ok_if, ok_cmp, ok_chain, ok_ofC, ok_oNone, ok_oSome, ok_sl, ok_met, ok_rev, ok_items, ok_lenSet, ok_pairs0, ok_pairs, ok_dict, ok_iSeq, ok_rng1, ok_rng2, ok_comp, ok_comp0, ok_for, List.getElem?_cons_zero, List.getElem?_cons_succ, Option.some.injEq, Sl.val.injEq, exists_eq_left', List.nil_append, List.append_nil, List.length_cons, List.length_nil, true_and, and_true, and_self, Nat.zero_add, Nat.reduceAdd, Nat.reduceLeDiff, gAdd_i, gSub_i, gNeg_i, gBl_e, gCmpI_i, gLst_o, gTup_o, gN_e, List.set_cons_zero, List.set_cons_succ, truD_b, gIsN_n, isNonD, gLen_l, gInt_b, gInt_i, Option.map_some, Bool.false_eq_true, if_true, if_false, Bool.not_true, Bool.not_false, keyD, walkD]
        exact fin 26 c3 g3 (by decide) (by decide)
      · simp only [hr, ok_seq, ok_asg, ok_par, ok_ret, ok_retN, ok_sNil, ok_sIf, ok_bin, ok_un, ok_var, ok_C, ok_call, ok_callK, ok_cons, ok_nil, ok_args, ok_tru, ok_not, ok_and, ok_or, ok_eNot, ok_eAnd, ok_eOr, ok_if, ok_cmp, ok_chain, ok_ofC, ok_oNone, ok_oSome, ok_sl, ok_met, ok_rev, ok_items, ok_lenSet, ok_pairs0, ok_pairs, ok_dict, ok_iSeq, ok_rng1, ok_rng2, ok_comp, ok_comp0, ok_for, List.getElem?_cons_zero, List.getElem?_cons_succ, Option.some.injEq, Sl.val.injEq, exists_eq_left', List.nil_append, List.append_nil, List.length_cons, List.length_nil, true_and, and_true, and_self, Nat.zero_add, Nat.reduceAdd, Nat.reduceLeDiff, gAdd_i, gSub_i, gNeg_i, gBl_e, gCmpI_i, gLst_o, gTup_o, gN_e, List.set_cons_zero, List.set_cons_succ, truD_b, gIsN_n, isNonD, gLen_l, gInt_b, gInt_i, Option.map_some, Bool.false_eq_true, if_true, if_false, Bool.not_true, Bool.not_false, keyD, walkD]
        exact fin 36 c3 g3 (by decide) (by decide)
    · simp only [hz, ok_seq, ok_asg, ok_par, ok_ret, ok_retN, ok_sNil, ok_sIf, ok_bin, ok_un, ok_var, ok_C, ok_call, ok_callK, ok_cons, ok_nil, ok_args, ok_tru, ok_not, ok_and, ok_or, ok_eNot, ok_eAnd, ok_eOr, ok_if, ok_cmp, ok_chain, ok_ofC, ok_oNone, ok_oSome, ok_sl, ok_met, ok_rev, ok_items, ok_lenSet, ok_pairs0, ok_pairs, ok_dict, ok_iSeq, ok_rng1, ok_rng2, ok_comp, ok_comp0, ok_for, List.getElem?_cons_zero, List.getElem?_cons_succ, Option.some.injEq, Sl.val.injEq, exists_eq_left', List.nil_append, List.append_nil, List.length_cons, List.length_nil, true_and, and_true, and_self, Nat.zero_add, Nat.reduceAdd, Nat.reduceLeDiff, gAdd_i, gSub_i, gNeg_i, gBl_e, gCmpI_i, gLst_o, gTup_o, gN_e, List.set_cons_zero, List.set_cons_succ, truD_b, gIsN_n, isNonD, gLen_l, gInt_b, gInt_i, Option.map_some, Bool.false_eq_true, if_true, if_false, Bool.not_true, Bool.not_false, keyD, walkD]
      exact fin 36 c (g.mono (by omega)) (by decide) (by decide)
  · obtain ⟨cs, rfl, h1, h2⟩ := f2_signs rs
    have : cs.length ≤ 9 := by omega
    refine ⟨_, gJoin_signs (by omega), q cs c2 ?_ (g2.mono (by omega))⟩
    unfold nmL
    rw [decide_eq_true this, Bool.and_true, List.all_eq_true]
    exact fun c hc => decide_eq_true (h1 c hc)
end G

set_option Elab.async false
set_option linter.all false
set_option maxRecDepth 100000
set_option maxHeartbeats 8000000
namespace G
open PySem PySem.Spec PyProof.Rows L2

def wIn (s : Str) : Bool := inV (V.str s) [.str "and", .str "or", .str "not", .str "all", .str "some", .str "many", .str "endless", .str "yes", .str "no"]
def inL (a : Nat) : Bool := decide (a ∈ (("abcdefghijklmnopqrstuvwxyz" : Str)).cps.toList)
def inG (a : Nat) : Bool := decide (a ∈ (("0123456789" : Str)).cps.toList)
def headIn (p : Nat → Bool) : List Nat → Bool
  | [] => false
  | a :: _ => p a
theorem headIn_c {p : Nat → Bool} {a : Nat} {cs : List Nat} : headIn p (a :: cs) = p a := rfl
def isNm (cs : List Nat) : Bool := decide (1 ≤ cs.length) && (decide (cs.length ≤ 8) && (!wIn (sx cs) && (headIn inL cs && cs.all fun a => inL a || inG a)))
def lawNm (cs : List Nat) : Bool := !wIn (sx cs) && (decide (1 ≤ cs.length) && (decide (cs.length ≤ 8) && headIn (fun a => !inG a) cs))
theorem gLen_s {cs : List Nat} (h : cs.length ≤ 1000) : gLen [.str (sx cs)] = some (.int cs.length) := if_pos (Nat.le_trans (show (sx cs).length ≤ 1000 from h) (by decide))
theorem inW {s : Str} : gInF false (.str s) (.tup [.str "and", .str "or", .str "not", .str "all", .str "some", .str "many", .str "endless", .str "yes", .str "no"]) = some (wIn s) := rfl
theorem isi_ss {s : Str} : gIsi [.str s, .ty "str"] = some (.bl true) := by kernel_rfl
theorem inS_e {a : Nat} {z : Str} : gInS false (.str ⟨#[a]⟩) (.str z) = some (decide (a ∈ z.cps.toList)) := rfl
theorem notInS_e {a : Nat} {z : Str} : gInS true (.str ⟨#[a]⟩) (.str z) = some (!decide (a ∈ z.cps.toList)) := rfl
theorem ix_head {a : Nat} {cs : List Nat} (h : (a :: cs).length ≤ 1000) : gIx (.str (sx (a :: cs))) (.int 0) = some (.str ⟨#[a]⟩) := by
  have hl : (sx (a :: cs)).length ≤ sizeLine := Nat.le_trans (show (sx (a :: cs)).length ≤ 1000 from h) (by decide)
  have e : atI (a :: cs) (0 : Int) = some a := by
    unfold atI ixN
    rw [if_pos (by decide), if_pos (by simp)]
    rfl
  show (if (sx (a :: cs)).length ≤ sizeLine then (atI (a :: cs) (0 : Int)).map fun c => D.str ⟨#[c]⟩ else none) = _
  rw [if_pos hl, e]
  rfl
theorem is_name_ok {cs : List Nat} {c : Churn} {k : D → Churn → Prop} (hl : cs.length ≤ 1000) (q : k (.bl (isNm cs)) c) : Ok (F_is_name [.str (sx cs)] c) k := by
  show Ok (G.nx (runDef 2 g_is_name [.str (sx cs)]) c) k
  rw [ok_def]
  show Ok (g_is_name [.val (.str (sx cs)), .no] c) _
  unfold g_is_name
  simp only [ok_seq, ok_asg, ok_par, ok_ret, ok_retN, ok_sNil, ok_sIf, ok_bin, ok_un, ok_var, ok_C, ok_call, ok_callK, ok_cons, ok_nil, ok_args, ok_tru, ok_not, ok_and, ok_or, ok_eNot, ok_eAnd, ok_eOr, ok_if, ok_cmp, ok_chain, ok_ofC, ok_oNone, ok_oSome, ok_sl, ok_met, ok_rev, ok_items, ok_lenSet, ok_pairs0, ok_pairs, ok_dict, ok_iSeq, ok_rng1, ok_rng2, ok_comp, ok_comp0, ok_for, List.getElem?_cons_zero, List.getElem?_cons_succ, Option.some.injEq, Sl.val.injEq, exists_eq_left', List.nil_append, List.append_nil, List.length_cons, List.length_nil, true_and, and_true, and_self, Nat.zero_add, Nat.reduceAdd, Nat.reduceLeDiff, gAdd_i, gSub_i, gNeg_i, gBl_e, gCmpI_i, gLst_o, gTup_o, gN_e, List.set_cons_zero, List.set_cons_succ, truD_b, gIsN_n, isNonD, gLen_l, gInt_b, gInt_i, Option.map_some, Bool.false_eq_true, if_true, if_false, Bool.not_true, Bool.not_false, keyD, walkD, isi_ss, gLen_s hl]
  cases cs with
  | nil =>
    simp only [leI, List.length_nil, ok_seq, ok_asg, ok_par, ok_ret, ok_retN, ok_sNil, ok_sIf, ok_bin, ok_un, ok_var, ok_C, ok_call, ok_callK, ok_cons, ok_nil, ok_args, ok_tru, ok_not, ok_and, ok_or, ok_eNot, ok_eAnd, ok_eOr, ok_if, ok_cmp, ok_chain, ok_ofC, ok_oNone, ok_oSome, ok_sl, ok_met, ok_rev, ok_items, ok_lenSet, ok_pairs0, ok_pairs, ok_dict, ok_iSeq, ok_rng1, ok_rng2, ok_comp, ok_comp0, ok_for, List.getElem?_cons_zero, List.getElem?_cons_succ, Option.some.injEq, Sl.val.injEq, exists_eq_left', List.nil_append, List.append_nil, List.length_cons, List.length_nil, true_and, and_true, and_self, Nat.zero_add, Nat.reduceAdd, Nat.reduceLeDiff, gAdd_i, gSub_i, gNeg_i, gBl_e, gCmpI_i, gLst_o, gTup_o, gN_e, List.set_cons_zero, List.set_cons_succ, truD_b, gIsN_n, isNonD, gLen_l, gInt_b, gInt_i, Option.map_some, Bool.false_eq_true, if_true, if_false, Bool.not_true, Bool.not_false, keyD, walkD]
    exact q
  | cons a cs =>
    have h1 : leI 1 ((a :: cs).length : Int) = true := decide_eq_true (by simp; omega)
    simp only [List.length_cons] at h1
    simp only [h1, ok_seq, ok_asg, ok_par, ok_ret, ok_retN, ok_sNil, ok_sIf, ok_bin, ok_un, ok_var, ok_C, ok_call, ok_callK, ok_cons, ok_nil, ok_args, ok_tru, ok_not, ok_and, ok_or, ok_eNot, ok_eAnd, ok_eOr, ok_if, ok_cmp, ok_chain, ok_ofC, ok_oNone, ok_oSome, ok_sl, ok_met, ok_rev, ok_items, ok_lenSet, ok_pairs0, ok_pairs, ok_dict, ok_iSeq, ok_rng1, ok_rng2, ok_comp, ok_comp0, ok_for, List.getElem?_cons_zero, List.getElem?_cons_succ, Option.some.injEq, Sl.val.injEq, exists_eq_left', List.nil_append, List.append_nil, List.length_cons, List.length_nil, true_and, and_true, and_self, Nat.zero_add, Nat.reduceAdd, Nat.reduceLeDiff, gAdd_i, gSub_i, gNeg_i, gBl_e, gCmpI_i, gLst_o, gTup_o, gN_e, List.set_cons_zero, List.set_cons_succ, truD_b, gIsN_n, isNonD, gLen_l, gInt_b, gInt_i, Option.map_some, Bool.false_eq_true, if_true, if_false, Bool.not_true, Bool.not_false, keyD, walkD]
    by_cases h8 : leI ((cs.length + 1 : Nat) : Int) 8 = true
    · simp only [h8, ok_seq, ok_asg, ok_par, ok_ret, ok_retN, ok_sNil, ok_sIf, ok_bin, ok_un, ok_var, ok_C, ok_call, ok_callK, ok_cons, ok_nil, ok_args, ok_tru, ok_not, ok_and, ok_or, ok_eNot, ok_eAnd, ok_eOr, ok_if, ok_cmp, ok_chain, ok_ofC, ok_oNone, ok_oSome, ok_sl, ok_met, ok_rev, ok_items, ok_lenSet, ok_pairs0, ok_pairs, ok_dict, ok_iSeq, ok_rng1, ok_rng2, ok_comp, ok_comp0, ok_for, List.getElem?_cons_zero, List.getElem?_cons_succ, Option.some.injEq, Sl.val.injEq, exists_eq_left', List.nil_append, List.append_nil, List.length_cons, List.length_nil, true_and, and_true, and_self, Nat.zero_add, Nat.reduceAdd, Nat.reduceLeDiff, gAdd_i, gSub_i, gNeg_i, gBl_e, gCmpI_i, gLst_o, gTup_o, gN_e, List.set_cons_zero, List.set_cons_succ, truD_b, gIsN_n, isNonD, gLen_l, gInt_b, gInt_i, Option.map_some, Bool.false_eq_true, if_true, if_false, Bool.not_true, Bool.not_false, keyD, walkD, inW]
      have h8' : (a :: cs).length ≤ 8 := by
        have := of_decide_eq_true h8
        simp only [List.length_cons]; omega
      cases hw : wIn (sx (a :: cs)) with
      | true =>
        simp only [ok_seq, ok_asg, ok_par, ok_ret, ok_retN, ok_sNil, ok_sIf, ok_bin, ok_un, ok_var, ok_C, ok_call, ok_callK, ok_cons, ok_nil, ok_args, ok_tru, ok_not, ok_and, ok_or, ok_eNot, ok_eAnd, ok_eOr, ok_if, ok_cmp, ok_chain, ok_ofC, ok_oNone, ok_oSome, ok_sl, ok_met, ok_rev, ok_items, ok_lenSet, ok_pairs0, ok_pairs, ok_dict, ok_iSeq, ok_rng1, ok_rng2, ok_comp, ok_comp0, ok_for, List.getElem?_cons_zero, List.getElem?_cons_succ, Option.some.injEq, Sl.val.injEq, exists_eq_left', List.nil_append, List.append_nil, List.length_cons, List.length_nil, true_and, and_true, and_self, Nat.zero_add, Nat.reduceAdd, Nat.reduceLeDiff, gAdd_i, gSub_i, gNeg_i, gBl_e, gCmpI_i, gLst_o, gTup_o, gN_e, List.set_cons_zero, List.set_cons_succ, truD_b, gIsN_n, isNonD, gLen_l, gInt_b, gInt_i, Option.map_some, Bool.false_eq_true, if_true, if_false, Bool.not_true, Bool.not_false, keyD, walkD]
        have : isNm (a :: cs) = false := by unfold isNm; rw [hw]; simp
        rw [this] at q
        exact q
      | false =>
        simp only [ok_seq, ok_asg, ok_par, ok_ret, ok_retN, ok_sNil, ok_sIf, ok_bin, ok_un, ok_var, ok_C, ok_call, ok_callK, ok_cons, ok_nil, ok_args, ok_tru, ok_not, ok_and, ok_or, ok_eNot, ok_eAnd, ok_eOr, ok_if, ok_cmp, ok_chain, ok_ofC, ok_oNone, ok_oSome, ok_sl, ok_met, ok_rev, ok_items, ok_lenSet, ok_pairs0, ok_pairs, ok_dict, ok_iSeq, ok_rng1, ok_rng2, ok_comp, ok_comp0, ok_for, List.getElem?_cons_zero, List.getElem?_cons_succ, Option.some.injEq, Sl.val.injEq, exists_eq_left', List.nil_append, List.append_nil, List.length_cons, List.length_nil, true_and, and_true, and_self, Nat.zero_add, Nat.reduceAdd, Nat.reduceLeDiff, gAdd_i, gSub_i, gNeg_i, gBl_e, gCmpI_i, gLst_o, gTup_o, gN_e, List.set_cons_zero, List.set_cons_succ, truD_b, gIsN_n, isNonD, gLen_l, gInt_b, gInt_i, Option.map_some, Bool.false_eq_true, if_true, if_false, Bool.not_true, Bool.not_false, keyD, walkD, ix_head hl, inS_e]
        cases ha : inL a with
        | false =>
          have ha' : decide (a ∈ (("abcdefghijklmnopqrstuvwxyz" : Str)).cps.toList) = false := ha
          simp only [ha', ok_seq, ok_asg, ok_par, ok_ret, ok_retN, ok_sNil, ok_sIf, ok_bin, ok_un, ok_var, ok_C, ok_call, ok_callK, ok_cons, ok_nil, ok_args, ok_tru, ok_not, ok_and, ok_or, ok_eNot, ok_eAnd, ok_eOr, ok_if, ok_cmp, ok_chain, ok_ofC, ok_oNone, ok_oSome, ok_sl, ok_met, ok_rev, ok_items, ok_lenSet, ok_pairs0, ok_pairs, ok_dict, ok_iSeq, ok_rng1, ok_rng2, ok_comp, ok_comp0, ok_for, List.getElem?_cons_zero, List.getElem?_cons_succ, Option.some.injEq, Sl.val.injEq, exists_eq_left', List.nil_append, List.append_nil, List.length_cons, List.length_nil, true_and, and_true, and_self, Nat.zero_add, Nat.reduceAdd, Nat.reduceLeDiff, gAdd_i, gSub_i, gNeg_i, gBl_e, gCmpI_i, gLst_o, gTup_o, gN_e, List.set_cons_zero, List.set_cons_succ, truD_b, gIsN_n, isNonD, gLen_l, gInt_b, gInt_i, Option.map_some, Bool.false_eq_true, if_true, if_false, Bool.not_true, Bool.not_false, keyD, walkD]
          have : isNm (a :: cs) = false := by unfold isNm; rw [headIn_c, ha]; simp
          rw [this] at q
          exact q
        | true =>
          have ha' : decide (a ∈ (("abcdefghijklmnopqrstuvwxyz" : Str)).cps.toList) = true := ha
          simp only [ha', ok_seq, ok_asg, ok_par, ok_ret, ok_retN, ok_sNil, ok_sIf, ok_bin, ok_un, ok_var, ok_C, ok_call, ok_callK, ok_cons, ok_nil, ok_args, ok_tru, ok_not, ok_and, ok_or, ok_eNot, ok_eAnd, ok_eOr, ok_if, ok_cmp, ok_chain, ok_ofC, ok_oNone, ok_oSome, ok_sl, ok_met, ok_rev, ok_items, ok_lenSet, ok_pairs0, ok_pairs, ok_dict, ok_iSeq, ok_rng1, ok_rng2, ok_comp, ok_comp0, ok_for, List.getElem?_cons_zero, List.getElem?_cons_succ, Option.some.injEq, Sl.val.injEq, exists_eq_left', List.nil_append, List.append_nil, List.length_cons, List.length_nil, true_and, and_true, and_self, Nat.zero_add, Nat.reduceAdd, Nat.reduceLeDiff, gAdd_i, gSub_i, gNeg_i, gBl_e, gCmpI_i, gLst_o, gTup_o, gN_e, List.set_cons_zero, List.set_cons_succ, truD_b, gIsN_n, isNonD, gLen_l, gInt_b, gInt_i, Option.map_some, Bool.false_eq_true, if_true, if_false, Bool.not_true, Bool.not_false, keyD, walkD]
          refine ⟨?_, ?_⟩
          · have : (signsD (sx (a :: cs))).length ≤ 1000 := by unfold signsD; simpa using hl
            exact Nat.le_trans this (by decide)
          · refine comp_map (fun d => .bl (match d with | .str z => (match sign? z with | some b => inL b || inG b | none => false) | _ => false)) (fun d hd c => ⟨[.val (.str (sx (a :: cs))), .val d], rfl, rfl, ?_⟩) ?_
            · unfold signsD at hd
              obtain ⟨b, _, rfl⟩ := List.mem_map.mp hd
              have : Ok (eOr (eBin (gBl (gInS false)) (eVar 1) (eC (.str "abcdefghijklmnopqrstuvwxyz"))) (eBin (gBl (gInS false)) (eVar 1) (eC (.str "0123456789"))) [.val (.str (sx (a :: cs))), .val (.str ⟨#[b]⟩)] c) fun d c' => d = .bl (inL b || inG b) ∧ c' = c := by
                simp only [ok_seq, ok_asg, ok_par, ok_ret, ok_retN, ok_sNil, ok_sIf, ok_bin, ok_un, ok_var, ok_C, ok_call, ok_callK, ok_cons, ok_nil, ok_args, ok_tru, ok_not, ok_and, ok_or, ok_eNot, ok_eAnd, ok_eOr, ok_if, ok_cmp, ok_chain, ok_ofC, ok_oNone, ok_oSome, ok_sl, ok_met, ok_rev, ok_items, ok_lenSet, ok_pairs0, ok_pairs, ok_dict, ok_iSeq, ok_rng1, ok_rng2, ok_comp, ok_comp0, ok_for, List.getElem?_cons_zero, List.getElem?_cons_succ, Option.some.injEq, Sl.val.injEq, exists_eq_left', List.nil_append, List.append_nil, List.length_cons, List.length_nil, true_and, and_true, and_self, Nat.zero_add, Nat.reduceAdd, Nat.reduceLeDiff, gAdd_i, gSub_i, gNeg_i, gBl_e, gCmpI_i, gLst_o, gTup_o, gN_e, List.set_cons_zero, List.set_cons_succ, truD_b, gIsN_n, isNonD, gLen_l, gInt_b, gInt_i, Option.map_some, Bool.false_eq_true, if_true, if_false, Bool.not_true, Bool.not_false, keyD, walkD, inS_e]
                cases hb : inL b with
                | true =>
                  have hb' : decide (b ∈ (("abcdefghijklmnopqrstuvwxyz" : Str)).cps.toList) = true := hb
                  simp only [hb', ok_seq, ok_asg, ok_par, ok_ret, ok_retN, ok_sNil, ok_sIf, ok_bin, ok_un, ok_var, ok_C, ok_call, ok_callK, ok_cons, ok_nil, ok_args, ok_tru, ok_not, ok_and, ok_or, ok_eNot, ok_eAnd, ok_eOr, ok_if, ok_cmp, ok_chain, ok_ofC, ok_oNone, ok_oSome, ok_sl, ok_met, ok_rev, ok_items, ok_lenSet, ok_pairs0, ok_pairs, ok_dict, ok_iSeq, ok_rng1, ok_rng2, ok_comp, ok_comp0, ok_for, List.getElem?_cons_zero, List.getElem?_cons_succ, Option.some.injEq, Sl.val.injEq, exists_eq_left', List.nil_append, List.append_nil, List.length_cons, List.length_nil, true_and, and_true, and_self, Nat.zero_add, Nat.reduceAdd, Nat.reduceLeDiff, gAdd_i, gSub_i, gNeg_i, gBl_e, gCmpI_i, gLst_o, gTup_o, gN_e, List.set_cons_zero, List.set_cons_succ, truD_b, gIsN_n, isNonD, gLen_l, gInt_b, gInt_i, Option.map_some, Bool.false_eq_true, if_true, if_false, Bool.not_true, Bool.not_false, keyD, walkD, Bool.true_or]
                | false =>
                  have hb' : decide (b ∈ (("abcdefghijklmnopqrstuvwxyz" : Str)).cps.toList) = false := hb
                  simp only [hb', ok_seq, ok_asg, ok_par, ok_ret, ok_retN, ok_sNil, ok_sIf, ok_bin, ok_un, ok_var, ok_C, ok_call, ok_callK, ok_cons, ok_nil, ok_args, ok_tru, ok_not, ok_and, ok_or, ok_eNot, ok_eAnd, ok_eOr, ok_if, ok_cmp, ok_chain, ok_ofC, ok_oNone, ok_oSome, ok_sl, ok_met, ok_rev, ok_items, ok_lenSet, ok_pairs0, ok_pairs, ok_dict, ok_iSeq, ok_rng1, ok_rng2, ok_comp, ok_comp0, ok_for, List.getElem?_cons_zero, List.getElem?_cons_succ, Option.some.injEq, Sl.val.injEq, exists_eq_left', List.nil_append, List.append_nil, List.length_cons, List.length_nil, true_and, and_true, and_self, Nat.zero_add, Nat.reduceAdd, Nat.reduceLeDiff, gAdd_i, gSub_i, gNeg_i, gBl_e, gCmpI_i, gLst_o, gTup_o, gN_e, List.set_cons_zero, List.set_cons_succ, truD_b, gIsN_n, isNonD, gLen_l, gInt_b, gInt_i, Option.map_some, Bool.false_eq_true, if_true, if_false, Bool.not_true, Bool.not_false, keyD, walkD, Bool.false_or]
                  rfl
              obtain ⟨d, c', e, rfl, rfl⟩ := this.ex
              exact e
            · refine ⟨_, gAll_map _, ?_⟩
              have : isNm (a :: cs) = (signsD (sx (a :: cs))).all (fun d => match d with | .str z => (match sign? z with | some b => inL b || inG b | none => false) | _ => false) := by
                unfold isNm signsD
                rw [headIn_c, hw, ha, List.all_map, decide_eq_true h8']
                have h1 : decide (1 ≤ (a :: cs).length) = true := decide_eq_true (by simp)
                rw [h1]
                simp only [Bool.true_and, Bool.not_false]
                rfl
              rw [← this]
              exact q
    · simp only [h8, ok_seq, ok_asg, ok_par, ok_ret, ok_retN, ok_sNil, ok_sIf, ok_bin, ok_un, ok_var, ok_C, ok_call, ok_callK, ok_cons, ok_nil, ok_args, ok_tru, ok_not, ok_and, ok_or, ok_eNot, ok_eAnd, ok_eOr, ok_if, ok_cmp, ok_chain, ok_ofC, ok_oNone, ok_oSome, ok_sl, ok_met, ok_rev, ok_items, ok_lenSet, ok_pairs0, ok_pairs, ok_dict, ok_iSeq, ok_rng1, ok_rng2, ok_comp, ok_comp0, ok_for, List.getElem?_cons_zero, List.getElem?_cons_succ, Option.some.injEq, Sl.val.injEq, exists_eq_left', List.nil_append, List.append_nil, List.length_cons, List.length_nil, true_and, and_true, and_self, Nat.zero_add, Nat.reduceAdd, Nat.reduceLeDiff, gAdd_i, gSub_i, gNeg_i, gBl_e, gCmpI_i, gLst_o, gTup_o, gN_e, List.set_cons_zero, List.set_cons_succ, truD_b, gIsN_n, isNonD, gLen_l, gInt_b, gInt_i, Option.map_some, Bool.false_eq_true, if_true, if_false, Bool.not_true, Bool.not_false, keyD, walkD]
      have : isNm (a :: cs) = false := by
        have h : ¬ (a :: cs).length ≤ 8 := fun z => h8 (decide_eq_true (by simp only [List.length_cons] at z; omega))
        unfold isNm
        rw [decide_eq_false h]
        simp
      rw [this] at q
      exact q
theorem law_is_name_ok {cs : List Nat} {c : Churn} {k : D → Churn → Prop} (hl : cs.length ≤ 1000) (q : k (.bl (lawNm cs)) c) : Ok (F__law_is_name [.str (sx cs)] c) k := by
  show Ok (G.nx (runDef 1 g__law_is_name [.str (sx cs)]) c) k
  rw [ok_def]
  show Ok (g__law_is_name [.val (.str (sx cs))] c) _
  unfold g__law_is_name
  simp only [ok_seq, ok_asg, ok_par, ok_ret, ok_retN, ok_sNil, ok_sIf, ok_bin, ok_un, ok_var, ok_C, ok_call, ok_callK, ok_cons, ok_nil, ok_args, ok_tru, ok_not, ok_and, ok_or, ok_eNot, ok_eAnd, ok_eOr, ok_if, ok_cmp, ok_chain, ok_ofC, ok_oNone, ok_oSome, ok_sl, ok_met, ok_rev, ok_items, ok_lenSet, ok_pairs0, ok_pairs, ok_dict, ok_iSeq, ok_rng1, ok_rng2, ok_comp, ok_comp0, ok_for, List.getElem?_cons_zero, List.getElem?_cons_succ, Option.some.injEq, Sl.val.injEq, exists_eq_left', List.nil_append, List.append_nil, List.length_cons, List.length_nil, true_and, and_true, and_self, Nat.zero_add, Nat.reduceAdd, Nat.reduceLeDiff, gAdd_i, gSub_i, gNeg_i, gBl_e, gCmpI_i, gLst_o, gTup_o, gN_e, List.set_cons_zero, List.set_cons_succ, truD_b, gIsN_n, isNonD, gLen_l, gInt_b, gInt_i, Option.map_some, Bool.false_eq_true, if_true, if_false, Bool.not_true, Bool.not_false, keyD, walkD, gLen_s hl, inW]
  cases hw : wIn (sx cs) with
  | true =>
    simp only [ok_seq, ok_asg, ok_par, ok_ret, ok_retN, ok_sNil, ok_sIf, ok_bin, ok_un, ok_var, ok_C, ok_call, ok_callK, ok_cons, ok_nil, ok_args, ok_tru, ok_not, ok_and, ok_or, ok_eNot, ok_eAnd, ok_eOr, ok_if, ok_cmp, ok_chain, ok_ofC, ok_oNone, ok_oSome, ok_sl, ok_met, ok_rev, ok_items, ok_lenSet, ok_pairs0, ok_pairs, ok_dict, ok_iSeq, ok_rng1, ok_rng2, ok_comp, ok_comp0, ok_for, List.getElem?_cons_zero, List.getElem?_cons_succ, Option.some.injEq, Sl.val.injEq, exists_eq_left', List.nil_append, List.append_nil, List.length_cons, List.length_nil, true_and, and_true, and_self, Nat.zero_add, Nat.reduceAdd, Nat.reduceLeDiff, gAdd_i, gSub_i, gNeg_i, gBl_e, gCmpI_i, gLst_o, gTup_o, gN_e, List.set_cons_zero, List.set_cons_succ, truD_b, gIsN_n, isNonD, gLen_l, gInt_b, gInt_i, Option.map_some, Bool.false_eq_true, if_true, if_false, Bool.not_true, Bool.not_false, keyD, walkD]
    have : lawNm cs = false := by unfold lawNm; rw [hw]; rfl
    rw [this] at q
    exact q
  | false =>
    simp only [ok_seq, ok_asg, ok_par, ok_ret, ok_retN, ok_sNil, ok_sIf, ok_bin, ok_un, ok_var, ok_C, ok_call, ok_callK, ok_cons, ok_nil, ok_args, ok_tru, ok_not, ok_and, ok_or, ok_eNot, ok_eAnd, ok_eOr, ok_if, ok_cmp, ok_chain, ok_ofC, ok_oNone, ok_oSome, ok_sl, ok_met, ok_rev, ok_items, ok_lenSet, ok_pairs0, ok_pairs, ok_dict, ok_iSeq, ok_rng1, ok_rng2, ok_comp, ok_comp0, ok_for, List.getElem?_cons_zero, List.getElem?_cons_succ, Option.some.injEq, Sl.val.injEq, exists_eq_left', List.nil_append, List.append_nil, List.length_cons, List.length_nil, true_and, and_true, and_self, Nat.zero_add, Nat.reduceAdd, Nat.reduceLeDiff, gAdd_i, gSub_i, gNeg_i, gBl_e, gCmpI_i, gLst_o, gTup_o, gN_e, List.set_cons_zero, List.set_cons_succ, truD_b, gIsN_n, isNonD, gLen_l, gInt_b, gInt_i, Option.map_some, Bool.false_eq_true, if_true, if_false, Bool.not_true, Bool.not_false, keyD, walkD]
    cases cs with
    | nil =>
      simp only [leI, List.length_nil, ok_seq, ok_asg, ok_par, ok_ret, ok_retN, ok_sNil, ok_sIf, ok_bin, ok_un, ok_var, ok_C, ok_call, ok_callK, ok_cons, ok_nil, ok_args, ok_tru, ok_not, ok_and, ok_or, ok_eNot, ok_eAnd, ok_eOr, ok_if, ok_cmp, ok_chain, ok_ofC, ok_oNone, ok_oSome, ok_sl, ok_met, ok_rev, ok_items, ok_lenSet, ok_pairs0, ok_pairs, ok_dict, ok_iSeq, ok_rng1, ok_rng2, ok_comp, ok_comp0, ok_for, List.getElem?_cons_zero, List.getElem?_cons_succ, Option.some.injEq, Sl.val.injEq, exists_eq_left', List.nil_append, List.append_nil, List.length_cons, List.length_nil, true_and, and_true, and_self, Nat.zero_add, Nat.reduceAdd, Nat.reduceLeDiff, gAdd_i, gSub_i, gNeg_i, gBl_e, gCmpI_i, gLst_o, gTup_o, gN_e, List.set_cons_zero, List.set_cons_succ, truD_b, gIsN_n, isNonD, gLen_l, gInt_b, gInt_i, Option.map_some, Bool.false_eq_true, if_true, if_false, Bool.not_true, Bool.not_false, keyD, walkD]
      exact q
    | cons a cs =>
      have h1 : leI 1 ((a :: cs).length : Int) = true := decide_eq_true (by simp; omega)
      simp only [List.length_cons] at h1
      simp only [h1, ok_seq, ok_asg, ok_par, ok_ret, ok_retN, ok_sNil, ok_sIf, ok_bin, ok_un, ok_var, ok_C, ok_call, ok_callK, ok_cons, ok_nil, ok_args, ok_tru, ok_not, ok_and, ok_or, ok_eNot, ok_eAnd, ok_eOr, ok_if, ok_cmp, ok_chain, ok_ofC, ok_oNone, ok_oSome, ok_sl, ok_met, ok_rev, ok_items, ok_lenSet, ok_pairs0, ok_pairs, ok_dict, ok_iSeq, ok_rng1, ok_rng2, ok_comp, ok_comp0, ok_for, List.getElem?_cons_zero, List.getElem?_cons_succ, Option.some.injEq, Sl.val.injEq, exists_eq_left', List.nil_append, List.append_nil, List.length_cons, List.length_nil, true_and, and_true, and_self, Nat.zero_add, Nat.reduceAdd, Nat.reduceLeDiff, gAdd_i, gSub_i, gNeg_i, gBl_e, gCmpI_i, gLst_o, gTup_o, gN_e, List.set_cons_zero, List.set_cons_succ, truD_b, gIsN_n, isNonD, gLen_l, gInt_b, gInt_i, Option.map_some, Bool.false_eq_true, if_true, if_false, Bool.not_true, Bool.not_false, keyD, walkD]
      by_cases h8 : leI ((cs.length + 1 : Nat) : Int) 8 = true
      · have h8' : (a :: cs).length ≤ 8 := by
          have := of_decide_eq_true h8
          simp only [List.length_cons]; omega
        simp only [h8, ok_seq, ok_asg, ok_par, ok_ret, ok_retN, ok_sNil, ok_sIf, ok_bin, ok_un, ok_var, ok_C, ok_call, ok_callK, ok_cons, ok_nil, ok_args, ok_tru, ok_not, ok_and, ok_or, ok_eNot, ok_eAnd, ok_eOr, ok_if, ok_cmp, ok_chain, ok_ofC, ok_oNone, ok_oSome, ok_sl, ok_met, ok_rev, ok_items, ok_lenSet, ok_pairs0, ok_pairs, ok_dict, ok_iSeq, ok_rng1, ok_rng2, ok_comp, ok_comp0, ok_for, List.getElem?_cons_zero, List.getElem?_cons_succ, Option.some.injEq, Sl.val.injEq, exists_eq_left', List.nil_append, List.append_nil, List.length_cons, List.length_nil, true_and, and_true, and_self, Nat.zero_add, Nat.reduceAdd, Nat.reduceLeDiff, gAdd_i, gSub_i, gNeg_i, gBl_e, gCmpI_i, gLst_o, gTup_o, gN_e, List.set_cons_zero, List.set_cons_succ, truD_b, gIsN_n, isNonD, gLen_l, gInt_b, gInt_i, Option.map_some, Bool.false_eq_true, if_true, if_false, Bool.not_true, Bool.not_false, keyD, walkD, ix_head hl, notInS_e]
        have : lawNm (a :: cs) = !inG a := by
          unfold lawNm
          rw [headIn_c, hw, decide_eq_true h8', decide_eq_true (show 1 ≤ (a :: cs).length by simp)]
          rfl
        rw [this] at q
        exact q
      · simp only [h8, ok_seq, ok_asg, ok_par, ok_ret, ok_retN, ok_sNil, ok_sIf, ok_bin, ok_un, ok_var, ok_C, ok_call, ok_callK, ok_cons, ok_nil, ok_args, ok_tru, ok_not, ok_and, ok_or, ok_eNot, ok_eAnd, ok_eOr, ok_if, ok_cmp, ok_chain, ok_ofC, ok_oNone, ok_oSome, ok_sl, ok_met, ok_rev, ok_items, ok_lenSet, ok_pairs0, ok_pairs, ok_dict, ok_iSeq, ok_rng1, ok_rng2, ok_comp, ok_comp0, ok_for, List.getElem?_cons_zero, List.getElem?_cons_succ, Option.some.injEq, Sl.val.injEq, exists_eq_left', List.nil_append, List.append_nil, List.length_cons, List.length_nil, true_and, and_true, and_self, Nat.zero_add, Nat.reduceAdd, Nat.reduceLeDiff, gAdd_i, gSub_i, gNeg_i, gBl_e, gCmpI_i, gLst_o, gTup_o, gN_e, List.set_cons_zero, List.set_cons_succ, truD_b, gIsN_n, isNonD, gLen_l, gInt_b, gInt_i, Option.map_some, Bool.false_eq_true, if_true, if_false, Bool.not_true, Bool.not_false, keyD, walkD]
        have : lawNm (a :: cs) = false := by
          have h : ¬ (a :: cs).length ≤ 8 := fun z => h8 (decide_eq_true (by simp only [List.length_cons] at z; omega))
          unfold lawNm
          rw [decide_eq_false h]
          simp
        rw [this] at q
        exact q
end G

set_option Elab.async false
set_option linter.all false
set_option maxRecDepth 100000
set_option maxHeartbeats 8000000
namespace G
open PySem PySem.Spec PyProof.Rows L2
theorem l36_split : ∀ a ∈ l36.cps.toList, inL a = !inG a ∧ (inL a || inG a) = true := by decide +kernel
theorem nmL_mem {cs : List Nat} (h : nmL cs = true) : (∀ a ∈ cs, a ∈ l36.cps.toList) ∧ cs.length ≤ 9 := by
  obtain ⟨h1, h2⟩ := Bool.and_eq_true_iff.mp h
  exact ⟨fun a ha => of_decide_eq_true (List.all_eq_true.mp h1 a ha), of_decide_eq_true h2⟩
theorem nm_law {cs : List Nat} (h : nmL cs = true) : isNm cs = lawNm cs := by
  obtain ⟨h1, _⟩ := nmL_mem h
  have hall : (cs.all fun a => inL a || inG a) = true := List.all_eq_true.mpr fun a ha => (l36_split a (h1 a ha)).2
  have hh : headIn inL cs = headIn (fun a => !inG a) cs := by
    cases cs with
    | nil => rfl
    | cons a cs => exact (l36_split a (h1 a (List.mem_cons_self ..))).1
  unfold isNm lawNm
  rw [hall, hh]
  cases decide (1 ≤ cs.length) <;> cases decide (cs.length ≤ 8) <;> cases wIn (sx cs) <;> cases headIn (fun a => !inG a) cs <;> rfl
theorem nm_bent {cs ds : List Nat} {o : Nat} (h : (inL o || inG o) = false) : isNm (cs ++ [o] ++ ds) = false := by
  have : ((cs ++ [o] ++ ds).all fun a => inL a || inG a) = false := by
    rw [List.all_append, List.all_append]
    simp only [List.all_cons, List.all_nil, h]
    simp
  unfold isNm
  rw [this]
  simp
theorem is_name_no {v : D} {c : Churn} {k : D → Churn → Prop} (h : gIsi [v, .ty "str"] = some (.bl false)) (q : k (.bl false) c) : Ok (F_is_name [v] c) k := by
  show Ok (G.nx (runDef 2 g_is_name [v]) c) k
  rw [ok_def]
  show Ok (g_is_name [.val v, .no] c) _
  unfold g_is_name
  simp only [ok_seq, ok_asg, ok_par, ok_ret, ok_retN, ok_sNil, ok_sIf, ok_bin, ok_un, ok_var, ok_C, ok_call, ok_callK, ok_cons, ok_nil, ok_args, ok_tru, ok_not, ok_and, ok_or, ok_eNot, ok_eAnd, ok_eOr, ok_if, ok_cmp, ok_chain, ok_ofC, ok_oNone, ok_oSome, ok_sl, ok_met, ok_rev, ok_items, ok_lenSet, ok_pairs0, ok_pairs, ok_dict, ok_iSeq, ok_rng1, ok_rng2, ok_comp, ok_comp0, ok_for, List.getElem?_cons_zero, List.getElem?_cons_succ, Option.some.injEq, Sl.val.injEq, exists_eq_left', List.nil_append, List.append_nil, List.length_cons, List.length_nil, true_and, and_true, and_self, Nat.zero_add, Nat.reduceAdd, Nat.reduceLeDiff, gAdd_i, gSub_i, gNeg_i, gBl_e, gCmpI_i, gLst_o, gTup_o, gN_e, List.set_cons_zero, List.set_cons_succ, truD_b, gIsN_n, isNonD, gLen_l, gInt_b, gInt_i, Option.map_some, Bool.false_eq_true, if_true, if_false, Bool.not_true, Bool.not_false, keyD, walkD, h]
  exact q
/-- the values that a turn asks after -/
def turnV (nm : List Nat) (v : D) : Prop := (∃ cs ds o, v = .str (sx (cs ++ [o] ++ ds)) ∧ (inL o || inG o) = false ∧ cs.length + ds.length ≤ 900 ∧ sx (cs ++ [o] ++ ds) ≠ sx nm) ∨ v = .str (sx nm) ∨ gIsi [v, .ty "str"] = some (.bl false)
theorem turn_ok {nm : List Nat} (hn : nmL nm = true) {a o v : D} {c : Churn} {kp : Ev × Ctl → Churn → Prop} (hv : turnV nm v) (q : kp ([.val .chn, .val (.str (sx nm)), .val a, .val o, .val v], .nx) c) :
    Ok (sIf (cCmp (gEqX true) (eArgs gRepr (aCons (eCallK 1 0 1 [0] F_is_name aNil (aCons (eVar 4) aNil)) aNil)) (eArgs gRepr (aCons (eAnd (eArgs gIsi (aCons (eVar 4) (aCons (eC (.ty "str")) aNil))) (eAnd (eBin (gBl (gEqX false)) (eVar 4) (eVar 1)) (eCall 1 F__law_is_name [] (aCons (eVar 1) aNil)))) aNil))) (sRet (eC (.bl false))) sNil
      [.val .chn, .val (.str (sx nm)), .val a, .val o, .val v] c) kp := by
  have hl : nm.length ≤ 1000 := by have := (nmL_mem hn).2; omega
  simp only [ok_seq, ok_asg, ok_par, ok_ret, ok_retN, ok_sNil, ok_sIf, ok_bin, ok_un, ok_var, ok_C, ok_call, ok_callK, ok_cons, ok_nil, ok_args, ok_tru, ok_not, ok_and, ok_or, ok_eNot, ok_eAnd, ok_eOr, ok_if, ok_cmp, ok_chain, ok_ofC, ok_oNone, ok_oSome, ok_sl, ok_met, ok_rev, ok_items, ok_lenSet, ok_pairs0, ok_pairs, ok_dict, ok_iSeq, ok_rng1, ok_rng2, ok_comp, ok_comp0, ok_for, List.getElem?_cons_zero, List.getElem?_cons_succ, Option.some.injEq, Sl.val.injEq, exists_eq_left', List.nil_append, List.append_nil, List.length_cons, List.length_nil, true_and, and_true, and_self, Nat.zero_add, Nat.reduceAdd, Nat.reduceLeDiff, gAdd_i, gSub_i, gNeg_i, gBl_e, gCmpI_i, gLst_o, gTup_o, gN_e, List.set_cons_zero, List.set_cons_succ, truD_b, gIsN_n, isNonD, gLen_l, gInt_b, gInt_i, Option.map_some, Bool.false_eq_true, if_true, if_false, Bool.not_true, Bool.not_false, keyD, walkD, pick, List.filterMap_cons, List.filterMap_nil]
  rcases hv with ⟨cs, ds, b, rfl, hb, hlen, hne⟩ | rfl | hi
  · refine is_name_ok (by simp; omega) ?_
    rw [nm_bent hb]
    simp only [ok_seq, ok_asg, ok_par, ok_ret, ok_retN, ok_sNil, ok_sIf, ok_bin, ok_un, ok_var, ok_C, ok_call, ok_callK, ok_cons, ok_nil, ok_args, ok_tru, ok_not, ok_and, ok_or, ok_eNot, ok_eAnd, ok_eOr, ok_if, ok_cmp, ok_chain, ok_ofC, ok_oNone, ok_oSome, ok_sl, ok_met, ok_rev, ok_items, ok_lenSet, ok_pairs0, ok_pairs, ok_dict, ok_iSeq, ok_rng1, ok_rng2, ok_comp, ok_comp0, ok_for, List.getElem?_cons_zero, List.getElem?_cons_succ, Option.some.injEq, Sl.val.injEq, exists_eq_left', List.nil_append, List.append_nil, List.length_cons, List.length_nil, true_and, and_true, and_self, Nat.zero_add, Nat.reduceAdd, Nat.reduceLeDiff, gAdd_i, gSub_i, gNeg_i, gBl_e, gCmpI_i, gLst_o, gTup_o, gN_e, List.set_cons_zero, List.set_cons_succ, truD_b, gIsN_n, isNonD, gLen_l, gInt_b, gInt_i, Option.map_some, Bool.false_eq_true, if_true, if_false, Bool.not_true, Bool.not_false, keyD, walkD, gRepr_b, isi_ss, eqX_str, hne, decide_false, decide_true]
    exact q
  · refine is_name_ok hl ?_
    simp only [ok_seq, ok_asg, ok_par, ok_ret, ok_retN, ok_sNil, ok_sIf, ok_bin, ok_un, ok_var, ok_C, ok_call, ok_callK, ok_cons, ok_nil, ok_args, ok_tru, ok_not, ok_and, ok_or, ok_eNot, ok_eAnd, ok_eOr, ok_if, ok_cmp, ok_chain, ok_ofC, ok_oNone, ok_oSome, ok_sl, ok_met, ok_rev, ok_items, ok_lenSet, ok_pairs0, ok_pairs, ok_dict, ok_iSeq, ok_rng1, ok_rng2, ok_comp, ok_comp0, ok_for, List.getElem?_cons_zero, List.getElem?_cons_succ, Option.some.injEq, Sl.val.injEq, exists_eq_left', List.nil_append, List.append_nil, List.length_cons, List.length_nil, true_and, and_true, and_self, Nat.zero_add, Nat.reduceAdd, Nat.reduceLeDiff, gAdd_i, gSub_i, gNeg_i, gBl_e, gCmpI_i, gLst_o, gTup_o, gN_e, List.set_cons_zero, List.set_cons_succ, truD_b, gIsN_n, isNonD, gLen_l, gInt_b, gInt_i, Option.map_some, Bool.false_eq_true, if_true, if_false, Bool.not_true, Bool.not_false, keyD, walkD, gRepr_b, isi_ss, eqX_str, decide_true]
    refine law_is_name_ok hl ?_
    rw [nm_law hn]
    simp only [ok_seq, ok_asg, ok_par, ok_ret, ok_retN, ok_sNil, ok_sIf, ok_bin, ok_un, ok_var, ok_C, ok_call, ok_callK, ok_cons, ok_nil, ok_args, ok_tru, ok_not, ok_and, ok_or, ok_eNot, ok_eAnd, ok_eOr, ok_if, ok_cmp, ok_chain, ok_ofC, ok_oNone, ok_oSome, ok_sl, ok_met, ok_rev, ok_items, ok_lenSet, ok_pairs0, ok_pairs, ok_dict, ok_iSeq, ok_rng1, ok_rng2, ok_comp, ok_comp0, ok_for, List.getElem?_cons_zero, List.getElem?_cons_succ, Option.some.injEq, Sl.val.injEq, exists_eq_left', List.nil_append, List.append_nil, List.length_cons, List.length_nil, true_and, and_true, and_self, Nat.zero_add, Nat.reduceAdd, Nat.reduceLeDiff, gAdd_i, gSub_i, gNeg_i, gBl_e, gCmpI_i, gLst_o, gTup_o, gN_e, List.set_cons_zero, List.set_cons_succ, truD_b, gIsN_n, isNonD, gLen_l, gInt_b, gInt_i, Option.map_some, Bool.false_eq_true, if_true, if_false, Bool.not_true, Bool.not_false, keyD, walkD, gRepr_b, eqX_str, decide_true]
    exact q
  · refine is_name_no hi ?_
    simp only [ok_seq, ok_asg, ok_par, ok_ret, ok_retN, ok_sNil, ok_sIf, ok_bin, ok_un, ok_var, ok_C, ok_call, ok_callK, ok_cons, ok_nil, ok_args, ok_tru, ok_not, ok_and, ok_or, ok_eNot, ok_eAnd, ok_eOr, ok_if, ok_cmp, ok_chain, ok_ofC, ok_oNone, ok_oSome, ok_sl, ok_met, ok_rev, ok_items, ok_lenSet, ok_pairs0, ok_pairs, ok_dict, ok_iSeq, ok_rng1, ok_rng2, ok_comp, ok_comp0, ok_for, List.getElem?_cons_zero, List.getElem?_cons_succ, Option.some.injEq, Sl.val.injEq, exists_eq_left', List.nil_append, List.append_nil, List.length_cons, List.length_nil, true_and, and_true, and_self, Nat.zero_add, Nat.reduceAdd, Nat.reduceLeDiff, gAdd_i, gSub_i, gNeg_i, gBl_e, gCmpI_i, gLst_o, gTup_o, gN_e, List.set_cons_zero, List.set_cons_succ, truD_b, gIsN_n, isNonD, gLen_l, gInt_b, gInt_i, Option.map_some, Bool.false_eq_true, if_true, if_false, Bool.not_true, Bool.not_false, keyD, walkD, gRepr_b, hi, eqX_str, decide_true]
    exact q
theorem word_nm {x : D} (h : x ∈ [D.str "and", .str "or", .str "not", .str "all", .str "some", .str "many", .str "endless", .str "yes", .str "no", .str "ands", .str "nor", .str "yes1"]) : ∃ cs, x = .str (sx cs) ∧ nmL cs = true := by
  simp only [List.mem_cons, List.not_mem_nil, or_false] at h
  rcases h with rfl | rfl | rfl | rfl | rfl | rfl | rfl | rfl | rfl | rfl | rfl | rfl <;> exact ⟨_, congrArg D.str (str_sx _), by decide +kernel⟩
theorem odd_nm {x : D} (h : x ∈ [D.str "A", .str "_", .str " ", .str "-", .str "\n", .str ".", .str ":", .str "Z", .str "["]) : ∃ o, x = .str (sx [o]) ∧ (inL o || inG o) = false := by
  simp only [List.mem_cons, List.not_mem_nil, or_false] at h
  rcases h with rfl | rfl | rfl | rfl | rfl | rfl | rfl | rfl | rfl
  · exact ⟨65, by rfl, by decide +kernel⟩
  · exact ⟨95, by rfl, by decide +kernel⟩
  · exact ⟨32, by rfl, by decide +kernel⟩
  · exact ⟨45, by rfl, by decide +kernel⟩
  · exact ⟨10, by rfl, by decide +kernel⟩
  · exact ⟨46, by rfl, by decide +kernel⟩
  · exact ⟨58, by rfl, by decide +kernel⟩
  · exact ⟨90, by rfl, by decide +kernel⟩
  · exact ⟨91, by rfl, by decide +kernel⟩
theorem names_right {n : Nat} {c : Churn} {k : D → Churn → Prop} (g : Good n c) (hn : n + 100 ≤ 2 ^ 20) (q : ∀ c', Good (n + 30) c' → k (.bl true) c') : Ok (F__law_names_right [.chn] c) k := by
  show Ok (G.nx (runDef 5 g__law_names_right [.chn]) c) k
  rw [ok_def]
  show Ok (g__law_names_right [.val .chn, .no, .no, .no, .no] c) _
  unfold g__law_names_right
  try simp only [ok_seq, ok_asg, ok_par, ok_ret, ok_retN, ok_sNil, ok_sIf, ok_bin, ok_un, ok_var, ok_C, ok_call, ok_callK, ok_cons, ok_nil, ok_args, ok_tru, ok_not, ok_and, ok_or, ok_eNot, ok_eAnd, ok_eOr, ok_if, ok_cmp, ok_chain, ok_ofC, ok_oNone, ok_oSome, ok_sl, ok_met, ok_rev, ok_items, ok_lenSet, ok_pairs0, ok_pairs, ok_dict, ok_iSeq, ok_rng1, ok_rng2, ok_comp, ok_comp0, ok_for, List.getElem?_cons_zero, List.getElem?_cons_succ, Option.some.injEq, Sl.val.injEq, exists_eq_left', List.nil_append, List.append_nil, List.length_cons, List.length_nil, true_and, and_true, and_self, Nat.zero_add, Nat.reduceAdd, Nat.reduceLeDiff, gAdd_i, gSub_i, gNeg_i, gBl_e, gCmpI_i, gLst_o, gTup_o, gN_e, List.set_cons_zero, List.set_cons_succ, truD_b, gIsN_n, isNonD, gLen_l, gInt_b, gInt_i, Option.map_some, Bool.false_eq_true, if_true, if_false, Bool.not_true, Bool.not_false, keyD, walkD]
  refine name_go g (by omega) fun cs0 c1 h0 g1 => ?_
  try simp only [ok_seq, ok_asg, ok_par, ok_ret, ok_retN, ok_sNil, ok_sIf, ok_bin, ok_un, ok_var, ok_C, ok_call, ok_callK, ok_cons, ok_nil, ok_args, ok_tru, ok_not, ok_and, ok_or, ok_eNot, ok_eAnd, ok_eOr, ok_if, ok_cmp, ok_chain, ok_ofC, ok_oNone, ok_oSome, ok_sl, ok_met, ok_rev, ok_items, ok_lenSet, ok_pairs0, ok_pairs, ok_dict, ok_iSeq, ok_rng1, ok_rng2, ok_comp, ok_comp0, ok_for, List.getElem?_cons_zero, List.getElem?_cons_succ, Option.some.injEq, Sl.val.injEq, exists_eq_left', List.nil_append, List.append_nil, List.length_cons, List.length_nil, true_and, and_true, and_self, Nat.zero_add, Nat.reduceAdd, Nat.reduceLeDiff, gAdd_i, gSub_i, gNeg_i, gBl_e, gCmpI_i, gLst_o, gTup_o, gN_e, List.set_cons_zero, List.set_cons_succ, truD_b, gIsN_n, isNonD, gLen_l, gInt_b, gInt_i, Option.map_some, Bool.false_eq_true, if_true, if_false, Bool.not_true, Bool.not_false, keyD, walkD]
  refine one_ok g1 (by omega) (by simp) (by simp) fun x hx c2 g2 => ?_
  obtain ⟨cs1, rfl, h1⟩ := word_nm hx
  try simp only [ok_seq, ok_asg, ok_par, ok_ret, ok_retN, ok_sNil, ok_sIf, ok_bin, ok_un, ok_var, ok_C, ok_call, ok_callK, ok_cons, ok_nil, ok_args, ok_tru, ok_not, ok_and, ok_or, ok_eNot, ok_eAnd, ok_eOr, ok_if, ok_cmp, ok_chain, ok_ofC, ok_oNone, ok_oSome, ok_sl, ok_met, ok_rev, ok_items, ok_lenSet, ok_pairs0, ok_pairs, ok_dict, ok_iSeq, ok_rng1, ok_rng2, ok_comp, ok_comp0, ok_for, List.getElem?_cons_zero, List.getElem?_cons_succ, Option.some.injEq, Sl.val.injEq, exists_eq_left', List.nil_append, List.append_nil, List.length_cons, List.length_nil, true_and, and_true, and_self, Nat.zero_add, Nat.reduceAdd, Nat.reduceLeDiff, gAdd_i, gSub_i, gNeg_i, gBl_e, gCmpI_i, gLst_o, gTup_o, gN_e, List.set_cons_zero, List.set_cons_succ, truD_b, gIsN_n, isNonD, gLen_l, gInt_b, gInt_i, Option.map_some, Bool.false_eq_true, if_true, if_false, Bool.not_true, Bool.not_false, keyD, walkD]
  refine one_ok g2 (by omega) (by simp) (by simp) fun x hx c3 g3 => ?_
  have hnm : ∃ nm, x = .str (sx nm) ∧ nmL nm = true := by
    simp only [List.mem_cons, List.not_mem_nil, or_false] at hx
    rcases hx with rfl | rfl | rfl | rfl
    · exact ⟨_, rfl, h0⟩
    · exact ⟨_, rfl, h0⟩
    · exact ⟨_, rfl, h0⟩
    · exact ⟨_, rfl, h1⟩
  obtain ⟨nm, rfl, hnm⟩ := hnm
  have hlen := (nmL_mem hnm).2
  simp only [ok_seq, ok_asg, ok_par, ok_ret, ok_retN, ok_sNil, ok_sIf, ok_bin, ok_un, ok_var, ok_C, ok_call, ok_callK, ok_cons, ok_nil, ok_args, ok_tru, ok_not, ok_and, ok_or, ok_eNot, ok_eAnd, ok_eOr, ok_if, ok_cmp, ok_chain, ok_ofC, ok_oNone, ok_oSome, ok_sl, ok_met, ok_rev, ok_items, ok_lenSet, ok_pairs0, ok_pairs, ok_dict, ok_iSeq, ok_rng1, ok_rng2, ok_comp, ok_comp0, ok_for, List.getElem?_cons_zero, List.getElem?_cons_succ, Option.some.injEq, Sl.val.injEq, exists_eq_left', List.nil_append, List.append_nil, List.length_cons, List.length_nil, true_and, and_true, and_self, Nat.zero_add, Nat.reduceAdd, Nat.reduceLeDiff, gAdd_i, gSub_i, gNeg_i, gBl_e, gCmpI_i, gLst_o, gTup_o, gN_e, List.set_cons_zero, List.set_cons_succ, truD_b, gIsN_n, isNonD, gLen_l, gInt_b, gInt_i, Option.map_some, Bool.false_eq_true, if_true, if_false, Bool.not_true, Bool.not_false, keyD, walkD, gLen_s (show nm.length ≤ 1000 by omega)]
  refine delve_ok g3 (by omega) (by omega) (by omega) fun r c4 r0 r1 g4 => ?_
  obtain ⟨i, rfl⟩ := Int.eq_ofNat_of_zero_le r0
  have hi : i ≤ nm.length := by omega
  try simp only [ok_seq, ok_asg, ok_par, ok_ret, ok_retN, ok_sNil, ok_sIf, ok_bin, ok_un, ok_var, ok_C, ok_call, ok_callK, ok_cons, ok_nil, ok_args, ok_tru, ok_not, ok_and, ok_or, ok_eNot, ok_eAnd, ok_eOr, ok_if, ok_cmp, ok_chain, ok_ofC, ok_oNone, ok_oSome, ok_sl, ok_met, ok_rev, ok_items, ok_lenSet, ok_pairs0, ok_pairs, ok_dict, ok_iSeq, ok_rng1, ok_rng2, ok_comp, ok_comp0, ok_for, List.getElem?_cons_zero, List.getElem?_cons_succ, Option.some.injEq, Sl.val.injEq, exists_eq_left', List.nil_append, List.append_nil, List.length_cons, List.length_nil, true_and, and_true, and_self, Nat.zero_add, Nat.reduceAdd, Nat.reduceLeDiff, gAdd_i, gSub_i, gNeg_i, gBl_e, gCmpI_i, gLst_o, gTup_o, gN_e, List.set_cons_zero, List.set_cons_succ, truD_b, gIsN_n, isNonD, gLen_l, gInt_b, gInt_i, Option.map_some, Bool.false_eq_true, if_true, if_false, Bool.not_true, Bool.not_false, keyD, walkD]
  refine one_ok g4 (by omega) (by simp) (by simp) fun x hx c5 g5 => ?_
  obtain ⟨o, rfl, ho⟩ := odd_nm hx
  have hc1 : (nm.take i).length + 1 ≤ 1000 := by rw [List.length_take]; omega
  have hc2 : (nm.take i ++ [o]).length + (nm.drop i).length ≤ 1000 := by rw [List.length_append, List.length_take, List.length_drop]; simp; omega
  have a1 : gAdd (.str (sx (nm.take i))) (.str (sx [o])) = some (.str (sx (nm.take i ++ [o]))) := gAdd_s hc1
  have a2 : gAdd (.str (sx (nm.take i ++ [o]))) (.str (sx (nm.drop i))) = some (.str (sx (nm.take i ++ [o] ++ nm.drop i))) := gAdd_s hc2
  refine ⟨_, _, rfl, ?_⟩
  simp only [ok_seq, ok_asg, ok_par, ok_ret, ok_retN, ok_sNil, ok_sIf, ok_bin, ok_un, ok_var, ok_C, ok_call, ok_callK, ok_cons, ok_nil, ok_args, ok_tru, ok_not, ok_and, ok_or, ok_eNot, ok_eAnd, ok_eOr, ok_if, ok_cmp, ok_chain, ok_ofC, ok_oNone, ok_oSome, ok_sl, ok_met, ok_rev, ok_items, ok_lenSet, ok_pairs0, ok_pairs, ok_dict, ok_iSeq, ok_rng1, ok_rng2, ok_comp, ok_comp0, ok_for, List.getElem?_cons_zero, List.getElem?_cons_succ, Option.some.injEq, Sl.val.injEq, exists_eq_left', List.nil_append, List.append_nil, List.length_cons, List.length_nil, true_and, and_true, and_self, Nat.zero_add, Nat.reduceAdd, Nat.reduceLeDiff, gAdd_i, gSub_i, gNeg_i, gBl_e, gCmpI_i, gLst_o, gTup_o, gN_e, List.set_cons_zero, List.set_cons_succ, truD_b, gIsN_n, isNonD, gLen_l, gInt_b, gInt_i, Option.map_some, Bool.false_eq_true, if_true, if_false, Bool.not_true, Bool.not_false, keyD, walkD, intO, gSl_s (show nm.length ≤ 1000 by omega), cut_lo hi, cut_hi hi, a1, a2]
  refine for_inv (fun ρ c => (∃ s, ρ = [.val .chn, .val (.str (sx nm)), .val (.int i), .val (.str (sx [o])), s]) ∧ Good (n + 30) c) (fun d hd ρ c ⟨⟨s, e⟩, g'⟩ => ?_) ⟨⟨_, rfl⟩, g5.mono (by omega)⟩ fun ρ c ⟨_, g'⟩ => q c g'
  subst e
  refine ⟨_, rfl, turn_ok hnm ?_ ⟨rfl, ⟨_, rfl⟩, g'⟩⟩
  simp only [List.mem_cons, List.not_mem_nil, or_false] at hd
  rcases hd with rfl | rfl | rfl | rfl | rfl | rfl
  · exact .inr (.inl rfl)
  · refine .inl ⟨nm.take i, nm.drop i, o, rfl, ho, by rw [List.length_take, List.length_drop]; omega, fun z => ?_⟩
    have z2 : nm.take i ++ [o] ++ nm.drop i = nm := by injection z with z; injection z
    have := congrArg List.length z2
    rw [List.length_append, List.length_append, List.length_take, List.length_drop] at this
    simp at this
    omega
  · exact .inr (.inr (by kernel_rfl))
  · exact .inr (.inr (by kernel_rfl))
  · exact .inr (.inr (by kernel_rfl))
  · exact .inr (.inr (by kernel_rfl))
end G

set_option Elab.async false
set_option linter.all false
set_option maxRecDepth 100000
set_option maxHeartbeats 400000
namespace G
open PySem PySem.Spec PyProof.Rows L2
theorem eq_of_ok {α : Type} {r : R α} {a : α} {c : Churn} (h : Ok r fun d c' => d = a ∧ c' = c) : r = .ok a c := by
  obtain ⟨d, c', e, rfl, rfl⟩ := h.ex
  exact e
abbrev PI : Type := List Nat × Int
def pT (p : PI) : D := .tup [.str (sx p.1), .int p.2]
def toldV (e : D) (p : PI) : Prop := e = .lst [.str (sx p.1), .int p.2] ∨ e = pT p
theorem is_name_eq {cs : List Nat} {c : Churn} (hl : cs.length ≤ 1000) : F_is_name [.str (sx cs)] c = .ok (.bl (isNm cs)) c := eq_of_ok (is_name_ok hl ⟨rfl, rfl⟩)
theorem ix0 {a b : D} : gIx (.lst [a, b]) (.int 0) = some a := rfl
theorem ix1 {a b : D} : gIx (.lst [a, b]) (.int 1) = some b := rfl
theorem ix0t {a b : D} : gIx (.tup [a, b]) (.int 0) = some a := rfl
theorem ix1t {a b : D} : gIx (.tup [a, b]) (.int 1) = some b := rfl
theorem gLen_t {xs : List D} : gLen [.tup xs] = some (.int xs.length) := rfl
theorem told_pair {v y : D} {cs : List Nat} {c : Churn} (hv : v = .lst [.str (sx cs), y] ∨ v = .tup [.str (sx cs), y]) (hy : plainD y = true) (hl : cs.length ≤ 1000) : F_is_told [v] c = .ok (.bl (isNm cs && isIntD y)) c := by
  apply eq_of_ok
  show Ok (G.nx (runDef 1 g_is_told [v]) c) _
  rw [ok_def]
  show Ok (g_is_told [.val v] c) _
  unfold g_is_told
  rcases hv with rfl | rfl
  · simp only [ok_seq, ok_asg, ok_par, ok_ret, ok_retN, ok_sNil, ok_sIf, ok_bin, ok_un, ok_var, ok_C, ok_call, ok_callK, ok_cons, ok_nil, ok_args, ok_tru, ok_not, ok_and, ok_or, ok_eNot, ok_eAnd, ok_eOr, ok_if, ok_cmp, ok_chain, ok_ofC, ok_oNone, ok_oSome, ok_sl, ok_met, ok_rev, ok_items, ok_lenSet, ok_pairs0, ok_pairs, ok_dict, ok_iSeq, ok_rng1, ok_rng2, ok_comp, ok_comp0, ok_for, List.getElem?_cons_zero, List.getElem?_cons_succ, Option.some.injEq, Sl.val.injEq, exists_eq_left', List.nil_append, List.append_nil, List.length_cons, List.length_nil, true_and, and_true, and_self, Nat.zero_add, Nat.reduceAdd, Nat.reduceLeDiff, gAdd_i, gSub_i, gNeg_i, gBl_e, gCmpI_i, gLst_o, gTup_o, gN_e, List.set_cons_zero, List.set_cons_succ, truD_b, gIsN_n, isNonD, gLen_l, gInt_b, gInt_i, Option.map_some, Bool.false_eq_true, if_true, if_false, Bool.not_true, Bool.not_false, keyD, walkD, isi_l, eqX_i, ix0, ix1]
    have e2 : (((2 : Nat) : Int) == 2) = true := by decide
    simp only [e2, ok_seq, ok_asg, ok_par, ok_ret, ok_retN, ok_sNil, ok_sIf, ok_bin, ok_un, ok_var, ok_C, ok_call, ok_callK, ok_cons, ok_nil, ok_args, ok_tru, ok_not, ok_and, ok_or, ok_eNot, ok_eAnd, ok_eOr, ok_if, ok_cmp, ok_chain, ok_ofC, ok_oNone, ok_oSome, ok_sl, ok_met, ok_rev, ok_items, ok_lenSet, ok_pairs0, ok_pairs, ok_dict, ok_iSeq, ok_rng1, ok_rng2, ok_comp, ok_comp0, ok_for, List.getElem?_cons_zero, List.getElem?_cons_succ, Option.some.injEq, Sl.val.injEq, exists_eq_left', List.nil_append, List.append_nil, List.length_cons, List.length_nil, true_and, and_true, and_self, Nat.zero_add, Nat.reduceAdd, Nat.reduceLeDiff, gAdd_i, gSub_i, gNeg_i, gBl_e, gCmpI_i, gLst_o, gTup_o, gN_e, List.set_cons_zero, List.set_cons_succ, truD_b, gIsN_n, isNonD, gLen_l, gInt_b, gInt_i, Option.map_some, Bool.false_eq_true, if_true, if_false, Bool.not_true, Bool.not_false, keyD, walkD]
    rw [ok_eq (is_name_eq hl)]
    simp only [ok_seq, ok_asg, ok_par, ok_ret, ok_retN, ok_sNil, ok_sIf, ok_bin, ok_un, ok_var, ok_C, ok_call, ok_callK, ok_cons, ok_nil, ok_args, ok_tru, ok_not, ok_and, ok_or, ok_eNot, ok_eAnd, ok_eOr, ok_if, ok_cmp, ok_chain, ok_ofC, ok_oNone, ok_oSome, ok_sl, ok_met, ok_rev, ok_items, ok_lenSet, ok_pairs0, ok_pairs, ok_dict, ok_iSeq, ok_rng1, ok_rng2, ok_comp, ok_comp0, ok_for, List.getElem?_cons_zero, List.getElem?_cons_succ, Option.some.injEq, Sl.val.injEq, exists_eq_left', List.nil_append, List.append_nil, List.length_cons, List.length_nil, true_and, and_true, and_self, Nat.zero_add, Nat.reduceAdd, Nat.reduceLeDiff, gAdd_i, gSub_i, gNeg_i, gBl_e, gCmpI_i, gLst_o, gTup_o, gN_e, List.set_cons_zero, List.set_cons_succ, truD_b, gIsN_n, isNonD, gLen_l, gInt_b, gInt_i, Option.map_some, Bool.false_eq_true, if_true, if_false, Bool.not_true, Bool.not_false, keyD, walkD]
    cases isNm cs with
    | false => simp only [ok_seq, ok_asg, ok_par, ok_ret, ok_retN, ok_sNil, ok_sIf, ok_bin, ok_un, ok_var, ok_C, ok_call, ok_callK, ok_cons, ok_nil, ok_args, ok_tru, ok_not, ok_and, ok_or, ok_eNot, ok_eAnd, ok_eOr, ok_if, ok_cmp, ok_chain, ok_ofC, ok_oNone, ok_oSome, ok_sl, ok_met, ok_rev, ok_items, ok_lenSet, ok_pairs0, ok_pairs, ok_dict, ok_iSeq, ok_rng1, ok_rng2, ok_comp, ok_comp0, ok_for, List.getElem?_cons_zero, List.getElem?_cons_succ, Option.some.injEq, Sl.val.injEq, exists_eq_left', List.nil_append, List.append_nil, List.length_cons, List.length_nil, true_and, and_true, and_self, Nat.zero_add, Nat.reduceAdd, Nat.reduceLeDiff, gAdd_i, gSub_i, gNeg_i, gBl_e, gCmpI_i, gLst_o, gTup_o, gN_e, List.set_cons_zero, List.set_cons_succ, truD_b, gIsN_n, isNonD, gLen_l, gInt_b, gInt_i, Option.map_some, Bool.false_eq_true, if_true, if_false, Bool.not_true, Bool.not_false, keyD, walkD, Bool.false_and]
    | true =>
      simp only [ok_seq, ok_asg, ok_par, ok_ret, ok_retN, ok_sNil, ok_sIf, ok_bin, ok_un, ok_var, ok_C, ok_call, ok_callK, ok_cons, ok_nil, ok_args, ok_tru, ok_not, ok_and, ok_or, ok_eNot, ok_eAnd, ok_eOr, ok_if, ok_cmp, ok_chain, ok_ofC, ok_oNone, ok_oSome, ok_sl, ok_met, ok_rev, ok_items, ok_lenSet, ok_pairs0, ok_pairs, ok_dict, ok_iSeq, ok_rng1, ok_rng2, ok_comp, ok_comp0, ok_for, List.getElem?_cons_zero, List.getElem?_cons_succ, Option.some.injEq, Sl.val.injEq, exists_eq_left', List.nil_append, List.append_nil, List.length_cons, List.length_nil, true_and, and_true, and_self, Nat.zero_add, Nat.reduceAdd, Nat.reduceLeDiff, gAdd_i, gSub_i, gNeg_i, gBl_e, gCmpI_i, gLst_o, gTup_o, gN_e, List.set_cons_zero, List.set_cons_succ, truD_b, gIsN_n, isNonD, gLen_l, gInt_b, gInt_i, Option.map_some, Bool.false_eq_true, if_true, if_false, Bool.not_true, Bool.not_false, keyD, walkD, Bool.true_and]
      rw [ok_eq (is_integer_eq hy)]
      exact ⟨rfl, rfl⟩
  · simp only [ok_seq, ok_asg, ok_par, ok_ret, ok_retN, ok_sNil, ok_sIf, ok_bin, ok_un, ok_var, ok_C, ok_call, ok_callK, ok_cons, ok_nil, ok_args, ok_tru, ok_not, ok_and, ok_or, ok_eNot, ok_eAnd, ok_eOr, ok_if, ok_cmp, ok_chain, ok_ofC, ok_oNone, ok_oSome, ok_sl, ok_met, ok_rev, ok_items, ok_lenSet, ok_pairs0, ok_pairs, ok_dict, ok_iSeq, ok_rng1, ok_rng2, ok_comp, ok_comp0, ok_for, List.getElem?_cons_zero, List.getElem?_cons_succ, Option.some.injEq, Sl.val.injEq, exists_eq_left', List.nil_append, List.append_nil, List.length_cons, List.length_nil, true_and, and_true, and_self, Nat.zero_add, Nat.reduceAdd, Nat.reduceLeDiff, gAdd_i, gSub_i, gNeg_i, gBl_e, gCmpI_i, gLst_o, gTup_o, gN_e, List.set_cons_zero, List.set_cons_succ, truD_b, gIsN_n, isNonD, gLen_l, gInt_b, gInt_i, Option.map_some, Bool.false_eq_true, if_true, if_false, Bool.not_true, Bool.not_false, keyD, walkD, isi_t, eqX_i, ix0t, ix1t, gLen_t]
    have e2 : (((2 : Nat) : Int) == 2) = true := by decide
    simp only [e2, ok_seq, ok_asg, ok_par, ok_ret, ok_retN, ok_sNil, ok_sIf, ok_bin, ok_un, ok_var, ok_C, ok_call, ok_callK, ok_cons, ok_nil, ok_args, ok_tru, ok_not, ok_and, ok_or, ok_eNot, ok_eAnd, ok_eOr, ok_if, ok_cmp, ok_chain, ok_ofC, ok_oNone, ok_oSome, ok_sl, ok_met, ok_rev, ok_items, ok_lenSet, ok_pairs0, ok_pairs, ok_dict, ok_iSeq, ok_rng1, ok_rng2, ok_comp, ok_comp0, ok_for, List.getElem?_cons_zero, List.getElem?_cons_succ, Option.some.injEq, Sl.val.injEq, exists_eq_left', List.nil_append, List.append_nil, List.length_cons, List.length_nil, true_and, and_true, and_self, Nat.zero_add, Nat.reduceAdd, Nat.reduceLeDiff, gAdd_i, gSub_i, gNeg_i, gBl_e, gCmpI_i, gLst_o, gTup_o, gN_e, List.set_cons_zero, List.set_cons_succ, truD_b, gIsN_n, isNonD, gLen_l, gInt_b, gInt_i, Option.map_some, Bool.false_eq_true, if_true, if_false, Bool.not_true, Bool.not_false, keyD, walkD]
    rw [ok_eq (is_name_eq hl)]
    simp only [ok_seq, ok_asg, ok_par, ok_ret, ok_retN, ok_sNil, ok_sIf, ok_bin, ok_un, ok_var, ok_C, ok_call, ok_callK, ok_cons, ok_nil, ok_args, ok_tru, ok_not, ok_and, ok_or, ok_eNot, ok_eAnd, ok_eOr, ok_if, ok_cmp, ok_chain, ok_ofC, ok_oNone, ok_oSome, ok_sl, ok_met, ok_rev, ok_items, ok_lenSet, ok_pairs0, ok_pairs, ok_dict, ok_iSeq, ok_rng1, ok_rng2, ok_comp, ok_comp0, ok_for, List.getElem?_cons_zero, List.getElem?_cons_succ, Option.some.injEq, Sl.val.injEq, exists_eq_left', List.nil_append, List.append_nil, List.length_cons, List.length_nil, true_and, and_true, and_self, Nat.zero_add, Nat.reduceAdd, Nat.reduceLeDiff, gAdd_i, gSub_i, gNeg_i, gBl_e, gCmpI_i, gLst_o, gTup_o, gN_e, List.set_cons_zero, List.set_cons_succ, truD_b, gIsN_n, isNonD, gLen_l, gInt_b, gInt_i, Option.map_some, Bool.false_eq_true, if_true, if_false, Bool.not_true, Bool.not_false, keyD, walkD]
    cases isNm cs with
    | false => simp only [ok_seq, ok_asg, ok_par, ok_ret, ok_retN, ok_sNil, ok_sIf, ok_bin, ok_un, ok_var, ok_C, ok_call, ok_callK, ok_cons, ok_nil, ok_args, ok_tru, ok_not, ok_and, ok_or, ok_eNot, ok_eAnd, ok_eOr, ok_if, ok_cmp, ok_chain, ok_ofC, ok_oNone, ok_oSome, ok_sl, ok_met, ok_rev, ok_items, ok_lenSet, ok_pairs0, ok_pairs, ok_dict, ok_iSeq, ok_rng1, ok_rng2, ok_comp, ok_comp0, ok_for, List.getElem?_cons_zero, List.getElem?_cons_succ, Option.some.injEq, Sl.val.injEq, exists_eq_left', List.nil_append, List.append_nil, List.length_cons, List.length_nil, true_and, and_true, and_self, Nat.zero_add, Nat.reduceAdd, Nat.reduceLeDiff, gAdd_i, gSub_i, gNeg_i, gBl_e, gCmpI_i, gLst_o, gTup_o, gN_e, List.set_cons_zero, List.set_cons_succ, truD_b, gIsN_n, isNonD, gLen_l, gInt_b, gInt_i, Option.map_some, Bool.false_eq_true, if_true, if_false, Bool.not_true, Bool.not_false, keyD, walkD, Bool.false_and]
    | true =>
      simp only [ok_seq, ok_asg, ok_par, ok_ret, ok_retN, ok_sNil, ok_sIf, ok_bin, ok_un, ok_var, ok_C, ok_call, ok_callK, ok_cons, ok_nil, ok_args, ok_tru, ok_not, ok_and, ok_or, ok_eNot, ok_eAnd, ok_eOr, ok_if, ok_cmp, ok_chain, ok_ofC, ok_oNone, ok_oSome, ok_sl, ok_met, ok_rev, ok_items, ok_lenSet, ok_pairs0, ok_pairs, ok_dict, ok_iSeq, ok_rng1, ok_rng2, ok_comp, ok_comp0, ok_for, List.getElem?_cons_zero, List.getElem?_cons_succ, Option.some.injEq, Sl.val.injEq, exists_eq_left', List.nil_append, List.append_nil, List.length_cons, List.length_nil, true_and, and_true, and_self, Nat.zero_add, Nat.reduceAdd, Nat.reduceLeDiff, gAdd_i, gSub_i, gNeg_i, gBl_e, gCmpI_i, gLst_o, gTup_o, gN_e, List.set_cons_zero, List.set_cons_succ, truD_b, gIsN_n, isNonD, gLen_l, gInt_b, gInt_i, Option.map_some, Bool.false_eq_true, if_true, if_false, Bool.not_true, Bool.not_false, keyD, walkD, Bool.true_and]
      rw [ok_eq (is_integer_eq hy)]
      exact ⟨rfl, rfl⟩
inductive RelE : List D → List PI → Prop
  | nil : RelE [] []
  | cons {e : D} {p : PI} {es : List D} {pl : List PI} : toldV e p → RelE es pl → RelE (e :: es) (p :: pl)
theorem RelE.length : ∀ {es : List D} {pl : List PI}, RelE es pl → es.length = pl.length
  | _, _, .nil => rfl
  | _, _, .cons _ r => congrArg Nat.succ (RelE.length r)
theorem RelE.app : ∀ {es : List D} {pl : List PI} {fs : List D} {ql : List PI}, RelE es pl → RelE fs ql → RelE (es ++ fs) (pl ++ ql)
  | _, _, _, _, .nil, s => s
  | _, _, _, _, .cons h r, s => .cons h (RelE.app r s)
theorem told_eq {e : D} {p : PI} {c : Churn} (h : toldV e p) (hn : isNm p.1 = true) (hl : p.1.length ≤ 1000) : F_is_told [e] c = .ok (.bl true) c := by
  have := told_pair (c := c) (y := .int p.2) h rfl hl
  rw [hn] at this
  exact this
/-- the names of told things, and the things as pairs -/
def nmOf : D → D
  | .lst (a :: _) => a
  | .tup (a :: _) => a
  | _ => .non
def prOf : D → D
  | .lst [a, b] => .tup [a, b]
  | .tup [a, b] => .tup [a, b]
  | _ => .non
theorem RelE.nms : ∀ {es : List D} {pl : List PI}, RelE es pl → es.map nmOf = pl.map fun p => .str (sx p.1)
  | _, _, .nil => rfl
  | _, _, .cons h r => by
    rw [List.map_cons, List.map_cons, RelE.nms r]
    rcases h with rfl | rfl <;> rfl
theorem RelE.prs : ∀ {es : List D} {pl : List PI}, RelE es pl → es.map prOf = pl.map pT
  | _, _, .nil => rfl
  | _, _, .cons h r => by
    rw [List.map_cons, List.map_cons, RelE.prs r]
    rcases h with rfl | rfl <;> rfl
theorem RelE.mem : ∀ {es : List D} {pl : List PI}, RelE es pl → ∀ e ∈ es, ∃ p ∈ pl, toldV e p
  | _, _, .nil, e, he => by cases he
  | _, _, .cons h r, e, he => (List.mem_cons.mp he).elim (fun z => ⟨_, List.mem_cons_self .., z ▸ h⟩) fun he => by
    obtain ⟨p, hp, t⟩ := RelE.mem r e he
    exact ⟨p, List.mem_cons_of_mem _ hp, t⟩
def keyOf (p : PI) : Key := .inr (sx p.1)
theorem keysA_nms : ∀ pl : List PI, keysA (pl.map fun p => D.str (sx p.1)) = some (pl.map keyOf)
  | [] => rfl
  | p :: pl => by rw [List.map_cons]; unfold keysA; rw [keysA_nms pl]; rfl
theorem are_names_ok {pl : List PI} {c : Churn} {k : D → Churn → Prop} (hn : ∀ p ∈ pl, isNm p.1 = true ∧ p.1.length ≤ 1000) (hl : pl.length ≤ 1000) (q : k (.bl (((metK [] (pl.map keyOf)).length : Int) == (pl.length : Int))) c) :
    Ok (F_are_names [.lst (pl.map fun p => .str (sx p.1))] c) k := by
  generalize hv : D.lst (pl.map fun p => .str (sx p.1)) = v
  show Ok (G.nx (runDef 2 g_are_names [v]) c) k
  rw [ok_def]
  show Ok (g_are_names [.val v, .no] c) _
  unfold g_are_names
  subst hv
  have hset : gLenSet (.lst (pl.map fun p => .str (sx p.1))) = some (.int (metK [] (pl.map keyOf)).length) := by
    show (keysA (pl.map fun p => D.str (sx p.1))).bind (fun ks => if ks.length ≤ 4000 then some (D.int (metK [] ks).length) else none) = _
    rw [keysA_nms]
    show (if (pl.map keyOf).length ≤ 4000 then _ else _) = _
    rw [if_pos (by simp; omega)]
  simp only [ok_seq, ok_asg, ok_par, ok_ret, ok_retN, ok_sNil, ok_sIf, ok_bin, ok_un, ok_var, ok_C, ok_call, ok_callK, ok_cons, ok_nil, ok_args, ok_tru, ok_not, ok_and, ok_or, ok_eNot, ok_eAnd, ok_eOr, ok_if, ok_cmp, ok_chain, ok_ofC, ok_oNone, ok_oSome, ok_sl, ok_met, ok_rev, ok_items, ok_lenSet, ok_pairs0, ok_pairs, ok_dict, ok_iSeq, ok_rng1, ok_rng2, ok_comp, ok_comp0, ok_for, List.getElem?_cons_zero, List.getElem?_cons_succ, Option.some.injEq, Sl.val.injEq, exists_eq_left', List.nil_append, List.append_nil, List.length_cons, List.length_nil, true_and, and_true, and_self, Nat.zero_add, Nat.reduceAdd, Nat.reduceLeDiff, gAdd_i, gSub_i, gNeg_i, gBl_e, gCmpI_i, gLst_o, gTup_o, gN_e, List.set_cons_zero, List.set_cons_succ, truD_b, gIsN_n, isNonD, gLen_l, gInt_b, gInt_i, Option.map_some, Bool.false_eq_true, if_true, if_false, Bool.not_true, Bool.not_false, keyD, walkD, isi_l, hset, eqX_i]
  refine ⟨?_, ?_⟩
  · have : (pl.map fun p => D.str (sx p.1)).length ≤ 1000 := by simpa using hl
    exact Nat.le_trans this (by decide)
  refine comp_map (fun _ => .bl true) (fun d hd c => ?_) ?_
  · obtain ⟨p, hp, rfl⟩ := List.mem_map.mp hd
    refine ⟨_, rfl, rfl, ?_⟩
    have := is_name_eq (c := c) (hn p hp).2
    rw [(hn p hp).1] at this
    exact this
  · refine ⟨_, gAll_map (p := fun _ => true) _, ?_⟩
    have : ((pl.map fun p => D.str (sx p.1)).all fun _ => true) = true := by simp
    simp only [this, ok_seq, ok_asg, ok_par, ok_ret, ok_retN, ok_sNil, ok_sIf, ok_bin, ok_un, ok_var, ok_C, ok_call, ok_callK, ok_cons, ok_nil, ok_args, ok_tru, ok_not, ok_and, ok_or, ok_eNot, ok_eAnd, ok_eOr, ok_if, ok_cmp, ok_chain, ok_ofC, ok_oNone, ok_oSome, ok_sl, ok_met, ok_rev, ok_items, ok_lenSet, ok_pairs0, ok_pairs, ok_dict, ok_iSeq, ok_rng1, ok_rng2, ok_comp, ok_comp0, ok_for, List.getElem?_cons_zero, List.getElem?_cons_succ, Option.some.injEq, Sl.val.injEq, exists_eq_left', List.nil_append, List.append_nil, List.length_cons, List.length_nil, true_and, and_true, and_self, Nat.zero_add, Nat.reduceAdd, Nat.reduceLeDiff, gAdd_i, gSub_i, gNeg_i, gBl_e, gCmpI_i, gLst_o, gTup_o, gN_e, List.set_cons_zero, List.set_cons_succ, truD_b, gIsN_n, isNonD, gLen_l, gInt_b, gInt_i, Option.map_some, Bool.false_eq_true, if_true, if_false, Bool.not_true, Bool.not_false, keyD, walkD]
    rw [List.length_map]
    exact q
theorem isi_dl {es : List D} : gIsi [.lst es, .ty "dict"] = some (.bl false) := by kernel_rfl
theorem isi_dd {ks : List Key} {es : List D} : gIsi [.dic ks es, .ty "dict"] = some (.bl true) := by kernel_rfl
theorem itmD_e {ks : List Key} {vs : List D} : itmD (.dic ks vs) = some (.lst (itemsD ks vs)) := rfl
def asList (v : D) (es : List D) : Prop := v = .lst es ∨ ∃ ks vs, v = .dic ks vs ∧ es = itemsD ks vs
theorem setting_no {v : D} {es : List D} {T : D → Bool} {c : Churn} {k : D → Churn → Prop} (hv : asList v es) (hl : es.length ≤ 1000) (hT : ∀ e ∈ es, ∀ c, F_is_told [e] c = .ok (.bl (T e)) c) (h : es.all T = false) (q : k .non c) : Ok (F_setting_of [v] c) k := by
  show Ok (G.nx (runDef 3 g_setting_of [v]) c) k
  rw [ok_def]
  show Ok (g_setting_of [.val v, .no, .no] c) _
  unfold g_setting_of
  rcases hv with rfl | ⟨ks, vs, rfl, rfl⟩
  · simp only [ok_seq, ok_asg, ok_par, ok_ret, ok_retN, ok_sNil, ok_sIf, ok_bin, ok_un, ok_var, ok_C, ok_call, ok_callK, ok_cons, ok_nil, ok_args, ok_tru, ok_not, ok_and, ok_or, ok_eNot, ok_eAnd, ok_eOr, ok_if, ok_cmp, ok_chain, ok_ofC, ok_oNone, ok_oSome, ok_sl, ok_met, ok_rev, ok_items, ok_lenSet, ok_pairs0, ok_pairs, ok_dict, ok_iSeq, ok_rng1, ok_rng2, ok_comp, ok_comp0, ok_for, List.getElem?_cons_zero, List.getElem?_cons_succ, Option.some.injEq, Sl.val.injEq, exists_eq_left', List.nil_append, List.append_nil, List.length_cons, List.length_nil, true_and, and_true, and_self, Nat.zero_add, Nat.reduceAdd, Nat.reduceLeDiff, gAdd_i, gSub_i, gNeg_i, gBl_e, gCmpI_i, gLst_o, gTup_o, gN_e, List.set_cons_zero, List.set_cons_succ, truD_b, gIsN_n, isNonD, gLen_l, gInt_b, gInt_i, Option.map_some, Bool.false_eq_true, if_true, if_false, Bool.not_true, Bool.not_false, keyD, walkD, isi_dl, isi_l]
    refine ⟨Nat.le_trans hl (show 1000 ≤ sizeLine by decide), ?_⟩
    refine comp_map (fun e => .bl (T e)) (fun e he c => ⟨_, rfl, rfl, hT e he c⟩) ⟨_, gAll_map _, ?_⟩
    simp only [h, ok_seq, ok_asg, ok_par, ok_ret, ok_retN, ok_sNil, ok_sIf, ok_bin, ok_un, ok_var, ok_C, ok_call, ok_callK, ok_cons, ok_nil, ok_args, ok_tru, ok_not, ok_and, ok_or, ok_eNot, ok_eAnd, ok_eOr, ok_if, ok_cmp, ok_chain, ok_ofC, ok_oNone, ok_oSome, ok_sl, ok_met, ok_rev, ok_items, ok_lenSet, ok_pairs0, ok_pairs, ok_dict, ok_iSeq, ok_rng1, ok_rng2, ok_comp, ok_comp0, ok_for, List.getElem?_cons_zero, List.getElem?_cons_succ, Option.some.injEq, Sl.val.injEq, exists_eq_left', List.nil_append, List.append_nil, List.length_cons, List.length_nil, true_and, and_true, and_self, Nat.zero_add, Nat.reduceAdd, Nat.reduceLeDiff, gAdd_i, gSub_i, gNeg_i, gBl_e, gCmpI_i, gLst_o, gTup_o, gN_e, List.set_cons_zero, List.set_cons_succ, truD_b, gIsN_n, isNonD, gLen_l, gInt_b, gInt_i, Option.map_some, Bool.false_eq_true, if_true, if_false, Bool.not_true, Bool.not_false, keyD, walkD]
    exact q
  · simp only [ok_seq, ok_asg, ok_par, ok_ret, ok_retN, ok_sNil, ok_sIf, ok_bin, ok_un, ok_var, ok_C, ok_call, ok_callK, ok_cons, ok_nil, ok_args, ok_tru, ok_not, ok_and, ok_or, ok_eNot, ok_eAnd, ok_eOr, ok_if, ok_cmp, ok_chain, ok_ofC, ok_oNone, ok_oSome, ok_sl, ok_met, ok_rev, ok_items, ok_lenSet, ok_pairs0, ok_pairs, ok_dict, ok_iSeq, ok_rng1, ok_rng2, ok_comp, ok_comp0, ok_for, List.getElem?_cons_zero, List.getElem?_cons_succ, Option.some.injEq, Sl.val.injEq, exists_eq_left', List.nil_append, List.append_nil, List.length_cons, List.length_nil, true_and, and_true, and_self, Nat.zero_add, Nat.reduceAdd, Nat.reduceLeDiff, gAdd_i, gSub_i, gNeg_i, gBl_e, gCmpI_i, gLst_o, gTup_o, gN_e, List.set_cons_zero, List.set_cons_succ, truD_b, gIsN_n, isNonD, gLen_l, gInt_b, gInt_i, Option.map_some, Bool.false_eq_true, if_true, if_false, Bool.not_true, Bool.not_false, keyD, walkD, isi_dd, itmD_e, isi_l]
    refine ⟨Nat.le_trans hl (show 1000 ≤ sizeLine by decide), ?_⟩
    refine comp_map (fun e => .bl (T e)) (fun e he c => ⟨_, rfl, rfl, hT e he c⟩) ⟨_, gAll_map _, ?_⟩
    simp only [h, ok_seq, ok_asg, ok_par, ok_ret, ok_retN, ok_sNil, ok_sIf, ok_bin, ok_un, ok_var, ok_C, ok_call, ok_callK, ok_cons, ok_nil, ok_args, ok_tru, ok_not, ok_and, ok_or, ok_eNot, ok_eAnd, ok_eOr, ok_if, ok_cmp, ok_chain, ok_ofC, ok_oNone, ok_oSome, ok_sl, ok_met, ok_rev, ok_items, ok_lenSet, ok_pairs0, ok_pairs, ok_dict, ok_iSeq, ok_rng1, ok_rng2, ok_comp, ok_comp0, ok_for, List.getElem?_cons_zero, List.getElem?_cons_succ, Option.some.injEq, Sl.val.injEq, exists_eq_left', List.nil_append, List.append_nil, List.length_cons, List.length_nil, true_and, and_true, and_self, Nat.zero_add, Nat.reduceAdd, Nat.reduceLeDiff, gAdd_i, gSub_i, gNeg_i, gBl_e, gCmpI_i, gLst_o, gTup_o, gN_e, List.set_cons_zero, List.set_cons_succ, truD_b, gIsN_n, isNonD, gLen_l, gInt_b, gInt_i, Option.map_some, Bool.false_eq_true, if_true, if_false, Bool.not_true, Bool.not_false, keyD, walkD]
    exact q
theorem setting_yes {v : D} {es : List D} {pl : List PI} {c : Churn} {k : D → Churn → Prop} (hv : asList v es) (r : RelE es pl) (hn : ∀ p ∈ pl, isNm p.1 = true ∧ p.1.length ≤ 1000) (hl : es.length ≤ 1000)
    (q : if (((metK [] (pl.map keyOf)).length : Int) == (pl.length : Int)) = true then (sortOk (pl.map pT) = true ∧ k (.tup (sortD (pl.map pT))) c) else k .non c) : Ok (F_setting_of [v] c) k := by
  have hpl : pl.length ≤ 1000 := by rw [← r.length]; exact hl
  have tail : ∀ w : D, Ok ((sSeq (sIf (cNot (cTru (eCall 1 F_are_names [] (aCons (eComp (gN 2) (iSeq (eVar 1)) (fun _ => pure true) (eBin gIx (eVar 2) (eC (.int 0))) [2]) aNil)))) (sRet (eC .non)) sNil)
  (sRet (eArgs gTuple (aCons (eArgs gSorted (aCons (eComp (gN 2) (iSeq (eVar 1)) (fun _ => pure true) (eArgs gTup (aCons (eBin gIx (eVar 2) (eC (.int 0))) (aCons (eBin gIx (eVar 2) (eC (.int 1))) aNil))) [2]) aNil)) aNil)))) [.val w, .val (.lst es), .no] c) (fun p c1 => match p.2 with | .ret d => k d c1 | .nx => k .non c1 | _ => False) := by
    intro w
    simp only [ok_seq, ok_asg, ok_par, ok_ret, ok_retN, ok_sNil, ok_sIf, ok_bin, ok_un, ok_var, ok_C, ok_call, ok_callK, ok_cons, ok_nil, ok_args, ok_tru, ok_not, ok_and, ok_or, ok_eNot, ok_eAnd, ok_eOr, ok_if, ok_cmp, ok_chain, ok_ofC, ok_oNone, ok_oSome, ok_sl, ok_met, ok_rev, ok_items, ok_lenSet, ok_pairs0, ok_pairs, ok_dict, ok_iSeq, ok_rng1, ok_rng2, ok_comp, ok_comp0, ok_for, List.getElem?_cons_zero, List.getElem?_cons_succ, Option.some.injEq, Sl.val.injEq, exists_eq_left', List.nil_append, List.append_nil, List.length_cons, List.length_nil, true_and, and_true, and_self, Nat.zero_add, Nat.reduceAdd, Nat.reduceLeDiff, gAdd_i, gSub_i, gNeg_i, gBl_e, gCmpI_i, gLst_o, gTup_o, gN_e, List.set_cons_zero, List.set_cons_succ, truD_b, gIsN_n, isNonD, gLen_l, gInt_b, gInt_i, Option.map_some, Bool.false_eq_true, if_true, if_false, Bool.not_true, Bool.not_false, keyD, walkD]
    refine ⟨Nat.le_trans hl (show 1000 ≤ sizeLine by decide), ?_⟩
    refine comp_map nmOf (fun e he c => ?_) ?_
    · obtain ⟨p, _, h⟩ := r.mem e he
      refine ⟨_, rfl, rfl, ?_⟩
      rcases h with rfl | rfl <;> kernel_rfl
    rw [r.nms]
    refine are_names_ok hn hpl ?_
    simp only [ok_seq, ok_asg, ok_par, ok_ret, ok_retN, ok_sNil, ok_sIf, ok_bin, ok_un, ok_var, ok_C, ok_call, ok_callK, ok_cons, ok_nil, ok_args, ok_tru, ok_not, ok_and, ok_or, ok_eNot, ok_eAnd, ok_eOr, ok_if, ok_cmp, ok_chain, ok_ofC, ok_oNone, ok_oSome, ok_sl, ok_met, ok_rev, ok_items, ok_lenSet, ok_pairs0, ok_pairs, ok_dict, ok_iSeq, ok_rng1, ok_rng2, ok_comp, ok_comp0, ok_for, List.getElem?_cons_zero, List.getElem?_cons_succ, Option.some.injEq, Sl.val.injEq, exists_eq_left', List.nil_append, List.append_nil, List.length_cons, List.length_nil, true_and, and_true, and_self, Nat.zero_add, Nat.reduceAdd, Nat.reduceLeDiff, gAdd_i, gSub_i, gNeg_i, gBl_e, gCmpI_i, gLst_o, gTup_o, gN_e, List.set_cons_zero, List.set_cons_succ, truD_b, gIsN_n, isNonD, gLen_l, gInt_b, gInt_i, Option.map_some, Bool.false_eq_true, if_true, if_false, Bool.not_true, Bool.not_false, keyD, walkD]
    by_cases hb : (((metK [] (pl.map keyOf)).length : Int) == (pl.length : Int)) = true
    · rw [if_pos hb] at q
      simp only [hb, ok_seq, ok_asg, ok_par, ok_ret, ok_retN, ok_sNil, ok_sIf, ok_bin, ok_un, ok_var, ok_C, ok_call, ok_callK, ok_cons, ok_nil, ok_args, ok_tru, ok_not, ok_and, ok_or, ok_eNot, ok_eAnd, ok_eOr, ok_if, ok_cmp, ok_chain, ok_ofC, ok_oNone, ok_oSome, ok_sl, ok_met, ok_rev, ok_items, ok_lenSet, ok_pairs0, ok_pairs, ok_dict, ok_iSeq, ok_rng1, ok_rng2, ok_comp, ok_comp0, ok_for, List.getElem?_cons_zero, List.getElem?_cons_succ, Option.some.injEq, Sl.val.injEq, exists_eq_left', List.nil_append, List.append_nil, List.length_cons, List.length_nil, true_and, and_true, and_self, Nat.zero_add, Nat.reduceAdd, Nat.reduceLeDiff, gAdd_i, gSub_i, gNeg_i, gBl_e, gCmpI_i, gLst_o, gTup_o, gN_e, List.set_cons_zero, List.set_cons_succ, truD_b, gIsN_n, isNonD, gLen_l, gInt_b, gInt_i, Option.map_some, Bool.false_eq_true, if_true, if_false, Bool.not_true, Bool.not_false, keyD, walkD]
      refine ⟨Nat.le_trans hl (show 1000 ≤ sizeLine by decide), ?_⟩
      refine comp_map prOf (fun e he c => ?_) ?_
      · obtain ⟨p, _, h⟩ := r.mem e he
        refine ⟨_, rfl, rfl, ?_⟩
        rcases h with rfl | rfl <;> kernel_rfl
      rw [r.prs]
      refine ⟨_, if_pos q.1, _, rfl, q.2⟩
    · rw [if_neg hb] at q
      simp only [hb, ok_seq, ok_asg, ok_par, ok_ret, ok_retN, ok_sNil, ok_sIf, ok_bin, ok_un, ok_var, ok_C, ok_call, ok_callK, ok_cons, ok_nil, ok_args, ok_tru, ok_not, ok_and, ok_or, ok_eNot, ok_eAnd, ok_eOr, ok_if, ok_cmp, ok_chain, ok_ofC, ok_oNone, ok_oSome, ok_sl, ok_met, ok_rev, ok_items, ok_lenSet, ok_pairs0, ok_pairs, ok_dict, ok_iSeq, ok_rng1, ok_rng2, ok_comp, ok_comp0, ok_for, List.getElem?_cons_zero, List.getElem?_cons_succ, Option.some.injEq, Sl.val.injEq, exists_eq_left', List.nil_append, List.append_nil, List.length_cons, List.length_nil, true_and, and_true, and_self, Nat.zero_add, Nat.reduceAdd, Nat.reduceLeDiff, gAdd_i, gSub_i, gNeg_i, gBl_e, gCmpI_i, gLst_o, gTup_o, gN_e, List.set_cons_zero, List.set_cons_succ, truD_b, gIsN_n, isNonD, gLen_l, gInt_b, gInt_i, Option.map_some, Bool.false_eq_true, if_true, if_false, Bool.not_true, Bool.not_false, keyD, walkD]
      exact q
  have tolds : ∀ e ∈ es, ∀ c, F_is_told [e] c = .ok (.bl true) c := fun e he c => by
    obtain ⟨p, hp, h⟩ := r.mem e he
    exact told_eq h (hn p hp).1 (hn p hp).2
  have hall : (es.all fun _ => true) = true := by simp
  show Ok (G.nx (runDef 3 g_setting_of [v]) c) k
  rw [ok_def]
  show Ok (g_setting_of [.val v, .no, .no] c) _
  unfold g_setting_of
  rcases hv with rfl | ⟨ks, vs, rfl, rfl⟩
  · rw [ok_seq]
    simp only [ok_asg, ok_if, ok_tru, ok_args, ok_cons, ok_nil, ok_var, ok_C, List.getElem?_cons_zero, Option.some.injEq, Sl.val.injEq, exists_eq_left', isi_dl, truD_b, Bool.false_eq_true, if_false, gN_e, List.set_cons_succ, List.set_cons_zero]
    rw [ok_seq]
    simp only [ok_sIf, ok_or, ok_not, ok_tru, ok_args, ok_cons, ok_nil, ok_var, ok_C, ok_comp, ok_iSeq, List.getElem?_cons_zero, List.getElem?_cons_succ, Option.some.injEq, Sl.val.injEq, exists_eq_left', gTup_o, List.length_cons, List.length_nil, Nat.reduceAdd, Nat.reduceLeDiff, isi_l, truD_b, Bool.not_true, Bool.false_eq_true, if_false, walkD]
    refine ⟨Nat.le_trans hl (show 1000 ≤ sizeLine by decide), ?_⟩
    refine comp_map (fun e => .bl true) (fun e he c => ⟨_, rfl, rfl, tolds e he c⟩) ⟨_, gAll_map (p := fun _ => true) _, ?_⟩
    simp only [hall, truD_b, Option.some.injEq, exists_eq_left', Bool.not_true, Bool.false_eq_true, if_false, ok_sNil]
    exact tail _
  · rw [ok_seq]
    simp only [ok_asg, ok_if, ok_tru, ok_args, ok_cons, ok_nil, ok_var, ok_C, ok_items, List.getElem?_cons_zero, Option.some.injEq, Sl.val.injEq, exists_eq_left', isi_dd, itmD_e, truD_b, if_true, gN_e, List.set_cons_succ, List.set_cons_zero]
    rw [ok_seq]
    simp only [ok_sIf, ok_or, ok_not, ok_tru, ok_args, ok_cons, ok_nil, ok_var, ok_C, ok_comp, ok_iSeq, List.getElem?_cons_zero, List.getElem?_cons_succ, Option.some.injEq, Sl.val.injEq, exists_eq_left', gTup_o, List.length_cons, List.length_nil, Nat.reduceAdd, Nat.reduceLeDiff, isi_l, truD_b, Bool.not_true, Bool.false_eq_true, if_false, walkD]
    refine ⟨Nat.le_trans hl (show 1000 ≤ sizeLine by decide), ?_⟩
    refine comp_map (fun e => .bl true) (fun e he c => ⟨_, rfl, rfl, tolds e he c⟩) ⟨_, gAll_map (p := fun _ => true) _, ?_⟩
    simp only [hall, truD_b, Option.some.injEq, exists_eq_left', Bool.not_true, Bool.false_eq_true, if_false, ok_sNil]
    exact tail _
end G

set_option Elab.async false
set_option linter.all false
set_option maxRecDepth 100000
set_option maxHeartbeats 400000
namespace G
open PySem PySem.Spec PyProof.Rows L2
def cx : List Nat := ("x" : Str).cps.toList
def cy : List Nat := ("y" : Str).cps.toList
def ca1 : List Nat := ("a1" : Str).cps.toList
def cn : List Nat := ("n" : Str).cps.toList
def czz : List Nat := ("zz" : Str).cps.toList
def cb : List Nat := ("b" : Str).cps.toList
def cc : List Nat := ("c" : Str).cps.toList
def cd : List Nat := ("d" : Str).cps.toList
theorem short8 : cx.length ≤ 9 ∧ cy.length ≤ 9 ∧ ca1.length ≤ 9 ∧ cn.length ≤ 9 ∧ czz.length ≤ 9 ∧ cb.length ≤ 9 ∧ cc.length ≤ 9 ∧ cd.length ≤ 9 := by decide +kernel
/-- pairs that sort as they do backwards -/
structure SortedSame (pl : List PI) : Prop where
  ok : sortOk (pl.map pT) = true
  okr : sortOk (pl.reverse.map pT) = true
  same : sortD (pl.reverse.map pT) = sortD (pl.map pT)
  nm : ∀ p ∈ pl, isNm p.1 = true ∧ p.1.length ≤ 9
  nd : (((metK [] (pl.map keyOf)).length : Int) == (pl.length : Int)) = true
  ndr : (((metK [] (pl.reverse.map keyOf)).length : Int) == (pl.length : Int)) = true
  few : pl.length ≤ 4
  cs : pl.map (·.1) = [cx, cy, ca1] ∨ pl.map (·.1) = [cn] ∨ pl.map (·.1) = [] ∨ pl.map (·.1) = [czz, cb, cc, cd]
theorem ss3 (u v w : Int) : SortedSame [(cx, u), (cy, v), (ca1, w)] := by
  have e1 : PySem.W.dataLe false encD (pT (cx, u)) (pT (cy, v)) = true := by kernel_rfl
  have e2 : PySem.W.dataLe false encD (pT (cx, u)) (pT (ca1, w)) = false := by kernel_rfl
  have e3 : PySem.W.dataLe false encD (pT (cy, v)) (pT (ca1, w)) = false := by kernel_rfl
  have e4 : PySem.W.dataLe false encD (pT (cy, v)) (pT (cx, u)) = false := by kernel_rfl
  have e5 : PySem.W.dataLe false encD (pT (ca1, w)) (pT (cx, u)) = true := by kernel_rfl
  have e6 : PySem.W.dataLe false encD (pT (ca1, w)) (pT (cy, v)) = true := by kernel_rfl
  refine ⟨by kernel_rfl, by kernel_rfl, ?_, ?_, by kernel_rfl, by kernel_rfl, by simp, .inl rfl⟩
  · unfold sortD
    simp [List.mergeSort, List.MergeSort.Internal.splitInTwo, List.merge, e1, e2, e3, e4, e5, e6]
  · intro p hp
    simp only [List.mem_cons, List.not_mem_nil, or_false] at hp
    rcases hp with rfl | rfl | rfl
    · exact ⟨by kernel_rfl, short8.1⟩
    · exact ⟨by kernel_rfl, short8.2.1⟩
    · exact ⟨by kernel_rfl, short8.2.2.1⟩
theorem ss1 (u : Int) : SortedSame [(cn, u)] := by
  refine ⟨by kernel_rfl, by kernel_rfl, rfl, ?_, by kernel_rfl, by kernel_rfl, by simp, .inr (.inl rfl)⟩
  intro p hp
  simp only [List.mem_cons, List.not_mem_nil, or_false] at hp
  rcases hp with rfl
  exact ⟨by kernel_rfl, short8.2.2.2.1⟩
theorem ss0 : SortedSame [] := ⟨by kernel_rfl, by kernel_rfl, rfl, by simp, by kernel_rfl, by kernel_rfl, by simp, .inr (.inr (.inl rfl))⟩
theorem ss4 (u v w x : Int) : SortedSame [(czz, u), (cb, v), (cc, w), (cd, x)] := by
  have e1 : PySem.W.dataLe false encD (pT (czz, u)) (pT (cb, v)) = false := by kernel_rfl
  have e2 : PySem.W.dataLe false encD (pT (czz, u)) (pT (cc, w)) = false := by kernel_rfl
  have e3 : PySem.W.dataLe false encD (pT (czz, u)) (pT (cd, x)) = false := by kernel_rfl
  have e4 : PySem.W.dataLe false encD (pT (cb, v)) (pT (czz, u)) = true := by kernel_rfl
  have e5 : PySem.W.dataLe false encD (pT (cb, v)) (pT (cc, w)) = true := by kernel_rfl
  have e6 : PySem.W.dataLe false encD (pT (cb, v)) (pT (cd, x)) = true := by kernel_rfl
  have e7 : PySem.W.dataLe false encD (pT (cc, w)) (pT (czz, u)) = true := by kernel_rfl
  have e8 : PySem.W.dataLe false encD (pT (cc, w)) (pT (cb, v)) = false := by kernel_rfl
  have e9 : PySem.W.dataLe false encD (pT (cc, w)) (pT (cd, x)) = true := by kernel_rfl
  have f1 : PySem.W.dataLe false encD (pT (cd, x)) (pT (czz, u)) = true := by kernel_rfl
  have f2 : PySem.W.dataLe false encD (pT (cd, x)) (pT (cb, v)) = false := by kernel_rfl
  have f3 : PySem.W.dataLe false encD (pT (cd, x)) (pT (cc, w)) = false := by kernel_rfl
  refine ⟨by kernel_rfl, by kernel_rfl, ?_, ?_, by kernel_rfl, by kernel_rfl, by simp, .inr (.inr (.inr rfl))⟩
  · unfold sortD
    simp [List.mergeSort, List.MergeSort.Internal.splitInTwo, List.merge, e1, e2, e3, e4, e5, e6, e7, e8, e9, f1, f2, f3]
  · intro p hp
    simp only [List.mem_cons, List.not_mem_nil, or_false] at hp
    rcases hp with rfl | rfl | rfl | rfl
    · exact ⟨by kernel_rfl, short8.2.2.2.2.1⟩
    · exact ⟨by kernel_rfl, short8.2.2.2.2.2.1⟩
    · exact ⟨by kernel_rfl, short8.2.2.2.2.2.2.1⟩
    · exact ⟨by kernel_rfl, short8.2.2.2.2.2.2.2⟩
end G

set_option Elab.async false
set_option linter.all false
set_option maxRecDepth 100000
set_option maxHeartbeats 400000
namespace G
open PySem PySem.Spec PyProof.Rows L2
def vOk (v : Int) : Bool := sizI v
theorem pairs_of : ∀ {ns : List (List Nat)} {ys : List D}, F2 (fun d y => ∃ v, y = .tup [d, .int v] ∧ vOk v = true) (ns.map fun s => .str (sx s)) ys → ∃ pl : List PI, ys = pl.map pT ∧ pl.map (·.1) = ns ∧ ∀ p ∈ pl, vOk p.2 = true
  | [], ys, h => by
    have h : F2 _ [] ys := h
    cases h
    exact ⟨[], rfl, rfl, by simp⟩
  | s :: ns, ys, h => by
    have h : F2 (fun d y => ∃ v, y = .tup [d, .int v] ∧ vOk v = true) (.str (sx s) :: ns.map fun s => .str (sx s)) ys := h
    cases h with
    | cons h1 r =>
      obtain ⟨v, e, hv⟩ := h1
      obtain ⟨pl, e2, e3, h3⟩ := pairs_of r
      refine ⟨(s, v) :: pl, by rw [e, e2]; rfl, by rw [List.map_cons, e3], fun p hp => ?_⟩
      exact (List.mem_cons.mp hp).elim (fun z => z ▸ hv) (h3 p)
theorem ss_of {pl : List PI} (h : pl.map (·.1) = [cx, cy, ca1] ∨ pl.map (·.1) = [cn] ∨ pl.map (·.1) = [] ∨ pl.map (·.1) = [czz, cb, cc, cd]) : SortedSame pl := by
  rcases h with h | h | h | h
  · match pl, h with
    | [(a, u), (b, v), (e, w)], h => cases h; exact ss3 u v w
  · match pl, h with
    | [(a, u)], h => cases h; exact ss1 u
  · match pl, h with
    | [], h => exact ss0
  · match pl, h with
    | [(a, u), (b, v), (e, w), (f, x)], h => cases h; exact ss4 u v w x
theorem relE_of : ∀ {pl : List PI} {es : List D}, F2 (fun d y => ∀ a b, d = .tup [a, b] → y = .lst [a, b] ∨ y = d) (pl.map pT) es → RelE es pl
  | [], es, h => by
    have h : F2 _ [] es := h
    cases h
    exact .nil
  | p :: pl, es, h => by
    have h : F2 (fun d y => ∀ a b, d = .tup [a, b] → y = .lst [a, b] ∨ y = d) (pT p :: pl.map pT) es := h
    cases h with
    | cons h1 r => exact .cons (h1 _ _ rfl) (relE_of r)
end G

set_option Elab.async false
set_option linter.all false
set_option maxRecDepth 100000
set_option maxHeartbeats 400000
namespace G
open PySem PySem.Spec PyProof.Rows L2
abbrev nsD (ns : List (List Nat)) : D := .lst (ns.map fun s => .str (sx s))
def nsOk (ns : List (List Nat)) : Prop := ns.length ≤ 4 ∧ (ns = [cx, cy, ca1] ∨ ns = [cn] ∨ ns = [] ∨ ns = [czz, cb, cc, cd])
theorem st1 {n : Nat} {c : Churn} (g : Good n c) (hn : n + 100 ≤ 2 ^ 20) : Ok (sAsg (gN 1) (eCall 2 F__law_one [] (aCons (eVar 0) (aCons (eArgs gLst (aCons (eArgs gLst (aCons (eC (.str "x")) (aCons (eC (.str "y")) (aCons (eC (.str "a1")) aNil)))) (aCons (eArgs gLst (aCons (eC (.str "n")) aNil)) (aCons (eArgs gLst aNil) (aCons (eArgs gLst (aCons (eC (.str "zz")) (aCons (eC (.str "b")) (aCons (eC (.str "c")) (aCons (eC (.str "d")) aNil))))) aNil))))) aNil)))
    [.val .chn, .no, .no, .no, .no, .no, .no, .no, .no] c) fun p c1 => p.2 = .nx ∧ (∃ ns, p.1 = [.val .chn, .val (nsD ns), .no, .no, .no, .no, .no, .no, .no] ∧ nsOk ns) ∧ Good (n + 1) c1 := by
  simp only [ok_seq, ok_asg, ok_par, ok_ret, ok_retN, ok_sNil, ok_sIf, ok_bin, ok_un, ok_var, ok_C, ok_call, ok_callK, ok_cons, ok_nil, ok_args, ok_tru, ok_not, ok_and, ok_or, ok_eNot, ok_eAnd, ok_eOr, ok_if, ok_cmp, ok_chain, ok_ofC, ok_oNone, ok_oSome, ok_sl, ok_met, ok_rev, ok_items, ok_lenSet, ok_pairs0, ok_pairs, ok_dict, ok_iSeq, ok_rng1, ok_rng2, ok_comp, ok_comp0, ok_for, List.getElem?_cons_zero, List.getElem?_cons_succ, Option.some.injEq, Sl.val.injEq, exists_eq_left', List.nil_append, List.append_nil, List.length_cons, List.length_nil, true_and, and_true, and_self, Nat.zero_add, Nat.reduceAdd, Nat.reduceLeDiff, gAdd_i, gSub_i, gNeg_i, gBl_e, gCmpI_i, gLst_o, gTup_o, gN_e, List.set_cons_zero, List.set_cons_succ, truD_b, gIsN_n, isNonD, gLen_l, gInt_b, gInt_i, Option.map_some, Bool.false_eq_true, if_true, if_false, Bool.not_true, Bool.not_false, keyD, walkD]
  refine one_ok g (by omega) (by simp) (by simp) fun x hx c1 g1 => ?_
  simp only [List.mem_cons, List.not_mem_nil, or_false] at hx
  rcases hx with rfl | rfl | rfl | rfl
  · exact ⟨⟨[cx, cy, ca1], by rfl, by simp, .inl rfl⟩, g1⟩
  · exact ⟨⟨[cn], by rfl, by simp, .inr (.inl rfl)⟩, g1⟩
  · exact ⟨⟨[], by rfl, by simp, .inr (.inr (.inl rfl))⟩, g1⟩
  · exact ⟨⟨[czz, cb, cc, cd], by rfl, by simp, .inr (.inr (.inr rfl))⟩, g1⟩
theorem st2 {n : Nat} {c : Churn} {ns : List (List Nat)} (hns : nsOk ns) (g : Good n c) (hn : n + 100 ≤ 2 ^ 20) : Ok (sAsg (gN 2) (eComp (gN 7) (iSeq (eVar 1)) (fun _ => pure true) (eArgs gTup (aCons (eVar 7) (aCons (eCall 2 F__law_one [] (aCons (eVar 0) (aCons (eArgs gLst (aCons (eBin gSub (eCall 2 F__law_delve [] (aCons (eVar 0) (aCons (eC (.int 9)) aNil))) (eC (.int 4))) (aCons (eBin gPow (eC (.int 10)) (eC (.int 50))) (aCons (eUn gNeg (eBin gPow (eC (.int 10)) (eC (.int 30)))) aNil)))) aNil))) aNil))) [7])
    [.val .chn, .val (nsD ns), .no, .no, .no, .no, .no, .no, .no] c) fun p c1 => p.2 = .nx ∧ (∃ pl : List PI, p.1 = [.val .chn, .val (nsD ns), .val (.lst (pl.map pT)), .no, .no, .no, .no, .no, .no] ∧ SortedSame pl ∧ ∀ p ∈ pl, vOk p.2 = true) ∧ Good (n + 8) c1 := by
  simp only [ok_seq, ok_asg, ok_par, ok_ret, ok_retN, ok_sNil, ok_sIf, ok_bin, ok_un, ok_var, ok_C, ok_call, ok_callK, ok_cons, ok_nil, ok_args, ok_tru, ok_not, ok_and, ok_or, ok_eNot, ok_eAnd, ok_eOr, ok_if, ok_cmp, ok_chain, ok_ofC, ok_oNone, ok_oSome, ok_sl, ok_met, ok_rev, ok_items, ok_lenSet, ok_pairs0, ok_pairs, ok_dict, ok_iSeq, ok_rng1, ok_rng2, ok_comp, ok_comp0, ok_for, List.getElem?_cons_zero, List.getElem?_cons_succ, Option.some.injEq, Sl.val.injEq, exists_eq_left', List.nil_append, List.append_nil, List.length_cons, List.length_nil, true_and, and_true, and_self, Nat.zero_add, Nat.reduceAdd, Nat.reduceLeDiff, gAdd_i, gSub_i, gNeg_i, gBl_e, gCmpI_i, gLst_o, gTup_o, gN_e, List.set_cons_zero, List.set_cons_succ, truD_b, gIsN_n, isNonD, gLen_l, gInt_b, gInt_i, Option.map_some, Bool.false_eq_true, if_true, if_false, Bool.not_true, Bool.not_false, keyD, walkD]
  refine ⟨by rw [List.length_map]; exact Nat.le_trans hns.1 (by decide), ?_⟩
  have e50 : gPow (.int 10) (.int 50) = some (.int (10 ^ 50)) := gPow_ok (by decide) (by decide) (by decide)
  have e30 : gPow (.int 10) (.int 30) = some (.int (10 ^ 30)) := gPow_ok (by decide) (by decide) (by decide)
  have hlen : (ns.map fun s => D.str (sx s)).length ≤ 4 := by rw [List.length_map]; exact hns.1
  refine comp_draw (fun d y => ∃ v, y = .tup [d, .int v] ∧ vOk v = true) 2 (B := 2 ^ 20) (fun d hd => ⟨_, rfl, fun n c kk g hn q => ?_⟩) g (by omega) fun ys c2 rs g2 => ?_
  · simp only [ok_seq, ok_asg, ok_par, ok_ret, ok_retN, ok_sNil, ok_sIf, ok_bin, ok_un, ok_var, ok_C, ok_call, ok_callK, ok_cons, ok_nil, ok_args, ok_tru, ok_not, ok_and, ok_or, ok_eNot, ok_eAnd, ok_eOr, ok_if, ok_cmp, ok_chain, ok_ofC, ok_oNone, ok_oSome, ok_sl, ok_met, ok_rev, ok_items, ok_lenSet, ok_pairs0, ok_pairs, ok_dict, ok_iSeq, ok_rng1, ok_rng2, ok_comp, ok_comp0, ok_for, List.getElem?_cons_zero, List.getElem?_cons_succ, Option.some.injEq, Sl.val.injEq, exists_eq_left', List.nil_append, List.append_nil, List.length_cons, List.length_nil, true_and, and_true, and_self, Nat.zero_add, Nat.reduceAdd, Nat.reduceLeDiff, gAdd_i, gSub_i, gNeg_i, gBl_e, gCmpI_i, gLst_o, gTup_o, gN_e, List.set_cons_zero, List.set_cons_succ, truD_b, gIsN_n, isNonD, gLen_l, gInt_b, gInt_i, Option.map_some, Bool.false_eq_true, if_true, if_false, Bool.not_true, Bool.not_false, keyD, walkD, wipeE, e50, e30]
    refine delve_ok g (by omega) (by decide) (by decide) fun r c1 r0 r1 g1 => ?_
    simp only [ok_seq, ok_asg, ok_par, ok_ret, ok_retN, ok_sNil, ok_sIf, ok_bin, ok_un, ok_var, ok_C, ok_call, ok_callK, ok_cons, ok_nil, ok_args, ok_tru, ok_not, ok_and, ok_or, ok_eNot, ok_eAnd, ok_eOr, ok_if, ok_cmp, ok_chain, ok_ofC, ok_oNone, ok_oSome, ok_sl, ok_met, ok_rev, ok_items, ok_lenSet, ok_pairs0, ok_pairs, ok_dict, ok_iSeq, ok_rng1, ok_rng2, ok_comp, ok_comp0, ok_for, List.getElem?_cons_zero, List.getElem?_cons_succ, Option.some.injEq, Sl.val.injEq, exists_eq_left', List.nil_append, List.append_nil, List.length_cons, List.length_nil, true_and, and_true, and_self, Nat.zero_add, Nat.reduceAdd, Nat.reduceLeDiff, gAdd_i, gSub_i, gNeg_i, gBl_e, gCmpI_i, gLst_o, gTup_o, gN_e, List.set_cons_zero, List.set_cons_succ, truD_b, gIsN_n, isNonD, gLen_l, gInt_b, gInt_i, Option.map_some, Bool.false_eq_true, if_true, if_false, Bool.not_true, Bool.not_false, keyD, walkD, e50, e30]
    refine one_ok g1 (by omega) (by simp) (by simp) fun x hx c3 g3 => ?_
    simp only [List.mem_cons, List.not_mem_nil, or_false] at hx
    rcases hx with rfl | rfl | rfl
    · try simp only [ok_seq, ok_asg, ok_par, ok_ret, ok_retN, ok_sNil, ok_sIf, ok_bin, ok_un, ok_var, ok_C, ok_call, ok_callK, ok_cons, ok_nil, ok_args, ok_tru, ok_not, ok_and, ok_or, ok_eNot, ok_eAnd, ok_eOr, ok_if, ok_cmp, ok_chain, ok_ofC, ok_oNone, ok_oSome, ok_sl, ok_met, ok_rev, ok_items, ok_lenSet, ok_pairs0, ok_pairs, ok_dict, ok_iSeq, ok_rng1, ok_rng2, ok_comp, ok_comp0, ok_for, List.getElem?_cons_zero, List.getElem?_cons_succ, Option.some.injEq, Sl.val.injEq, exists_eq_left', List.nil_append, List.append_nil, List.length_cons, List.length_nil, true_and, and_true, and_self, Nat.zero_add, Nat.reduceAdd, Nat.reduceLeDiff, gAdd_i, gSub_i, gNeg_i, gBl_e, gCmpI_i, gLst_o, gTup_o, gN_e, List.set_cons_zero, List.set_cons_succ, truD_b, gIsN_n, isNonD, gLen_l, gInt_b, gInt_i, Option.map_some, Bool.false_eq_true, if_true, if_false, Bool.not_true, Bool.not_false, keyD, walkD]
      exact q _ _ ⟨_, rfl, decide_eq_true (Nat.lt_trans (show (r - 4).natAbs < 100 by omega) (by decide))⟩ g3
    · try simp only [ok_seq, ok_asg, ok_par, ok_ret, ok_retN, ok_sNil, ok_sIf, ok_bin, ok_un, ok_var, ok_C, ok_call, ok_callK, ok_cons, ok_nil, ok_args, ok_tru, ok_not, ok_and, ok_or, ok_eNot, ok_eAnd, ok_eOr, ok_if, ok_cmp, ok_chain, ok_ofC, ok_oNone, ok_oSome, ok_sl, ok_met, ok_rev, ok_items, ok_lenSet, ok_pairs0, ok_pairs, ok_dict, ok_iSeq, ok_rng1, ok_rng2, ok_comp, ok_comp0, ok_for, List.getElem?_cons_zero, List.getElem?_cons_succ, Option.some.injEq, Sl.val.injEq, exists_eq_left', List.nil_append, List.append_nil, List.length_cons, List.length_nil, true_and, and_true, and_self, Nat.zero_add, Nat.reduceAdd, Nat.reduceLeDiff, gAdd_i, gSub_i, gNeg_i, gBl_e, gCmpI_i, gLst_o, gTup_o, gN_e, List.set_cons_zero, List.set_cons_succ, truD_b, gIsN_n, isNonD, gLen_l, gInt_b, gInt_i, Option.map_some, Bool.false_eq_true, if_true, if_false, Bool.not_true, Bool.not_false, keyD, walkD]
      exact q _ _ ⟨_, rfl, by decide +kernel⟩ g3
    · try simp only [ok_seq, ok_asg, ok_par, ok_ret, ok_retN, ok_sNil, ok_sIf, ok_bin, ok_un, ok_var, ok_C, ok_call, ok_callK, ok_cons, ok_nil, ok_args, ok_tru, ok_not, ok_and, ok_or, ok_eNot, ok_eAnd, ok_eOr, ok_if, ok_cmp, ok_chain, ok_ofC, ok_oNone, ok_oSome, ok_sl, ok_met, ok_rev, ok_items, ok_lenSet, ok_pairs0, ok_pairs, ok_dict, ok_iSeq, ok_rng1, ok_rng2, ok_comp, ok_comp0, ok_for, List.getElem?_cons_zero, List.getElem?_cons_succ, Option.some.injEq, Sl.val.injEq, exists_eq_left', List.nil_append, List.append_nil, List.length_cons, List.length_nil, true_and, and_true, and_self, Nat.zero_add, Nat.reduceAdd, Nat.reduceLeDiff, gAdd_i, gSub_i, gNeg_i, gBl_e, gCmpI_i, gLst_o, gTup_o, gN_e, List.set_cons_zero, List.set_cons_succ, truD_b, gIsN_n, isNonD, gLen_l, gInt_b, gInt_i, Option.map_some, Bool.false_eq_true, if_true, if_false, Bool.not_true, Bool.not_false, keyD, walkD]
      exact q _ _ ⟨_, rfl, by decide +kernel⟩ g3
  · obtain ⟨pl, rfl, e, h⟩ := pairs_of rs
    refine ⟨⟨pl, rfl, ss_of (by rw [e]; exact hns.2), h⟩, g2.mono (by omega)⟩
end G

set_option Elab.async false
set_option linter.all false
set_option maxRecDepth 100000
set_option maxHeartbeats 400000
namespace G
open PySem PySem.Spec PyProof.Rows L2
abbrev rh (ns : List (List Nat)) (pl : List PI) (a b e : Sl) : Ev := [.val .chn, .val (nsD ns), .val (.lst (pl.map pT)), a, b, e, .no, .no, .no]
abbrev dueY (pl : List PI) : D := .tup (sortD (pl.map pT))
theorem st3 {n : Nat} {c : Churn} {ns : List (List Nat)} {pl : List PI} (h : SortedSame pl) (g : Good n c) (hn : n + 80 ≤ 2 ^ 20) : Ok (sPar 3 4 (aCons (eArgs gTuple (aCons (eArgs gSorted (aCons (eVar 2) aNil)) aNil)) (aCons (eCall 2 F__law_delve [] (aCons (eVar 0) (aCons (eC (.int 9)) aNil))) aNil))
    (rh ns pl .no .no .no) c) fun p c1 => p.2 = .nx ∧ (∃ r : Int, p.1 = rh ns pl (.val (dueY pl)) (.val (.int r)) .no ∧ 0 ≤ r) ∧ Good (n + 1) c1 := by
  have e : gSorted [.lst (pl.map pT)] = some (.lst (sortD (pl.map pT))) := if_pos h.ok
  have e2 : gTuple [.lst (sortD (pl.map pT))] = some (.tup (sortD (pl.map pT))) := rfl
  simp only [ok_seq, ok_asg, ok_par, ok_ret, ok_retN, ok_sNil, ok_sIf, ok_bin, ok_un, ok_var, ok_C, ok_call, ok_callK, ok_cons, ok_nil, ok_args, ok_tru, ok_not, ok_and, ok_or, ok_eNot, ok_eAnd, ok_eOr, ok_if, ok_cmp, ok_chain, ok_ofC, ok_oNone, ok_oSome, ok_sl, ok_met, ok_rev, ok_items, ok_lenSet, ok_pairs0, ok_pairs, ok_dict, ok_iSeq, ok_rng1, ok_rng2, ok_comp, ok_comp0, ok_for, List.getElem?_cons_zero, List.getElem?_cons_succ, Option.some.injEq, Sl.val.injEq, exists_eq_left', List.nil_append, List.append_nil, List.length_cons, List.length_nil, true_and, and_true, and_self, Nat.zero_add, Nat.reduceAdd, Nat.reduceLeDiff, gAdd_i, gSub_i, gNeg_i, gBl_e, gCmpI_i, gLst_o, gTup_o, gN_e, List.set_cons_zero, List.set_cons_succ, truD_b, gIsN_n, isNonD, gLen_l, gInt_b, gInt_i, Option.map_some, Bool.false_eq_true, if_true, if_false, Bool.not_true, Bool.not_false, keyD, walkD, e, e2]
  refine delve_ok g (by omega) (by decide) (by decide) fun r c1 r0 r1 g1 => ?_
  exact ⟨_, _, rfl, ⟨r, rfl, r0⟩, g1⟩
theorem st4 {n : Nat} {c : Churn} {ns : List (List Nat)} {pl : List PI} {a b : Sl} (h : SortedSame pl) (g : Good n c) (hn : n + 80 ≤ 2 ^ 20) : Ok (sAsg (gN 5) (eComp (gN 8) (iSeq (eRev (eVar 2))) (fun _ => pure true) (eCall 2 F__law_one [] (aCons (eVar 0) (aCons (eArgs gLst (aCons (eArgs gList (aCons (eVar 8) aNil)) (aCons (eVar 8) aNil))) aNil))) [8])
    (rh ns pl a b .no) c) fun p c1 => p.2 = .nx ∧ (∃ es, p.1 = rh ns pl a b (.val (.lst es)) ∧ RelE es pl.reverse) ∧ Good (n + 4) c1 := by
  have e : revD (.lst (pl.map pT)) = some (.lst (pl.reverse.map pT)) := by rw [List.map_reverse]; rfl
  simp only [ok_seq, ok_asg, ok_par, ok_ret, ok_retN, ok_sNil, ok_sIf, ok_bin, ok_un, ok_var, ok_C, ok_call, ok_callK, ok_cons, ok_nil, ok_args, ok_tru, ok_not, ok_and, ok_or, ok_eNot, ok_eAnd, ok_eOr, ok_if, ok_cmp, ok_chain, ok_ofC, ok_oNone, ok_oSome, ok_sl, ok_met, ok_rev, ok_items, ok_lenSet, ok_pairs0, ok_pairs, ok_dict, ok_iSeq, ok_rng1, ok_rng2, ok_comp, ok_comp0, ok_for, List.getElem?_cons_zero, List.getElem?_cons_succ, Option.some.injEq, Sl.val.injEq, exists_eq_left', List.nil_append, List.append_nil, List.length_cons, List.length_nil, true_and, and_true, and_self, Nat.zero_add, Nat.reduceAdd, Nat.reduceLeDiff, gAdd_i, gSub_i, gNeg_i, gBl_e, gCmpI_i, gLst_o, gTup_o, gN_e, List.set_cons_zero, List.set_cons_succ, truD_b, gIsN_n, isNonD, gLen_l, gInt_b, gInt_i, Option.map_some, Bool.false_eq_true, if_true, if_false, Bool.not_true, Bool.not_false, keyD, walkD, e]
  have hl : (pl.reverse.map pT).length ≤ 4 := by simpa using h.few
  refine ⟨Nat.le_trans hl (by decide), ?_⟩
  refine comp_draw (fun d y => ∀ a b, d = .tup [a, b] → y = .lst [a, b] ∨ y = d) 1 (B := 2 ^ 20) (fun d hd => ⟨_, rfl, fun n c kk g hn q => ?_⟩) g (by omega) fun ys c2 rs g2 => ?_
  · obtain ⟨p, _, rfl⟩ := List.mem_map.mp hd
    have e2 : gList [pT p] = some (.lst [.str (sx p.1), .int p.2]) := rfl
    simp only [ok_seq, ok_asg, ok_par, ok_ret, ok_retN, ok_sNil, ok_sIf, ok_bin, ok_un, ok_var, ok_C, ok_call, ok_callK, ok_cons, ok_nil, ok_args, ok_tru, ok_not, ok_and, ok_or, ok_eNot, ok_eAnd, ok_eOr, ok_if, ok_cmp, ok_chain, ok_ofC, ok_oNone, ok_oSome, ok_sl, ok_met, ok_rev, ok_items, ok_lenSet, ok_pairs0, ok_pairs, ok_dict, ok_iSeq, ok_rng1, ok_rng2, ok_comp, ok_comp0, ok_for, List.getElem?_cons_zero, List.getElem?_cons_succ, Option.some.injEq, Sl.val.injEq, exists_eq_left', List.nil_append, List.append_nil, List.length_cons, List.length_nil, true_and, and_true, and_self, Nat.zero_add, Nat.reduceAdd, Nat.reduceLeDiff, gAdd_i, gSub_i, gNeg_i, gBl_e, gCmpI_i, gLst_o, gTup_o, gN_e, List.set_cons_zero, List.set_cons_succ, truD_b, gIsN_n, isNonD, gLen_l, gInt_b, gInt_i, Option.map_some, Bool.false_eq_true, if_true, if_false, Bool.not_true, Bool.not_false, keyD, walkD, wipeE, e2]
    refine one_ok g (by omega) (by simp) (by simp) fun x hx c3 g3 => q x c3 (fun a b z => ?_) g3
    simp only [List.mem_cons, List.not_mem_nil, or_false] at hx
    unfold pT at z
    cases z
    exact hx
  · exact ⟨⟨ys, rfl, relE_of rs⟩, g2.mono (by omega)⟩
end G

set_option Elab.async false
set_option linter.all false
set_option maxRecDepth 100000
set_option maxHeartbeats 400000
namespace G
open PySem PySem.Spec PyProof.Rows L2
def small (d : D) : Prop := tame d = true ∧ cnt d ≤ 200 ∧ hgt d ≤ 60
structure Fin2 (v due : D) : Prop where
  sv : small v
  sd : small due
  run : ∀ (c : Churn) (k : D → Churn → Prop), k due c → Ok (F_setting_of [v] c) k
theorem small_rep {d : D} (h : small d) : gRepr [d] = some (.str (shw d)) := gRepr_o h.1 h.2.1 h.2.2
theorem last_ok {v due : D} {c : Churn} {k : Ev × Ctl → Churn → Prop} {x0 x1 x2 x4 x7 x8 : Sl} (h : Fin2 v due) (q : k ([x0, x1, x2, .val due, x4, .val v, .val (.str (shw v)), x7, x8], .ret (.bl true)) c) :
    Ok (sSeq (sAsg (gN 6) (eArgs gRepr (aCons (eVar 5) aNil)))
  (sRet (eAnd (eBin (gBl (gEqX false)) (eArgs gRepr (aCons (eCallK 1 0 1 [0] F_setting_of aNil (aCons (eVar 5) aNil)) aNil)) (eArgs gRepr (aCons (eVar 3) aNil))) (eBin (gBl (gEqX false)) (eArgs gRepr (aCons (eVar 5) aNil)) (eVar 6)))) [x0, x1, x2, .val due, x4, .val v, .no, x7, x8] c) k := by
  simp only [ok_seq, ok_asg, ok_par, ok_ret, ok_retN, ok_sNil, ok_sIf, ok_bin, ok_un, ok_var, ok_C, ok_call, ok_callK, ok_cons, ok_nil, ok_args, ok_tru, ok_not, ok_and, ok_or, ok_eNot, ok_eAnd, ok_eOr, ok_if, ok_cmp, ok_chain, ok_ofC, ok_oNone, ok_oSome, ok_sl, ok_met, ok_rev, ok_items, ok_lenSet, ok_pairs0, ok_pairs, ok_dict, ok_iSeq, ok_rng1, ok_rng2, ok_comp, ok_comp0, ok_for, List.getElem?_cons_zero, List.getElem?_cons_succ, Option.some.injEq, Sl.val.injEq, exists_eq_left', List.nil_append, List.append_nil, List.length_cons, List.length_nil, true_and, and_true, and_self, Nat.zero_add, Nat.reduceAdd, Nat.reduceLeDiff, gAdd_i, gSub_i, gNeg_i, gBl_e, gCmpI_i, gLst_o, gTup_o, gN_e, List.set_cons_zero, List.set_cons_succ, truD_b, gIsN_n, isNonD, gLen_l, gInt_b, gInt_i, Option.map_some, Bool.false_eq_true, if_true, if_false, Bool.not_true, Bool.not_false, keyD, walkD, small_rep h.sv, pick, List.filterMap_cons, List.filterMap_nil]
  refine h.run c _ ?_
  simp only [ok_seq, ok_asg, ok_par, ok_ret, ok_retN, ok_sNil, ok_sIf, ok_bin, ok_un, ok_var, ok_C, ok_call, ok_callK, ok_cons, ok_nil, ok_args, ok_tru, ok_not, ok_and, ok_or, ok_eNot, ok_eAnd, ok_eOr, ok_if, ok_cmp, ok_chain, ok_ofC, ok_oNone, ok_oSome, ok_sl, ok_met, ok_rev, ok_items, ok_lenSet, ok_pairs0, ok_pairs, ok_dict, ok_iSeq, ok_rng1, ok_rng2, ok_comp, ok_comp0, ok_for, List.getElem?_cons_zero, List.getElem?_cons_succ, Option.some.injEq, Sl.val.injEq, exists_eq_left', List.nil_append, List.append_nil, List.length_cons, List.length_nil, true_and, and_true, and_self, Nat.zero_add, Nat.reduceAdd, Nat.reduceLeDiff, gAdd_i, gSub_i, gNeg_i, gBl_e, gCmpI_i, gLst_o, gTup_o, gN_e, List.set_cons_zero, List.set_cons_succ, truD_b, gIsN_n, isNonD, gLen_l, gInt_b, gInt_i, Option.map_some, Bool.false_eq_true, if_true, if_false, Bool.not_true, Bool.not_false, keyD, walkD, small_rep h.sv, small_rep h.sd, eqX_str, decide_true]
  exact q
end G

set_option Elab.async false
set_option linter.all false
set_option maxRecDepth 100000
set_option maxHeartbeats 400000
namespace G
open PySem PySem.Spec PyProof.Rows L2
theorem tameA_of : ∀ {ds : List D}, (∀ d ∈ ds, tame d = true) → tameA ds = true
  | [], _ => by simp only [tameA]
  | d :: ds, h => by simp only [tameA, h d (List.mem_cons_self ..), tameA_of fun e he => h e (List.mem_cons_of_mem _ he), Bool.and_self]
theorem cntA_of {m : Nat} : ∀ {ds : List D}, (∀ d ∈ ds, cnt d ≤ m) → cntA ds ≤ m * ds.length
  | [], _ => by simp only [cntA, Nat.zero_le]
  | d :: ds, h => by
    have h1 := h d (List.mem_cons_self ..)
    have h2 := cntA_of (m := m) (ds := ds) fun e he => h e (List.mem_cons_of_mem _ he)
    simp only [cntA, List.length_cons, Nat.mul_succ]
    omega
theorem hgtA_of {m : Nat} : ∀ {ds : List D}, (∀ d ∈ ds, hgt d ≤ m) → hgtA ds ≤ m
  | [], _ => by simp only [hgtA, Nat.zero_le]
  | d :: ds, h => by
    have h1 := h d (List.mem_cons_self ..)
    have h2 := hgtA_of (m := m) (ds := ds) fun e he => h e (List.mem_cons_of_mem _ he)
    simp only [hgtA]
    omega
structure tiny (d : D) : Prop where
  t : tame d = true
  c : cnt d ≤ 10
  h : hgt d ≤ 5
theorem small_l {ds : List D} (h : ∀ d ∈ ds, tiny d) (hl : ds.length ≤ 10) : small (.lst ds) := by
  have h2 := cntA_of (m := 10) (ds := ds) fun d hd => (h d hd).c
  have h3 := hgtA_of (m := 5) (ds := ds) fun d hd => (h d hd).h
  refine ⟨by simp only [tame]; exact tameA_of fun d hd => (h d hd).t, ?_, ?_⟩
  · simp only [cnt]; omega
  · simp only [hgt]; omega
theorem small_t {ds : List D} (h : ∀ d ∈ ds, tiny d) (hl : ds.length ≤ 10) : small (.tup ds) := by
  have h2 := cntA_of (m := 10) (ds := ds) fun d hd => (h d hd).c
  have h3 := hgtA_of (m := 5) (ds := ds) fun d hd => (h d hd).h
  refine ⟨by simp only [tame]; exact tameA_of fun d hd => (h d hd).t, ?_, ?_⟩
  · simp only [cnt]; omega
  · simp only [hgt]; omega
end G

set_option Elab.async false
set_option linter.all false
set_option maxRecDepth 100000
set_option maxHeartbeats 400000
namespace G
open PySem PySem.Spec PyProof.Rows L2
theorem sizS_c {cs : List Nat} (h : cs = cx ∨ cs = cy ∨ cs = ca1 ∨ cs = cn ∨ cs = czz ∨ cs = cb ∨ cs = cc ∨ cs = cd) : sizS (sx cs) = true := by
  rcases h with rfl | rfl | rfl | rfl | rfl | rfl | rfl | rfl <;> decide +kernel
theorem tiny_told {e : D} {p : PI} (h : toldV e p) (hs : sizS (sx p.1) = true) (hv : vOk p.2 = true) : tiny e := by
  have hv : sizI p.2 = true := hv
  rcases h with rfl | rfl
  · exact ⟨by simp [tame, tameA, hs, hv], by simp [cnt, cntA], by simp [hgt, hgtA]⟩
  · exact ⟨by simp [pT, tame, tameA, hs, hv], by simp [pT, cnt, cntA], by simp [pT, hgt, hgtA]⟩
end G

set_option Elab.async false
set_option linter.all false
set_option maxRecDepth 100000
set_option maxHeartbeats 400000
namespace G
open PySem PySem.Spec PyProof.Rows L2
/-- dict(pairs) -/
def dctOk (pl : List PI) : Prop := ∃ ks vs, gDict [.lst (pl.map pT)] = some (.dic ks vs) ∧ itemsD ks vs = pl.map pT ∧ small (.dic ks vs)
theorem dct3 {u v w : Int} (h1 : sizI u = true) (h2 : sizI v = true) (h3 : sizI w = true) : dctOk [(cx, u), (cy, v), (ca1, w)] := by
  refine ⟨[.inr (sx cx), .inr (sx cy), .inr (sx ca1)], [.int u, .int v, .int w], by kernel_rfl, rfl, ?_, by simp [cnt, cntA], by simp [hgt, hgtA]⟩
  simp [tame, tameA, h1, h2, h3, sizS_c]
theorem dct1 {u : Int} (h1 : sizI u = true) : dctOk [(cn, u)] := by
  refine ⟨[.inr (sx cn)], [.int u], by kernel_rfl, rfl, ?_, by simp [cnt, cntA], by simp [hgt, hgtA]⟩
  simp [tame, tameA, h1, sizS_c]
theorem dct0 : dctOk [] := ⟨[], [], by kernel_rfl, rfl, by simp [tame, tameA], by simp [cnt, cntA], by simp [hgt, hgtA]⟩
theorem dct4 {u v w x : Int} (h1 : sizI u = true) (h2 : sizI v = true) (h3 : sizI w = true) (h4 : sizI x = true) : dctOk [(czz, u), (cb, v), (cc, w), (cd, x)] := by
  refine ⟨[.inr (sx czz), .inr (sx cb), .inr (sx cc), .inr (sx cd)], [.int u, .int v, .int w, .int x], by kernel_rfl, rfl, ?_, by simp [cnt, cntA], by simp [hgt, hgtA]⟩
  simp [tame, tameA, h1, h2, h3, h4, sizS_c]
theorem shape3 {pl : List PI} (e : pl.map (·.1) = [cx, cy, ca1]) : ∃ u v w, pl = [(cx, u), (cy, v), (ca1, w)] := by
  match pl, e with
  | [(a, u), (b, v), (d, w)], e => cases e; exact ⟨u, v, w, rfl⟩
theorem shape1 {pl : List PI} (e : pl.map (·.1) = [cn]) : ∃ u, pl = [(cn, u)] := by
  match pl, e with
  | [(a, u)], e => cases e; exact ⟨u, rfl⟩
theorem shape0 {pl : List PI} (e : pl.map (·.1) = []) : pl = [] := by
  match pl, e with
  | [], e => rfl
theorem shape4 {pl : List PI} (e : pl.map (·.1) = [czz, cb, cc, cd]) : ∃ u v w x, pl = [(czz, u), (cb, v), (cc, w), (cd, x)] := by
  match pl, e with
  | [(a, u), (b, v), (d, w), (f, x)], e => cases e; exact ⟨u, v, w, x, rfl⟩
theorem dct_of {pl : List PI} (h : SortedSame pl) (hv : ∀ p ∈ pl, vOk p.2 = true) : dctOk pl := by
  rcases h.cs with e | e | e | e
  · obtain ⟨u, v, w, rfl⟩ := shape3 e
    exact dct3 (hv _ (List.mem_cons_self ..)) (hv _ (List.mem_cons_of_mem _ (List.mem_cons_self ..))) (hv _ (List.mem_cons_of_mem _ (List.mem_cons_of_mem _ (List.mem_cons_self ..))))
  · obtain ⟨u, rfl⟩ := shape1 e
    exact dct1 (hv _ (List.mem_cons_self ..))
  · cases shape0 e
    exact dct0
  · obtain ⟨u, v, w, x, rfl⟩ := shape4 e
    exact dct4 (hv _ (List.mem_cons_self ..)) (hv _ (List.mem_cons_of_mem _ (List.mem_cons_self ..))) (hv _ (List.mem_cons_of_mem _ (List.mem_cons_of_mem _ (List.mem_cons_self ..))))
      (hv _ (List.mem_cons_of_mem _ (List.mem_cons_of_mem _ (List.mem_cons_of_mem _ (List.mem_cons_self ..)))))
end G

set_option Elab.async false
set_option linter.all false
set_option maxRecDepth 100000
set_option maxHeartbeats 400000
namespace G
open PySem PySem.Spec PyProof.Rows L2
theorem sizS_pl {pl : List PI} (h : SortedSame pl) : ∀ p ∈ pl, sizS (sx p.1) = true := fun p hp => by
  have hm : p.1 ∈ pl.map (·.1) := List.mem_map.mpr ⟨p, hp, rfl⟩
  rcases h.cs with e | e | e | e <;> rw [e] at hm <;> simp only [List.mem_cons, List.not_mem_nil, or_false] at hm
  · rcases hm with e | e | e <;> rw [e] <;> exact sizS_c (by simp)
  · rw [hm]; exact sizS_c (by simp)
  · rcases hm with e | e | e | e <;> rw [e] <;> exact sizS_c (by simp)
theorem tiny_pl {pl : List PI} (h : SortedSame pl) (hv : ∀ p ∈ pl, vOk p.2 = true) : ∀ d ∈ pl.map pT, tiny d := fun d hd => by
  obtain ⟨p, hp, rfl⟩ := List.mem_map.mp hd
  exact tiny_told (.inr rfl) (sizS_pl h p hp) (hv p hp)
theorem tiny_es {pl : List PI} {es : List D} (h : SortedSame pl) (hv : ∀ p ∈ pl, vOk p.2 = true) (r : RelE es pl.reverse) : ∀ d ∈ es, tiny d := fun d hd => by
  obtain ⟨p, hp, t⟩ := r.mem d hd
  have hp : p ∈ pl := List.mem_reverse.mp hp
  exact tiny_told t (sizS_pl h p hp) (hv p hp)
theorem small_due {pl : List PI} (h : SortedSame pl) (hv : ∀ p ∈ pl, vOk p.2 = true) : small (dueY pl) := by
  refine small_t (fun d hd => tiny_pl h hv d ?_) ?_
  · unfold sortD at hd
    exact List.mem_mergeSort.mp hd
  · unfold sortD
    rw [List.length_mergeSort, List.length_map]
    have := h.few
    omega
theorem nm_rev {pl : List PI} (h : SortedSame pl) : ∀ p ∈ pl.reverse, isNm p.1 = true ∧ p.1.length ≤ 1000 := fun p hp => by
  have := h.nm p (List.mem_reverse.mp hp)
  exact ⟨this.1, by omega⟩
theorem es_len {pl : List PI} {es : List D} (h : SortedSame pl) (r : RelE es pl.reverse) : es.length ≤ 4 := by
  rw [r.length, List.length_reverse]
  exact h.few
/-- a list of told things -/
theorem fin_list {pl : List PI} {es : List D} (h : SortedSame pl) (hv : ∀ p ∈ pl, vOk p.2 = true) (r : RelE es pl.reverse) : Fin2 (.lst es) (dueY pl) := by
  have hl := es_len h r
  refine ⟨small_l (tiny_es h hv r) (by omega), small_due h hv, fun c k q => ?_⟩
  refine setting_yes (.inl rfl) r (nm_rev h) (by omega) ?_
  rw [List.length_reverse, if_pos h.ndr, h.same]
  exact ⟨h.okr, q⟩
theorem relE_self : ∀ pl : List PI, RelE (pl.map pT) pl
  | [] => .nil
  | p :: pl => .cons (.inr rfl) (relE_self pl)
/-- dict(pairs) -/
theorem fin_dict {pl : List PI} (h : SortedSame pl) (hv : ∀ p ∈ pl, vOk p.2 = true) : ∃ v, gDict [.lst (pl.map pT)] = some v ∧ Fin2 v (dueY pl) := by
  obtain ⟨ks, vs, e1, e2, e3⟩ := dct_of h hv
  refine ⟨_, e1, e3, small_due h hv, fun c k q => ?_⟩
  have hl : (itemsD ks vs).length ≤ 1000 := by rw [e2, List.length_map]; have := h.few; omega
  have r : RelE (itemsD ks vs) pl := by rw [e2]; exact relE_self pl
  refine setting_yes (.inr ⟨ks, vs, rfl, rfl⟩) r (fun p hp => ⟨(h.nm p hp).1, by have := (h.nm p hp).2; omega⟩) hl ?_
  rw [if_pos h.nd]
  exact ⟨h.ok, q⟩
end G

set_option Elab.async false
set_option linter.all false
set_option maxRecDepth 100000
set_option maxHeartbeats 8000000
namespace G
open PySem PySem.Spec PyProof.Rows L2
def toldB : D → Bool
  | .lst [.str s, y] => isNm s.cps.toList && isIntD y
  | .tup [.str s, y] => isNm s.cps.toList && isIntD y
  | _ => false
structure StW (ns : List (List Nat)) (pl : List PI) (es : List D) (n : Nat) (r t : Int) (ρ : Ev) (c : Churn) : Prop where
  ex : ∃ v d, ρ = rh ns pl (.val d) (.val (.int r)) (.val v) ∧ Fin2 v d ∧ ((v = .lst es ∧ d = dueY pl) ∨ r < t)
  g : Good n c
section
variable {ns : List (List Nat)} {pl : List PI} {es : List D} {n : Nat} {r : Int} {ρ : Ev} {c : Churn}
theorem w0 (h : SortedSame pl) (hv : ∀ p ∈ pl, vOk p.2 = true) (s : StW ns pl es n r 0 ρ c) (r0 : 0 ≤ r) : Ok (sIf (cCmp (gEqX false) (eVar 4) (eC (.int 0))) (sAsg (gN 5) (eArgs gDict (aCons (eVar 2) aNil))) sNil ρ c) fun p c1 => p.2 = .nx ∧ StW ns pl es n r 1 p.1 c1 := by
  obtain ⟨⟨v, d, rfl, f, e⟩, g⟩ := s
  simp only [ok_seq, ok_asg, ok_par, ok_ret, ok_retN, ok_sNil, ok_sIf, ok_bin, ok_un, ok_var, ok_C, ok_call, ok_callK, ok_cons, ok_nil, ok_args, ok_tru, ok_not, ok_and, ok_or, ok_eNot, ok_eAnd, ok_eOr, ok_if, ok_cmp, ok_chain, ok_ofC, ok_oNone, ok_oSome, ok_sl, ok_met, ok_rev, ok_items, ok_lenSet, ok_pairs0, ok_pairs, ok_dict, ok_iSeq, ok_rng1, ok_rng2, ok_comp, ok_comp0, ok_for, List.getElem?_cons_zero, List.getElem?_cons_succ, Option.some.injEq, Sl.val.injEq, exists_eq_left', List.nil_append, List.append_nil, List.length_cons, List.length_nil, true_and, and_true, and_self, Nat.zero_add, Nat.reduceAdd, Nat.reduceLeDiff, gAdd_i, gSub_i, gNeg_i, gBl_e, gCmpI_i, gLst_o, gTup_o, gN_e, List.set_cons_zero, List.set_cons_succ, truD_b, gIsN_n, isNonD, gLen_l, gInt_b, gInt_i, Option.map_some, Bool.false_eq_true, if_true, if_false, Bool.not_true, Bool.not_false, keyD, walkD, eqX_i]
  by_cases hr : (r == 0) = true
  · obtain ⟨w, e1, f1⟩ := fin_dict h hv
    rcases e with ⟨rfl, rfl⟩ | e
    · simp only [hr, ok_seq, ok_asg, ok_par, ok_ret, ok_retN, ok_sNil, ok_sIf, ok_bin, ok_un, ok_var, ok_C, ok_call, ok_callK, ok_cons, ok_nil, ok_args, ok_tru, ok_not, ok_and, ok_or, ok_eNot, ok_eAnd, ok_eOr, ok_if, ok_cmp, ok_chain, ok_ofC, ok_oNone, ok_oSome, ok_sl, ok_met, ok_rev, ok_items, ok_lenSet, ok_pairs0, ok_pairs, ok_dict, ok_iSeq, ok_rng1, ok_rng2, ok_comp, ok_comp0, ok_for, List.getElem?_cons_zero, List.getElem?_cons_succ, Option.some.injEq, Sl.val.injEq, exists_eq_left', List.nil_append, List.append_nil, List.length_cons, List.length_nil, true_and, and_true, and_self, Nat.zero_add, Nat.reduceAdd, Nat.reduceLeDiff, gAdd_i, gSub_i, gNeg_i, gBl_e, gCmpI_i, gLst_o, gTup_o, gN_e, List.set_cons_zero, List.set_cons_succ, truD_b, gIsN_n, isNonD, gLen_l, gInt_b, gInt_i, Option.map_some, Bool.false_eq_true, if_true, if_false, Bool.not_true, Bool.not_false, keyD, walkD, e1]
      exact ⟨⟨_, _, rfl, f1, .inr (by have := eq_of_beq hr; omega)⟩, g⟩
    · omega
  · simp only [hr, ok_seq, ok_asg, ok_par, ok_ret, ok_retN, ok_sNil, ok_sIf, ok_bin, ok_un, ok_var, ok_C, ok_call, ok_callK, ok_cons, ok_nil, ok_args, ok_tru, ok_not, ok_and, ok_or, ok_eNot, ok_eAnd, ok_eOr, ok_if, ok_cmp, ok_chain, ok_ofC, ok_oNone, ok_oSome, ok_sl, ok_met, ok_rev, ok_items, ok_lenSet, ok_pairs0, ok_pairs, ok_dict, ok_iSeq, ok_rng1, ok_rng2, ok_comp, ok_comp0, ok_for, List.getElem?_cons_zero, List.getElem?_cons_succ, Option.some.injEq, Sl.val.injEq, exists_eq_left', List.nil_append, List.append_nil, List.length_cons, List.length_nil, true_and, and_true, and_self, Nat.zero_add, Nat.reduceAdd, Nat.reduceLeDiff, gAdd_i, gSub_i, gNeg_i, gBl_e, gCmpI_i, gLst_o, gTup_o, gN_e, List.set_cons_zero, List.set_cons_succ, truD_b, gIsN_n, isNonD, gLen_l, gInt_b, gInt_i, Option.map_some, Bool.false_eq_true, if_true, if_false, Bool.not_true, Bool.not_false, keyD, walkD]
    exact ⟨⟨_, _, rfl, f, e.imp id fun z => by omega⟩, g⟩
theorem okD_p1 {cs : List Nat} {v : Int} (h : PyData.canLay0 (.tuple [.str (sx cs), .int v]) = true) : okD (pT (cs, v)) := ⟨.tuple [.str (sx cs), .int v], by simp only [pT, toPy, toPyA, Option.bind_some, Option.map_some], h, by simp [PyData.depth, PyData.depthAll]⟩
theorem okD_pT {pl : List PI} (h : SortedSame pl) : ∀ x ∈ pl.map pT, okD x := fun x hx => by
  rcases h.cs with e | e | e | e
  · obtain ⟨u, v, w, rfl⟩ := shape3 e
    simp only [List.map_cons, List.map_nil, List.mem_cons, List.not_mem_nil, or_false] at hx
    rcases hx with rfl | rfl | rfl <;> exact okD_p1 (by kernel_rfl)
  · obtain ⟨u, rfl⟩ := shape1 e
    simp only [List.map_cons, List.map_nil, List.mem_cons, List.not_mem_nil, or_false] at hx
    rcases hx with rfl <;> exact okD_p1 (by kernel_rfl)
  · cases shape0 e
    cases hx
  · obtain ⟨u, v, w, y, rfl⟩ := shape4 e
    simp only [List.map_cons, List.map_nil, List.mem_cons, List.not_mem_nil, or_false] at hx
    rcases hx with rfl | rfl | rfl | rfl <;> exact okD_p1 (by kernel_rfl)
theorem fin_no {v : D} (sv : small v) (h : ∀ (c : Churn) (k : D → Churn → Prop), k .non c → Ok (F_setting_of [v] c) k) : Fin2 v .non := ⟨sv, ⟨by simp [tame], by simp [cnt], by simp [hgt]⟩, h⟩
/-- one more told thing with a name that stands already -/
theorem fin_twice (h : SortedSame pl) (hv : ∀ p ∈ pl, vOk p.2 = true) (re : RelE es pl.reverse) {p : PI} {x : D} (hx : toldV x p) (h1 : ∃ q ∈ pl, p.1 = q.1) (h2 : vOk p.2 = true)
    (hm : (((metK [] ((pl.reverse ++ [p]).map keyOf)).length : Int) == ((pl.reverse ++ [p]).length : Int)) = false) : Fin2 (.lst (es ++ [x])) .non := by
  obtain ⟨q, hq, e⟩ := h1
  have hl := es_len h re
  refine fin_no (small_l (fun d hd => ?_) (by simp; omega)) fun c k q0 => ?_
  · rcases List.mem_append.mp hd with hd | hd
    · exact tiny_es h hv re d hd
    · simp only [List.mem_cons, List.not_mem_nil, or_false] at hd
      subst hd
      exact tiny_told hx (e ▸ sizS_pl h q hq) h2
  · refine setting_yes (.inl rfl) (re.app (.cons hx .nil)) (fun p' hp => ?_) (by simp; omega) ?_
    · rcases List.mem_append.mp hp with hp | hp
      · exact nm_rev h p' hp
      · simp only [List.mem_cons, List.not_mem_nil, or_false] at hp
        subst hp
        rw [e]
        have := h.nm q hq
        exact ⟨this.1, by omega⟩
    · rw [hm, if_neg (by decide)]
      exact q0
/-- a list with something that is not told -/
theorem fin_bad (h : SortedSame pl) (hv : ∀ p ∈ pl, vOk p.2 = true) (re : RelE es pl.reverse) {ds : List D} {x : D} (hs : ∀ d ∈ ds, d ∈ es) (hl : ds.length ≤ 4) (hx : ∀ c, F_is_told [x] c = .ok (.bl false) c) (ht : tiny x) (hb : toldB x = false) : Fin2 (.lst (ds ++ [x])) .non := by
  have told : ∀ d ∈ ds, toldB d = true ∧ ∀ c, F_is_told [d] c = .ok (.bl (toldB d)) c := fun d hd => by
    obtain ⟨p, hp, t⟩ := re.mem d (hs d hd)
    have n := nm_rev h p hp
    have e : toldB d = true := by
      rcases t with rfl | rfl
      · show (isNm p.1 && true) = true
        rw [n.1]; rfl
      · show (isNm p.1 && true) = true
        rw [n.1]; rfl
    exact ⟨e, fun c => by rw [e]; exact told_eq t n.1 n.2⟩
  refine fin_no (small_l (fun d hd => ?_) (by simp; omega)) fun c k q0 => ?_
  · rcases List.mem_append.mp hd with hd | hd
    · exact tiny_es h hv re d (hs d hd)
    · simp only [List.mem_cons, List.not_mem_nil, or_false] at hd
      subst hd
      exact ht
  · refine setting_no (T := toldB) (.inl rfl) (by simp; omega) (fun d hd c => ?_) ?_ q0
    · rcases List.mem_append.mp hd with hd | hd
      · exact (told d hd).2 c
      · simp only [List.mem_cons, List.not_mem_nil, or_false] at hd
        subst hd
        rw [hb]
        exact hx c
    · rw [List.all_append]
      simp [hb]
end
end G

set_option Elab.async false
set_option linter.all false
set_option maxRecDepth 100000
set_option maxHeartbeats 8000000
namespace G
open PySem PySem.Spec PyProof.Rows L2
theorem gAdd_l {xs ys : List D} (h : xs.length + ys.length ≤ 1000) : gAdd (.lst xs) (.lst ys) = some (.lst (xs ++ ys)) := if_pos (Nat.le_trans h (by decide))
/-- pairs that are some -/
inductive PlShape : List PI → Prop
  | s3 (u v w : Int) : PlShape [(cx, u), (cy, v), (ca1, w)]
  | s1 (u : Int) : PlShape [(cn, u)]
  | s4 (u v w x : Int) : PlShape [(czz, u), (cb, v), (cc, w), (cd, x)]
theorem shapes {pl : List PI} (h : SortedSame pl) : pl = [] ∨ PlShape pl := by
  rcases h.cs with e | e | e | e
  · obtain ⟨u, v, w, rfl⟩ := shape3 e; exact .inr (.s3 u v w)
  · obtain ⟨u, rfl⟩ := shape1 e; exact .inr (.s1 u)
  · exact .inl (shape0 e)
  · obtain ⟨u, v, w, x, rfl⟩ := shape4 e; exact .inr (.s4 u v w x)
theorem first_of {pl : List PI} (h : PlShape pl) : ∃ p ∈ pl, gIx (.lst (pl.map pT)) (.int 0) = some (pT p) ∧ ∀ v, (((metK [] ((pl.reverse ++ [(p.1, v)]).map keyOf)).length : Int) == ((pl.reverse ++ [(p.1, v)]).length : Int)) = false := by
  cases h with
  | s3 u v w => exact ⟨_, List.mem_cons_self .., rfl, fun v => by kernel_rfl⟩
  | s1 u => exact ⟨_, List.mem_cons_self .., rfl, fun v => by kernel_rfl⟩
  | s4 u v w x => exact ⟨_, List.mem_cons_self .., rfl, fun v => by kernel_rfl⟩
theorem last_of {pl : List PI} (h : PlShape pl) : ∃ p ∈ pl, gIx (.lst (pl.map pT)) (.int (-1)) = some (pT p) := by
  cases h with
  | s3 u v w => exact ⟨(ca1, w), by simp, rfl⟩
  | s1 u => exact ⟨(cn, u), by simp, rfl⟩
  | s4 u v w x => exact ⟨(cd, x), by simp, rfl⟩
theorem emp_of {pl : List PI} (h : PlShape pl) : (pl.map pT).isEmpty = false := by cases h <;> rfl
section
variable {ns : List (List Nat)} {pl : List PI} {es : List D} {n : Nat} {r : Int} {ρ : Ev} {c : Churn}
theorem w1 (h : SortedSame pl) (hv : ∀ p ∈ pl, vOk p.2 = true) (re : RelE es pl.reverse) (hn : n + 80 ≤ 2 ^ 20) (s : StW ns pl es n r 1 ρ c) : Ok (sIf (cAnd (cCmp (gEqX false) (eVar 4) (eC (.int 1))) (cCmp (gEqX true) (eVar 2) (eArgs gLst aNil))) (sPar 5 3 (aCons (eBin gAdd (eVar 5) (eArgs gLst (aCons (eCall 2 F__law_one [] (aCons (eVar 0) (aCons (eArgs gLst (aCons (eBin gIx (eVar 2) (eC (.int 0))) (aCons (eArgs gTup (aCons (eBin gIx (eBin gIx (eVar 2) (eC (.int 0))) (eC (.int 0))) (aCons (eC (.int 77)) aNil))) aNil))) aNil))) aNil))) (aCons (eC .non) aNil))) sNil ρ c) fun p c1 => p.2 = .nx ∧ StW ns pl es (n + 1) r 2 p.1 c1 := by
  obtain ⟨⟨v, d, rfl, f, e⟩, g⟩ := s
  simp only [ok_seq, ok_asg, ok_par, ok_ret, ok_retN, ok_sNil, ok_sIf, ok_bin, ok_un, ok_var, ok_C, ok_call, ok_callK, ok_cons, ok_nil, ok_args, ok_tru, ok_not, ok_and, ok_or, ok_eNot, ok_eAnd, ok_eOr, ok_if, ok_cmp, ok_chain, ok_ofC, ok_oNone, ok_oSome, ok_sl, ok_met, ok_rev, ok_items, ok_lenSet, ok_pairs0, ok_pairs, ok_dict, ok_iSeq, ok_rng1, ok_rng2, ok_comp, ok_comp0, ok_for, List.getElem?_cons_zero, List.getElem?_cons_succ, Option.some.injEq, Sl.val.injEq, exists_eq_left', List.nil_append, List.append_nil, List.length_cons, List.length_nil, true_and, and_true, and_self, Nat.zero_add, Nat.reduceAdd, Nat.reduceLeDiff, gAdd_i, gSub_i, gNeg_i, gBl_e, gCmpI_i, gLst_o, gTup_o, gN_e, List.set_cons_zero, List.set_cons_succ, truD_b, gIsN_n, isNonD, gLen_l, gInt_b, gInt_i, Option.map_some, Bool.false_eq_true, if_true, if_false, Bool.not_true, Bool.not_false, keyD, walkD, eqX_i]
  by_cases hr : (r == 1) = true
  · simp only [hr, ok_seq, ok_asg, ok_par, ok_ret, ok_retN, ok_sNil, ok_sIf, ok_bin, ok_un, ok_var, ok_C, ok_call, ok_callK, ok_cons, ok_nil, ok_args, ok_tru, ok_not, ok_and, ok_or, ok_eNot, ok_eAnd, ok_eOr, ok_if, ok_cmp, ok_chain, ok_ofC, ok_oNone, ok_oSome, ok_sl, ok_met, ok_rev, ok_items, ok_lenSet, ok_pairs0, ok_pairs, ok_dict, ok_iSeq, ok_rng1, ok_rng2, ok_comp, ok_comp0, ok_for, List.getElem?_cons_zero, List.getElem?_cons_succ, Option.some.injEq, Sl.val.injEq, exists_eq_left', List.nil_append, List.append_nil, List.length_cons, List.length_nil, true_and, and_true, and_self, Nat.zero_add, Nat.reduceAdd, Nat.reduceLeDiff, gAdd_i, gSub_i, gNeg_i, gBl_e, gCmpI_i, gLst_o, gTup_o, gN_e, List.set_cons_zero, List.set_cons_succ, truD_b, gIsN_n, isNonD, gLen_l, gInt_b, gInt_i, Option.map_some, Bool.false_eq_true, if_true, if_false, Bool.not_true, Bool.not_false, keyD, walkD, eqX_nil (okD_pT h)]
    rcases shapes h with rfl | hs
    · simp only [List.map_nil, List.isEmpty_nil, ok_seq, ok_asg, ok_par, ok_ret, ok_retN, ok_sNil, ok_sIf, ok_bin, ok_un, ok_var, ok_C, ok_call, ok_callK, ok_cons, ok_nil, ok_args, ok_tru, ok_not, ok_and, ok_or, ok_eNot, ok_eAnd, ok_eOr, ok_if, ok_cmp, ok_chain, ok_ofC, ok_oNone, ok_oSome, ok_sl, ok_met, ok_rev, ok_items, ok_lenSet, ok_pairs0, ok_pairs, ok_dict, ok_iSeq, ok_rng1, ok_rng2, ok_comp, ok_comp0, ok_for, List.getElem?_cons_zero, List.getElem?_cons_succ, Option.some.injEq, Sl.val.injEq, exists_eq_left', List.nil_append, List.append_nil, List.length_cons, List.length_nil, true_and, and_true, and_self, Nat.zero_add, Nat.reduceAdd, Nat.reduceLeDiff, gAdd_i, gSub_i, gNeg_i, gBl_e, gCmpI_i, gLst_o, gTup_o, gN_e, List.set_cons_zero, List.set_cons_succ, truD_b, gIsN_n, isNonD, gLen_l, gInt_b, gInt_i, Option.map_some, Bool.false_eq_true, if_true, if_false, Bool.not_true, Bool.not_false, keyD, walkD]
      exact ⟨⟨_, _, rfl, f, .inr (by have := eq_of_beq hr; omega)⟩, g.mono (by omega)⟩
    · obtain ⟨p, hp, e1, e2⟩ := first_of hs
      have e3 : gIx (pT p) (.int 0) = some (.str (sx p.1)) := rfl
      rcases e with ⟨rfl, rfl⟩ | e
      · simp only [emp_of hs, ok_seq, ok_asg, ok_par, ok_ret, ok_retN, ok_sNil, ok_sIf, ok_bin, ok_un, ok_var, ok_C, ok_call, ok_callK, ok_cons, ok_nil, ok_args, ok_tru, ok_not, ok_and, ok_or, ok_eNot, ok_eAnd, ok_eOr, ok_if, ok_cmp, ok_chain, ok_ofC, ok_oNone, ok_oSome, ok_sl, ok_met, ok_rev, ok_items, ok_lenSet, ok_pairs0, ok_pairs, ok_dict, ok_iSeq, ok_rng1, ok_rng2, ok_comp, ok_comp0, ok_for, List.getElem?_cons_zero, List.getElem?_cons_succ, Option.some.injEq, Sl.val.injEq, exists_eq_left', List.nil_append, List.append_nil, List.length_cons, List.length_nil, true_and, and_true, and_self, Nat.zero_add, Nat.reduceAdd, Nat.reduceLeDiff, gAdd_i, gSub_i, gNeg_i, gBl_e, gCmpI_i, gLst_o, gTup_o, gN_e, List.set_cons_zero, List.set_cons_succ, truD_b, gIsN_n, isNonD, gLen_l, gInt_b, gInt_i, Option.map_some, Bool.false_eq_true, if_true, if_false, Bool.not_true, Bool.not_false, keyD, walkD, e1, e3]
        refine one_ok g (by omega) (by simp) (by simp) fun x hx c1 g1 => ?_
        have hl := es_len h re
        simp only [ok_seq, ok_asg, ok_par, ok_ret, ok_retN, ok_sNil, ok_sIf, ok_bin, ok_un, ok_var, ok_C, ok_call, ok_callK, ok_cons, ok_nil, ok_args, ok_tru, ok_not, ok_and, ok_or, ok_eNot, ok_eAnd, ok_eOr, ok_if, ok_cmp, ok_chain, ok_ofC, ok_oNone, ok_oSome, ok_sl, ok_met, ok_rev, ok_items, ok_lenSet, ok_pairs0, ok_pairs, ok_dict, ok_iSeq, ok_rng1, ok_rng2, ok_comp, ok_comp0, ok_for, List.getElem?_cons_zero, List.getElem?_cons_succ, Option.some.injEq, Sl.val.injEq, exists_eq_left', List.nil_append, List.append_nil, List.length_cons, List.length_nil, true_and, and_true, and_self, Nat.zero_add, Nat.reduceAdd, Nat.reduceLeDiff, gAdd_i, gSub_i, gNeg_i, gBl_e, gCmpI_i, gLst_o, gTup_o, gN_e, List.set_cons_zero, List.set_cons_succ, truD_b, gIsN_n, isNonD, gLen_l, gInt_b, gInt_i, Option.map_some, Bool.false_eq_true, if_true, if_false, Bool.not_true, Bool.not_false, keyD, walkD, gAdd_l (xs := es) (ys := [x]) (by simp; omega)]
        refine ⟨_, _, rfl, ⟨_, _, rfl, ?_, .inr (by have := eq_of_beq hr; omega)⟩, g1⟩
        simp only [List.mem_cons, List.not_mem_nil, or_false] at hx
        rcases hx with rfl | rfl
        · exact fin_twice h hv re (p := p) (.inr rfl) ⟨p, hp, rfl⟩ (hv p hp) (e2 p.2)
        · exact fin_twice h hv re (p := (p.1, 77)) (.inr rfl) ⟨p, hp, rfl⟩ (by show vOk 77 = true; decide +kernel) (e2 77)
      · have := eq_of_beq hr; omega
  · simp only [hr, ok_seq, ok_asg, ok_par, ok_ret, ok_retN, ok_sNil, ok_sIf, ok_bin, ok_un, ok_var, ok_C, ok_call, ok_callK, ok_cons, ok_nil, ok_args, ok_tru, ok_not, ok_and, ok_or, ok_eNot, ok_eAnd, ok_eOr, ok_if, ok_cmp, ok_chain, ok_ofC, ok_oNone, ok_oSome, ok_sl, ok_met, ok_rev, ok_items, ok_lenSet, ok_pairs0, ok_pairs, ok_dict, ok_iSeq, ok_rng1, ok_rng2, ok_comp, ok_comp0, ok_for, List.getElem?_cons_zero, List.getElem?_cons_succ, Option.some.injEq, Sl.val.injEq, exists_eq_left', List.nil_append, List.append_nil, List.length_cons, List.length_nil, true_and, and_true, and_self, Nat.zero_add, Nat.reduceAdd, Nat.reduceLeDiff, gAdd_i, gSub_i, gNeg_i, gBl_e, gCmpI_i, gLst_o, gTup_o, gN_e, List.set_cons_zero, List.set_cons_succ, truD_b, gIsN_n, isNonD, gLen_l, gInt_b, gInt_i, Option.map_some, Bool.false_eq_true, if_true, if_false, Bool.not_true, Bool.not_false, keyD, walkD]
    exact ⟨⟨_, _, rfl, f, e.imp id fun z => by omega⟩, g.mono (by omega)⟩
theorem tail_of {es : List D} (hl : es.length ≤ 4) : gSl (.lst es) (some 1) none = some (.lst (es.drop 1)) := by
  show some (D.lst ((es.drop (HT.sIx es.length 0 (some ((1 : Nat) : Int)))).take (HT.sIx es.length es.length none - HT.sIx es.length 0 (some ((1 : Nat) : Int))))) = _
  rw [HT.sIx_none, HT.sIx_nat]
  cases es with
  | nil => rfl
  | cons a l =>
    have e : min 1 (a :: l).length = 1 := by simp
    rw [e, List.take_of_length_le (by simp)]
theorem w2 (h : SortedSame pl) (hv : ∀ p ∈ pl, vOk p.2 = true) (re : RelE es pl.reverse) (hn : n + 80 ≤ 2 ^ 20) (s : StW ns pl es n r 2 ρ c) : Ok (sIf (cAnd (cCmp (gEqX false) (eVar 4) (eC (.int 2))) (cCmp (gEqX true) (eVar 2) (eArgs gLst aNil))) (sPar 5 3 (aCons (eBin gAdd (eSl gSl (eVar 5) (oSome (eC (.int 1))) oNone) (eArgs gLst (aCons (eArgs gTup (aCons (eBin gIx (eBin gIx (eVar 2) (eUn gNeg (eC (.int 1)))) (eC (.int 0))) (aCons (eCall 2 F__law_one [] (aCons (eVar 0) (aCons (eArgs gLst (aCons (eC (.bl true)) (aCons (eC .non) (aCons (eC (.str "1")) (aCons (eArgs gLst (aCons (eC (.int 1)) aNil)) aNil))))) aNil))) aNil))) aNil))) (aCons (eC .non) aNil))) sNil ρ c) fun p c1 => p.2 = .nx ∧ StW ns pl es (n + 1) r 3 p.1 c1 := by
  obtain ⟨⟨v, d, rfl, f, e⟩, g⟩ := s
  simp only [ok_seq, ok_asg, ok_par, ok_ret, ok_retN, ok_sNil, ok_sIf, ok_bin, ok_un, ok_var, ok_C, ok_call, ok_callK, ok_cons, ok_nil, ok_args, ok_tru, ok_not, ok_and, ok_or, ok_eNot, ok_eAnd, ok_eOr, ok_if, ok_cmp, ok_chain, ok_ofC, ok_oNone, ok_oSome, ok_sl, ok_met, ok_rev, ok_items, ok_lenSet, ok_pairs0, ok_pairs, ok_dict, ok_iSeq, ok_rng1, ok_rng2, ok_comp, ok_comp0, ok_for, List.getElem?_cons_zero, List.getElem?_cons_succ, Option.some.injEq, Sl.val.injEq, exists_eq_left', List.nil_append, List.append_nil, List.length_cons, List.length_nil, true_and, and_true, and_self, Nat.zero_add, Nat.reduceAdd, Nat.reduceLeDiff, gAdd_i, gSub_i, gNeg_i, gBl_e, gCmpI_i, gLst_o, gTup_o, gN_e, List.set_cons_zero, List.set_cons_succ, truD_b, gIsN_n, isNonD, gLen_l, gInt_b, gInt_i, Option.map_some, Bool.false_eq_true, if_true, if_false, Bool.not_true, Bool.not_false, keyD, walkD, eqX_i]
  by_cases hr : (r == 2) = true
  · simp only [hr, ok_seq, ok_asg, ok_par, ok_ret, ok_retN, ok_sNil, ok_sIf, ok_bin, ok_un, ok_var, ok_C, ok_call, ok_callK, ok_cons, ok_nil, ok_args, ok_tru, ok_not, ok_and, ok_or, ok_eNot, ok_eAnd, ok_eOr, ok_if, ok_cmp, ok_chain, ok_ofC, ok_oNone, ok_oSome, ok_sl, ok_met, ok_rev, ok_items, ok_lenSet, ok_pairs0, ok_pairs, ok_dict, ok_iSeq, ok_rng1, ok_rng2, ok_comp, ok_comp0, ok_for, List.getElem?_cons_zero, List.getElem?_cons_succ, Option.some.injEq, Sl.val.injEq, exists_eq_left', List.nil_append, List.append_nil, List.length_cons, List.length_nil, true_and, and_true, and_self, Nat.zero_add, Nat.reduceAdd, Nat.reduceLeDiff, gAdd_i, gSub_i, gNeg_i, gBl_e, gCmpI_i, gLst_o, gTup_o, gN_e, List.set_cons_zero, List.set_cons_succ, truD_b, gIsN_n, isNonD, gLen_l, gInt_b, gInt_i, Option.map_some, Bool.false_eq_true, if_true, if_false, Bool.not_true, Bool.not_false, keyD, walkD, eqX_nil (okD_pT h)]
    rcases shapes h with rfl | hs
    · simp only [List.map_nil, List.isEmpty_nil, ok_seq, ok_asg, ok_par, ok_ret, ok_retN, ok_sNil, ok_sIf, ok_bin, ok_un, ok_var, ok_C, ok_call, ok_callK, ok_cons, ok_nil, ok_args, ok_tru, ok_not, ok_and, ok_or, ok_eNot, ok_eAnd, ok_eOr, ok_if, ok_cmp, ok_chain, ok_ofC, ok_oNone, ok_oSome, ok_sl, ok_met, ok_rev, ok_items, ok_lenSet, ok_pairs0, ok_pairs, ok_dict, ok_iSeq, ok_rng1, ok_rng2, ok_comp, ok_comp0, ok_for, List.getElem?_cons_zero, List.getElem?_cons_succ, Option.some.injEq, Sl.val.injEq, exists_eq_left', List.nil_append, List.append_nil, List.length_cons, List.length_nil, true_and, and_true, and_self, Nat.zero_add, Nat.reduceAdd, Nat.reduceLeDiff, gAdd_i, gSub_i, gNeg_i, gBl_e, gCmpI_i, gLst_o, gTup_o, gN_e, List.set_cons_zero, List.set_cons_succ, truD_b, gIsN_n, isNonD, gLen_l, gInt_b, gInt_i, Option.map_some, Bool.false_eq_true, if_true, if_false, Bool.not_true, Bool.not_false, keyD, walkD]
      exact ⟨⟨_, _, rfl, f, .inr (by have := eq_of_beq hr; omega)⟩, g.mono (by omega)⟩
    · obtain ⟨p, hp, e1⟩ := last_of hs
      have e3 : gIx (pT p) (.int 0) = some (.str (sx p.1)) := rfl
      rcases e with ⟨rfl, rfl⟩ | e
      · have hl := es_len h re
        simp only [emp_of hs, ok_seq, ok_asg, ok_par, ok_ret, ok_retN, ok_sNil, ok_sIf, ok_bin, ok_un, ok_var, ok_C, ok_call, ok_callK, ok_cons, ok_nil, ok_args, ok_tru, ok_not, ok_and, ok_or, ok_eNot, ok_eAnd, ok_eOr, ok_if, ok_cmp, ok_chain, ok_ofC, ok_oNone, ok_oSome, ok_sl, ok_met, ok_rev, ok_items, ok_lenSet, ok_pairs0, ok_pairs, ok_dict, ok_iSeq, ok_rng1, ok_rng2, ok_comp, ok_comp0, ok_for, List.getElem?_cons_zero, List.getElem?_cons_succ, Option.some.injEq, Sl.val.injEq, exists_eq_left', List.nil_append, List.append_nil, List.length_cons, List.length_nil, true_and, and_true, and_self, Nat.zero_add, Nat.reduceAdd, Nat.reduceLeDiff, gAdd_i, gSub_i, gNeg_i, gBl_e, gCmpI_i, gLst_o, gTup_o, gN_e, List.set_cons_zero, List.set_cons_succ, truD_b, gIsN_n, isNonD, gLen_l, gInt_b, gInt_i, Option.map_some, Bool.false_eq_true, if_true, if_false, Bool.not_true, Bool.not_false, keyD, walkD, e1, e3, intO, tail_of hl, Option.some.injEq, exists_eq_left']
        refine one_ok g (by omega) (by simp) (by simp) fun x hx c1 g1 => ?_
        simp only [ok_seq, ok_asg, ok_par, ok_ret, ok_retN, ok_sNil, ok_sIf, ok_bin, ok_un, ok_var, ok_C, ok_call, ok_callK, ok_cons, ok_nil, ok_args, ok_tru, ok_not, ok_and, ok_or, ok_eNot, ok_eAnd, ok_eOr, ok_if, ok_cmp, ok_chain, ok_ofC, ok_oNone, ok_oSome, ok_sl, ok_met, ok_rev, ok_items, ok_lenSet, ok_pairs0, ok_pairs, ok_dict, ok_iSeq, ok_rng1, ok_rng2, ok_comp, ok_comp0, ok_for, List.getElem?_cons_zero, List.getElem?_cons_succ, Option.some.injEq, Sl.val.injEq, exists_eq_left', List.nil_append, List.append_nil, List.length_cons, List.length_nil, true_and, and_true, and_self, Nat.zero_add, Nat.reduceAdd, Nat.reduceLeDiff, gAdd_i, gSub_i, gNeg_i, gBl_e, gCmpI_i, gLst_o, gTup_o, gN_e, List.set_cons_zero, List.set_cons_succ, truD_b, gIsN_n, isNonD, gLen_l, gInt_b, gInt_i, Option.map_some, Bool.false_eq_true, if_true, if_false, Bool.not_true, Bool.not_false, keyD, walkD, gAdd_l (xs := es.drop 1) (ys := [D.tup [.str (sx p.1), x]]) (by simp; omega)]
        refine ⟨_, _, rfl, ⟨_, _, rfl, ?_, .inr (by have := eq_of_beq hr; omega)⟩, g1⟩
        have nm := h.nm p hp
        have sz := sizS_pl h p hp
        have hd : (es.drop 1).length ≤ 4 := by rw [List.length_drop]; omega
        have key : plainD x = true → isIntD x = false → tiny x → tiny (D.tup [.str (sx p.1), x]) → Fin2 (.lst (es.drop 1 ++ [D.tup [.str (sx p.1), x]])) .non := fun a b t t2 => by
          refine fin_bad h hv re (fun d hd => List.mem_of_mem_drop hd) hd (fun c => ?_) t2 ?_
          · have := told_pair (c := c) (v := D.tup [.str (sx p.1), x]) (.inr rfl) a (by have := nm.2; omega)
            rw [b, Bool.and_false] at this
            exact this
          · show (isNm p.1 && isIntD x) = false
            rw [b, Bool.and_false]
        simp only [List.mem_cons, List.not_mem_nil, or_false] at hx
        rcases hx with rfl | rfl | rfl | rfl
        · exact key rfl rfl ⟨by simp [tame], by simp [cnt], by simp [hgt]⟩ ⟨by simp [tame, tameA, sz], by simp [cnt, cntA], by simp [hgt, hgtA]⟩
        · exact key rfl rfl ⟨by simp [tame], by simp [cnt], by simp [hgt]⟩ ⟨by simp [tame, tameA, sz], by simp [cnt, cntA], by simp [hgt, hgtA]⟩
        · have z : sizS "1" = true := by decide +kernel
          exact key rfl rfl ⟨by simp [tame, z], by simp [cnt], by simp [hgt]⟩ ⟨by simp [tame, tameA, sz, z], by simp [cnt, cntA], by simp [hgt, hgtA]⟩
        · have z : sizI 1 = true := by decide +kernel
          exact key rfl rfl ⟨by simp [tame, tameA, z], by simp [cnt, cntA], by simp [hgt, hgtA]⟩ ⟨by simp [tame, tameA, sz, z], by simp [cnt, cntA], by simp [hgt, hgtA]⟩
      · have := eq_of_beq hr; omega
  · simp only [hr, ok_seq, ok_asg, ok_par, ok_ret, ok_retN, ok_sNil, ok_sIf, ok_bin, ok_un, ok_var, ok_C, ok_call, ok_callK, ok_cons, ok_nil, ok_args, ok_tru, ok_not, ok_and, ok_or, ok_eNot, ok_eAnd, ok_eOr, ok_if, ok_cmp, ok_chain, ok_ofC, ok_oNone, ok_oSome, ok_sl, ok_met, ok_rev, ok_items, ok_lenSet, ok_pairs0, ok_pairs, ok_dict, ok_iSeq, ok_rng1, ok_rng2, ok_comp, ok_comp0, ok_for, List.getElem?_cons_zero, List.getElem?_cons_succ, Option.some.injEq, Sl.val.injEq, exists_eq_left', List.nil_append, List.append_nil, List.length_cons, List.length_nil, true_and, and_true, and_self, Nat.zero_add, Nat.reduceAdd, Nat.reduceLeDiff, gAdd_i, gSub_i, gNeg_i, gBl_e, gCmpI_i, gLst_o, gTup_o, gN_e, List.set_cons_zero, List.set_cons_succ, truD_b, gIsN_n, isNonD, gLen_l, gInt_b, gInt_i, Option.map_some, Bool.false_eq_true, if_true, if_false, Bool.not_true, Bool.not_false, keyD, walkD]
    exact ⟨⟨_, _, rfl, f, e.imp id fun z => by omega⟩, g.mono (by omega)⟩
theorem w3 (h : SortedSame pl) (hv : ∀ p ∈ pl, vOk p.2 = true) (re : RelE es pl.reverse) (hn : n + 80 ≤ 2 ^ 20) (s : StW ns pl es n r 3 ρ c) : Ok (sIf (cCmp (gEqX false) (eVar 4) (eC (.int 3))) (sPar 5 3 (aCons (eBin gAdd (eVar 5) (eArgs gLst (aCons (eCall 2 F__law_one [] (aCons (eVar 0) (aCons (eArgs gLst (aCons (eArgs gTup (aCons (eC (.str "X")) (aCons (eC (.int 1)) aNil))) (aCons (eArgs gTup (aCons (eC (.str "some")) (aCons (eC (.int 1)) aNil))) (aCons (eArgs gTup (aCons (eC (.str "x")) aNil)) (aCons (eArgs gTup (aCons (eC (.str "q")) (aCons (eC (.int 1)) (aCons (eC (.int 2)) aNil)))) (aCons (eC .non) (aCons (eC (.str "x1")) (aCons (eArgs gTup (aCons (eC (.str "")) (aCons (eC (.int 0)) aNil))) (aCons (eArgs gTup (aCons (eC (.int 5)) (aCons (eC (.int 5)) aNil))) aNil))))))))) aNil))) aNil))) (aCons (eC .non) aNil))) sNil ρ c) fun p c1 => p.2 = .nx ∧ StW ns pl es (n + 1) r 4 p.1 c1 := by
  obtain ⟨⟨v, d, rfl, f, e⟩, g⟩ := s
  simp only [ok_seq, ok_asg, ok_par, ok_ret, ok_retN, ok_sNil, ok_sIf, ok_bin, ok_un, ok_var, ok_C, ok_call, ok_callK, ok_cons, ok_nil, ok_args, ok_tru, ok_not, ok_and, ok_or, ok_eNot, ok_eAnd, ok_eOr, ok_if, ok_cmp, ok_chain, ok_ofC, ok_oNone, ok_oSome, ok_sl, ok_met, ok_rev, ok_items, ok_lenSet, ok_pairs0, ok_pairs, ok_dict, ok_iSeq, ok_rng1, ok_rng2, ok_comp, ok_comp0, ok_for, List.getElem?_cons_zero, List.getElem?_cons_succ, Option.some.injEq, Sl.val.injEq, exists_eq_left', List.nil_append, List.append_nil, List.length_cons, List.length_nil, true_and, and_true, and_self, Nat.zero_add, Nat.reduceAdd, Nat.reduceLeDiff, gAdd_i, gSub_i, gNeg_i, gBl_e, gCmpI_i, gLst_o, gTup_o, gN_e, List.set_cons_zero, List.set_cons_succ, truD_b, gIsN_n, isNonD, gLen_l, gInt_b, gInt_i, Option.map_some, Bool.false_eq_true, if_true, if_false, Bool.not_true, Bool.not_false, keyD, walkD, eqX_i]
  by_cases hr : (r == 3) = true
  · rcases e with ⟨rfl, rfl⟩ | e
    · simp only [hr, ok_seq, ok_asg, ok_par, ok_ret, ok_retN, ok_sNil, ok_sIf, ok_bin, ok_un, ok_var, ok_C, ok_call, ok_callK, ok_cons, ok_nil, ok_args, ok_tru, ok_not, ok_and, ok_or, ok_eNot, ok_eAnd, ok_eOr, ok_if, ok_cmp, ok_chain, ok_ofC, ok_oNone, ok_oSome, ok_sl, ok_met, ok_rev, ok_items, ok_lenSet, ok_pairs0, ok_pairs, ok_dict, ok_iSeq, ok_rng1, ok_rng2, ok_comp, ok_comp0, ok_for, List.getElem?_cons_zero, List.getElem?_cons_succ, Option.some.injEq, Sl.val.injEq, exists_eq_left', List.nil_append, List.append_nil, List.length_cons, List.length_nil, true_and, and_true, and_self, Nat.zero_add, Nat.reduceAdd, Nat.reduceLeDiff, gAdd_i, gSub_i, gNeg_i, gBl_e, gCmpI_i, gLst_o, gTup_o, gN_e, List.set_cons_zero, List.set_cons_succ, truD_b, gIsN_n, isNonD, gLen_l, gInt_b, gInt_i, Option.map_some, Bool.false_eq_true, if_true, if_false, Bool.not_true, Bool.not_false, keyD, walkD]
      refine one_ok g (by omega) (by simp) (by simp) fun x hx c1 g1 => ?_
      have hl := es_len h re
      simp only [ok_seq, ok_asg, ok_par, ok_ret, ok_retN, ok_sNil, ok_sIf, ok_bin, ok_un, ok_var, ok_C, ok_call, ok_callK, ok_cons, ok_nil, ok_args, ok_tru, ok_not, ok_and, ok_or, ok_eNot, ok_eAnd, ok_eOr, ok_if, ok_cmp, ok_chain, ok_ofC, ok_oNone, ok_oSome, ok_sl, ok_met, ok_rev, ok_items, ok_lenSet, ok_pairs0, ok_pairs, ok_dict, ok_iSeq, ok_rng1, ok_rng2, ok_comp, ok_comp0, ok_for, List.getElem?_cons_zero, List.getElem?_cons_succ, Option.some.injEq, Sl.val.injEq, exists_eq_left', List.nil_append, List.append_nil, List.length_cons, List.length_nil, true_and, and_true, and_self, Nat.zero_add, Nat.reduceAdd, Nat.reduceLeDiff, gAdd_i, gSub_i, gNeg_i, gBl_e, gCmpI_i, gLst_o, gTup_o, gN_e, List.set_cons_zero, List.set_cons_succ, truD_b, gIsN_n, isNonD, gLen_l, gInt_b, gInt_i, Option.map_some, Bool.false_eq_true, if_true, if_false, Bool.not_true, Bool.not_false, keyD, walkD, gAdd_l (xs := es) (ys := [x]) (by simp; omega)]
      refine ⟨_, _, rfl, ⟨_, _, rfl, ?_, .inr (by have := eq_of_beq hr; omega)⟩, g1⟩
      simp only [List.mem_cons, List.not_mem_nil, or_false] at hx
      have key : (∀ c, F_is_told [x] c = .ok (.bl false) c) → tiny x → toldB x = false → Fin2 (.lst (es ++ [x])) .non := fun a b t => fin_bad h hv re (fun d hd => hd) hl a b t
      rcases hx with rfl | rfl | rfl | rfl | rfl | rfl | rfl | rfl
      · exact key (fun c => by kernel_rfl) ⟨by decide +kernel, by decide +kernel, by decide +kernel⟩ (by kernel_rfl)
      · exact key (fun c => by kernel_rfl) ⟨by decide +kernel, by decide +kernel, by decide +kernel⟩ (by kernel_rfl)
      · exact key (fun c => by kernel_rfl) ⟨by decide +kernel, by decide +kernel, by decide +kernel⟩ (by kernel_rfl)
      · exact key (fun c => by kernel_rfl) ⟨by decide +kernel, by decide +kernel, by decide +kernel⟩ (by kernel_rfl)
      · exact key (fun c => by kernel_rfl) ⟨by decide +kernel, by decide +kernel, by decide +kernel⟩ (by kernel_rfl)
      · exact key (fun c => by kernel_rfl) ⟨by decide +kernel, by decide +kernel, by decide +kernel⟩ (by kernel_rfl)
      · exact key (fun c => by kernel_rfl) ⟨by decide +kernel, by decide +kernel, by decide +kernel⟩ (by kernel_rfl)
      · exact key (fun c => by kernel_rfl) ⟨by decide +kernel, by decide +kernel, by decide +kernel⟩ (by kernel_rfl)
    · have := eq_of_beq hr; omega
  · simp only [hr, ok_seq, ok_asg, ok_par, ok_ret, ok_retN, ok_sNil, ok_sIf, ok_bin, ok_un, ok_var, ok_C, ok_call, ok_callK, ok_cons, ok_nil, ok_args, ok_tru, ok_not, ok_and, ok_or, ok_eNot, ok_eAnd, ok_eOr, ok_if, ok_cmp, ok_chain, ok_ofC, ok_oNone, ok_oSome, ok_sl, ok_met, ok_rev, ok_items, ok_lenSet, ok_pairs0, ok_pairs, ok_dict, ok_iSeq, ok_rng1, ok_rng2, ok_comp, ok_comp0, ok_for, List.getElem?_cons_zero, List.getElem?_cons_succ, Option.some.injEq, Sl.val.injEq, exists_eq_left', List.nil_append, List.append_nil, List.length_cons, List.length_nil, true_and, and_true, and_self, Nat.zero_add, Nat.reduceAdd, Nat.reduceLeDiff, gAdd_i, gSub_i, gNeg_i, gBl_e, gCmpI_i, gLst_o, gTup_o, gN_e, List.set_cons_zero, List.set_cons_succ, truD_b, gIsN_n, isNonD, gLen_l, gInt_b, gInt_i, Option.map_some, Bool.false_eq_true, if_true, if_false, Bool.not_true, Bool.not_false, keyD, walkD]
    exact ⟨⟨_, _, rfl, f, e.imp id fun z => by omega⟩, g.mono (by omega)⟩
theorem w4 (hn : n + 80 ≤ 2 ^ 20) (s : StW ns pl es n r 4 ρ c) : Ok (sIf (cCmp (gEqX false) (eVar 4) (eC (.int 4))) (sPar 5 3 (aCons (eCall 2 F__law_one [] (aCons (eVar 0) (aCons (eArgs gLst (aCons (eC .non) (aCons (eC (.int 5)) (aCons (eC (.str "x")) (aCons (eC (.bl true)) (aCons (eDict [((eC (.str "x")), (eC (.bl true)))]) (aCons (eDict [((eC (.str "all")), (eC (.int 1)))]) (aCons (eDict [((eC (.int 1)), (eC (.int 1)))]) (aCons (eDict [((eC (.str "x")), (eC (.str "1")))]) aNil))))))))) aNil))) (aCons (eC .non) aNil))) sNil ρ c) fun p c1 => p.2 = .nx ∧ StW ns pl es (n + 1) r 5 p.1 c1 := by
  obtain ⟨⟨v, d, rfl, f, e⟩, g⟩ := s
  simp only [ok_seq, ok_asg, ok_par, ok_ret, ok_retN, ok_sNil, ok_sIf, ok_bin, ok_un, ok_var, ok_C, ok_call, ok_callK, ok_cons, ok_nil, ok_args, ok_tru, ok_not, ok_and, ok_or, ok_eNot, ok_eAnd, ok_eOr, ok_if, ok_cmp, ok_chain, ok_ofC, ok_oNone, ok_oSome, ok_sl, ok_met, ok_rev, ok_items, ok_lenSet, ok_pairs0, ok_pairs, ok_dict, ok_iSeq, ok_rng1, ok_rng2, ok_comp, ok_comp0, ok_for, List.getElem?_cons_zero, List.getElem?_cons_succ, Option.some.injEq, Sl.val.injEq, exists_eq_left', List.nil_append, List.append_nil, List.length_cons, List.length_nil, true_and, and_true, and_self, Nat.zero_add, Nat.reduceAdd, Nat.reduceLeDiff, gAdd_i, gSub_i, gNeg_i, gBl_e, gCmpI_i, gLst_o, gTup_o, gN_e, List.set_cons_zero, List.set_cons_succ, truD_b, gIsN_n, isNonD, gLen_l, gInt_b, gInt_i, Option.map_some, Bool.false_eq_true, if_true, if_false, Bool.not_true, Bool.not_false, keyD, walkD, eqX_i]
  by_cases hr : (r == 4) = true
  · simp only [hr, ok_seq, ok_asg, ok_par, ok_ret, ok_retN, ok_sNil, ok_sIf, ok_bin, ok_un, ok_var, ok_C, ok_call, ok_callK, ok_cons, ok_nil, ok_args, ok_tru, ok_not, ok_and, ok_or, ok_eNot, ok_eAnd, ok_eOr, ok_if, ok_cmp, ok_chain, ok_ofC, ok_oNone, ok_oSome, ok_sl, ok_met, ok_rev, ok_items, ok_lenSet, ok_pairs0, ok_pairs, ok_dict, ok_iSeq, ok_rng1, ok_rng2, ok_comp, ok_comp0, ok_for, List.getElem?_cons_zero, List.getElem?_cons_succ, Option.some.injEq, Sl.val.injEq, exists_eq_left', List.nil_append, List.append_nil, List.length_cons, List.length_nil, true_and, and_true, and_self, Nat.zero_add, Nat.reduceAdd, Nat.reduceLeDiff, gAdd_i, gSub_i, gNeg_i, gBl_e, gCmpI_i, gLst_o, gTup_o, gN_e, List.set_cons_zero, List.set_cons_succ, truD_b, gIsN_n, isNonD, gLen_l, gInt_b, gInt_i, Option.map_some, Bool.false_eq_true, if_true, if_false, Bool.not_true, Bool.not_false, keyD, walkD]
    refine one_ok g (by omega) (by simp) (by simp) fun x hx c1 g1 => ?_
    try simp only [ok_seq, ok_asg, ok_par, ok_ret, ok_retN, ok_sNil, ok_sIf, ok_bin, ok_un, ok_var, ok_C, ok_call, ok_callK, ok_cons, ok_nil, ok_args, ok_tru, ok_not, ok_and, ok_or, ok_eNot, ok_eAnd, ok_eOr, ok_if, ok_cmp, ok_chain, ok_ofC, ok_oNone, ok_oSome, ok_sl, ok_met, ok_rev, ok_items, ok_lenSet, ok_pairs0, ok_pairs, ok_dict, ok_iSeq, ok_rng1, ok_rng2, ok_comp, ok_comp0, ok_for, List.getElem?_cons_zero, List.getElem?_cons_succ, Option.some.injEq, Sl.val.injEq, exists_eq_left', List.nil_append, List.append_nil, List.length_cons, List.length_nil, true_and, and_true, and_self, Nat.zero_add, Nat.reduceAdd, Nat.reduceLeDiff, gAdd_i, gSub_i, gNeg_i, gBl_e, gCmpI_i, gLst_o, gTup_o, gN_e, List.set_cons_zero, List.set_cons_succ, truD_b, gIsN_n, isNonD, gLen_l, gInt_b, gInt_i, Option.map_some, Bool.false_eq_true, if_true, if_false, Bool.not_true, Bool.not_false, keyD, walkD]
    refine ⟨_, _, rfl, ⟨_, _, rfl, ?_, .inr (by have := eq_of_beq hr; omega)⟩, g1⟩
    simp only [List.mem_cons, List.not_mem_nil, or_false] at hx
    have key : (∀ c, F_setting_of [x] c = .ok .non c) → small x → Fin2 x .non := fun a b => fin_no b fun c k q => Ok.of_eq (a c) q
    rcases hx with rfl | rfl | rfl | rfl | rfl | rfl | rfl | rfl
    · exact key (fun c => by kernel_rfl) ⟨by decide +kernel, by decide +kernel, by decide +kernel⟩
    · exact key (fun c => by kernel_rfl) ⟨by decide +kernel, by decide +kernel, by decide +kernel⟩
    · exact key (fun c => by kernel_rfl) ⟨by decide +kernel, by decide +kernel, by decide +kernel⟩
    · exact key (fun c => by kernel_rfl) ⟨by decide +kernel, by decide +kernel, by decide +kernel⟩
    · exact key (fun c => by kernel_rfl) ⟨by decide +kernel, by decide +kernel, by decide +kernel⟩
    · exact key (fun c => by kernel_rfl) ⟨by decide +kernel, by decide +kernel, by decide +kernel⟩
    · exact key (fun c => by kernel_rfl) ⟨by decide +kernel, by decide +kernel, by decide +kernel⟩
    · exact key (fun c => by kernel_rfl) ⟨by decide +kernel, by decide +kernel, by decide +kernel⟩
  · simp only [hr, ok_seq, ok_asg, ok_par, ok_ret, ok_retN, ok_sNil, ok_sIf, ok_bin, ok_un, ok_var, ok_C, ok_call, ok_callK, ok_cons, ok_nil, ok_args, ok_tru, ok_not, ok_and, ok_or, ok_eNot, ok_eAnd, ok_eOr, ok_if, ok_cmp, ok_chain, ok_ofC, ok_oNone, ok_oSome, ok_sl, ok_met, ok_rev, ok_items, ok_lenSet, ok_pairs0, ok_pairs, ok_dict, ok_iSeq, ok_rng1, ok_rng2, ok_comp, ok_comp0, ok_for, List.getElem?_cons_zero, List.getElem?_cons_succ, Option.some.injEq, Sl.val.injEq, exists_eq_left', List.nil_append, List.append_nil, List.length_cons, List.length_nil, true_and, and_true, and_self, Nat.zero_add, Nat.reduceAdd, Nat.reduceLeDiff, gAdd_i, gSub_i, gNeg_i, gBl_e, gCmpI_i, gLst_o, gTup_o, gN_e, List.set_cons_zero, List.set_cons_succ, truD_b, gIsN_n, isNonD, gLen_l, gInt_b, gInt_i, Option.map_some, Bool.false_eq_true, if_true, if_false, Bool.not_true, Bool.not_false, keyD, walkD]
    exact ⟨⟨_, _, rfl, f, e.imp id fun z => by omega⟩, g.mono (by omega)⟩
end
end G

set_option Elab.async false
set_option linter.all false
set_option maxRecDepth 100000
set_option maxHeartbeats 8000000
namespace G
open PySem PySem.Spec PyProof.Rows L2
theorem setting_right {n : Nat} {c : Churn} {k : D → Churn → Prop} (g : Good n c) (hn : n + 200 ≤ 2 ^ 20) (q : ∀ c', Good (n + 30) c' → k (.bl true) c') : Ok (F__law_setting_right [.chn] c) k := by
  show Ok (G.nx (runDef 9 g__law_setting_right [.chn]) c) k
  rw [ok_def]
  show Ok (g__law_setting_right [.val .chn, .no, .no, .no, .no, .no, .no, .no, .no] c) _
  unfold g__law_setting_right
  refine ok_step (fun ρ c => (∃ ns, ρ = [.val .chn, .val (nsD ns), .no, .no, .no, .no, .no, .no, .no] ∧ nsOk ns) ∧ Good (n + 1) c) (st1 g (by omega)) fun ρ c ⟨⟨ns, e, hns⟩, g⟩ => ?_
  subst e
  refine ok_stp (st2 hns g (by omega)) fun p c ⟨⟨pl, e, h, hv⟩, g⟩ => ?_
  rw [e]
  refine ok_stp (st3 h g (by omega)) fun p c ⟨⟨r, e, r0⟩, g⟩ => ?_
  rw [e]
  refine ok_stp (st4 h g (by omega)) fun p c ⟨⟨es, e, re⟩, g⟩ => ?_
  rw [e]
  refine ok_stp (w0 (es := es) h hv ⟨⟨_, _, rfl, fin_list h hv re, .inl ⟨rfl, rfl⟩⟩, g⟩ r0) fun p c s => ?_
  refine ok_stp (w1 h hv re (by omega) s) fun p c s => ?_
  refine ok_stp (w2 h hv re (by omega) s) fun p c s => ?_
  refine ok_stp (w3 h hv re (by omega) s) fun p c s => ?_
  refine ok_stp (w4 (by omega) s) fun p c s => ?_
  obtain ⟨⟨v, d, e, f, _⟩, g⟩ := s
  rw [e]
  exact last_ok f (q c (g.mono (by omega)))
end G

set_option Elab.async false
set_option linter.all false
set_option maxRecDepth 100000
set_option maxHeartbeats 8000000
namespace G
open PySem PySem.Spec PyProof.Rows L2
abbrev lw (t v lo hi nu le mo du ro wh at_ ea : Sl) : Ev := [.no, .val .chn, t, v, lo, hi, nu, le, mo, du, ro, wh, at_, ea]
theorem plain_small {d : D} (h : plainD d = true) : True := trivial
theorem due_ok {nu le mo : D} {c : Churn} {k : D → Churn → Prop} {t v lo hi du ro wh at_ ea : Sl} (h : plainD nu = true) (h1 : optD le = true) (h2 : optD mo = true) (q : k (.bl (within nu le mo)) c) :
    Ok (eAnd (eCall 1 F__law_own_integer [] (aCons (eVar 6) aNil)) (eAnd (eOr (eBin (gBl (gIsN false)) (eVar 7) (eC .non)) (eBin (gBl (gCmpI geI)) (eVar 6) (eVar 7))) (eOr (eBin (gBl (gIsN false)) (eVar 8) (eC .non)) (eBin (gBl (gCmpI leI)) (eVar 6) (eVar 8))))
      (lw t v lo hi (.val nu) (.val le) (.val mo) du ro wh at_ ea) c) k := by
  simp only [ok_seq, ok_asg, ok_par, ok_ret, ok_retN, ok_sNil, ok_sIf, ok_bin, ok_un, ok_var, ok_C, ok_call, ok_callK, ok_cons, ok_nil, ok_args, ok_tru, ok_not, ok_and, ok_or, ok_eNot, ok_eAnd, ok_eOr, ok_if, ok_cmp, ok_chain, ok_ofC, ok_oNone, ok_oSome, ok_sl, ok_met, ok_rev, ok_items, ok_lenSet, ok_pairs0, ok_pairs, ok_dict, ok_iSeq, ok_rng1, ok_rng2, ok_comp, ok_comp0, ok_for, List.getElem?_cons_zero, List.getElem?_cons_succ, Option.some.injEq, Sl.val.injEq, exists_eq_left', List.nil_append, List.append_nil, List.length_cons, List.length_nil, true_and, and_true, and_self, Nat.zero_add, Nat.reduceAdd, Nat.reduceLeDiff, gAdd_i, gSub_i, gNeg_i, gBl_e, gCmpI_i, gLst_o, gTup_o, gN_e, List.set_cons_zero, List.set_cons_succ, truD_b, gIsN_n, isNonD, gLen_l, gInt_b, gInt_i, Option.map_some, Bool.false_eq_true, if_true, if_false, Bool.not_true, Bool.not_false, keyD, walkD]
  rw [ok_eq (own_integer_eq h)]
  simp only [ok_seq, ok_asg, ok_par, ok_ret, ok_retN, ok_sNil, ok_sIf, ok_bin, ok_un, ok_var, ok_C, ok_call, ok_callK, ok_cons, ok_nil, ok_args, ok_tru, ok_not, ok_and, ok_or, ok_eNot, ok_eAnd, ok_eOr, ok_if, ok_cmp, ok_chain, ok_ofC, ok_oNone, ok_oSome, ok_sl, ok_met, ok_rev, ok_items, ok_lenSet, ok_pairs0, ok_pairs, ok_dict, ok_iSeq, ok_rng1, ok_rng2, ok_comp, ok_comp0, ok_for, List.getElem?_cons_zero, List.getElem?_cons_succ, Option.some.injEq, Sl.val.injEq, exists_eq_left', List.nil_append, List.append_nil, List.length_cons, List.length_nil, true_and, and_true, and_self, Nat.zero_add, Nat.reduceAdd, Nat.reduceLeDiff, gAdd_i, gSub_i, gNeg_i, gBl_e, gCmpI_i, gLst_o, gTup_o, gN_e, List.set_cons_zero, List.set_cons_succ, truD_b, gIsN_n, isNonD, gLen_l, gInt_b, gInt_i, Option.map_some, Bool.false_eq_true, if_true, if_false, Bool.not_true, Bool.not_false, keyD, walkD]
  cases hv : isIntD nu with
  | false =>
    simp only [ok_seq, ok_asg, ok_par, ok_ret, ok_retN, ok_sNil, ok_sIf, ok_bin, ok_un, ok_var, ok_C, ok_call, ok_callK, ok_cons, ok_nil, ok_args, ok_tru, ok_not, ok_and, ok_or, ok_eNot, ok_eAnd, ok_eOr, ok_if, ok_cmp, ok_chain, ok_ofC, ok_oNone, ok_oSome, ok_sl, ok_met, ok_rev, ok_items, ok_lenSet, ok_pairs0, ok_pairs, ok_dict, ok_iSeq, ok_rng1, ok_rng2, ok_comp, ok_comp0, ok_for, List.getElem?_cons_zero, List.getElem?_cons_succ, Option.some.injEq, Sl.val.injEq, exists_eq_left', List.nil_append, List.append_nil, List.length_cons, List.length_nil, true_and, and_true, and_self, Nat.zero_add, Nat.reduceAdd, Nat.reduceLeDiff, gAdd_i, gSub_i, gNeg_i, gBl_e, gCmpI_i, gLst_o, gTup_o, gN_e, List.set_cons_zero, List.set_cons_succ, truD_b, gIsN_n, isNonD, gLen_l, gInt_b, gInt_i, Option.map_some, Bool.false_eq_true, if_true, if_false, Bool.not_true, Bool.not_false, keyD, walkD]
    have e : within nu le mo = false := by cases nu <;> first | rfl | cases hv
    rw [e] at q
    exact q
  | true =>
    simp only [ok_seq, ok_asg, ok_par, ok_ret, ok_retN, ok_sNil, ok_sIf, ok_bin, ok_un, ok_var, ok_C, ok_call, ok_callK, ok_cons, ok_nil, ok_args, ok_tru, ok_not, ok_and, ok_or, ok_eNot, ok_eAnd, ok_eOr, ok_if, ok_cmp, ok_chain, ok_ofC, ok_oNone, ok_oSome, ok_sl, ok_met, ok_rev, ok_items, ok_lenSet, ok_pairs0, ok_pairs, ok_dict, ok_iSeq, ok_rng1, ok_rng2, ok_comp, ok_comp0, ok_for, List.getElem?_cons_zero, List.getElem?_cons_succ, Option.some.injEq, Sl.val.injEq, exists_eq_left', List.nil_append, List.append_nil, List.length_cons, List.length_nil, true_and, and_true, and_self, Nat.zero_add, Nat.reduceAdd, Nat.reduceLeDiff, gAdd_i, gSub_i, gNeg_i, gBl_e, gCmpI_i, gLst_o, gTup_o, gN_e, List.set_cons_zero, List.set_cons_succ, truD_b, gIsN_n, isNonD, gLen_l, gInt_b, gInt_i, Option.map_some, Bool.false_eq_true, if_true, if_false, Bool.not_true, Bool.not_false, keyD, walkD]
    cases nu <;> first | cases hv | skip
    rename_i i
    cases le <;> first | cases h1 | skip
    · cases mo <;> first | cases h2 | skip
      · simp only [ok_seq, ok_asg, ok_par, ok_ret, ok_retN, ok_sNil, ok_sIf, ok_bin, ok_un, ok_var, ok_C, ok_call, ok_callK, ok_cons, ok_nil, ok_args, ok_tru, ok_not, ok_and, ok_or, ok_eNot, ok_eAnd, ok_eOr, ok_if, ok_cmp, ok_chain, ok_ofC, ok_oNone, ok_oSome, ok_sl, ok_met, ok_rev, ok_items, ok_lenSet, ok_pairs0, ok_pairs, ok_dict, ok_iSeq, ok_rng1, ok_rng2, ok_comp, ok_comp0, ok_for, List.getElem?_cons_zero, List.getElem?_cons_succ, Option.some.injEq, Sl.val.injEq, exists_eq_left', List.nil_append, List.append_nil, List.length_cons, List.length_nil, true_and, and_true, and_self, Nat.zero_add, Nat.reduceAdd, Nat.reduceLeDiff, gAdd_i, gSub_i, gNeg_i, gBl_e, gCmpI_i, gLst_o, gTup_o, gN_e, List.set_cons_zero, List.set_cons_succ, truD_b, gIsN_n, isNonD, gLen_l, gInt_b, gInt_i, Option.map_some, Bool.false_eq_true, if_true, if_false, Bool.not_true, Bool.not_false, keyD, walkD]; exact q
      · rename_i b
        simp only [ok_seq, ok_asg, ok_par, ok_ret, ok_retN, ok_sNil, ok_sIf, ok_bin, ok_un, ok_var, ok_C, ok_call, ok_callK, ok_cons, ok_nil, ok_args, ok_tru, ok_not, ok_and, ok_or, ok_eNot, ok_eAnd, ok_eOr, ok_if, ok_cmp, ok_chain, ok_ofC, ok_oNone, ok_oSome, ok_sl, ok_met, ok_rev, ok_items, ok_lenSet, ok_pairs0, ok_pairs, ok_dict, ok_iSeq, ok_rng1, ok_rng2, ok_comp, ok_comp0, ok_for, List.getElem?_cons_zero, List.getElem?_cons_succ, Option.some.injEq, Sl.val.injEq, exists_eq_left', List.nil_append, List.append_nil, List.length_cons, List.length_nil, true_and, and_true, and_self, Nat.zero_add, Nat.reduceAdd, Nat.reduceLeDiff, gAdd_i, gSub_i, gNeg_i, gBl_e, gCmpI_i, gLst_o, gTup_o, gN_e, List.set_cons_zero, List.set_cons_succ, truD_b, gIsN_n, isNonD, gLen_l, gInt_b, gInt_i, Option.map_some, Bool.false_eq_true, if_true, if_false, Bool.not_true, Bool.not_false, keyD, walkD]
        exact q
    · rename_i a
      simp only [ok_seq, ok_asg, ok_par, ok_ret, ok_retN, ok_sNil, ok_sIf, ok_bin, ok_un, ok_var, ok_C, ok_call, ok_callK, ok_cons, ok_nil, ok_args, ok_tru, ok_not, ok_and, ok_or, ok_eNot, ok_eAnd, ok_eOr, ok_if, ok_cmp, ok_chain, ok_ofC, ok_oNone, ok_oSome, ok_sl, ok_met, ok_rev, ok_items, ok_lenSet, ok_pairs0, ok_pairs, ok_dict, ok_iSeq, ok_rng1, ok_rng2, ok_comp, ok_comp0, ok_for, List.getElem?_cons_zero, List.getElem?_cons_succ, Option.some.injEq, Sl.val.injEq, exists_eq_left', List.nil_append, List.append_nil, List.length_cons, List.length_nil, true_and, and_true, and_self, Nat.zero_add, Nat.reduceAdd, Nat.reduceLeDiff, gAdd_i, gSub_i, gNeg_i, gBl_e, gCmpI_i, gLst_o, gTup_o, gN_e, List.set_cons_zero, List.set_cons_succ, truD_b, gIsN_n, isNonD, gLen_l, gInt_b, gInt_i, Option.map_some, Bool.false_eq_true, if_true, if_false, Bool.not_true, Bool.not_false, keyD, walkD]
      by_cases ha : a ≤ i
      · simp only [geI, ha, decide_true, ok_seq, ok_asg, ok_par, ok_ret, ok_retN, ok_sNil, ok_sIf, ok_bin, ok_un, ok_var, ok_C, ok_call, ok_callK, ok_cons, ok_nil, ok_args, ok_tru, ok_not, ok_and, ok_or, ok_eNot, ok_eAnd, ok_eOr, ok_if, ok_cmp, ok_chain, ok_ofC, ok_oNone, ok_oSome, ok_sl, ok_met, ok_rev, ok_items, ok_lenSet, ok_pairs0, ok_pairs, ok_dict, ok_iSeq, ok_rng1, ok_rng2, ok_comp, ok_comp0, ok_for, List.getElem?_cons_zero, List.getElem?_cons_succ, Option.some.injEq, Sl.val.injEq, exists_eq_left', List.nil_append, List.append_nil, List.length_cons, List.length_nil, true_and, and_true, and_self, Nat.zero_add, Nat.reduceAdd, Nat.reduceLeDiff, gAdd_i, gSub_i, gNeg_i, gBl_e, gCmpI_i, gLst_o, gTup_o, gN_e, List.set_cons_zero, List.set_cons_succ, truD_b, gIsN_n, isNonD, gLen_l, gInt_b, gInt_i, Option.map_some, Bool.false_eq_true, if_true, if_false, Bool.not_true, Bool.not_false, keyD, walkD]
        cases mo <;> first | cases h2 | skip
        · simp only [ok_seq, ok_asg, ok_par, ok_ret, ok_retN, ok_sNil, ok_sIf, ok_bin, ok_un, ok_var, ok_C, ok_call, ok_callK, ok_cons, ok_nil, ok_args, ok_tru, ok_not, ok_and, ok_or, ok_eNot, ok_eAnd, ok_eOr, ok_if, ok_cmp, ok_chain, ok_ofC, ok_oNone, ok_oSome, ok_sl, ok_met, ok_rev, ok_items, ok_lenSet, ok_pairs0, ok_pairs, ok_dict, ok_iSeq, ok_rng1, ok_rng2, ok_comp, ok_comp0, ok_for, List.getElem?_cons_zero, List.getElem?_cons_succ, Option.some.injEq, Sl.val.injEq, exists_eq_left', List.nil_append, List.append_nil, List.length_cons, List.length_nil, true_and, and_true, and_self, Nat.zero_add, Nat.reduceAdd, Nat.reduceLeDiff, gAdd_i, gSub_i, gNeg_i, gBl_e, gCmpI_i, gLst_o, gTup_o, gN_e, List.set_cons_zero, List.set_cons_succ, truD_b, gIsN_n, isNonD, gLen_l, gInt_b, gInt_i, Option.map_some, Bool.false_eq_true, if_true, if_false, Bool.not_true, Bool.not_false, keyD, walkD]; simpa [within, ha] using q
        · rename_i b
          simp only [ok_seq, ok_asg, ok_par, ok_ret, ok_retN, ok_sNil, ok_sIf, ok_bin, ok_un, ok_var, ok_C, ok_call, ok_callK, ok_cons, ok_nil, ok_args, ok_tru, ok_not, ok_and, ok_or, ok_eNot, ok_eAnd, ok_eOr, ok_if, ok_cmp, ok_chain, ok_ofC, ok_oNone, ok_oSome, ok_sl, ok_met, ok_rev, ok_items, ok_lenSet, ok_pairs0, ok_pairs, ok_dict, ok_iSeq, ok_rng1, ok_rng2, ok_comp, ok_comp0, ok_for, List.getElem?_cons_zero, List.getElem?_cons_succ, Option.some.injEq, Sl.val.injEq, exists_eq_left', List.nil_append, List.append_nil, List.length_cons, List.length_nil, true_and, and_true, and_self, Nat.zero_add, Nat.reduceAdd, Nat.reduceLeDiff, gAdd_i, gSub_i, gNeg_i, gBl_e, gCmpI_i, gLst_o, gTup_o, gN_e, List.set_cons_zero, List.set_cons_succ, truD_b, gIsN_n, isNonD, gLen_l, gInt_b, gInt_i, Option.map_some, Bool.false_eq_true, if_true, if_false, Bool.not_true, Bool.not_false, keyD, walkD]; simpa [within, ha, leI] using q
      · simp only [geI, ha, decide_false, ok_seq, ok_asg, ok_par, ok_ret, ok_retN, ok_sNil, ok_sIf, ok_bin, ok_un, ok_var, ok_C, ok_call, ok_callK, ok_cons, ok_nil, ok_args, ok_tru, ok_not, ok_and, ok_or, ok_eNot, ok_eAnd, ok_eOr, ok_if, ok_cmp, ok_chain, ok_ofC, ok_oNone, ok_oSome, ok_sl, ok_met, ok_rev, ok_items, ok_lenSet, ok_pairs0, ok_pairs, ok_dict, ok_iSeq, ok_rng1, ok_rng2, ok_comp, ok_comp0, ok_for, List.getElem?_cons_zero, List.getElem?_cons_succ, Option.some.injEq, Sl.val.injEq, exists_eq_left', List.nil_append, List.append_nil, List.length_cons, List.length_nil, true_and, and_true, and_self, Nat.zero_add, Nat.reduceAdd, Nat.reduceLeDiff, gAdd_i, gSub_i, gNeg_i, gBl_e, gCmpI_i, gLst_o, gTup_o, gN_e, List.set_cons_zero, List.set_cons_succ, truD_b, gIsN_n, isNonD, gLen_l, gInt_b, gInt_i, Option.map_some, Bool.false_eq_true, if_true, if_false, Bool.not_true, Bool.not_false, keyD, walkD]
        simpa [within, ha] using q
structure LwA (n : Nat) (ρ : Ev) (c : Churn) : Prop where
  ex : ∃ t v lo hi nu le mo du ro wh at_ ea, ρ = lw t v lo hi nu le mo du ro wh at_ ea
  g : Good n c
theorem t1 {n : Nat} {c : Churn} {t v lo hi nu le mo du ro wh at_ ea : Sl} (g : Good n c) (hn : n + 100 ≤ 2 ^ 20) : Ok (sAsg (gN 3) (eCall 1 F__law_value [] (aCons (eVar 1) aNil)) (lw t v lo hi nu le mo du ro wh at_ ea) c) fun p c1 => p.2 = .nx ∧ (∃ d, p.1 = lw t (.val d) lo hi nu le mo du ro wh at_ ea ∧ plainD d = true) ∧ Good (n + 5) c1 := by
  simp only [ok_seq, ok_asg, ok_par, ok_ret, ok_retN, ok_sNil, ok_sIf, ok_bin, ok_un, ok_var, ok_C, ok_call, ok_callK, ok_cons, ok_nil, ok_args, ok_tru, ok_not, ok_and, ok_or, ok_eNot, ok_eAnd, ok_eOr, ok_if, ok_cmp, ok_chain, ok_ofC, ok_oNone, ok_oSome, ok_sl, ok_met, ok_rev, ok_items, ok_lenSet, ok_pairs0, ok_pairs, ok_dict, ok_iSeq, ok_rng1, ok_rng2, ok_comp, ok_comp0, ok_for, List.getElem?_cons_zero, List.getElem?_cons_succ, Option.some.injEq, Sl.val.injEq, exists_eq_left', List.nil_append, List.append_nil, List.length_cons, List.length_nil, true_and, and_true, and_self, Nat.zero_add, Nat.reduceAdd, Nat.reduceLeDiff, gAdd_i, gSub_i, gNeg_i, gBl_e, gCmpI_i, gLst_o, gTup_o, gN_e, List.set_cons_zero, List.set_cons_succ, truD_b, gIsN_n, isNonD, gLen_l, gInt_b, gInt_i, Option.map_some, Bool.false_eq_true, if_true, if_false, Bool.not_true, Bool.not_false, keyD, walkD]
  exact value_ok g (by omega) fun d c' h g' => ⟨⟨d, rfl, h⟩, g'⟩
theorem t2 {n : Nat} {c : Churn} {t v lo hi nu le mo du ro wh at_ ea : Sl} (g : Good n c) (hn : n + 100 ≤ 2 ^ 20) : Ok (sPar 4 5 (aCons (eBin gSub (eCall 2 F__law_delve [] (aCons (eVar 1) (aCons (eC (.int 9)) aNil))) (eC (.int 4))) (aCons (eBin gSub (eCall 2 F__law_delve [] (aCons (eVar 1) (aCons (eC (.int 9)) aNil))) (eC (.int 4))) aNil)) (lw t v lo hi nu le mo du ro wh at_ ea) c) fun p c1 => p.2 = .nx ∧ (∃ a b, p.1 = lw t v (.val (.int a)) (.val (.int b)) nu le mo du ro wh at_ ea) ∧ Good (n + 2) c1 := by
  simp only [ok_seq, ok_asg, ok_par, ok_ret, ok_retN, ok_sNil, ok_sIf, ok_bin, ok_un, ok_var, ok_C, ok_call, ok_callK, ok_cons, ok_nil, ok_args, ok_tru, ok_not, ok_and, ok_or, ok_eNot, ok_eAnd, ok_eOr, ok_if, ok_cmp, ok_chain, ok_ofC, ok_oNone, ok_oSome, ok_sl, ok_met, ok_rev, ok_items, ok_lenSet, ok_pairs0, ok_pairs, ok_dict, ok_iSeq, ok_rng1, ok_rng2, ok_comp, ok_comp0, ok_for, List.getElem?_cons_zero, List.getElem?_cons_succ, Option.some.injEq, Sl.val.injEq, exists_eq_left', List.nil_append, List.append_nil, List.length_cons, List.length_nil, true_and, and_true, and_self, Nat.zero_add, Nat.reduceAdd, Nat.reduceLeDiff, gAdd_i, gSub_i, gNeg_i, gBl_e, gCmpI_i, gLst_o, gTup_o, gN_e, List.set_cons_zero, List.set_cons_succ, truD_b, gIsN_n, isNonD, gLen_l, gInt_b, gInt_i, Option.map_some, Bool.false_eq_true, if_true, if_false, Bool.not_true, Bool.not_false, keyD, walkD]
  refine delve_ok g (by omega) (by decide) (by decide) fun r c1 r0 r1 g1 => ?_
  try simp only [ok_seq, ok_asg, ok_par, ok_ret, ok_retN, ok_sNil, ok_sIf, ok_bin, ok_un, ok_var, ok_C, ok_call, ok_callK, ok_cons, ok_nil, ok_args, ok_tru, ok_not, ok_and, ok_or, ok_eNot, ok_eAnd, ok_eOr, ok_if, ok_cmp, ok_chain, ok_ofC, ok_oNone, ok_oSome, ok_sl, ok_met, ok_rev, ok_items, ok_lenSet, ok_pairs0, ok_pairs, ok_dict, ok_iSeq, ok_rng1, ok_rng2, ok_comp, ok_comp0, ok_for, List.getElem?_cons_zero, List.getElem?_cons_succ, Option.some.injEq, Sl.val.injEq, exists_eq_left', List.nil_append, List.append_nil, List.length_cons, List.length_nil, true_and, and_true, and_self, Nat.zero_add, Nat.reduceAdd, Nat.reduceLeDiff, gAdd_i, gSub_i, gNeg_i, gBl_e, gCmpI_i, gLst_o, gTup_o, gN_e, List.set_cons_zero, List.set_cons_succ, truD_b, gIsN_n, isNonD, gLen_l, gInt_b, gInt_i, Option.map_some, Bool.false_eq_true, if_true, if_false, Bool.not_true, Bool.not_false, keyD, walkD]
  refine delve_ok g1 (by omega) (by decide) (by decide) fun r2 c2 r02 r12 g2 => ?_
  try simp only [ok_seq, ok_asg, ok_par, ok_ret, ok_retN, ok_sNil, ok_sIf, ok_bin, ok_un, ok_var, ok_C, ok_call, ok_callK, ok_cons, ok_nil, ok_args, ok_tru, ok_not, ok_and, ok_or, ok_eNot, ok_eAnd, ok_eOr, ok_if, ok_cmp, ok_chain, ok_ofC, ok_oNone, ok_oSome, ok_sl, ok_met, ok_rev, ok_items, ok_lenSet, ok_pairs0, ok_pairs, ok_dict, ok_iSeq, ok_rng1, ok_rng2, ok_comp, ok_comp0, ok_for, List.getElem?_cons_zero, List.getElem?_cons_succ, Option.some.injEq, Sl.val.injEq, exists_eq_left', List.nil_append, List.append_nil, List.length_cons, List.length_nil, true_and, and_true, and_self, Nat.zero_add, Nat.reduceAdd, Nat.reduceLeDiff, gAdd_i, gSub_i, gNeg_i, gBl_e, gCmpI_i, gLst_o, gTup_o, gN_e, List.set_cons_zero, List.set_cons_succ, truD_b, gIsN_n, isNonD, gLen_l, gInt_b, gInt_i, Option.map_some, Bool.false_eq_true, if_true, if_false, Bool.not_true, Bool.not_false, keyD, walkD]
  exact ⟨_, _, rfl, ⟨_, _, rfl⟩, g2⟩
theorem t3 {n : Nat} {c : Churn} {t nu le mo du ro wh at_ ea : Sl} {d : D} {a b : Int} (hd : plainD d = true) (g : Good n c) (hn : n + 100 ≤ 2 ^ 20) : Ok (sAsg (gN 6) (eCall 2 F__law_one [] (aCons (eVar 1) (aCons (eArgs gLst (aCons (eVar 3) (aCons (eVar 4) (aCons (eVar 5) (aCons (eBin gSub (eVar 4) (eC (.int 1))) (aCons (eBin gAdd (eVar 5) (eC (.int 1))) (aCons (eC (.int 0)) aNil))))))) aNil))) (lw t (.val d) (.val (.int a)) (.val (.int b)) nu le mo du ro wh at_ ea) c) fun p c1 => p.2 = .nx ∧ (∃ x, p.1 = lw t (.val d) (.val (.int a)) (.val (.int b)) (.val x) le mo du ro wh at_ ea ∧ plainD x = true) ∧ Good (n + 1) c1 := by
  simp only [ok_seq, ok_asg, ok_par, ok_ret, ok_retN, ok_sNil, ok_sIf, ok_bin, ok_un, ok_var, ok_C, ok_call, ok_callK, ok_cons, ok_nil, ok_args, ok_tru, ok_not, ok_and, ok_or, ok_eNot, ok_eAnd, ok_eOr, ok_if, ok_cmp, ok_chain, ok_ofC, ok_oNone, ok_oSome, ok_sl, ok_met, ok_rev, ok_items, ok_lenSet, ok_pairs0, ok_pairs, ok_dict, ok_iSeq, ok_rng1, ok_rng2, ok_comp, ok_comp0, ok_for, List.getElem?_cons_zero, List.getElem?_cons_succ, Option.some.injEq, Sl.val.injEq, exists_eq_left', List.nil_append, List.append_nil, List.length_cons, List.length_nil, true_and, and_true, and_self, Nat.zero_add, Nat.reduceAdd, Nat.reduceLeDiff, gAdd_i, gSub_i, gNeg_i, gBl_e, gCmpI_i, gLst_o, gTup_o, gN_e, List.set_cons_zero, List.set_cons_succ, truD_b, gIsN_n, isNonD, gLen_l, gInt_b, gInt_i, Option.map_some, Bool.false_eq_true, if_true, if_false, Bool.not_true, Bool.not_false, keyD, walkD]
  refine one_ok g (by omega) (by simp) (by simp) fun x hx c1 g1 => ⟨⟨x, rfl, ?_⟩, g1⟩
  simp only [List.mem_cons, List.not_mem_nil, or_false] at hx
  rcases hx with rfl | rfl | rfl | rfl | rfl | rfl <;> first | exact hd | rfl
theorem t4 {n : Nat} {c : Churn} {t v nu le mo du ro wh at_ ea : Sl} {a b : Int} (g : Good n c) (hn : n + 100 ≤ 2 ^ 20) : Ok (sPar 7 8 (aCons (eCall 2 F__law_one [] (aCons (eVar 1) (aCons (eArgs gLst (aCons (eVar 4) (aCons (eC .non) aNil))) aNil))) (aCons (eCall 2 F__law_one [] (aCons (eVar 1) (aCons (eArgs gLst (aCons (eVar 5) (aCons (eC .non) aNil))) aNil))) aNil)) (lw t v (.val (.int a)) (.val (.int b)) nu le mo du ro wh at_ ea) c) fun p c1 => p.2 = .nx ∧ (∃ x y, p.1 = lw t v (.val (.int a)) (.val (.int b)) nu (.val x) (.val y) du ro wh at_ ea ∧ optD x = true ∧ optD y = true) ∧ Good (n + 2) c1 := by
  simp only [ok_seq, ok_asg, ok_par, ok_ret, ok_retN, ok_sNil, ok_sIf, ok_bin, ok_un, ok_var, ok_C, ok_call, ok_callK, ok_cons, ok_nil, ok_args, ok_tru, ok_not, ok_and, ok_or, ok_eNot, ok_eAnd, ok_eOr, ok_if, ok_cmp, ok_chain, ok_ofC, ok_oNone, ok_oSome, ok_sl, ok_met, ok_rev, ok_items, ok_lenSet, ok_pairs0, ok_pairs, ok_dict, ok_iSeq, ok_rng1, ok_rng2, ok_comp, ok_comp0, ok_for, List.getElem?_cons_zero, List.getElem?_cons_succ, Option.some.injEq, Sl.val.injEq, exists_eq_left', List.nil_append, List.append_nil, List.length_cons, List.length_nil, true_and, and_true, and_self, Nat.zero_add, Nat.reduceAdd, Nat.reduceLeDiff, gAdd_i, gSub_i, gNeg_i, gBl_e, gCmpI_i, gLst_o, gTup_o, gN_e, List.set_cons_zero, List.set_cons_succ, truD_b, gIsN_n, isNonD, gLen_l, gInt_b, gInt_i, Option.map_some, Bool.false_eq_true, if_true, if_false, Bool.not_true, Bool.not_false, keyD, walkD]
  refine one_ok g (by omega) (by simp) (by simp) fun x hx c1 g1 => ?_
  try simp only [ok_seq, ok_asg, ok_par, ok_ret, ok_retN, ok_sNil, ok_sIf, ok_bin, ok_un, ok_var, ok_C, ok_call, ok_callK, ok_cons, ok_nil, ok_args, ok_tru, ok_not, ok_and, ok_or, ok_eNot, ok_eAnd, ok_eOr, ok_if, ok_cmp, ok_chain, ok_ofC, ok_oNone, ok_oSome, ok_sl, ok_met, ok_rev, ok_items, ok_lenSet, ok_pairs0, ok_pairs, ok_dict, ok_iSeq, ok_rng1, ok_rng2, ok_comp, ok_comp0, ok_for, List.getElem?_cons_zero, List.getElem?_cons_succ, Option.some.injEq, Sl.val.injEq, exists_eq_left', List.nil_append, List.append_nil, List.length_cons, List.length_nil, true_and, and_true, and_self, Nat.zero_add, Nat.reduceAdd, Nat.reduceLeDiff, gAdd_i, gSub_i, gNeg_i, gBl_e, gCmpI_i, gLst_o, gTup_o, gN_e, List.set_cons_zero, List.set_cons_succ, truD_b, gIsN_n, isNonD, gLen_l, gInt_b, gInt_i, Option.map_some, Bool.false_eq_true, if_true, if_false, Bool.not_true, Bool.not_false, keyD, walkD]
  refine one_ok g1 (by omega) (by simp) (by simp) fun y hy c2 g2 => ?_
  try simp only [ok_seq, ok_asg, ok_par, ok_ret, ok_retN, ok_sNil, ok_sIf, ok_bin, ok_un, ok_var, ok_C, ok_call, ok_callK, ok_cons, ok_nil, ok_args, ok_tru, ok_not, ok_and, ok_or, ok_eNot, ok_eAnd, ok_eOr, ok_if, ok_cmp, ok_chain, ok_ofC, ok_oNone, ok_oSome, ok_sl, ok_met, ok_rev, ok_items, ok_lenSet, ok_pairs0, ok_pairs, ok_dict, ok_iSeq, ok_rng1, ok_rng2, ok_comp, ok_comp0, ok_for, List.getElem?_cons_zero, List.getElem?_cons_succ, Option.some.injEq, Sl.val.injEq, exists_eq_left', List.nil_append, List.append_nil, List.length_cons, List.length_nil, true_and, and_true, and_self, Nat.zero_add, Nat.reduceAdd, Nat.reduceLeDiff, gAdd_i, gSub_i, gNeg_i, gBl_e, gCmpI_i, gLst_o, gTup_o, gN_e, List.set_cons_zero, List.set_cons_succ, truD_b, gIsN_n, isNonD, gLen_l, gInt_b, gInt_i, Option.map_some, Bool.false_eq_true, if_true, if_false, Bool.not_true, Bool.not_false, keyD, walkD]
  refine ⟨_, _, rfl, ⟨x, y, rfl, ?_, ?_⟩, g2⟩
  · simp only [List.mem_cons, List.not_mem_nil, or_false] at hx
    rcases hx with rfl | rfl <;> rfl
  · simp only [List.mem_cons, List.not_mem_nil, or_false] at hy
    rcases hy with rfl | rfl <;> rfl
theorem t6 {n : Nat} {c : Churn} {t v lo hi ro wh at_ ea : Sl} {nu le mo : D} (h : plainD nu = true) (h1 : optD le = true) (h2 : optD mo = true) (g : Good n c) :
    Ok (sIf (cOr (cCmp (gEqX true) (eArgs gRepr (aCons (eCallK 1 0 1 [0] F_is_integer aNil (aCons (eVar 6) aNil)) aNil)) (eArgs gRepr (aCons (eCall 1 F__law_own_integer [] (aCons (eVar 6) aNil)) aNil))) (cCmp (gEqX true) (eArgs gRepr (aCons (eCallK 3 0 3 [2, 1, 0] F_is_within aNil (aCons (eVar 8) (aCons (eVar 7) (aCons (eVar 6) aNil)))) aNil)) (eArgs gRepr (aCons (eVar 9) aNil)))) (sRet (eC (.bl false))) sNil
      (lw t v lo hi (.val nu) (.val le) (.val mo) (.val (.bl (within nu le mo))) ro wh at_ ea) c) fun p c1 => p.2 = .nx ∧ p.1 = (lw t v lo hi (.val nu) (.val le) (.val mo) (.val (.bl (within nu le mo))) ro wh at_ ea) ∧ Good n c1 := by
  simp only [ok_seq, ok_asg, ok_par, ok_ret, ok_retN, ok_sNil, ok_sIf, ok_bin, ok_un, ok_var, ok_C, ok_call, ok_callK, ok_cons, ok_nil, ok_args, ok_tru, ok_not, ok_and, ok_or, ok_eNot, ok_eAnd, ok_eOr, ok_if, ok_cmp, ok_chain, ok_ofC, ok_oNone, ok_oSome, ok_sl, ok_met, ok_rev, ok_items, ok_lenSet, ok_pairs0, ok_pairs, ok_dict, ok_iSeq, ok_rng1, ok_rng2, ok_comp, ok_comp0, ok_for, List.getElem?_cons_zero, List.getElem?_cons_succ, Option.some.injEq, Sl.val.injEq, exists_eq_left', List.nil_append, List.append_nil, List.length_cons, List.length_nil, true_and, and_true, and_self, Nat.zero_add, Nat.reduceAdd, Nat.reduceLeDiff, gAdd_i, gSub_i, gNeg_i, gBl_e, gCmpI_i, gLst_o, gTup_o, gN_e, List.set_cons_zero, List.set_cons_succ, truD_b, gIsN_n, isNonD, gLen_l, gInt_b, gInt_i, Option.map_some, Bool.false_eq_true, if_true, if_false, Bool.not_true, Bool.not_false, keyD, walkD, pick, List.filterMap_cons, List.filterMap_nil]
  rw [ok_eq (is_integer_eq h)]
  simp only [ok_seq, ok_asg, ok_par, ok_ret, ok_retN, ok_sNil, ok_sIf, ok_bin, ok_un, ok_var, ok_C, ok_call, ok_callK, ok_cons, ok_nil, ok_args, ok_tru, ok_not, ok_and, ok_or, ok_eNot, ok_eAnd, ok_eOr, ok_if, ok_cmp, ok_chain, ok_ofC, ok_oNone, ok_oSome, ok_sl, ok_met, ok_rev, ok_items, ok_lenSet, ok_pairs0, ok_pairs, ok_dict, ok_iSeq, ok_rng1, ok_rng2, ok_comp, ok_comp0, ok_for, List.getElem?_cons_zero, List.getElem?_cons_succ, Option.some.injEq, Sl.val.injEq, exists_eq_left', List.nil_append, List.append_nil, List.length_cons, List.length_nil, true_and, and_true, and_self, Nat.zero_add, Nat.reduceAdd, Nat.reduceLeDiff, gAdd_i, gSub_i, gNeg_i, gBl_e, gCmpI_i, gLst_o, gTup_o, gN_e, List.set_cons_zero, List.set_cons_succ, truD_b, gIsN_n, isNonD, gLen_l, gInt_b, gInt_i, Option.map_some, Bool.false_eq_true, if_true, if_false, Bool.not_true, Bool.not_false, keyD, walkD, gRepr_b]
  rw [ok_eq (own_integer_eq h)]
  simp only [ok_seq, ok_asg, ok_par, ok_ret, ok_retN, ok_sNil, ok_sIf, ok_bin, ok_un, ok_var, ok_C, ok_call, ok_callK, ok_cons, ok_nil, ok_args, ok_tru, ok_not, ok_and, ok_or, ok_eNot, ok_eAnd, ok_eOr, ok_if, ok_cmp, ok_chain, ok_ofC, ok_oNone, ok_oSome, ok_sl, ok_met, ok_rev, ok_items, ok_lenSet, ok_pairs0, ok_pairs, ok_dict, ok_iSeq, ok_rng1, ok_rng2, ok_comp, ok_comp0, ok_for, List.getElem?_cons_zero, List.getElem?_cons_succ, Option.some.injEq, Sl.val.injEq, exists_eq_left', List.nil_append, List.append_nil, List.length_cons, List.length_nil, true_and, and_true, and_self, Nat.zero_add, Nat.reduceAdd, Nat.reduceLeDiff, gAdd_i, gSub_i, gNeg_i, gBl_e, gCmpI_i, gLst_o, gTup_o, gN_e, List.set_cons_zero, List.set_cons_succ, truD_b, gIsN_n, isNonD, gLen_l, gInt_b, gInt_i, Option.map_some, Bool.false_eq_true, if_true, if_false, Bool.not_true, Bool.not_false, keyD, walkD, gRepr_b, eqX_str, decide_true]
  refine is_within_ok h h1 h2 ?_
  simp only [ok_seq, ok_asg, ok_par, ok_ret, ok_retN, ok_sNil, ok_sIf, ok_bin, ok_un, ok_var, ok_C, ok_call, ok_callK, ok_cons, ok_nil, ok_args, ok_tru, ok_not, ok_and, ok_or, ok_eNot, ok_eAnd, ok_eOr, ok_if, ok_cmp, ok_chain, ok_ofC, ok_oNone, ok_oSome, ok_sl, ok_met, ok_rev, ok_items, ok_lenSet, ok_pairs0, ok_pairs, ok_dict, ok_iSeq, ok_rng1, ok_rng2, ok_comp, ok_comp0, ok_for, List.getElem?_cons_zero, List.getElem?_cons_succ, Option.some.injEq, Sl.val.injEq, exists_eq_left', List.nil_append, List.append_nil, List.length_cons, List.length_nil, true_and, and_true, and_self, Nat.zero_add, Nat.reduceAdd, Nat.reduceLeDiff, gAdd_i, gSub_i, gNeg_i, gBl_e, gCmpI_i, gLst_o, gTup_o, gN_e, List.set_cons_zero, List.set_cons_succ, truD_b, gIsN_n, isNonD, gLen_l, gInt_b, gInt_i, Option.map_some, Bool.false_eq_true, if_true, if_false, Bool.not_true, Bool.not_false, keyD, walkD, gRepr_b, eqX_str, decide_true]
  exact g
theorem t7 {n : Nat} {c : Churn} {t v lo hi nu le mo du ro wh at_ ea : Sl} (g : Good n c) (hn : n + 100 ≤ 2 ^ 20) : Ok (sAsg (gN 10) (eComp (gN 12) (iRange1 (aCons (eCall 2 F__law_delve [] (aCons (eVar 1) (aCons (eC (.int 4)) aNil))) aNil)) (fun _ => pure true) (eCall 2 F__law_one [] (aCons (eVar 1) (aCons (eArgs gLst (aCons (eCall 2 F__law_delve [] (aCons (eVar 1) (aCons (eC (.int 9)) aNil))) (aCons (eBin gPow (eC (.int 10)) (eC (.int 40))) (aCons (eCall 2 F__law_one [] (aCons (eVar 1) (aCons (eArgs gLst (aCons (eC (.bl true)) (aCons (eC .non) (aCons (eC (.str "1")) (aCons (eArgs gLst (aCons (eC (.int 1)) aNil)) (aCons (eUn gNeg (eC (.int 7))) aNil)))))) aNil))) aNil)))) aNil))) [12]) (lw t v lo hi nu le mo du ro wh at_ ea) c) fun p c1 => p.2 = .nx ∧ (∃ ds, p.1 = lw t v lo hi nu le mo du (.val (.lst ds)) wh at_ ea ∧ (∀ d ∈ ds, rowD d) ∧ ds.length ≤ 4) ∧ Good (n + 20) c1 := by
  simp only [ok_seq, ok_asg, ok_par, ok_ret, ok_retN, ok_sNil, ok_sIf, ok_bin, ok_un, ok_var, ok_C, ok_call, ok_callK, ok_cons, ok_nil, ok_args, ok_tru, ok_not, ok_and, ok_or, ok_eNot, ok_eAnd, ok_eOr, ok_if, ok_cmp, ok_chain, ok_ofC, ok_oNone, ok_oSome, ok_sl, ok_met, ok_rev, ok_items, ok_lenSet, ok_pairs0, ok_pairs, ok_dict, ok_iSeq, ok_rng1, ok_rng2, ok_comp, ok_comp0, ok_for, List.getElem?_cons_zero, List.getElem?_cons_succ, Option.some.injEq, Sl.val.injEq, exists_eq_left', List.nil_append, List.append_nil, List.length_cons, List.length_nil, true_and, and_true, and_self, Nat.zero_add, Nat.reduceAdd, Nat.reduceLeDiff, gAdd_i, gSub_i, gNeg_i, gBl_e, gCmpI_i, gLst_o, gTup_o, gN_e, List.set_cons_zero, List.set_cons_succ, truD_b, gIsN_n, isNonD, gLen_l, gInt_b, gInt_i, Option.map_some, Bool.false_eq_true, if_true, if_false, Bool.not_true, Bool.not_false, keyD, walkD]
  refine delve_ok g (by omega) (by decide) (by decide) fun r c1 r0 r1 g1 => ?_
  have hl := range4 r0 r1
  refine ⟨_, rng1_i r0 (by omega), Nat.le_trans hl (by decide), ?_⟩
  have e40 : gPow (.int 10) (.int 40) = some (.int (10 ^ 40)) := gPow_ok (by decide) (by decide) (by decide)
  refine comp_draw (fun _ y => rowD y) 3 (B := 2 ^ 20) (fun d hd => ⟨_, rfl, fun n c kk g hn q => ?_⟩) g1 (by omega) fun ys c2 rs g2 => ?_
  · simp only [ok_seq, ok_asg, ok_par, ok_ret, ok_retN, ok_sNil, ok_sIf, ok_bin, ok_un, ok_var, ok_C, ok_call, ok_callK, ok_cons, ok_nil, ok_args, ok_tru, ok_not, ok_and, ok_or, ok_eNot, ok_eAnd, ok_eOr, ok_if, ok_cmp, ok_chain, ok_ofC, ok_oNone, ok_oSome, ok_sl, ok_met, ok_rev, ok_items, ok_lenSet, ok_pairs0, ok_pairs, ok_dict, ok_iSeq, ok_rng1, ok_rng2, ok_comp, ok_comp0, ok_for, List.getElem?_cons_zero, List.getElem?_cons_succ, Option.some.injEq, Sl.val.injEq, exists_eq_left', List.nil_append, List.append_nil, List.length_cons, List.length_nil, true_and, and_true, and_self, Nat.zero_add, Nat.reduceAdd, Nat.reduceLeDiff, gAdd_i, gSub_i, gNeg_i, gBl_e, gCmpI_i, gLst_o, gTup_o, gN_e, List.set_cons_zero, List.set_cons_succ, truD_b, gIsN_n, isNonD, gLen_l, gInt_b, gInt_i, Option.map_some, Bool.false_eq_true, if_true, if_false, Bool.not_true, Bool.not_false, keyD, walkD, wipeE, e40]
    refine delve_ok g (by omega) (by decide) (by decide) fun r c1 r0 r1 g1 => ?_
    try simp only [ok_seq, ok_asg, ok_par, ok_ret, ok_retN, ok_sNil, ok_sIf, ok_bin, ok_un, ok_var, ok_C, ok_call, ok_callK, ok_cons, ok_nil, ok_args, ok_tru, ok_not, ok_and, ok_or, ok_eNot, ok_eAnd, ok_eOr, ok_if, ok_cmp, ok_chain, ok_ofC, ok_oNone, ok_oSome, ok_sl, ok_met, ok_rev, ok_items, ok_lenSet, ok_pairs0, ok_pairs, ok_dict, ok_iSeq, ok_rng1, ok_rng2, ok_comp, ok_comp0, ok_for, List.getElem?_cons_zero, List.getElem?_cons_succ, Option.some.injEq, Sl.val.injEq, exists_eq_left', List.nil_append, List.append_nil, List.length_cons, List.length_nil, true_and, and_true, and_self, Nat.zero_add, Nat.reduceAdd, Nat.reduceLeDiff, gAdd_i, gSub_i, gNeg_i, gBl_e, gCmpI_i, gLst_o, gTup_o, gN_e, List.set_cons_zero, List.set_cons_succ, truD_b, gIsN_n, isNonD, gLen_l, gInt_b, gInt_i, Option.map_some, Bool.false_eq_true, if_true, if_false, Bool.not_true, Bool.not_false, keyD, walkD, e40]
    refine one_ok g1 (by omega) (by simp) (by simp) fun x hx c3 g3 => ?_
    try simp only [ok_seq, ok_asg, ok_par, ok_ret, ok_retN, ok_sNil, ok_sIf, ok_bin, ok_un, ok_var, ok_C, ok_call, ok_callK, ok_cons, ok_nil, ok_args, ok_tru, ok_not, ok_and, ok_or, ok_eNot, ok_eAnd, ok_eOr, ok_if, ok_cmp, ok_chain, ok_ofC, ok_oNone, ok_oSome, ok_sl, ok_met, ok_rev, ok_items, ok_lenSet, ok_pairs0, ok_pairs, ok_dict, ok_iSeq, ok_rng1, ok_rng2, ok_comp, ok_comp0, ok_for, List.getElem?_cons_zero, List.getElem?_cons_succ, Option.some.injEq, Sl.val.injEq, exists_eq_left', List.nil_append, List.append_nil, List.length_cons, List.length_nil, true_and, and_true, and_self, Nat.zero_add, Nat.reduceAdd, Nat.reduceLeDiff, gAdd_i, gSub_i, gNeg_i, gBl_e, gCmpI_i, gLst_o, gTup_o, gN_e, List.set_cons_zero, List.set_cons_succ, truD_b, gIsN_n, isNonD, gLen_l, gInt_b, gInt_i, Option.map_some, Bool.false_eq_true, if_true, if_false, Bool.not_true, Bool.not_false, keyD, walkD]
    refine one_ok g3 (by omega) (by simp) (by simp) fun y hy c4 g4 => q y c4 ?_ g4
    have hx : rowD x := by
      simp only [List.mem_cons, List.not_mem_nil, or_false] at hx
      rcases hx with rfl | rfl | rfl | rfl | rfl
      · exact row_item (n := 0) (c := c) (r := 0) (k := fun _ _ => True) (.inr (.inl rfl))
      · exact row_item (n := 0) (c := c) (r := 0) (k := fun _ _ => True) (.inr (.inr (.inl rfl)))
      · exact row_item (n := 0) (c := c) (r := 0) (k := fun _ _ => True) (.inr (.inr (.inr (.inl rfl))))
      · exact row_item (n := 0) (c := c) (r := 0) (k := fun _ _ => True) (.inr (.inr (.inr (.inr rfl))))
      · exact ⟨rfl, okD_int _⟩
    simp only [List.mem_cons, List.not_mem_nil, or_false] at hy
    rcases hy with rfl | rfl | rfl
    · exact ⟨rfl, okD_int _⟩
    · exact ⟨rfl, okD_int _⟩
    · exact hx
  · exact ⟨⟨ys, rfl, F2.all (R := fun _ y => rowD y) (p := rowD) (fun _ _ h => h) rs, by rw [rs.length]; exact hl⟩, g2.mono (by omega)⟩
theorem t8 {n : Nat} {c : Churn} {t v lo hi nu le mo du wh at_ ea : Sl} {ds : List D} (h : ∀ d ∈ ds, rowD d) (hl : ds.length ≤ 4) (g : Good n c) : Ok (sAsg (gN 11) (eBin (gBl (gEqX false)) (eComp (gN 13) (iSeq (eVar 10)) (cNot (cTru (eCall 1 F__law_own_integer [] (aCons (eVar 13) aNil)))) (eVar 13) [13]) (eArgs gLst aNil)) (lw t v lo hi nu le mo du (.val (.lst ds)) wh at_ ea) c) fun p c1 => p.2 = .nx ∧ p.1 = lw t v lo hi nu le mo du (.val (.lst ds)) (.val (.bl (ds.all isIntD))) at_ ea ∧ Good n c1 := by
  simp only [ok_seq, ok_asg, ok_par, ok_ret, ok_retN, ok_sNil, ok_sIf, ok_bin, ok_un, ok_var, ok_C, ok_call, ok_callK, ok_cons, ok_nil, ok_args, ok_tru, ok_not, ok_and, ok_or, ok_eNot, ok_eAnd, ok_eOr, ok_if, ok_cmp, ok_chain, ok_ofC, ok_oNone, ok_oSome, ok_sl, ok_met, ok_rev, ok_items, ok_lenSet, ok_pairs0, ok_pairs, ok_dict, ok_iSeq, ok_rng1, ok_rng2, ok_comp, ok_comp0, ok_for, List.getElem?_cons_zero, List.getElem?_cons_succ, Option.some.injEq, Sl.val.injEq, exists_eq_left', List.nil_append, List.append_nil, List.length_cons, List.length_nil, true_and, and_true, and_self, Nat.zero_add, Nat.reduceAdd, Nat.reduceLeDiff, gAdd_i, gSub_i, gNeg_i, gBl_e, gCmpI_i, gLst_o, gTup_o, gN_e, List.set_cons_zero, List.set_cons_succ, truD_b, gIsN_n, isNonD, gLen_l, gInt_b, gInt_i, Option.map_some, Bool.false_eq_true, if_true, if_false, Bool.not_true, Bool.not_false, keyD, walkD]
  refine ⟨Nat.le_trans hl (by decide), ?_⟩
  refine comp_filter (fun d => !isIntD d) (fun d => d) (fun d hd c => ⟨_, rfl, ?_, fun _ => rfl⟩) ?_
  · have : Ok (cNot (cTru (eCall 1 F__law_own_integer [] (aCons (eVar 13) aNil))) (lw t v lo hi nu le mo du (.val (.lst ds)) wh at_ (.val d)) c) fun b c' => b = (!isIntD d) ∧ c' = c := by
      simp only [ok_seq, ok_asg, ok_par, ok_ret, ok_retN, ok_sNil, ok_sIf, ok_bin, ok_un, ok_var, ok_C, ok_call, ok_callK, ok_cons, ok_nil, ok_args, ok_tru, ok_not, ok_and, ok_or, ok_eNot, ok_eAnd, ok_eOr, ok_if, ok_cmp, ok_chain, ok_ofC, ok_oNone, ok_oSome, ok_sl, ok_met, ok_rev, ok_items, ok_lenSet, ok_pairs0, ok_pairs, ok_dict, ok_iSeq, ok_rng1, ok_rng2, ok_comp, ok_comp0, ok_for, List.getElem?_cons_zero, List.getElem?_cons_succ, Option.some.injEq, Sl.val.injEq, exists_eq_left', List.nil_append, List.append_nil, List.length_cons, List.length_nil, true_and, and_true, and_self, Nat.zero_add, Nat.reduceAdd, Nat.reduceLeDiff, gAdd_i, gSub_i, gNeg_i, gBl_e, gCmpI_i, gLst_o, gTup_o, gN_e, List.set_cons_zero, List.set_cons_succ, truD_b, gIsN_n, isNonD, gLen_l, gInt_b, gInt_i, Option.map_some, Bool.false_eq_true, if_true, if_false, Bool.not_true, Bool.not_false, keyD, walkD]
      rw [ok_eq (own_integer_eq (h d hd).1)]
      simp only [ok_seq, ok_asg, ok_par, ok_ret, ok_retN, ok_sNil, ok_sIf, ok_bin, ok_un, ok_var, ok_C, ok_call, ok_callK, ok_cons, ok_nil, ok_args, ok_tru, ok_not, ok_and, ok_or, ok_eNot, ok_eAnd, ok_eOr, ok_if, ok_cmp, ok_chain, ok_ofC, ok_oNone, ok_oSome, ok_sl, ok_met, ok_rev, ok_items, ok_lenSet, ok_pairs0, ok_pairs, ok_dict, ok_iSeq, ok_rng1, ok_rng2, ok_comp, ok_comp0, ok_for, List.getElem?_cons_zero, List.getElem?_cons_succ, Option.some.injEq, Sl.val.injEq, exists_eq_left', List.nil_append, List.append_nil, List.length_cons, List.length_nil, true_and, and_true, and_self, Nat.zero_add, Nat.reduceAdd, Nat.reduceLeDiff, gAdd_i, gSub_i, gNeg_i, gBl_e, gCmpI_i, gLst_o, gTup_o, gN_e, List.set_cons_zero, List.set_cons_succ, truD_b, gIsN_n, isNonD, gLen_l, gInt_b, gInt_i, Option.map_some, Bool.false_eq_true, if_true, if_false, Bool.not_true, Bool.not_false, keyD, walkD]
    obtain ⟨b, c', e, rfl, rfl⟩ := this.ex
    exact e
  · rw [List.map_id']
    have e : gEqX false (.lst (ds.filter fun d => !isIntD d)) (.lst []) = some (ds.all isIntD) := by
      rw [eqX_nil fun x hx => (h x (List.mem_filter.mp hx).1).2]
      have := filter_nil (ds := ds)
      rw [List.map_id'] at this
      rw [this]
      rfl
    simp only [ok_seq, ok_asg, ok_par, ok_ret, ok_retN, ok_sNil, ok_sIf, ok_bin, ok_un, ok_var, ok_C, ok_call, ok_callK, ok_cons, ok_nil, ok_args, ok_tru, ok_not, ok_and, ok_or, ok_eNot, ok_eAnd, ok_eOr, ok_if, ok_cmp, ok_chain, ok_ofC, ok_oNone, ok_oSome, ok_sl, ok_met, ok_rev, ok_items, ok_lenSet, ok_pairs0, ok_pairs, ok_dict, ok_iSeq, ok_rng1, ok_rng2, ok_comp, ok_comp0, ok_for, List.getElem?_cons_zero, List.getElem?_cons_succ, Option.some.injEq, Sl.val.injEq, exists_eq_left', List.nil_append, List.append_nil, List.length_cons, List.length_nil, true_and, and_true, and_self, Nat.zero_add, Nat.reduceAdd, Nat.reduceLeDiff, gAdd_i, gSub_i, gNeg_i, gBl_e, gCmpI_i, gLst_o, gTup_o, gN_e, List.set_cons_zero, List.set_cons_succ, truD_b, gIsN_n, isNonD, gLen_l, gInt_b, gInt_i, Option.map_some, Bool.false_eq_true, if_true, if_false, Bool.not_true, Bool.not_false, keyD, walkD, e]
    exact g
theorem t9 {n : Nat} {c : Churn} {t v lo hi nu le mo du at_ ea : Sl} {ds : List D} (h : ∀ d ∈ ds, rowD d) (hl : ds.length ≤ 4) (g : Good n c) : Ok (sIf (cCmp (gEqX true) (eArgs gRepr (aCons (eArgs gLst (aCons (eCallK 1 0 1 [0] F_are_integers aNil (aCons (eVar 10) aNil)) (aCons (eCall 1 F_are_integers [] (aCons (eArgs gTuple (aCons (eVar 10) aNil)) aNil)) (aCons (eCall 1 F_are_integers [] (aCons (eDict [((eC (.int 0)), (eC (.int 1)))]) aNil)) (aCons (eCall 1 F_are_integers [] (aCons (eC (.str "1")) aNil)) aNil))))) aNil)) (eArgs gRepr (aCons (eArgs gLst (aCons (eVar 11) (aCons (eVar 11) (aCons (eC (.bl false)) (aCons (eC (.bl false)) aNil))))) aNil))) (sRet (eC (.bl false))) sNil
     (lw t v lo hi nu le mo du (.val (.lst ds)) (.val (.bl (ds.all isIntD))) at_ ea) c) fun p c1 => p.2 = .nx ∧ p.1 = lw t v lo hi nu le mo du (.val (.lst ds)) (.val (.bl (ds.all isIntD))) at_ ea ∧ Good n c1 := by
  have e1 : gTuple [.lst ds] = some (.tup ds) := rfl
  simp only [ok_seq, ok_asg, ok_par, ok_ret, ok_retN, ok_sNil, ok_sIf, ok_bin, ok_un, ok_var, ok_C, ok_call, ok_callK, ok_cons, ok_nil, ok_args, ok_tru, ok_not, ok_and, ok_or, ok_eNot, ok_eAnd, ok_eOr, ok_if, ok_cmp, ok_chain, ok_ofC, ok_oNone, ok_oSome, ok_sl, ok_met, ok_rev, ok_items, ok_lenSet, ok_pairs0, ok_pairs, ok_dict, ok_iSeq, ok_rng1, ok_rng2, ok_comp, ok_comp0, ok_for, List.getElem?_cons_zero, List.getElem?_cons_succ, Option.some.injEq, Sl.val.injEq, exists_eq_left', List.nil_append, List.append_nil, List.length_cons, List.length_nil, true_and, and_true, and_self, Nat.zero_add, Nat.reduceAdd, Nat.reduceLeDiff, gAdd_i, gSub_i, gNeg_i, gBl_e, gCmpI_i, gLst_o, gTup_o, gN_e, List.set_cons_zero, List.set_cons_succ, truD_b, gIsN_n, isNonD, gLen_l, gInt_b, gInt_i, Option.map_some, Bool.false_eq_true, if_true, if_false, Bool.not_true, Bool.not_false, keyD, walkD, pick, List.filterMap_cons, List.filterMap_nil]
  refine are_body isi_l rfl (by omega) (fun d hd => (h d hd).1) ?_
  simp only [ok_seq, ok_asg, ok_par, ok_ret, ok_retN, ok_sNil, ok_sIf, ok_bin, ok_un, ok_var, ok_C, ok_call, ok_callK, ok_cons, ok_nil, ok_args, ok_tru, ok_not, ok_and, ok_or, ok_eNot, ok_eAnd, ok_eOr, ok_if, ok_cmp, ok_chain, ok_ofC, ok_oNone, ok_oSome, ok_sl, ok_met, ok_rev, ok_items, ok_lenSet, ok_pairs0, ok_pairs, ok_dict, ok_iSeq, ok_rng1, ok_rng2, ok_comp, ok_comp0, ok_for, List.getElem?_cons_zero, List.getElem?_cons_succ, Option.some.injEq, Sl.val.injEq, exists_eq_left', List.nil_append, List.append_nil, List.length_cons, List.length_nil, true_and, and_true, and_self, Nat.zero_add, Nat.reduceAdd, Nat.reduceLeDiff, gAdd_i, gSub_i, gNeg_i, gBl_e, gCmpI_i, gLst_o, gTup_o, gN_e, List.set_cons_zero, List.set_cons_succ, truD_b, gIsN_n, isNonD, gLen_l, gInt_b, gInt_i, Option.map_some, Bool.false_eq_true, if_true, if_false, Bool.not_true, Bool.not_false, keyD, walkD, e1]
  refine are_body isi_t rfl (by omega) (fun d hd => (h d hd).1) ?_
  try simp only [ok_seq, ok_asg, ok_par, ok_ret, ok_retN, ok_sNil, ok_sIf, ok_bin, ok_un, ok_var, ok_C, ok_call, ok_callK, ok_cons, ok_nil, ok_args, ok_tru, ok_not, ok_and, ok_or, ok_eNot, ok_eAnd, ok_eOr, ok_if, ok_cmp, ok_chain, ok_ofC, ok_oNone, ok_oSome, ok_sl, ok_met, ok_rev, ok_items, ok_lenSet, ok_pairs0, ok_pairs, ok_dict, ok_iSeq, ok_rng1, ok_rng2, ok_comp, ok_comp0, ok_for, List.getElem?_cons_zero, List.getElem?_cons_succ, Option.some.injEq, Sl.val.injEq, exists_eq_left', List.nil_append, List.append_nil, List.length_cons, List.length_nil, true_and, and_true, and_self, Nat.zero_add, Nat.reduceAdd, Nat.reduceLeDiff, gAdd_i, gSub_i, gNeg_i, gBl_e, gCmpI_i, gLst_o, gTup_o, gN_e, List.set_cons_zero, List.set_cons_succ, truD_b, gIsN_n, isNonD, gLen_l, gInt_b, gInt_i, Option.map_some, Bool.false_eq_true, if_true, if_false, Bool.not_true, Bool.not_false, keyD, walkD]
  refine are_not isi_d ?_
  try simp only [ok_seq, ok_asg, ok_par, ok_ret, ok_retN, ok_sNil, ok_sIf, ok_bin, ok_un, ok_var, ok_C, ok_call, ok_callK, ok_cons, ok_nil, ok_args, ok_tru, ok_not, ok_and, ok_or, ok_eNot, ok_eAnd, ok_eOr, ok_if, ok_cmp, ok_chain, ok_ofC, ok_oNone, ok_oSome, ok_sl, ok_met, ok_rev, ok_items, ok_lenSet, ok_pairs0, ok_pairs, ok_dict, ok_iSeq, ok_rng1, ok_rng2, ok_comp, ok_comp0, ok_for, List.getElem?_cons_zero, List.getElem?_cons_succ, Option.some.injEq, Sl.val.injEq, exists_eq_left', List.nil_append, List.append_nil, List.length_cons, List.length_nil, true_and, and_true, and_self, Nat.zero_add, Nat.reduceAdd, Nat.reduceLeDiff, gAdd_i, gSub_i, gNeg_i, gBl_e, gCmpI_i, gLst_o, gTup_o, gN_e, List.set_cons_zero, List.set_cons_succ, truD_b, gIsN_n, isNonD, gLen_l, gInt_b, gInt_i, Option.map_some, Bool.false_eq_true, if_true, if_false, Bool.not_true, Bool.not_false, keyD, walkD]
  refine are_not isi_s ?_
  simp only [ok_seq, ok_asg, ok_par, ok_ret, ok_retN, ok_sNil, ok_sIf, ok_bin, ok_un, ok_var, ok_C, ok_call, ok_callK, ok_cons, ok_nil, ok_args, ok_tru, ok_not, ok_and, ok_or, ok_eNot, ok_eAnd, ok_eOr, ok_if, ok_cmp, ok_chain, ok_ofC, ok_oNone, ok_oSome, ok_sl, ok_met, ok_rev, ok_items, ok_lenSet, ok_pairs0, ok_pairs, ok_dict, ok_iSeq, ok_rng1, ok_rng2, ok_comp, ok_comp0, ok_for, List.getElem?_cons_zero, List.getElem?_cons_succ, Option.some.injEq, Sl.val.injEq, exists_eq_left', List.nil_append, List.append_nil, List.length_cons, List.length_nil, true_and, and_true, and_self, Nat.zero_add, Nat.reduceAdd, Nat.reduceLeDiff, gAdd_i, gSub_i, gNeg_i, gBl_e, gCmpI_i, gLst_o, gTup_o, gN_e, List.set_cons_zero, List.set_cons_succ, truD_b, gIsN_n, isNonD, gLen_l, gInt_b, gInt_i, Option.map_some, Bool.false_eq_true, if_true, if_false, Bool.not_true, Bool.not_false, keyD, walkD, gRepr_b4, eqX_str, decide_true]
  exact g
theorem t10 {n : Nat} {c : Churn} {t v lo hi nu le mo du ro wh at_ ea : Sl} (g : Good n c) (hn : n + 300 ≤ 2 ^ 20) : Ok (sIf (cOr (cNot (cTru (eCall 1 F__law_names_right [] (aCons (eVar 1) aNil)))) (cNot (cTru (eCall 1 F__law_setting_right [] (aCons (eVar 1) aNil))))) (sRet (eC (.bl false))) sNil (lw t v lo hi nu le mo du ro wh at_ ea) c) fun p c1 => p.2 = .nx ∧ p.1 = (lw t v lo hi nu le mo du ro wh at_ ea) ∧ Good (n + 60) c1 := by
  simp only [ok_seq, ok_asg, ok_par, ok_ret, ok_retN, ok_sNil, ok_sIf, ok_bin, ok_un, ok_var, ok_C, ok_call, ok_callK, ok_cons, ok_nil, ok_args, ok_tru, ok_not, ok_and, ok_or, ok_eNot, ok_eAnd, ok_eOr, ok_if, ok_cmp, ok_chain, ok_ofC, ok_oNone, ok_oSome, ok_sl, ok_met, ok_rev, ok_items, ok_lenSet, ok_pairs0, ok_pairs, ok_dict, ok_iSeq, ok_rng1, ok_rng2, ok_comp, ok_comp0, ok_for, List.getElem?_cons_zero, List.getElem?_cons_succ, Option.some.injEq, Sl.val.injEq, exists_eq_left', List.nil_append, List.append_nil, List.length_cons, List.length_nil, true_and, and_true, and_self, Nat.zero_add, Nat.reduceAdd, Nat.reduceLeDiff, gAdd_i, gSub_i, gNeg_i, gBl_e, gCmpI_i, gLst_o, gTup_o, gN_e, List.set_cons_zero, List.set_cons_succ, truD_b, gIsN_n, isNonD, gLen_l, gInt_b, gInt_i, Option.map_some, Bool.false_eq_true, if_true, if_false, Bool.not_true, Bool.not_false, keyD, walkD]
  refine names_right g (by omega) fun c1 g1 => ?_
  simp only [ok_seq, ok_asg, ok_par, ok_ret, ok_retN, ok_sNil, ok_sIf, ok_bin, ok_un, ok_var, ok_C, ok_call, ok_callK, ok_cons, ok_nil, ok_args, ok_tru, ok_not, ok_and, ok_or, ok_eNot, ok_eAnd, ok_eOr, ok_if, ok_cmp, ok_chain, ok_ofC, ok_oNone, ok_oSome, ok_sl, ok_met, ok_rev, ok_items, ok_lenSet, ok_pairs0, ok_pairs, ok_dict, ok_iSeq, ok_rng1, ok_rng2, ok_comp, ok_comp0, ok_for, List.getElem?_cons_zero, List.getElem?_cons_succ, Option.some.injEq, Sl.val.injEq, exists_eq_left', List.nil_append, List.append_nil, List.length_cons, List.length_nil, true_and, and_true, and_self, Nat.zero_add, Nat.reduceAdd, Nat.reduceLeDiff, gAdd_i, gSub_i, gNeg_i, gBl_e, gCmpI_i, gLst_o, gTup_o, gN_e, List.set_cons_zero, List.set_cons_succ, truD_b, gIsN_n, isNonD, gLen_l, gInt_b, gInt_i, Option.map_some, Bool.false_eq_true, if_true, if_false, Bool.not_true, Bool.not_false, keyD, walkD]
  refine setting_right g1 (by omega) fun c2 g2 => ?_
  simp only [ok_seq, ok_asg, ok_par, ok_ret, ok_retN, ok_sNil, ok_sIf, ok_bin, ok_un, ok_var, ok_C, ok_call, ok_callK, ok_cons, ok_nil, ok_args, ok_tru, ok_not, ok_and, ok_or, ok_eNot, ok_eAnd, ok_eOr, ok_if, ok_cmp, ok_chain, ok_ofC, ok_oNone, ok_oSome, ok_sl, ok_met, ok_rev, ok_items, ok_lenSet, ok_pairs0, ok_pairs, ok_dict, ok_iSeq, ok_rng1, ok_rng2, ok_comp, ok_comp0, ok_for, List.getElem?_cons_zero, List.getElem?_cons_succ, Option.some.injEq, Sl.val.injEq, exists_eq_left', List.nil_append, List.append_nil, List.length_cons, List.length_nil, true_and, and_true, and_self, Nat.zero_add, Nat.reduceAdd, Nat.reduceLeDiff, gAdd_i, gSub_i, gNeg_i, gBl_e, gCmpI_i, gLst_o, gTup_o, gN_e, List.set_cons_zero, List.set_cons_succ, truD_b, gIsN_n, isNonD, gLen_l, gInt_b, gInt_i, Option.map_some, Bool.false_eq_true, if_true, if_false, Bool.not_true, Bool.not_false, keyD, walkD]
  exact g2
theorem law_true : LawTrue 14 g_law := LawTrue.of fun cells hc => by
  show Ok (g_law (lw .no .no .no .no .no .no .no .no .no .no .no .no) ⟨cells, 0, 0⟩) _
  unfold g_law
  have g0 : Good 0 ⟨cells, 0, 0⟩ := ⟨Int.le_refl _, Int.le_refl _, Int.le_refl _, hc⟩
  refine ok_step (fun ρ c => LwA 400 ρ c) ?_ fun ρ c ⟨⟨t, v, lo, hi, nu, le, mo, du, ro, wh, at_, ea, e⟩, g⟩ => ?_
  · rw [ok_for]
    simp only [ok_seq, ok_asg, ok_par, ok_ret, ok_retN, ok_sNil, ok_sIf, ok_bin, ok_un, ok_var, ok_C, ok_call, ok_callK, ok_cons, ok_nil, ok_args, ok_tru, ok_not, ok_and, ok_or, ok_eNot, ok_eAnd, ok_eOr, ok_if, ok_cmp, ok_chain, ok_ofC, ok_oNone, ok_oSome, ok_sl, ok_met, ok_rev, ok_items, ok_lenSet, ok_pairs0, ok_pairs, ok_dict, ok_iSeq, ok_rng1, ok_rng2, ok_comp, ok_comp0, ok_for, List.getElem?_cons_zero, List.getElem?_cons_succ, Option.some.injEq, Sl.val.injEq, exists_eq_left', List.nil_append, List.append_nil, List.length_cons, List.length_nil, true_and, and_true, and_self, Nat.zero_add, Nat.reduceAdd, Nat.reduceLeDiff, gAdd_i, gSub_i, gNeg_i, gBl_e, gCmpI_i, gLst_o, gTup_o, gN_e, List.set_cons_zero, List.set_cons_succ, truD_b, gIsN_n, isNonD, gLen_l, gInt_b, gInt_i, Option.map_some, Bool.false_eq_true, if_true, if_false, Bool.not_true, Bool.not_false, keyD, walkD]
    refine ⟨rangeD 0 4, rng1_i (by decide) (by decide), ?_⟩
    refine for_count (B := 2 ^ 20 - 400) LwA 100 (fun d hd n ρ c hn ⟨⟨t, v, lo, hi, nu, le, mo, du, ro, wh, at_, ea, e⟩, g⟩ => ?_) ⟨⟨_, _, _, _, _, _, _, _, _, _, _, _, rfl⟩, g0⟩ (by decide) fun ρ c i => ⟨rfl, i⟩
    subst e
    refine ⟨_, rfl, ?_⟩
    refine ok_stp (t1 (t := .val d) g (by omega)) fun p c ⟨⟨d1, e, h1⟩, g⟩ => ?_
    rw [e]
    refine ok_stp (t2 g (by omega)) fun p c ⟨⟨a, b, e⟩, g⟩ => ?_
    rw [e]
    refine ok_stp (t3 h1 g (by omega)) fun p c ⟨⟨x, e, hx⟩, g⟩ => ?_
    rw [e]
    refine ok_stp (t4 g (by omega)) fun p c ⟨⟨y, z, e, hy, hz⟩, g⟩ => ?_
    rw [e]
    refine ok_step (fun ρ c => ρ = lw (.val d) (.val d1) (.val (.int a)) (.val (.int b)) (.val x) (.val y) (.val z) (.val (.bl (within x y z))) ro wh at_ ea ∧ Good (n + 5 + 2 + 1 + 2) c) ?_ fun ρ c ⟨e, g⟩ => ?_
    · rw [ok_asg]
      exact due_ok hx hy hz ⟨_, rfl, rfl, rfl, g⟩
    subst e
    refine ok_stp (t6 hx hy hz g) fun p c ⟨e, g⟩ => ?_
    rw [e]
    refine ok_stp (t7 g (by omega)) fun p c ⟨⟨ds, e, hd, hl⟩, g⟩ => ?_
    rw [e]
    refine ok_stp (t8 hd hl g) fun p c ⟨e, g⟩ => ?_
    rw [e]
    refine ok_stp (t9 hd hl g) fun p c ⟨e, g⟩ => ?_
    rw [e]
    refine (t10 g (by omega)).mono fun p c1 ⟨e1, e2, g⟩ => ⟨e1, ⟨_, _, _, _, _, _, _, _, _, _, _, _, e2⟩, g.mono (by omega)⟩
  · subst e
    simp only [ok_seq, ok_asg, ok_par, ok_ret, ok_retN, ok_sNil, ok_sIf, ok_bin, ok_un, ok_var, ok_C, ok_call, ok_callK, ok_cons, ok_nil, ok_args, ok_tru, ok_not, ok_and, ok_or, ok_eNot, ok_eAnd, ok_eOr, ok_if, ok_cmp, ok_chain, ok_ofC, ok_oNone, ok_oSome, ok_sl, ok_met, ok_rev, ok_items, ok_lenSet, ok_pairs0, ok_pairs, ok_dict, ok_iSeq, ok_rng1, ok_rng2, ok_comp, ok_comp0, ok_for, List.getElem?_cons_zero, List.getElem?_cons_succ, Option.some.injEq, Sl.val.injEq, exists_eq_left', List.nil_append, List.append_nil, List.length_cons, List.length_nil, true_and, and_true, and_self, Nat.zero_add, Nat.reduceAdd, Nat.reduceLeDiff, gAdd_i, gSub_i, gNeg_i, gBl_e, gCmpI_i, gLst_o, gTup_o, gN_e, List.set_cons_zero, List.set_cons_succ, truD_b, gIsN_n, isNonD, gLen_l, gInt_b, gInt_i, Option.map_some, Bool.false_eq_true, if_true, if_false, Bool.not_true, Bool.not_false, keyD, walkD]
end G
theorem PySem.Challenge.cw_claimduel_k01_plain_values_and_settings_holds : PySem.Challenge.rw_claimduel_k01_plain_values_and_settings.Holds :=
  G.holds_of G.law_true

