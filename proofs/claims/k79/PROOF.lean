import PyProof.Rows.All
import HandS.ForMost
import HandS.Exc
import HandS.WordsExc
import HandS.Wide
import HandS.WideBits
import HandS.TupAny
import HandS.TupMul
import HandS.TupLe
import HandS.IsInst
import HandS.Flow
import HandS.Style
import HandS.Deep
import HandS.Iter
import HandS.Walk
import HandS.Comp
import KE.GoesNew
import HandS.Conv
import HandS.CallSlots
import HandS.SortKw
import KE.SortCalls
import HandS.SortOrd
import HandS.Set
import HandS.Strs
import PyProof.Rows.SetFrom
import HandS.Defaults
import HandS.Ends
import HandS.EndBits
import HandS.ExcField
import KE.KExcSuper
import KE.KSuper
import HandS.Dict
import HandS.DictComp
import HandS.TupLen
import KE.KDictZip
import KE.GoesEnum
import HandS.ExcIs
import KE.KIsAll
import KE.KRevSl
import PySem.Challenge.RW_bellsagain_k79_end_parts_by_listing
set_option Elab.async false
set_option linter.all false
set_option maxRecDepth 100000
set_option maxHeartbeats 0
/-! Mir: plain values, a small store, and how they stand for the layer's values and heaps. -/
namespace Mir
open PySem PySem.Spec PyProof.Rows L2
/-- a plain value: what never changes is written out, a thing that may change is a place of the store -/
inductive PV where
  | non | bl (b : Bool) | int (i : Int) | str (x : Str) | tup (xs : List PV) | lst (xs : List PV) | fls (xs : List PV) | dct (t : Bool) (ks vs : List PV) | loc (n : Nat)
deriving Inhabited
/-- what stands at a place of the store -/
inductive Ob where
  | lst (xs : List PV) | dct (t : Bool) (ks vs : List PV)
deriving Inhabited
abbrev Sto := List (Option Ob)
abbrev En := List (Option PV)
/-- a run's end -/
inductive R (α : Type) where
  | ok (a : α) (S : Sto) | exc (c : Str) (a : PV) (S : Sto) | fail
@[simp] def R.bind {α β : Type} : R α → (α → Sto → R β) → R β
  | .ok a S, f => f a S
  | .exc c a S, _ => .exc c a S
  | .fail, _ => .fail
abbrev EM := En → Sto → R PV
abbrev TM := En → Sto → R Bool
abbrev AM := En → Sto → R (List PV)
inductive SR where
  | nx (ρ : En) (S : Sto) | rt (v : PV) (S : Sto) | bk (ρ : En) (S : Sto) | ct (ρ : En) (S : Sto) | exc (c : Str) (a : PV) (ρ : En) (S : Sto) | fail
abbrev SM := En → Sto → SR
abbrev FM := List PV → Sto → R PV
/-! ### keys of dicts -/
def keyOf : PV → Option Key
  | .int i => some (.inl i)
  | .str x => some (.inr x)
  | _ => none
def keyL : List PV → Option (List Key)
  | [] => some []
  | p :: r => match keyOf p, keyL r with
    | some k, some l => some (k :: l)
    | _, _ => none
def keyT : PV → Option (List Key)
  | .tup ps => keyL ps
  | _ => none
/-- the keys ks and the values' V ws are the dict that u says -/
def DcO (t : Bool) (ks : List PV) (ws : List V) (u : HO) : Prop :=
  if t then ∃ kvs : List (List Key × V), u = .dT kvs ∧ ks.map keyT = kvs.map (fun p => some p.1) ∧ ws = kvs.map (·.2)
  else ∃ kvs : List (Key × V), u = .dK kvs ∧ ks.map keyOf = kvs.map (fun p => some p.1) ∧ ws = kvs.map (·.2)
def DctAt (H : Hp) (a : Addr) (t : Bool) (ks : List PV) (ws : List V) : Prop := ∃ u, Rd H a u ∧ DcO t ks ws u
/-! ### how a plain value stands in the heap. M: the addresses of things that may change -/
def KL (K : PySem.W.Frag) (a : Addr) (xs : List V) : Prop :=
  ∃ (o : Obj) (its : Array Value) (n : Nat), K.lookup a = some o ∧ o.cls = .type "list" ∧ o.dict = none ∧ o.data = .seq its n ∧ its.size ≤ sizeLine ∧ Vals xs its.toList
section
variable (K : PySem.W.Frag) (M : Addr → Prop) (φ : List Addr) (H : Hp)
mutual
def RV : PV → V → Prop
  | .non, v => v = .non
  | .bl b, v => v = .bl b
  | .int i, v => v = .int i
  | .str x, v => v = .str x
  | .tup ps, v => ∃ a vs, v = .ref a ∧ H a = some (.tup vs) ∧ RVs ps vs
  | .lst ps, v => ∃ a vs, v = .ref a ∧ (¬ M a ∧ H a = some (.lst vs)) ∧ RVs ps vs
  | .fls ps, v => ∃ a vs, v = .ref a ∧ ((∃ o, H a = some (.frz o (.lst vs))) ∨ KL K a vs) ∧ RVs ps vs
  | .dct t ks ps, v => ∃ a vs, v = .ref a ∧ ¬ M a ∧ DctAt H a t ks vs ∧ RVs ps vs
  | .loc n, v => ∃ a, φ[n]? = some a ∧ v = .ref a
def RVs : List PV → List V → Prop
  | [], vs => vs = []
  | p :: ps, vs => ∃ v ws, vs = v :: ws ∧ RV p v ∧ RVs ps ws
end
end
def live (φ : List Addr) (S : Sto) (a : Addr) : Prop := ∃ (n : Nat) (o : Ob), φ[n]? = some a ∧ S[n]? = some (some o)
def Mu (B : Addr → Prop) (φ : List Addr) (S : Sto) (a : Addr) : Prop := B a ∨ live φ S a
/-- an object of the store at its address -/
def RO (K : PySem.W.Frag) (M : Addr → Prop) (φ : List Addr) (H : Hp) (a : Addr) : Ob → Prop
  | .lst ps => ∃ vs, H a = some (.lst vs) ∧ RVs K M φ H ps vs
  | .dct t ks ps => ∃ vs u, H a = some u ∧ DcO t ks vs u ∧ RVs K M φ H ps vs
/-- the store stands at φ. B: what else may change, elsewhere -/
structure Ag (K : PySem.W.Frag) (B : Addr → Prop) (φ : List Addr) (S : Sto) (H : Hp) : Prop where
  len : φ.length = S.length
  nd : φ.Nodup
  trk : ∀ a, a ∈ φ → ∃ o, H a = some o
  bt : ∀ a, B a → ∃ o, H a = some o
  dis : ∀ a, a ∈ φ → ¬ B a
  obj : ∀ (n : Nat) (o : Ob) (a : Addr), S[n]? = some (some o) → φ[n]? = some a → RO K (Mu B φ S) φ H a o
/-- what may have become of a state -/
structure Fr (φ : List Addr) (S : Sto) (H : Hp) (φ' : List Addr) (S' : Sto) (H' : Hp) : Prop where
  pre : ∃ l, φ' = φ ++ l
  keep : ∀ a o, H a = some o → ¬ live φ S a → H' a = some o
  new : ∀ a, live φ' S' a → live φ S a ∨ H a = none
  trk : ∀ a o, H a = some o → ∃ o', H' a = some o'
theorem Fr.refl (φ : List Addr) (S : Sto) (H : Hp) : Fr φ S H φ S H := ⟨⟨[], by simp⟩, fun _ _ h _ => h, fun _ h => .inl h, fun _ o h => ⟨o, h⟩⟩
theorem Fr.trans {φ φ1 φ2 : List Addr} {S S1 S2 : Sto} {H H1 H2 : Hp} (f : Fr φ S H φ1 S1 H1) (g : Fr φ1 S1 H1 φ2 S2 H2) : Fr φ S H φ2 S2 H2 where
  pre := by
    obtain ⟨l, rfl⟩ := f.pre
    obtain ⟨m, rfl⟩ := g.pre
    exact ⟨l ++ m, by rw [List.append_assoc]⟩
  keep := fun a o h n => g.keep a o (f.keep a o h n) fun l => by
    rcases f.new a l with l' | l'
    · exact n l'
    · rw [h] at l'; cases l'
  new := fun a l => by
    rcases g.new a l with l' | l'
    · exact f.new a l'
    · right
      cases q : H a with
      | none => rfl
      | some o =>
        obtain ⟨o', e⟩ := f.trk a o q
        rw [l'] at e; cases e
  trk := fun a o h => by
    obtain ⟨o1, e⟩ := f.trk a o h
    exact g.trk a o1 e
theorem live_mem {φ : List Addr} {S : Sto} {a : Addr} (l : live φ S a) : a ∈ φ := by
  obtain ⟨n, o, e, _⟩ := l
  exact List.mem_of_getElem? e
theorem live_ref {φ : List Addr} {S : Sto} {n : Nat} {a : Addr} {o : Ob} (h : φ[n]? = some a) (e : S[n]? = some (some o)) : live φ S a := ⟨n, o, h, e⟩
section
variable {K : PySem.W.Frag} {M M' : Addr → Prop} {B : Addr → Prop} {φ φ' : List Addr} {S S' : Sto} {H H' : Hp}
theorem Ag.live_kind (g : Ag K B φ S H) {a : Addr} (l : live φ S a) : (∃ vs, H a = some (.lst vs)) ∨ (∃ kvs, H a = some (.dK kvs)) ∨ (∃ kvs, H a = some (.dT kvs)) := by
  obtain ⟨n, o, e1, e2⟩ := l
  have q := g.obj n o a e2 e1
  cases o with
  | lst ps => obtain ⟨vs, h, _⟩ := q; exact .inl ⟨vs, h⟩
  | dct t ks ps =>
    obtain ⟨vs, u, h, hd, _⟩ := q
    cases t with
    | false => obtain ⟨kvs, e, _⟩ := hd; exact .inr (.inl ⟨kvs, e ▸ h⟩)
    | true => obtain ⟨kvs, e, _⟩ := hd; exact .inr (.inr ⟨kvs, e ▸ h⟩)
theorem Ag.no_tup (g : Ag K B φ S H) {a : Addr} {vs : List V} (h : H a = some (.tup vs)) : ¬ live φ S a := fun l => by
  rcases g.live_kind l with ⟨_, e⟩ | ⟨_, e⟩ | ⟨_, e⟩ <;> (rw [h] at e; cases e)
theorem Ag.no_frz (g : Ag K B φ S H) {a : Addr} {o : Obj} {u : HO} (h : H a = some (.frz o u)) : ¬ live φ S a := fun l => by
  rcases g.live_kind l with ⟨_, e⟩ | ⟨_, e⟩ | ⟨_, e⟩ <;> (rw [h] at e; cases e)
/-- what a value leans on -/
structure Lean0 (M M' : Addr → Prop) (φ φ' : List Addr) (H H' : Hp) : Prop where
  pre : ∃ l, φ' = φ ++ l
  tup : ∀ a vs, H a = some (.tup vs) → H' a = some (.tup vs)
  frz : ∀ a o u, H a = some (.frz o u) → H' a = some (.frz o u)
  keep : ∀ a o, H a = some o → ¬ M a → H' a = some o
  mu : ∀ a o, H a = some o → ¬ M a → ¬ M' a
theorem Lean0.rd {a : Addr} {u : HO} (L : Lean0 M M' φ φ' H H') (n : ¬ M a) (h : Rd H a u) : Rd H' a u ∧ ¬ M' a := by
  rcases h with h | ⟨o, h⟩
  · exact ⟨.inl (L.keep a _ h n), L.mu a _ h n⟩
  · exact ⟨.inr ⟨o, L.keep a _ h n⟩, L.mu a _ h n⟩
mutual
theorem RV.lean (L : Lean0 M M' φ φ' H H') : ∀ (p : PV) {v : V}, RV K M φ H p v → RV K M' φ' H' p v
  | .non, _, h => h
  | .bl _, _, h => h
  | .int _, _, h => h
  | .str _, _, h => h
  | .tup ps, _, h => by
    unfold RV at h ⊢
    obtain ⟨a, vs, e, q, r⟩ := h
    exact ⟨a, vs, e, L.tup a vs q, RVs.lean L ps r⟩
  | .lst ps, _, h => by
    unfold RV at h ⊢
    obtain ⟨a, vs, e, q, r⟩ := h
    exact ⟨a, vs, e, ⟨L.mu a _ q.2 q.1, L.keep a _ q.2 q.1⟩, RVs.lean L ps r⟩
  | .fls ps, _, h => by
    unfold RV at h ⊢
    obtain ⟨a, vs, e, q, r⟩ := h
    refine ⟨a, vs, e, ?_, RVs.lean L ps r⟩
    rcases q with ⟨o, q⟩ | q
    · exact .inl ⟨o, L.frz a o _ q⟩
    · exact .inr q
  | .dct t ks ps, _, h => by
    unfold RV at h ⊢
    obtain ⟨a, vs, e, n, ⟨u, q, x⟩, r⟩ := h
    obtain ⟨q', n'⟩ := L.rd n q
    exact ⟨a, vs, e, n', ⟨u, q', x⟩, RVs.lean L ps r⟩
  | .loc n, _, h => by
    unfold RV at h ⊢
    obtain ⟨a, e, q⟩ := h
    obtain ⟨l, rfl⟩ := L.pre
    exact ⟨a, by rw [List.getElem?_append_left (List.getElem?_eq_some_iff.mp e).1]; exact e, q⟩
theorem RVs.lean (L : Lean0 M M' φ φ' H H') : ∀ (ps : List PV) {vs : List V}, RVs K M φ H ps vs → RVs K M' φ' H' ps vs
  | [], _, h => h
  | p :: ps, _, h => by
    unfold RVs at h ⊢
    obtain ⟨v, ws, e, h1, h2⟩ := h
    exact ⟨v, ws, e, RV.lean L p h1, RVs.lean L ps h2⟩
end
theorem Fr.lean (f : Fr φ S H φ' S' H') (g : Ag K B φ S H) : Lean0 (Mu B φ S) (Mu B φ' S') φ φ' H H' where
  pre := f.pre
  tup := fun a vs h => f.keep a _ h (g.no_tup h)
  frz := fun a o u h => f.keep a _ h (g.no_frz h)
  keep := fun a o h n => f.keep a o h fun l => n (.inr l)
  mu := fun a o h n m => by
    rcases m with m | m
    · exact n (.inl m)
    · rcases f.new a m with l | l
      · exact n (.inr l)
      · rw [h] at l; cases l
theorem RV.stay {p : PV} {v : V} (h : RV K (Mu B φ S) φ H p v) (g : Ag K B φ S H) (f : Fr φ S H φ' S' H') : RV K (Mu B φ' S') φ' H' p v := RV.lean (f.lean g) p h
theorem RVs.stay {p : List PV} {v : List V} (h : RVs K (Mu B φ S) φ H p v) (g : Ag K B φ S H) (f : Fr φ S H φ' S' H') : RVs K (Mu B φ' S') φ' H' p v := RVs.lean (f.lean g) p h
theorem RVs.length : ∀ {ps : List PV} {vs : List V}, RVs K M φ H ps vs → ps.length = vs.length
  | [], _, h => by unfold RVs at h; subst h; rfl
  | p :: ps, _, h => by
    unfold RVs at h
    obtain ⟨v, ws, rfl, _, h2⟩ := h
    simp [RVs.length h2]
theorem RVs.nil : RVs K M φ H [] [] := by unfold RVs; rfl
theorem RVs.cons {p : PV} {ps : List PV} {v : V} {vs : List V} (h : RV K M φ H p v) (t : RVs K M φ H ps vs) : RVs K M φ H (p :: ps) (v :: vs) := by
  unfold RVs; exact ⟨v, vs, rfl, h, t⟩
theorem RVs.append : ∀ {ps qs : List PV} {vs ws : List V}, RVs K M φ H ps vs → RVs K M φ H qs ws → RVs K M φ H (ps ++ qs) (vs ++ ws)
  | [], _, _, _, h, t => by unfold RVs at h; subst h; exact t
  | p :: ps, _, _, _, h, t => by
    unfold RVs at h
    obtain ⟨v, ws, rfl, h1, h2⟩ := h
    exact .cons h1 (RVs.append h2 t)
theorem RVs.uncons {p : PV} {ps : List PV} {vs : List V} (h : RVs K M φ H (p :: ps) vs) : ∃ v ws, vs = v :: ws ∧ RV K M φ H p v ∧ RVs K M φ H ps ws := by
  unfold RVs at h; exact h
theorem RVs.get : ∀ {ps : List PV} {vs : List V} {i : Nat} {p : PV}, RVs K M φ H ps vs → ps[i]? = some p → ∃ v, vs[i]? = some v ∧ RV K M φ H p v
  | [], _, _, _, _, e => by simp at e
  | p :: ps, _, 0, q, h, e => by
    obtain ⟨v, ws, rfl, h1, h2⟩ := h.uncons
    simp at e; subst e
    exact ⟨v, rfl, h1⟩
  | p :: ps, _, i + 1, q, h, e => by
    obtain ⟨v, ws, rfl, h1, h2⟩ := h.uncons
    obtain ⟨u, e1, r⟩ := RVs.get (i := i) (p := q) h2 (by simpa using e)
    exact ⟨u, by simpa using e1, r⟩
theorem RVs.get' : ∀ {ps : List PV} {vs : List V} {i : Nat} {v : V}, RVs K M φ H ps vs → vs[i]? = some v → ∃ p, ps[i]? = some p ∧ RV K M φ H p v := fun {ps vs i v} h e => by
  have hl := h.length
  have hi : i < ps.length := by rw [hl]; exact (List.getElem?_eq_some_iff.mp e).1
  obtain ⟨u, e1, r⟩ := h.get (List.getElem?_eq_getElem hi)
  rw [e] at e1; cases e1
  exact ⟨_, List.getElem?_eq_getElem hi, r⟩
theorem RVs.take : ∀ {ps : List PV} {vs : List V} (n : Nat), RVs K M φ H ps vs → RVs K M φ H (ps.take n) (vs.take n)
  | _, _, 0, _ => by simp; exact .nil
  | [], _, n + 1, h => by unfold RVs at h; subst h; exact .nil
  | p :: ps, _, n + 1, h => by
    obtain ⟨v, ws, rfl, h1, h2⟩ := h.uncons
    exact .cons h1 (RVs.take n h2)
theorem RVs.drop : ∀ {ps : List PV} {vs : List V} (n : Nat), RVs K M φ H ps vs → RVs K M φ H (ps.drop n) (vs.drop n)
  | _, _, 0, h => h
  | [], _, n + 1, h => by unfold RVs at h; subst h; exact .nil
  | p :: ps, _, n + 1, h => by
    obtain ⟨v, ws, rfl, h1, h2⟩ := h.uncons
    exact RVs.drop n h2
theorem RVs.set {p : PV} {v : V} (r : RV K M φ H p v) : ∀ {ps : List PV} {vs : List V} (n : Nat), RVs K M φ H ps vs → RVs K M φ H (ps.set n p) (vs.set n v)
  | [], _, n, h => by unfold RVs at h; subst h; exact .nil
  | q :: ps, _, 0, h => by
    obtain ⟨u, ws, rfl, h1, h2⟩ := h.uncons
    exact .cons r h2
  | q :: ps, _, n + 1, h => by
    obtain ⟨u, ws, rfl, h1, h2⟩ := h.uncons
    exact .cons h1 (RVs.set r n h2)
theorem RVs.of_get : ∀ {ps : List PV} {vs : List V}, ps.length = vs.length → (∀ (i : Nat) (p : PV) (v : V), ps[i]? = some p → vs[i]? = some v → RV K M φ H p v) → RVs K M φ H ps vs
  | [], [], _, _ => .nil
  | [], _ :: _, h, _ => by simp at h
  | _ :: _, [], h, _ => by simp at h
  | p :: ps, v :: vs, h, f => .cons (f 0 p v rfl rfl) (RVs.of_get (by simpa using h) fun i p v e1 e2 => f (i + 1) p v (by simpa using e1) (by simpa using e2))
end
end Mir
/-! Mir: an expression, a test, an argument list, a statement stands for a run on plain values. -/
namespace Mir
open PySem PySem.Spec PyProof.Rows L2
/-- the field of an own exception -/
def fieldOf (c : Str) : Str := if c = "Refused" then "value" else "at"
/-- what of a context values hang on -/
structure KM where
  K : PySem.W.Frag
  mg : Str → Option Value
abbrev km (X : Cx) : KM := ⟨X.K, X.mg⟩
structure EnvR (K : PySem.W.Frag) (M : Addr → Prop) (φ : List Addr) (H : Hp) (ρ : En) (σ : L2.St) : Prop where
  len : ρ.length = σ.length
  get : ∀ (i : Nat) (p : PV), ρ[i]? = some (some p) → ∃ v, σ[i]? = some (some v) ∧ RV K M φ H p v
structure Rel (X : KM) (B : Addr → Prop) (φ : List Addr) (ρ : En) (S : Sto) (σ : L2.St) (H : Hp) : Prop where
  ag : Ag X.K B φ S H
  env : EnvR X.K (Mu B φ S) φ H ρ σ
/-- an exception that was made, as it lies -/
def ExcAt (K : PySem.W.Frag) (mg : Str → Option Value) (M : Addr → Prop) (φ : List Addr) (H : Hp) (c : Str) (a : PV) (cls : Value) (d : Option Addr) : Prop :=
  ∃ (C dd : Addr) (v : V), cls = .ref C ∧ d = some dd ∧ mg c = some (.ref C) ∧ H dd = some (.xd [(fieldOf c, v)]) ∧ RV K M φ H a v
section
variable (X : KM) (W : WX) (B : Addr → Prop) (φ : List Addr) (ρ : En) (S : Sto) (σ : L2.St) (H : Hp)
def XPost (c : Str) (a : PV) (S' : Sto) : Prop := ∀ φ' H' cls d, Fr φ S H φ' S' H' → Rel X B φ' ρ S' σ H' → ExcAt X.K X.mg (Mu B φ' S') φ' H' c a cls d → W cls d σ H'
def RPost (r : R PV) (Q : VK) : Prop := match r with
  | .ok v S' => ∀ φ' v' H', Fr φ S H φ' S' H' → Rel X B φ' ρ S' σ H' → RV X.K (Mu B φ' S') φ' H' v v' → Q v' H'
  | .exc c a S' => XPost X W B φ ρ S σ H c a S'
  | .fail => False
def APost (r : R (List PV)) (Q : List V → Hp → Prop) : Prop := match r with
  | .ok v S' => ∀ φ' v' H', Fr φ S H φ' S' H' → Rel X B φ' ρ S' σ H' → RVs X.K (Mu B φ' S') φ' H' v v' → Q v' H'
  | .exc c a S' => XPost X W B φ ρ S σ H c a S'
  | .fail => False
def TPost (r : R Bool) (Q : Bool → Hp → Prop) : Prop := match r with
  | .ok v S' => ∀ φ' H', Fr φ S H φ' S' H' → Rel X B φ' ρ S' σ H' → Q v H'
  | .exc c a S' => XPost X W B φ ρ S σ H c a S'
  | .fail => False
end
section
variable (X : KM) (W : WX)
def tE (m : EM) : TE := fun σ H Q => ∃ B φ ρ S, Rel X B φ ρ S σ H ∧ RPost X W B φ ρ S σ H (m ρ S) Q
def tA (m : AM) : TA := fun σ H Q => ∃ B φ ρ S, Rel X B φ ρ S σ H ∧ APost X W B φ ρ S σ H (m ρ S) Q
def tT (m : TM) : TT := fun σ H Q => ∃ B φ ρ S, Rel X B φ ρ S σ H ∧ TPost X W B φ ρ S σ H (m ρ S) Q
end
section
variable (X : Cx) (W : WX)
def SE (e : Expr) (m : EM) : Prop := PE X e (tE (km X) W m)
def SA (es : List Expr) (m : AM) : Prop := PA X es (tA (km X) W m)
def ST (e : Expr) (m : TM) : Prop := PT X e (tT (km X) W m)
def SW (e : Expr) (m : TM) : Prop := PW X e (tT (km X) W m)
end
/-- what follows a statement -/
def SPost (X : KM) (W : WX) (B : Addr → Prop) (φ : List Addr) (S : Sto) (H : Hp) (D : Ends) (r : SR) : Prop := match r with
  | .nx ρ' S' => ∀ φ' σ' H', Fr φ S H φ' S' H' → Rel X B φ' ρ' S' σ' H' → D.nx σ' H'
  | .bk ρ' S' => ∀ φ' σ' H', Fr φ S H φ' S' H' → Rel X B φ' ρ' S' σ' H' → D.bk σ' H'
  | .ct ρ' S' => ∀ φ' σ' H', Fr φ S H φ' S' H' → Rel X B φ' ρ' S' σ' H' → D.ct σ' H'
  | .rt v S' => ∀ φ' v' H', Fr φ S H φ' S' H' → Ag X.K B φ' S' H' → RV X.K (Mu B φ' S') φ' H' v v' → D.rt v' H'
  | .exc c a ρ' S' => ∀ φ' σ' H' cls d, Fr φ S H φ' S' H' → Rel X B φ' ρ' S' σ' H' → ExcAt X.K X.mg (Mu B φ' S') φ' H' c a cls d → W cls d σ' H'
  | .fail => False
def tS (X : KM) (W : WX) (m : SM) : TS := fun D σ H => ∃ B φ ρ S, Rel X B φ ρ S σ H ∧ SPost X W B φ S H D (m ρ S)
def SS (X : Cx) (W : WX) (st : Stmt) (m : SM) : Prop := PS X st (tS (km X) W m)
def SB (X : Cx) (W : WX) (sts : List Stmt) (m : SM) : Prop := PSs X sts (tS (km X) W m)
section
variable {X : KM} {W : WX} {B : Addr → Prop} {φ φ' : List Addr} {ρ ρ' : En} {S S' : Sto} {σ σ' : L2.St} {H H' : Hp}
theorem EnvR.lean {K : PySem.W.Frag} {M M' : Addr → Prop} (e : EnvR K M φ H ρ σ) (L : Lean0 M M' φ φ' H H') : EnvR K M' φ' H' ρ σ :=
  ⟨e.len, fun i p h => let ⟨v, h1, r⟩ := e.get i p h; ⟨v, h1, RV.lean L p r⟩⟩
theorem Rel.stay (r : Rel X B φ ρ S σ H) (f : Fr φ S H φ' S' H') (g : Ag X.K B φ' S' H') : Rel X B φ' ρ S' σ H' := ⟨g, r.env.lean (f.lean r.ag)⟩
theorem XPost.shift {c : Str} {a : PV} {S1 : Sto} (f : Fr φ S H φ' S' H') (h : XPost X W B φ ρ S σ H c a S1) : XPost X W B φ' ρ S' σ H' c a S1 :=
  fun φ2 H2 cls d f2 => h φ2 H2 cls d (f.trans f2)
theorem RPost.shift {r : R PV} {Q : VK} (f : Fr φ S H φ' S' H') (h : RPost X W B φ ρ S σ H r Q) : RPost X W B φ' ρ S' σ H' r Q := by
  cases r with
  | ok v S1 => exact fun φ2 v2 H2 f2 => h φ2 v2 H2 (f.trans f2)
  | exc c a S1 => exact XPost.shift f h
  | fail => exact h
theorem APost.shift {r : R (List PV)} {Q : List V → Hp → Prop} (f : Fr φ S H φ' S' H') (h : APost X W B φ ρ S σ H r Q) : APost X W B φ' ρ S' σ H' r Q := by
  cases r with
  | ok v S1 => exact fun φ2 v2 H2 f2 => h φ2 v2 H2 (f.trans f2)
  | exc c a S1 => exact XPost.shift f h
  | fail => exact h
theorem TPost.shift {r : R Bool} {Q : Bool → Hp → Prop} (f : Fr φ S H φ' S' H') (h : TPost X W B φ ρ S σ H r Q) : TPost X W B φ' ρ S' σ H' r Q := by
  cases r with
  | ok v S1 => exact fun φ2 H2 f2 => h φ2 H2 (f.trans f2)
  | exc c a S1 => exact XPost.shift f h
  | fail => exact h
theorem SPost.shift {r : SR} {D : Ends} (f : Fr φ S H φ' S' H') (h : SPost X W B φ S H D r) : SPost X W B φ' S' H' D r := by
  cases r with
  | nx ρ1 S1 => exact fun φ2 v2 H2 f2 => h φ2 v2 H2 (f.trans f2)
  | bk ρ1 S1 => exact fun φ2 v2 H2 f2 => h φ2 v2 H2 (f.trans f2)
  | ct ρ1 S1 => exact fun φ2 v2 H2 f2 => h φ2 v2 H2 (f.trans f2)
  | rt v S1 => exact fun φ2 v2 H2 f2 => h φ2 v2 H2 (f.trans f2)
  | exc c a ρ1 S1 => exact fun φ2 v2 H2 cls d f2 => h φ2 v2 H2 cls d (f.trans f2)
  | fail => exact h
/-- what holds of the value and the state between -/
structure Mid (X : KM) (B : Addr → Prop) (φ : List Addr) (ρ : En) (S : Sto) (σ : L2.St) (H : Hp) (φ' : List Addr) (S' : Sto) (H' : Hp) : Prop where
  fr : Fr φ S H φ' S' H'
  rel : Rel X B φ' ρ S' σ H'
theorem RPost.bind {r : R PV} {k : PV → Sto → R PV} {Q : VK} (h : RPost X W B φ ρ S σ H (r.bind k) Q) :
    RPost X W B φ ρ S σ H r (fun v' H' => ∃ φ' S' v, Mid X B φ ρ S σ H φ' S' H' ∧ RV X.K (Mu B φ' S') φ' H' v v' ∧ RPost X W B φ' ρ S' σ H' (k v S') Q) := by
  cases r with
  | ok v S1 => exact fun φ2 v2 H2 f2 g2 r2 => ⟨φ2, S1, v, ⟨f2, g2⟩, r2, RPost.shift f2 h⟩
  | exc c a S1 => exact h
  | fail => exact h
theorem RPost.bindT {r : R PV} {k : PV → Sto → R Bool} {Q : Bool → Hp → Prop} (h : TPost X W B φ ρ S σ H (r.bind k) Q) :
    RPost X W B φ ρ S σ H r (fun v' H' => ∃ φ' S' v, Mid X B φ ρ S σ H φ' S' H' ∧ RV X.K (Mu B φ' S') φ' H' v v' ∧ TPost X W B φ' ρ S' σ H' (k v S') Q) := by
  cases r with
  | ok v S1 => exact fun φ2 v2 H2 f2 g2 r2 => ⟨φ2, S1, v, ⟨f2, g2⟩, r2, TPost.shift f2 h⟩
  | exc c a S1 => exact h
  | fail => exact h
theorem RPost.bindA {r : R PV} {k : PV → Sto → R (List PV)} {Q : List V → Hp → Prop} (h : APost X W B φ ρ S σ H (r.bind k) Q) :
    RPost X W B φ ρ S σ H r (fun v' H' => ∃ φ' S' v, Mid X B φ ρ S σ H φ' S' H' ∧ RV X.K (Mu B φ' S') φ' H' v v' ∧ APost X W B φ' ρ S' σ H' (k v S') Q) := by
  cases r with
  | ok v S1 => exact fun φ2 v2 H2 f2 g2 r2 => ⟨φ2, S1, v, ⟨f2, g2⟩, r2, APost.shift f2 h⟩
  | exc c a S1 => exact h
  | fail => exact h
theorem APost.bind {r : R (List PV)} {k : List PV → Sto → R PV} {Q : VK} (h : RPost X W B φ ρ S σ H (r.bind k) Q) :
    APost X W B φ ρ S σ H r (fun v' H' => ∃ φ' S' v, Mid X B φ ρ S σ H φ' S' H' ∧ RVs X.K (Mu B φ' S') φ' H' v v' ∧ RPost X W B φ' ρ S' σ H' (k v S') Q) := by
  cases r with
  | ok v S1 => exact fun φ2 v2 H2 f2 g2 r2 => ⟨φ2, S1, v, ⟨f2, g2⟩, r2, RPost.shift f2 h⟩
  | exc c a S1 => exact h
  | fail => exact h
theorem APost.bindA {r : R (List PV)} {k : List PV → Sto → R (List PV)} {Q : List V → Hp → Prop} (h : APost X W B φ ρ S σ H (r.bind k) Q) :
    APost X W B φ ρ S σ H r (fun v' H' => ∃ φ' S' v, Mid X B φ ρ S σ H φ' S' H' ∧ RVs X.K (Mu B φ' S') φ' H' v v' ∧ APost X W B φ' ρ S' σ H' (k v S') Q) := by
  cases r with
  | ok v S1 => exact fun φ2 v2 H2 f2 g2 r2 => ⟨φ2, S1, v, ⟨f2, g2⟩, r2, APost.shift f2 h⟩
  | exc c a S1 => exact h
  | fail => exact h
theorem TPost.bind {r : R Bool} {k : Bool → Sto → R PV} {Q : VK} (h : RPost X W B φ ρ S σ H (r.bind k) Q) :
    TPost X W B φ ρ S σ H r (fun v H' => ∃ φ' S', Mid X B φ ρ S σ H φ' S' H' ∧ RPost X W B φ' ρ S' σ H' (k v S') Q) := by
  cases r with
  | ok v S1 => exact fun φ2 H2 f2 g2 => ⟨φ2, S1, ⟨f2, g2⟩, RPost.shift f2 h⟩
  | exc c a S1 => exact h
  | fail => exact h
theorem TPost.bindT {r : R Bool} {k : Bool → Sto → R Bool} {Q : Bool → Hp → Prop} (h : TPost X W B φ ρ S σ H (r.bind k) Q) :
    TPost X W B φ ρ S σ H r (fun v H' => ∃ φ' S', Mid X B φ ρ S σ H φ' S' H' ∧ TPost X W B φ' ρ S' σ H' (k v S') Q) := by
  cases r with
  | ok v S1 => exact fun φ2 H2 f2 g2 => ⟨φ2, S1, ⟨f2, g2⟩, TPost.shift f2 h⟩
  | exc c a S1 => exact h
  | fail => exact h
theorem RPost.mono {r : R PV} {Q Q' : VK} (h : RPost X W B φ ρ S σ H r Q) (q : ∀ v H', Q v H' → Q' v H') : RPost X W B φ ρ S σ H r Q' := by
  cases r with
  | ok v S1 => exact fun φ2 v2 H2 f2 g2 r2 => q _ _ (h φ2 v2 H2 f2 g2 r2)
  | exc c a S1 => exact h
  | fail => exact h
theorem APost.mono {r : R (List PV)} {Q Q' : List V → Hp → Prop} (h : APost X W B φ ρ S σ H r Q) (q : ∀ v H', Q v H' → Q' v H') : APost X W B φ ρ S σ H r Q' := by
  cases r with
  | ok v S1 => exact fun φ2 v2 H2 f2 g2 r2 => q _ _ (h φ2 v2 H2 f2 g2 r2)
  | exc c a S1 => exact h
  | fail => exact h
theorem TPost.mono {r : R Bool} {Q Q' : Bool → Hp → Prop} (h : TPost X W B φ ρ S σ H r Q) (q : ∀ v H', Q v H' → Q' v H') : TPost X W B φ ρ S σ H r Q' := by
  cases r with
  | ok v S1 => exact fun φ2 H2 f2 g2 => q _ _ (h φ2 H2 f2 g2)
  | exc c a S1 => exact h
  | fail => exact h
/-- the reading of e, from a run, continued -/
theorem tE.of {m : EM} {Q Q' : VK} (r : Rel X B φ ρ S σ H) (h : RPost X W B φ ρ S σ H (m ρ S) Q) (q : ∀ v H', Q v H' → Q' v H') : tE X W m σ H Q' := ⟨B, φ, ρ, S, r, h.mono q⟩
theorem tA.of {m : AM} {Q Q' : List V → Hp → Prop} (r : Rel X B φ ρ S σ H) (h : APost X W B φ ρ S σ H (m ρ S) Q) (q : ∀ v H', Q v H' → Q' v H') : tA X W m σ H Q' := ⟨B, φ, ρ, S, r, h.mono q⟩
theorem tT.of {m : TM} {Q Q' : Bool → Hp → Prop} (r : Rel X B φ ρ S σ H) (h : TPost X W B φ ρ S σ H (m ρ S) Q) (q : ∀ v H', Q v H' → Q' v H') : tT X W m σ H Q' := ⟨B, φ, ρ, S, r, h.mono q⟩
/-- another reading -/
theorem PE.via {X : Cx} {e : Expr} {t t' : TE} (h : PE X e t) (i : ∀ σ H Q, t' σ H Q → t σ H Q) : PE X e t' := ⟨fun pins s σ H Q I q => h.run pins s σ H Q I (i _ _ _ q)⟩
theorem PA.via {X : Cx} {e : List Expr} {t t' : TA} (h : PA X e t) (i : ∀ σ H Q, t' σ H Q → t σ H Q) : PA X e t' := ⟨fun pos pins s σ H Q I q => h.run pos pins s σ H Q I (i _ _ _ q)⟩
theorem PT.via {X : Cx} {e : Expr} {t t' : TT} (h : PT X e t) (i : ∀ σ H Q, t' σ H Q → t σ H Q) : PT X e t' := ⟨fun pins s σ H Q I q => h.run pins s σ H Q I (i _ _ _ q)⟩
theorem PW.via {X : Cx} {e : Expr} {t t' : TT} (h : PW X e t) (i : ∀ σ H Q, t' σ H Q → t σ H Q) : PW X e t' := ⟨fun w pins s σ H Q I q => h.run w pins s σ H Q I (i _ _ _ q)⟩
theorem PS.via {X : Cx} {e : Stmt} {t t' : TS} (h : PS X e t) (i : ∀ D σ H, t' D σ H → t D σ H) : PS X e t' := ⟨fun pins s σ H D I q => h.run pins s σ H D I (i _ _ _ q)⟩
theorem PSs.via {X : Cx} {e : List Stmt} {t t' : TS} (h : PSs X e t) (i : ∀ D σ H, t' D σ H → t D σ H) : PSs X e t' := ⟨fun pins s σ H D I q => h.run pins s σ H D I (i _ _ _ q)⟩
/-- an end at once -/
theorem RPost.here {v : PV} {v' : V} {Q : VK} (r : Rel X B φ ρ S σ H) (h : RPost X W B φ ρ S σ H (.ok v S) Q) (rv : RV X.K (Mu B φ S) φ H v v') : Q v' H := h φ v' H (Fr.refl _ _ _) r rv
theorem TPost.here {b : Bool} {Q : Bool → Hp → Prop} (r : Rel X B φ ρ S σ H) (h : TPost X W B φ ρ S σ H (.ok b S) Q) : Q b H := h φ H (Fr.refl _ _ _) r
/-! ### new objects -/
section
variable {K : PySem.W.Frag} {p : Addr} {o : HO}
theorem Ag.none_notin (g : Ag K B φ S H) (h : H p = none) : p ∉ φ := fun m => by
  obtain ⟨o, e⟩ := g.trk p m
  rw [h] at e; cases e
theorem Ag.none_notB (g : Ag K B φ S H) (h : H p = none) : ¬ B p := fun m => by
  obtain ⟨o, e⟩ := g.bt p m
  rw [h] at e; cases e
theorem Ag.none_notMu (g : Ag K B φ S H) (h : H p = none) : ¬ Mu B φ S p := fun m => by
  rcases m with m | m
  · exact g.none_notB h m
  · exact g.none_notin h (live_mem m)
theorem fr_upd (h : H p = none) : Fr φ S H φ S (upd H p o) where
  pre := ⟨[], by simp⟩
  keep := fun a u e _ => by rw [upd_ne (ne_of_none e h)]; exact e
  new := fun _ l => .inl l
  trk := fun a u e => ⟨u, by rw [upd_ne (ne_of_none e h)]; exact e⟩
theorem RO.lean {M M' : Addr → Prop} {a : Addr} (L : Lean0 M M' φ φ' H H') (e : ∀ u, H a = some u → H' a = some u) : ∀ {o : Ob}, RO K M φ H a o → RO K M' φ' H' a o
  | .lst ps, ⟨vs, h, r⟩ => ⟨vs, e _ h, RVs.lean L ps r⟩
  | .dct t ks ps, ⟨vs, u, h, d, r⟩ => ⟨vs, u, e _ h, d, RVs.lean L ps r⟩
/-- a new object that the store doesn't know -/
theorem Ag.upd (g : Ag K B φ S H) (h : H p = none) : Ag K B φ S (upd H p o) where
  len := g.len
  nd := g.nd
  trk := fun a m => by
    obtain ⟨u, e⟩ := g.trk a m
    exact ⟨u, by rw [upd_ne (ne_of_none e h)]; exact e⟩
  bt := fun a m => by
    obtain ⟨u, e⟩ := g.bt a m
    exact ⟨u, by rw [upd_ne (ne_of_none e h)]; exact e⟩
  dis := g.dis
  obj := fun n ob a e1 e2 => RO.lean ((fr_upd (o := o) h).lean g) (fun u e => by rw [upd_ne (ne_of_none e h)]; exact e) (g.obj n ob a e1 e2)
theorem live_push {a : Addr} {ob : Ob} (hl : φ.length = S.length) : live (φ ++ [p]) (S ++ [some ob]) a ↔ live φ S a ∨ a = p := by
  constructor
  · rintro ⟨n, o, e1, e2⟩
    by_cases hn : n < φ.length
    · rw [List.getElem?_append_left hn] at e1
      rw [List.getElem?_append_left (by omega)] at e2
      exact .inl ⟨n, o, e1, e2⟩
    · have hn' : n = φ.length := by
        have := (List.getElem?_eq_some_iff.mp e1).1
        simp at this; omega
      subst hn'
      simp at e1
      exact .inr e1.symm
  · rintro (⟨n, o, e1, e2⟩ | e)
    · exact ⟨n, o, by rw [List.getElem?_append_left (List.getElem?_eq_some_iff.mp e1).1]; exact e1, by rw [List.getElem?_append_left (List.getElem?_eq_some_iff.mp e2).1]; exact e2⟩
    · subst e
      exact ⟨φ.length, ob, by simp, by rw [hl]; simp⟩
/-- a new object of the store: the heap has it already -/
theorem fr_push {ob : Ob} (g : Ag K B φ S H) (h : H p = none) : Fr φ S H (φ ++ [p]) (S ++ [some ob]) (L2.upd H p o) where
  pre := ⟨[p], rfl⟩
  keep := fun a u e _ => by rw [upd_ne (ne_of_none e h)]; exact e
  new := fun a l => by
    rcases (live_push g.len).mp l with l | l
    · exact .inl l
    · subst l; exact .inr h
  trk := fun a u e => ⟨u, by rw [upd_ne (ne_of_none e h)]; exact e⟩
theorem Ag.push {ob : Ob} (g : Ag K B φ S H) (h : H p = none) (new : RO K (Mu B (φ ++ [p]) (S ++ [some ob])) (φ ++ [p]) (L2.upd H p o) p ob) : Ag K B (φ ++ [p]) (S ++ [some ob]) (L2.upd H p o) where
  len := by simp [g.len]
  nd := by
    rw [List.nodup_append]
    exact ⟨g.nd, by simp, fun a ha b hb => by
      simp at hb
      subst hb
      exact fun e => g.none_notin h (e ▸ ha)⟩
  trk := fun a m => by
    rcases List.mem_append.mp m with m | m
    · obtain ⟨u, e⟩ := g.trk a m
      exact ⟨u, by rw [upd_ne (ne_of_none e h)]; exact e⟩
    · simp at m; subst m; exact ⟨o, upd_same⟩
  bt := fun a m => by
    obtain ⟨u, e⟩ := g.bt a m
    exact ⟨u, by rw [upd_ne (ne_of_none e h)]; exact e⟩
  dis := fun a m => by
    rcases List.mem_append.mp m with m | m
    · exact g.dis a m
    · simp at m; subst m; exact g.none_notB h
  obj := fun n ob' a e1 e2 => by
    by_cases hn : n < S.length
    · rw [List.getElem?_append_left hn] at e1
      rw [List.getElem?_append_left (by rw [g.len]; exact hn)] at e2
      exact RO.lean ((fr_push (o := o) (ob := ob) g h).lean g) (fun u e => by rw [upd_ne (ne_of_none e h)]; exact e) (g.obj n ob' a e1 e2)
    · have hn' : n = S.length := by
        have := (List.getElem?_eq_some_iff.mp e1).1
        simp at this; omega
      subst hn'
      simp at e1
      subst e1
      rw [← g.len] at e2
      simp at e2
      subst e2
      exact new
/-- an object of the store is written -/
theorem live_set {n : Nat} {a p : Addr} {ob : Ob} (hp : φ[n]? = some p) (h0 : ∃ o, S[n]? = some (some o)) : live φ (S.set n (some ob)) a ↔ live φ S a := by
  obtain ⟨o0, h0⟩ := h0
  have hn := (List.getElem?_eq_some_iff.mp h0).1
  constructor
  · rintro ⟨m, o, e1, e2⟩
    by_cases hm : m = n
    · subst hm; exact ⟨m, o0, e1, h0⟩
    · rw [List.getElem?_set_ne (Ne.symm hm)] at e2
      exact ⟨m, o, e1, e2⟩
  · rintro ⟨m, o, e1, e2⟩
    by_cases hm : m = n
    · subst hm
      exact ⟨m, ob, e1, by rw [List.getElem?_set_self hn]⟩
    · exact ⟨m, o, e1, by rw [List.getElem?_set_ne (Ne.symm hm)]; exact e2⟩
theorem fr_set {n : Nat} {ob : Ob} (hp : φ[n]? = some p) (h0 : ∃ o, S[n]? = some (some o)) : Fr φ S H φ (S.set n (some ob)) (L2.upd H p o) where
  pre := ⟨[], by simp⟩
  keep := fun a u e l => by
    have : a ≠ p := by
      rintro rfl
      obtain ⟨o0, h0⟩ := h0
      exact l ⟨n, o0, hp, h0⟩
    rw [upd_ne this]; exact e
  new := fun a l => .inl ((live_set hp h0).mp l)
  trk := fun a u e => by
    by_cases q : a = p
    · subst q; exact ⟨o, upd_same⟩
    · exact ⟨u, by rw [upd_ne q]; exact e⟩
theorem Ag.set {n : Nat} {ob : Ob} (g : Ag K B φ S H) (hp : φ[n]? = some p) (h0 : ∃ o, S[n]? = some (some o)) (new : RO K (Mu B φ (S.set n (some ob))) φ (L2.upd H p o) p ob) : Ag K B φ (S.set n (some ob)) (L2.upd H p o) where
  len := by simp [g.len]
  nd := g.nd
  trk := fun a m => by
    obtain ⟨u, e⟩ := g.trk a m
    by_cases q : a = p
    · subst q; exact ⟨o, upd_same⟩
    · exact ⟨u, by rw [upd_ne q]; exact e⟩
  bt := fun a m => by
    obtain ⟨u, e⟩ := g.bt a m
    by_cases q : a = p
    · subst q; exact ⟨o, upd_same⟩
    · exact ⟨u, by rw [upd_ne q]; exact e⟩
  dis := g.dis
  obj := fun m ob' a e1 e2 => by
    by_cases hm : m = n
    · subst hm
      rw [hp] at e2; cases e2
      have hn : m < S.length := by obtain ⟨o0, h0⟩ := h0; exact (List.getElem?_eq_some_iff.mp h0).1
      rw [List.getElem?_set_self hn] at e1
      cases e1
      exact new
    · rw [List.getElem?_set_ne (Ne.symm hm)] at e1
      have ne : a ≠ p := fun e => hm (by
        subst e
        obtain ⟨h1, q1⟩ := List.getElem?_eq_some_iff.mp e2
        obtain ⟨h2, q2⟩ := List.getElem?_eq_some_iff.mp hp
        exact (List.getElem_inj g.nd).mp (q1.trans q2.symm))
      exact RO.lean ((fr_set (o := o) (ob := ob) hp h0).lean g) (fun u e => by rw [upd_ne ne]; exact e) (g.obj m ob' a e1 e2)
end
end
end Mir
/-! Mir: names, constants, operators, tests, displays. -/
namespace Mir
open PySem PySem.Spec PyProof.Rows L2
/-! ### values that are lists, tuples -/
def lstAt (S : Sto) (n : Nat) : Option (List PV) := match S[n]? with
  | some (some (.lst ps)) => some ps
  | _ => none
/-- a list that the heap tracks -/
def lstM (S : Sto) : PV → Option (List PV)
  | .lst ps => some ps
  | .loc n => lstAt S n
  | _ => none
def lstL (S : Sto) : PV → Option (List PV)
  | .lst ps => some ps
  | .fls ps => some ps
  | .loc n => lstAt S n
  | _ => none
def tupL : PV → Option (List PV)
  | .tup ps => some ps
  | _ => none
def seqL (S : Sto) : PV → Option (List PV)
  | .tup ps => some ps
  | x => lstL S x
section
variable {K : PySem.W.Frag} {M : Addr → Prop} {B : Addr → Prop} {φ φ' : List Addr} {S S' : Sto} {H H' : Hp} {p : PV} {v : V} {ps : List PV}
theorem loc_lst (g : Ag K B φ S H) {n : Nat} (r : RV K (Mu B φ S) φ H (.loc n) v) (e : lstAt S n = some ps) : ∃ a vs, v = .ref a ∧ φ[n]? = some a ∧ S[n]? = some (some (.lst ps)) ∧ H a = some (.lst vs) ∧ RVs K (Mu B φ S) φ H ps vs := by
  unfold RV at r
  obtain ⟨a, e1, rfl⟩ := r
  unfold lstAt at e
  split at e
  · rename_i qs e2
    cases e
    obtain ⟨vs, h, t⟩ := g.obj n _ a e2 e1
    exact ⟨a, vs, rfl, e1, e2, h, t⟩
  · cases e
theorem lstM_ok (g : Ag K B φ S H) (r : RV K (Mu B φ S) φ H p v) (e : lstM S p = some ps) : ∃ a vs, v = .ref a ∧ H a = some (.lst vs) ∧ RVs K (Mu B φ S) φ H ps vs := by
  unfold lstM at e
  split at e
  · cases e
    unfold RV at r
    obtain ⟨a, vs, rfl, ⟨_, h⟩, t⟩ := r
    exact ⟨a, vs, rfl, h, t⟩
  · obtain ⟨a, vs, e1, _, _, h, t⟩ := loc_lst g r e
    exact ⟨a, vs, e1, h, t⟩
  · cases e
theorem lstL_ok (g : Ag K B φ S H) (r : RV K (Mu B φ S) φ H p v) (e : lstL S p = some ps) : ∃ a vs, v = .ref a ∧ SqL K H a vs ∧ RVs K (Mu B φ S) φ H ps vs := by
  unfold lstL at e
  split at e
  · cases e
    unfold RV at r
    obtain ⟨a, vs, rfl, ⟨_, h⟩, t⟩ := r
    exact ⟨a, vs, rfl, .of h, t⟩
  · cases e
    unfold RV at r
    obtain ⟨a, vs, rfl, h, t⟩ := r
    refine ⟨a, vs, rfl, ?_, t⟩
    rcases h with ⟨o, h⟩ | h
    · exact .inl (.inr ⟨o, h⟩)
    · exact .inr h
  · obtain ⟨a, vs, e1, _, _, h, t⟩ := loc_lst g r e
    exact ⟨a, vs, e1, .of h, t⟩
  · cases e
theorem tupL_ok (r : RV K M φ H p v) (e : tupL p = some ps) : ∃ a vs, v = .ref a ∧ SqT K H a vs ∧ RVs K M φ H ps vs := by
  unfold tupL at e
  split at e
  · cases e
    unfold RV at r
    obtain ⟨a, vs, e1, h, t⟩ := r
    exact ⟨a, vs, e1, .of h, t⟩
  · cases e
theorem seqL_ok (g : Ag K B φ S H) (r : RV K (Mu B φ S) φ H p v) (e : seqL S p = some ps) : ∃ a vs, v = .ref a ∧ (SqL K H a vs ∨ SqT K H a vs) ∧ RVs K (Mu B φ S) φ H ps vs := by
  unfold seqL at e
  split at e
  · cases e
    unfold RV at r
    obtain ⟨a, vs, e1, h, t⟩ := r
    exact ⟨a, vs, e1, .inr (.of h), t⟩
  · obtain ⟨a, vs, e1, h, t⟩ := lstL_ok g r e
    exact ⟨a, vs, e1, .inl h, t⟩
theorem RV.int_eq {i : Int} (r : RV K M φ H (.int i) v) : v = .int i := by unfold RV at r; exact r
theorem RV.bl_eq {i : Bool} (r : RV K M φ H (.bl i) v) : v = .bl i := by unfold RV at r; exact r
theorem RV.str_eq {i : Str} (r : RV K M φ H (.str i) v) : v = .str i := by unfold RV at r; exact r
theorem RV.non_eq (r : RV K M φ H .non v) : v = .non := by unfold RV at r; exact r
theorem RV.int (i : Int) : RV K M φ H (.int i) (.int i) := by unfold RV; rfl
theorem RV.bl (i : Bool) : RV K M φ H (.bl i) (.bl i) := by unfold RV; rfl
theorem RV.str (i : Str) : RV K M φ H (.str i) (.str i) := by unfold RV; rfl
theorem RV.non : RV K M φ H .non .non := by unfold RV; rfl
end
/-- of a pure reckoning -/
@[simp] def R.of {α : Type} (S : Sto) : Option α → R α
  | some a => .ok a S
  | none => .fail
section
variable {X : Cx} {W : WX} {pos : Pos}
/-! ### names, constants -/
def eVar (i : Nat) : EM := fun ρ S => match ρ[i]? with
  | some (some v) => .ok v S
  | _ => .fail
def eC (v : PV) : EM := fun _ S => .ok v S
theorem se_var {i : Nat} {e : Expr} (h : PE X e (tVar i)) : SE X W e (eVar i) := by
  refine PE.via h fun σ H Q ⟨B, φ, ρ, S, r, q⟩ => ?_
  unfold eVar at q
  split at q
  · rename_i v e1
    obtain ⟨v', e2, rv⟩ := r.env.get i v e1
    exact ⟨v', e2, q.here r rv⟩
  · exact q.elim
theorem se_int {i : Int} {j} : SE X W (.Constant (.int i) j pos) (eC (.int i)) := PE.via pe_int fun σ H Q ⟨B, φ, ρ, S, r, q⟩ => q.here r (.int i)
theorem se_bl {b : Bool} {j} : SE X W (.Constant (.bool b) j pos) (eC (.bl b)) := PE.via pe_bl fun σ H Q ⟨B, φ, ρ, S, r, q⟩ => q.here r (.bl b)
theorem se_non {j} : SE X W (.Constant .none j pos) (eC .non) := PE.via pe_non fun σ H Q ⟨B, φ, ρ, S, r, q⟩ => q.here r .non
theorem se_str {x : Str} {j} : SE X W (.Constant (.str x) j pos) (eC (.str x)) := PE.via pe_str fun σ H Q ⟨B, φ, ρ, S, r, q⟩ => q.here r (.str x)
/-! ### two-place operations -/
abbrev P2 := PV → PV → Sto → R PV
def eBin (f : P2) (a b : EM) : EM := fun ρ S => (a ρ S).bind fun x S1 => (b ρ S1).bind fun y S2 => f x y S2
/-- an operation by its reading -/
def Op2 (X : Cx) (r : R2) (f : P2) : Prop := ∀ (W : WX) (B : Addr → Prop) (φ : List Addr) (ρ : En) (S : Sto) (σ : L2.St) (H : Hp) (x y : PV) (x' y' : V) (Q : VK), Rel (km X) B φ ρ S σ H → RV X.K (Mu B φ S) φ H x x' → RV X.K (Mu B φ S) φ H y y' →
  RPost (km X) W B φ ρ S σ H (f x y S) Q → r x' y' H Q
theorem op2_run {r : R2} {f : P2} {ma mb : EM} {σ : L2.St} {H : Hp} {Q : VK} (h : Op2 X r f) (q : tE (km X) W (eBin f ma mb) σ H Q) : tE (km X) W ma σ H fun x H1 => tE (km X) W mb σ H1 fun y H2 => r x y H2 Q := by
  obtain ⟨B, φ, ρ, S, g, q⟩ := q
  refine tE.of g q.bind fun x' H1 ⟨φ1, S1, x, m1, rx, q1⟩ => ?_
  refine tE.of m1.rel q1.bind fun y' H2 ⟨φ2, S2, y, m2, ry, q2⟩ => ?_
  exact h W B φ2 ρ S2 σ H2 x y x' y' Q m2.rel (rx.stay m1.rel.ag m2.fr) ry q2
theorem se_bin {op : Operator} {r : R2} {f : P2} {a b : Expr} {ma mb : EM} (ho : OpR X (binaryOp op) r) (h : Op2 X r f) (ha : SE X W a ma) (hb : SE X W b mb) : SE X W (.BinOp a op b pos) (eBin f ma mb) :=
  PE.via (pe_op ho ha hb) fun _ _ _ q => op2_run h q
theorem se_cmp {op : CmpOp} {r : R2} {f : P2} {a b : Expr} {ma mb : EM} (ho : OpR X (compareOp op) r) (h : Op2 X r f) (hm : behindInMarks op b = false) (ha : SE X W a ma) (hb : SE X W b mb) : SE X W (.Compare a [op] [b] pos) (eBin f ma mb) :=
  PE.via (pe_cmpR ho ha hb hm) fun _ _ _ q => op2_run h q
theorem Op2.or {r r' : R2} {f : P2} (h : ∀ (W : WX) (B : Addr → Prop) (φ : List Addr) (ρ : En) (S : Sto) (σ : L2.St) (H : Hp) (x y : PV) (x' y' : V) (Q : VK), Rel (km X) B φ ρ S σ H → RV X.K (Mu B φ S) φ H x x' → RV X.K (Mu B φ S) φ H y y' →
  RPost (km X) W B φ ρ S σ H (f x y S) Q → r x' y' H Q ∨ r' x' y' H Q) : Op2 X (fun x y H Q => r x y H Q ∨ r' x y H Q) f := h
/-- a scalar's V -/
def scV : PV → V
  | .bl b => .bl b
  | .int i => .int i
  | .str x => .str x
  | _ => .non
def isSc : PV → Bool
  | .non => true
  | .bl _ => true
  | .int _ => true
  | .str _ => true
  | _ => false
theorem rv_sc {K : PySem.W.Frag} {M : Addr → Prop} {φ : List Addr} {H : Hp} : ∀ {p : PV}, isSc p = true → RV K M φ H p (scV p)
  | .non, _ => .non
  | .bl _, _ => .bl _
  | .int _, _ => .int _
  | .str _, _ => .str _
  | .tup _, h => by cases h
  | .lst _, h => by cases h
  | .fls _, h => by cases h
  | .dct _ _ _, h => by cases h
  | .loc _, h => by cases h
/-- both ints -/
def pI (f : Int → Int → Option PV) : P2 := fun x y S => match x, y with
  | .int i, .int j => R.of S (f i j)
  | _, _ => .fail
theorem op2_int {r : R2} {f : Int → Int → Option PV} (h : ∀ i j p H Q, f i j = some p → isSc p = true ∧ (Q (scV p) H → r (.int i) (.int j) H Q)) : Op2 X r (pI f) := fun W B φ ρ S σ H x y x' y' Q g r1 r2 q => by
  unfold pI at q
  split at q
  · rename_i i j
    cases r1.int_eq
    cases r2.int_eq
    cases e : f i j with
    | none => rw [e] at q; exact q.elim
    | some p =>
      rw [e] at q
      obtain ⟨h1, h2⟩ := h i j p H Q e
      exact h2 (q.here g (rv_sc h1))
  · exact q.elim
/-- an operation is one of several -/
theorem op2_or {r r' : R2} {f f' : P2} {c : PV → PV → Bool} (h : Op2 X r f) (h' : Op2 X r' f') : Op2 X (fun x y H Q => r x y H Q ∨ r' x y H Q) (fun x y S => if c x y then f x y S else f' x y S) :=
  fun W B φ ρ S σ H x y x' y' Q g r1 r2 q => by
    dsimp only at q
    by_cases hc : c x y = true
    · rw [if_pos hc] at q; exact .inl (h W B φ ρ S σ H x y x' y' Q g r1 r2 q)
    · rw [if_neg hc] at q; exact .inr (h' W B φ ρ S σ H x y x' y' Q g r1 r2 q)
def isInt : PV → Bool
  | .int _ => true
  | _ => false
def isTup : PV → Bool
  | .tup _ => true
  | _ => false
def isStr : PV → Bool
  | .str _ => true
  | _ => false
/-- the longest line -/
theorem szl : (sizeLine : Nat) = 16777216 := by rw [sizeLine_eq]
def lim : Nat := 16777216
theorem lim_le {n : Nat} (h : n ≤ lim) : n ≤ sizeLine := by rw [szl]; exact h
/-! #### + -/
def pAddT : P2 := fun x y S => match x, y with
  | .tup xs, .tup ys => if xs.length + ys.length ≤ lim then .ok (.tup (xs ++ ys)) S else .fail
  | _, _ => .fail
theorem op_addT : Op2 X (rCatA X.K) pAddT := fun W B φ ρ S σ H x y x' y' Q g r1 r2 q => by
  unfold pAddT at q
  split at q
  · rename_i xs ys
    split at q
    · rename_i hz
      have r1' := r1
      have r2' := r2
      unfold RV at r1 r2
      obtain ⟨a, vs, rfl, h1, t1⟩ := r1
      obtain ⟨b, ws, rfl, h2, t2⟩ := r2
      refine ⟨a, b, vs, ws, rfl, rfl, .of h1, .of h2, ?_, fun e => ?_, fun e1 e2 => ?_, fun e1 e2 p hp => ?_⟩
      · rw [← t1.length, ← t2.length]; exact lim_le hz
      · subst e
        have : xs = [] := List.length_eq_zero_iff.mp t1.length
        subst this
        exact q.here g r2'
      · subst e2
        have : ys = [] := List.length_eq_zero_iff.mp t2.length
        subst this
        rw [List.append_nil] at q
        exact q.here g r1'
      · refine q φ (.ref p) _ (fr_upd hp) (g.stay (fr_upd hp) (g.ag.upd hp)) ?_
        unfold RV
        have L := (fr_upd (φ := φ) (S := S) (o := HO.tup (vs ++ ws)) hp).lean g.ag
        exact ⟨p, vs ++ ws, rfl, upd_same, (t1.append t2).lean L⟩
    · exact q.elim
  · exact q.elim
def pAddL : P2 := fun x y S => match lstM S x, lstM S y with
  | some xs, some ys => if xs.length + ys.length ≤ lim then .ok (.lst (xs ++ ys)) S else .fail
  | _, _ => .fail
/-- a new list, tuple that stays as it is -/
theorem new_lst {W : WX} {B : Addr → Prop} {φ : List Addr} {ρ : En} {S : Sto} {σ : L2.St} {H : Hp} {ps : List PV} {vs : List V} {Q : VK} {p : Addr} (g : Rel (km X) B φ ρ S σ H) (t : RVs X.K (Mu B φ S) φ H ps vs)
    (q : RPost (km X) W B φ ρ S σ H (.ok (.lst ps) S) Q) (hp : H p = none) : Q (.ref p) (L2.upd H p (.lst vs)) := by
  refine q φ (.ref p) _ (fr_upd hp) (g.stay (fr_upd hp) (g.ag.upd hp)) ?_
  unfold RV
  have L := (fr_upd (φ := φ) (S := S) (o := HO.lst vs) hp).lean g.ag
  exact ⟨p, vs, rfl, ⟨g.ag.none_notMu hp, upd_same⟩, RVs.lean L _ t⟩
theorem new_tup {W : WX} {B : Addr → Prop} {φ : List Addr} {ρ : En} {S : Sto} {σ : L2.St} {H : Hp} {ps : List PV} {vs : List V} {Q : VK} {p : Addr} (g : Rel (km X) B φ ρ S σ H) (t : RVs X.K (Mu B φ S) φ H ps vs)
    (q : RPost (km X) W B φ ρ S σ H (.ok (.tup ps) S) Q) (hp : H p = none) : Q (.ref p) (L2.upd H p (.tup vs)) := by
  refine q φ (.ref p) _ (fr_upd hp) (g.stay (fr_upd hp) (g.ag.upd hp)) ?_
  unfold RV
  have L := (fr_upd (φ := φ) (S := S) (o := HO.tup vs) hp).lean g.ag
  exact ⟨p, vs, rfl, upd_same, RVs.lean L _ t⟩
/-- a new list of the store -/
theorem new_loc {W : WX} {B : Addr → Prop} {φ : List Addr} {ρ : En} {S : Sto} {σ : L2.St} {H : Hp} {ps : List PV} {vs : List V} {Q : VK} {p : Addr} (g : Rel (km X) B φ ρ S σ H) (t : RVs X.K (Mu B φ S) φ H ps vs)
    (q : RPost (km X) W B φ ρ S σ H (.ok (.loc S.length) (S ++ [some (.lst ps)])) Q) (hp : H p = none) : Q (.ref p) (L2.upd H p (.lst vs)) := by
  have f := fr_push (ob := .lst ps) (o := HO.lst vs) g.ag hp
  have L := f.lean g.ag
  have ag' := g.ag.push (ob := .lst ps) (o := HO.lst vs) hp ⟨vs, upd_same, RVs.lean L _ t⟩
  refine q (φ ++ [p]) (.ref p) _ f (g.stay f ag') ?_
  unfold RV
  exact ⟨p, by rw [← g.ag.len]; simp, rfl⟩
theorem op_addL : Op2 X rCat pAddL := fun W B φ ρ S σ H x y x' y' Q g r1 r2 q => by
  unfold pAddL at q
  split at q
  · rename_i xs ys e1 e2
    split at q
    · rename_i hz
      obtain ⟨a, vs, rfl, h1, t1⟩ := lstM_ok g.ag r1 e1
      obtain ⟨b, ws, rfl, h2, t2⟩ := lstM_ok g.ag r2 e2
      exact ⟨a, b, vs, ws, rfl, rfl, h1, h2, by rw [← t1.length, ← t2.length]; exact lim_le hz, fun p hp => new_lst g (t1.append t2) q hp⟩
    · exact q.elim
  · exact q.elim
def pAddS : P2 := fun x y S => match x, y with
  | .str a, .str b => if a.length + b.length ≤ lim then .ok (.str (a ++ b)) S else .fail
  | _, _ => .fail
def pAdd : P2 := fun x y S => match x, y with
  | .int i, .int j => .ok (.int (i + j)) S
  | .tup xs, .tup ys => pAddT (.tup xs) (.tup ys) S
  | .str a, .str b => pAddS (.str a) (.str b) S
  | x, y => pAddL x y S
abbrev rAddA (K : PySem.W.Frag) : R2 := fun x y H Q => (∃ i j, x = .int i ∧ y = .int j ∧ Q (.int (i + j)) H) ∨ rCatA K x y H Q ∨ (∃ i j, x = .str i ∧ y = .str j ∧ i.length + j.length ≤ sizeLine ∧ Q (.str (i ++ j)) H) ∨ rCat x y H Q
theorem or_add : OpR X (binaryOp .Add) (rAddA X.K) := op_add.or (op_catA.or (op_add_str.or op_cat))
theorem o2_add : Op2 X (rAddA X.K) pAdd := fun W B φ ρ S σ H x y x' y' Q g r1 r2 q => by
  unfold pAdd at q
  split at q
  · exact .inl ⟨_, _, r1.int_eq, r2.int_eq, q.here g (.int _)⟩
  · exact .inr (.inl (op_addT W B φ ρ S σ H _ _ x' y' Q g r1 r2 q))
  · unfold pAddS at q
    simp only at q
    split at q
    · rename_i hz
      exact .inr (.inr (.inl ⟨_, _, r1.str_eq, r2.str_eq, lim_le hz, q.here g (.str _)⟩))
    · exact q.elim
  · exact .inr (.inr (.inr (op_addL W B φ ρ S σ H _ _ x' y' Q g r1 r2 q)))
/-! #### other operators of ints -/
def fSub : Int → Int → Option PV := fun i j => some (.int (i - j))
theorem o2_sub : Op2 X (rI0 fun i j => .int (i - j)) (pI fSub) := op2_int fun i j p H Q e => by
  cases e; exact ⟨rfl, fun q => ⟨i, j, rfl, rfl, q⟩⟩
def fMul : Int → Int → Option PV := fun i j => if i.natAbs.log2 + j.natAbs.log2 < 1000000 then some (.int (i * j)) else none
theorem o2_mul : Op2 X (rI CMulW fun i j => .int (i * j)) (pI fMul) := op2_int fun i j p H Q e => by
  unfold fMul at e
  split at e
  · rename_i h; cases e; exact ⟨rfl, fun q => ⟨i, j, rfl, rfl, h, q⟩⟩
  · cases e
def fDiv : Int → Int → Option PV := fun i j => if 0 < j ∧ j.natAbs.log2 < 9000 then some (.int (i / j)) else none
theorem o2_div : Op2 X (rI CDivW fun i j => .int (i / j)) (pI fDiv) := op2_int fun i j p H Q e => by
  unfold fDiv at e
  split at e
  · rename_i h; cases e; exact ⟨rfl, fun q => ⟨i, j, rfl, rfl, h, q⟩⟩
  · cases e
def fMod : Int → Int → Option PV := fun i j => if 0 < j then some (.int (i % j)) else none
theorem o2_mod : Op2 X (rI (fun _ j => 0 < j) fun i j => .int (i % j)) (pI fMod) := op2_int fun i j p H Q e => by
  unfold fMod at e
  split at e
  · rename_i h; cases e; exact ⟨rfl, fun q => ⟨i, j, rfl, rfl, h, q⟩⟩
  · cases e
def fPow : Int → Int → Option PV := fun i j => if 0 ≤ j ∧ j ≤ 1000000 ∧ i.natAbs < 2 ^ 64 then some (.int (i ^ j.toNat)) else none
theorem o2_pow : Op2 X (rI CPow fun i j => .int (i ^ j.toNat)) (pI fPow) := op2_int fun i j p H Q e => by
  unfold fPow at e
  split at e
  · rename_i h; cases e; exact ⟨rfl, fun q => ⟨i, j, rfl, rfl, h, q⟩⟩
  · cases e
def fShl : Int → Int → Option PV := fun i j => if 0 ≤ j ∧ j ≤ 1000000 ∧ i.natAbs < 2 ^ 64 then some (.int (i * 2 ^ j.toNat)) else none
theorem o2_shl : Op2 X (rI CPow fun i j => .int (i * 2 ^ j.toNat)) (pI fShl) := op2_int fun i j p H Q e => by
  unfold fShl at e
  split at e
  · rename_i h; cases e; exact ⟨rfl, fun q => ⟨i, j, rfl, rfl, h, q⟩⟩
  · cases e
def fShr : Int → Int → Option PV := fun i j => if 0 ≤ j then some (.int (i / 2 ^ j.toNat)) else none
theorem o2_shr : Op2 X (rI (fun _ j => 0 ≤ j) fun i j => .int (i / 2 ^ j.toNat)) (pI fShr) := op2_int fun i j p H Q e => by
  unfold fShr at e
  split at e
  · rename_i h; cases e; exact ⟨rfl, fun q => ⟨i, j, rfl, rfl, h, q⟩⟩
  · cases e
def fAnd : Int → Int → Option PV := fun i j => if 0 ≤ i ∧ 0 ≤ j then some (.int ((i.toNat &&& j.toNat : Nat) : Int)) else none
theorem bitAnd_nn {x y : Int} (hx : 0 ≤ x) (hy : 0 ≤ y) : Builtin.bitAnd x y = ((x.toNat &&& y.toNat : Nat) : Int) := by
  unfold Builtin.bitAnd
  rw [decide_eq_true hx, decide_eq_true hy]
theorem o2_and : Op2 X (rI0 fun i j => .int (Builtin.bitAnd i j)) (pI fAnd) := op2_int fun i j p H Q e => by
  unfold fAnd at e
  split at e
  · rename_i h; cases e; exact ⟨rfl, fun q => ⟨i, j, rfl, rfl, by dsimp only; rw [bitAnd_nn h.1 h.2]; exact q⟩⟩
  · cases e
def fOr : Int → Int → Option PV := fun i j => if 0 ≤ i ∧ 0 ≤ j then some (.int ((i.toNat ||| j.toNat : Nat) : Int)) else none
theorem o2_or : Op2 X (rI0 fun i j => .int (Builtin.bitOr i j)) (pI fOr) := op2_int fun i j p H Q e => by
  unfold fOr at e
  split at e
  · rename_i h; cases e; exact ⟨rfl, fun q => ⟨i, j, rfl, rfl, by dsimp only; rw [bitOr_nn h.1 h.2]; exact q⟩⟩
  · cases e
/-! #### order of ints -/
def fLt : Int → Int → Option PV := fun i j => some (.bl (decide (i < j)))
def fLe : Int → Int → Option PV := fun i j => some (.bl (decide (i ≤ j)))
def fGt : Int → Int → Option PV := fun i j => some (.bl (decide (j < i)))
def fGe : Int → Int → Option PV := fun i j => some (.bl (decide (j ≤ i)))
theorem o2_lt : Op2 X (rI0 fun i j => .bl (decide (i < j))) (pI fLt) := op2_int fun i j p H Q e => by cases e; exact ⟨rfl, fun q => ⟨i, j, rfl, rfl, q⟩⟩
theorem o2_le : Op2 X (rI0 fun i j => .bl (decide (i ≤ j))) (pI fLe) := op2_int fun i j p H Q e => by cases e; exact ⟨rfl, fun q => ⟨i, j, rfl, rfl, q⟩⟩
theorem o2_gt : Op2 X (rI0 fun i j => .bl (decide (j < i))) (pI fGt) := op2_int fun i j p H Q e => by cases e; exact ⟨rfl, fun q => ⟨i, j, rfl, rfl, q⟩⟩
theorem o2_ge : Op2 X (rI0 fun i j => .bl (decide (j ≤ i))) (pI fGe) := op2_int fun i j p H Q e => by cases e; exact ⟨rfl, fun q => ⟨i, j, rfl, rfl, q⟩⟩
end
end Mir
/-! Mir: equality, membership, identity, truth, tests, displays, subscripts, slices. -/
namespace Mir
open PySem PySem.Spec PyProof.Rows L2
/-! ### as the library's data -/
mutual
def toD : PV → Option PyData
  | .non => some .none
  | .bl b => some (.bool b)
  | .int i => some (.int i)
  | .str x => some (.str x)
  | .tup ps => (toDs ps).map .tuple
  | .lst ps => (toDs ps).map .list
  | .fls ps => (toDs ps).map .list
  | .dct _ _ _ => none
  | .loc _ => none
def toDs : List PV → Option (List PyData)
  | [] => some []
  | p :: r => match toD p, toDs r with
    | some d, some ds => some (d :: ds)
    | _, _ => none
end
/-- a list of the store, read -/
def drf (S : Sto) : PV → PV
  | .loc n => match lstAt S n with
    | some ps => .lst ps
    | none => .loc n
  | x => x
section
variable {K : PySem.W.Frag} {M : Addr → Prop} {B : Addr → Prop} {φ φ' : List Addr} {S S' : Sto} {H H' : Hp}
mutual
theorem rv_dp : ∀ (p : PV) {v : V} {d : PyData}, RV K M φ H p v → toD p = some d → Dp K H v d
  | .non, _, _, r, e => by unfold toD at e; cases e; cases r.non_eq; exact .non
  | .bl _, _, _, r, e => by unfold toD at e; cases e; cases r.bl_eq; exact .bl _
  | .int _, _, _, r, e => by unfold toD at e; cases e; cases r.int_eq; exact .int _
  | .str _, _, _, r, e => by unfold toD at e; cases e; cases r.str_eq; exact .str _
  | .tup ps, _, _, r, e => by
    unfold toD at e
    unfold RV at r
    obtain ⟨a, vs, rfl, h, t⟩ := r
    cases e2 : toDs ps with
    | none => rw [e2] at e; cases e
    | some ds => rw [e2] at e; cases e; exact .tup (.of h) (rvs_dp ps t e2)
  | .lst ps, _, _, r, e => by
    unfold toD at e
    unfold RV at r
    obtain ⟨a, vs, rfl, h, t⟩ := r
    cases e2 : toDs ps with
    | none => rw [e2] at e; cases e
    | some ds => rw [e2] at e; cases e; exact .lst (.of h.2) (rvs_dp ps t e2)
  | .fls ps, _, _, r, e => by
    unfold toD at e
    unfold RV at r
    obtain ⟨a, vs, rfl, h, t⟩ := r
    have h' : SqL K H a vs := by
      rcases h with ⟨o, h⟩ | h
      · exact .inl (.inr ⟨o, h⟩)
      · exact .inr h
    cases e2 : toDs ps with
    | none => rw [e2] at e; cases e
    | some ds => rw [e2] at e; cases e; exact .lst h' (rvs_dp ps t e2)
  | .dct _ _ _, _, _, _, e => by unfold toD at e; cases e
  | .loc _, _, _, _, e => by unfold toD at e; cases e
theorem rvs_dp : ∀ (ps : List PV) {vs : List V} {ds : List PyData}, RVs K M φ H ps vs → toDs ps = some ds → DpAll K H vs ds
  | [], _, _, r, e => by unfold toDs at e; cases e; unfold RVs at r; subst r; exact .nil
  | p :: ps, _, _, r, e => by
    unfold toDs at e
    obtain ⟨v, ws, rfl, h1, h2⟩ := r.uncons
    cases e1 : toD p with
    | none => rw [e1] at e; cases e
    | some d =>
      cases e2 : toDs ps with
      | none => rw [e1, e2] at e; cases e
      | some ds => rw [e1, e2] at e; cases e; exact .cons (rv_dp p h1 e1) (rvs_dp ps h2 e2)
end
theorem drf_dp (g : Ag K B φ S H) {p : PV} {v : V} {d : PyData} (r : RV K (Mu B φ S) φ H p v) (e : toD (drf S p) = some d) : Dp K H v d := by
  unfold drf at e
  split at e
  · rename_i n
    cases e2 : lstAt S n with
    | none => rw [e2] at e; unfold toD at e; cases e
    | some ps =>
      rw [e2] at e
      obtain ⟨a, vs, rfl, _, _, h, t⟩ := loc_lst g r e2
      unfold toD at e
      cases e3 : toDs ps with
      | none => rw [e3] at e; cases e
      | some ds => rw [e3] at e; cases e; exact .lst (.of h) (rvs_dp ps t e3)
  · exact rv_dp _ r e
end
section
variable {X : Cx} {W : WX} {pos : Pos}
/-! ### == and != at any depth -/
def eqP (neg : Bool) (x y : PV) : Option PV := match toD x, toD y with
  | some d, some e => if SeqAt.shaped d && SeqAt.shaped e then some (.bl (if neg then !PyData.eqv d e else PyData.eqv d e)) else none
  | _, _ => none
def pEq (neg : Bool) : P2 := fun x y S => R.of S (eqP neg (drf S x) (drf S y))
theorem o2_eq : Op2 X (rEqD X.K) (pEq false) := fun W B φ ρ S σ H x y x' y' Q g r1 r2 q => by
  unfold pEq eqP at q
  split at q
  · rename_i d e h1 h2
    split at q
    · rename_i hs
      rw [Bool.and_eq_true] at hs
      exact ⟨d, e, drf_dp g.ag r1 h1, drf_dp g.ag r2 h2, hs.1, hs.2, q.here g (.bl _)⟩
    · exact q.elim
  · exact q.elim
theorem o2_ne : Op2 X (rNeD X.K) (pEq true) := fun W B φ ρ S σ H x y x' y' Q g r1 r2 q => by
  unfold pEq eqP at q
  split at q
  · rename_i d e h1 h2
    split at q
    · rename_i hs
      rw [Bool.and_eq_true] at hs
      exact ⟨d, e, drf_dp g.ag r1 h1, drf_dp g.ag r2 h2, hs.1, hs.2, q.here g (.bl _)⟩
    · exact q.elim
  · exact q.elim
/-! ### in and not in, of lists and tuples -/
def rInA (K : PySem.W.Frag) (neg : Bool) : R2 := fun x y H Q => ∃ d ds, Dp K H x d ∧ (Dp K H y (.list ds) ∨ Dp K H y (.tuple ds)) ∧ SeqAt.shaped d = true ∧ PyData.canLayAll0 ds = true ∧ Q (.bl (if neg then !ds.any fun z => PyData.eqv z d else ds.any fun z => PyData.eqv z d)) H
theorem or_in (hu : X.A.units + 65 < cLine) : OpR X (compareOp .In) (rInA X.K false) := by
  intro pins s σ H x y v u Q I rx ry h
  obtain ⟨d, ds, hd, he, sd, se, q⟩ := h
  obtain ⟨as, r1⟩ := Dp.reads I d x v hd rx
  rcases he with he | he
  · obtain ⟨bs, r2⟩ := Dp.reads I _ y u he ry
    exact SeqAt.in_list_reads r2 r1 se (SeqAt.canLay_of_shaped sd) (room_in_shaped sd hu) ⟨.bl _, H, I, rfl, q⟩
  · obtain ⟨bs, r2⟩ := Dp.reads I _ y u he ry
    exact SeqAt.in_tuple_reads r2 r1 se (SeqAt.canLay_of_shaped sd) (room_in_shaped sd hu) ⟨.bl _, H, I, rfl, q⟩
theorem or_notIn (hu : X.A.units + 65 < cLine) : OpR X (compareOp .NotIn) (rInA X.K true) := by
  intro pins s σ H x y v u Q I rx ry h
  obtain ⟨d, ds, hd, he, sd, se, q⟩ := h
  obtain ⟨as, r1⟩ := Dp.reads I d x v hd rx
  rcases he with he | he
  · obtain ⟨bs, r2⟩ := Dp.reads I _ y u he ry
    exact SeqAt.notIn_list_reads r2 r1 se (SeqAt.canLay_of_shaped sd) (room_in_shaped sd hu) ⟨.bl _, H, I, rfl, q⟩
  · obtain ⟨bs, r2⟩ := Dp.reads I _ y u he ry
    exact SeqAt.notIn_tuple_reads r2 r1 se (SeqAt.canLay_of_shaped sd) (room_in_shaped sd hu) ⟨.bl _, H, I, rfl, q⟩
def seqD : PyData → Option (List PyData)
  | .list ds => some ds
  | .tuple ds => some ds
  | _ => none
def inP (neg : Bool) (x y : PV) : Option PV := match toD x, (toD y).bind seqD with
  | some d, some ds => if SeqAt.shaped d && PyData.canLayAll0 ds then some (.bl (if neg then !ds.any fun z => PyData.eqv z d else ds.any fun z => PyData.eqv z d)) else none
  | _, _ => none
def pIn (neg : Bool) : P2 := fun x y S => R.of S (inP neg (drf S x) (drf S y))
theorem o2_in {neg : Bool} : Op2 X (rInA X.K neg) (pIn neg) := fun W B φ ρ S σ H x y x' y' Q g r1 r2 q => by
  unfold pIn inP at q
  split at q
  · rename_i d ds h1 h2
    split at q
    · rename_i hs
      rw [Bool.and_eq_true] at hs
      refine ⟨d, ds, drf_dp g.ag r1 h1, ?_, hs.1, hs.2, q.here g (.bl _)⟩
      cases h3 : toD (drf S y) with
      | none => rw [h3] at h2; cases h2
      | some e =>
        rw [h3] at h2
        have h4 := drf_dp g.ag r2 h3
        cases e <;> first
          | (cases h2; done)
          | (cases h2; exact .inl h4)
          | (cases h2; exact .inr h4)
    · exact q.elim
  · exact q.elim
/-! ### is, is not: None, True, False on the right -/
def rIsC (neg : Bool) : R2 := fun x y H Q => (y = .non ∨ ∃ b, y = .bl b) ∧ Q (.bl (if neg then !decide (x = y) else decide (x = y))) H
theorem or_is : OpR X (compareOp .Is) (rIsC false) := by
  intro pins s σ H x y v u Q I rx ry h
  obtain ⟨hy, q⟩ := h
  rcases hy with rfl | ⟨b, rfl⟩
  · exact op_isN pins s σ H x _ v u Q I rx ry ⟨rfl, q⟩
  · cases (show u = Value.bool b from ry)
    cases x with
    | bl a =>
      refine op_is_bl pins s σ H (.bl a) (.bl b) v _ Q I rx rfl ⟨a, b, rfl, rfl, ?_⟩
      have e : decide (V.bl a = V.bl b) = decide (a = b) := by by_cases h : a = b <;> simp [h]
      rw [← e]; exact q
    | non => cases (show v = Value.none from rx); exact wpAny_is_other rfl (by intro z; cases z) ⟨.bl false, H, I, rfl, q⟩
    | int i => obtain ⟨t, rfl⟩ := rx; exact wpAny_is_other rfl (by intro z; cases z) ⟨.bl false, H, I, rfl, q⟩
    | str i => obtain ⟨t, rfl⟩ := rx; exact wpAny_is_other rfl (by intro z; cases z) ⟨.bl false, H, I, rfl, q⟩
    | byt i => obtain ⟨t, rfl⟩ := rx; exact wpAny_is_other rfl (by intro z; cases z) ⟨.bl false, H, I, rfl, q⟩
    | flt i => obtain ⟨t, rfl⟩ := rx; exact wpAny_is_other rfl (by intro z; cases z) ⟨.bl false, H, I, rfl, q⟩
    | ref i => cases rx; exact wpAny_is_other rfl (by intro z; cases z) ⟨.bl false, H, I, rfl, q⟩
    | ty i => cases rx; exact wpAny_is_other rfl (by intro z; cases z) ⟨.bl false, H, I, rfl, q⟩
theorem or_isNot : OpR X (compareOp .IsNot) (rIsC true) := by
  intro pins s σ H x y v u Q I rx ry h
  obtain ⟨hy, q⟩ := h
  rcases hy with rfl | ⟨b, rfl⟩
  · exact op_notN pins s σ H x _ v u Q I rx ry ⟨rfl, q⟩
  · cases (show u = Value.bool b from ry)
    cases x with
    | bl a =>
      refine op_isnot_bl pins s σ H (.bl a) (.bl b) v _ Q I rx rfl ⟨a, b, rfl, rfl, ?_⟩
      have e : decide (V.bl a = V.bl b) = decide (a = b) := by by_cases h : a = b <;> simp [h]
      rw [← e]; exact q
    | non => cases (show v = Value.none from rx); exact wpAny_isNot_other rfl (by intro z; cases z) ⟨.bl true, H, I, rfl, q⟩
    | int i => obtain ⟨t, rfl⟩ := rx; exact wpAny_isNot_other rfl (by intro z; cases z) ⟨.bl true, H, I, rfl, q⟩
    | str i => obtain ⟨t, rfl⟩ := rx; exact wpAny_isNot_other rfl (by intro z; cases z) ⟨.bl true, H, I, rfl, q⟩
    | byt i => obtain ⟨t, rfl⟩ := rx; exact wpAny_isNot_other rfl (by intro z; cases z) ⟨.bl true, H, I, rfl, q⟩
    | flt i => obtain ⟨t, rfl⟩ := rx; exact wpAny_isNot_other rfl (by intro z; cases z) ⟨.bl true, H, I, rfl, q⟩
    | ref i => cases rx; exact wpAny_isNot_other rfl (by intro z; cases z) ⟨.bl true, H, I, rfl, q⟩
    | ty i => cases rx; exact wpAny_isNot_other rfl (by intro z; cases z) ⟨.bl true, H, I, rfl, q⟩
def isC : PV → PV → Bool
  | .non, .non => true
  | .bl a, .bl b => a == b
  | _, _ => false
def pIs (neg : Bool) : P2 := fun x y S => match y with
  | .non => .ok (.bl (if neg then !isC x .non else isC x .non)) S
  | .bl b => .ok (.bl (if neg then !isC x (.bl b) else isC x (.bl b))) S
  | _ => .fail
theorem RV.ref_of {K : PySem.W.Frag} {M : Addr → Prop} {φ : List Addr} {H : Hp} {p : PV} {v : V} (r : RV K M φ H p v) (h : isSc p = false) : ∃ a, v = .ref a := by
  cases p with
  | tup ps => unfold RV at r; obtain ⟨a, _, e, _⟩ := r; exact ⟨a, e⟩
  | lst ps => unfold RV at r; obtain ⟨a, _, e, _⟩ := r; exact ⟨a, e⟩
  | fls ps => unfold RV at r; obtain ⟨a, _, e, _⟩ := r; exact ⟨a, e⟩
  | dct t ks ps => unfold RV at r; obtain ⟨a, _, e, _⟩ := r; exact ⟨a, e⟩
  | loc n => unfold RV at r; obtain ⟨a, _, e⟩ := r; exact ⟨a, e⟩
  | _ => cases h
theorem isC_non {K : PySem.W.Frag} {M : Addr → Prop} {φ : List Addr} {H : Hp} {p : PV} {v : V} (r : RV K M φ H p v) : decide (v = .non) = isC p .non := by
  cases p with
  | non => cases r.non_eq; rfl
  | bl b => cases r.bl_eq; rfl
  | int b => cases r.int_eq; rfl
  | str b => cases r.str_eq; rfl
  | _ => obtain ⟨a, rfl⟩ := r.ref_of rfl; rfl
theorem isC_bl {K : PySem.W.Frag} {M : Addr → Prop} {φ : List Addr} {H : Hp} {p : PV} {v : V} {b : Bool} (r : RV K M φ H p v) : decide (v = .bl b) = isC p (.bl b) := by
  cases p with
  | non => cases r.non_eq; rfl
  | bl b => cases r.bl_eq; unfold isC; rename_i c; cases b <;> cases c <;> rfl
  | int b => cases r.int_eq; rfl
  | str b => cases r.str_eq; rfl
  | _ => obtain ⟨a, rfl⟩ := r.ref_of rfl; rfl
theorem o2_is {neg : Bool} : Op2 X (rIsC neg) (pIs neg) := fun W B φ ρ S σ H x y x' y' Q g r1 r2 q => by
  unfold pIs at q
  split at q
  · cases r2.non_eq
    refine ⟨.inl rfl, ?_⟩
    rw [isC_non r1]
    exact q.here g (.bl _)
  · cases r2.bl_eq
    refine ⟨.inr ⟨_, rfl⟩, ?_⟩
    rw [isC_bl r1]
    exact q.here g (.bl _)
  · exact q.elim
/-! ### tests -/
def truth (S : Sto) : PV → Option Bool
  | .non => some false
  | .bl b => some b
  | .int i => some (i != 0)
  | .str y => if y.length ≤ lim then some ((y.length : Int) != 0) else none
  | .tup ps => some (!ps.isEmpty)
  | .lst ps => some (!ps.isEmpty)
  | .fls ps => some (!ps.isEmpty)
  | .loc n => (lstAt S n).map fun ps => !ps.isEmpty
  | .dct _ _ _ => none
def tTru (m : EM) : TM := fun ρ S => (m ρ S).bind fun v S1 => R.of S1 (truth S1 v)
theorem rvs_empty {K : PySem.W.Frag} {M : Addr → Prop} {φ : List Addr} {H : Hp} {ps : List PV} {vs : List V} (t : RVs K M φ H ps vs) : (!ps.isEmpty) = !vs.isEmpty := by
  have := t.length
  cases ps <;> cases vs <;> simp at this ⊢
theorem truth_ok {K : PySem.W.Frag} {B : Addr → Prop} {φ : List Addr} {S : Sto} {H : Hp} {p : PV} {v : V} {b : Bool} (g : Ag K B φ S H) (r : RV K (Mu B φ S) φ H p v) (e : truth S p = some b) : TruV K v H b := by
  cases p with
  | non => cases r.non_eq; cases e; rfl
  | bl b => cases r.bl_eq; cases e; rfl
  | int b => cases r.int_eq; cases e; rfl
  | str b =>
    cases r.str_eq
    simp only [truth] at e
    split at e
    · rename_i h; cases e; exact ⟨lim_le h, rfl⟩
    · cases e
  | tup ps => unfold RV at r; obtain ⟨a, vs, rfl, h, t⟩ := r; cases e; exact .inr (.inl ⟨vs, .of h, rvs_empty t⟩)
  | lst ps => obtain ⟨a, vs, rfl, h, t⟩ := lstL_ok g r rfl; cases e; exact .inl ⟨vs, h, rvs_empty t⟩
  | fls ps => obtain ⟨a, vs, rfl, h, t⟩ := lstL_ok g r rfl; cases e; exact .inl ⟨vs, h, rvs_empty t⟩
  | loc n =>
    simp only [truth] at e
    cases e2 : lstAt S n with
    | none => rw [e2] at e; cases e
    | some ps =>
      rw [e2] at e; cases e
      obtain ⟨a, vs, rfl, h, t⟩ := lstL_ok g r (show lstL S (.loc n) = some ps from e2)
      exact .inl ⟨vs, h, rvs_empty t⟩
  | dct t ks ps => cases e
theorem st_tru {e : Expr} {m : EM} (h : SE X W e m) (he : ∀ whole, isTrue e X.env whole = (do let v ← whole; standAt e.pos; holding [v] (truthy v)) := by intro _; rfl) : ST X W e (tTru m) := by
  refine PT.via (pt_truth h he) fun σ H Q ⟨B, φ, ρ, S, g, q⟩ => ?_
  refine tE.of g (RPost.bindT q) fun v' H1 ⟨φ1, S1, v, m1, rv, q1⟩ => ?_
  cases e2 : truth S1 v with
  | none => rw [e2] at q1; exact q1.elim
  | some b => rw [e2] at q1; exact ⟨b, truth_ok m1.rel.ag rv e2, q1.here m1.rel⟩
/-- a comparison as a test -/
def tBin (f : P2) (a b : EM) : TM := fun ρ S => (eBin f a b ρ S).bind fun v S1 => match v with
  | .bl c => .ok c S1
  | _ => .fail
theorem st_cmp {op : CmpOp} {r : R2} {f : P2} {a b : Expr} {ma mb : EM} (ho : OpR X (compareOp op) r) (h : Op2 X r f) (hm : behindInMarks op b = false) (ha : SE X W a ma) (hb : SE X W b mb) : ST X W (.Compare a [op] [b] pos) (tBin f ma mb) := by
  refine PT.via (pt_cmpR ho ha hb hm) fun σ H Q ⟨B, φ, ρ, S, g, q⟩ => ?_
  refine op2_run h ⟨B, φ, ρ, S, g, (RPost.bindT q).mono fun v' H1 ⟨φ1, S1, v, m1, rv, q1⟩ => ?_⟩
  cases v with
  | bl c => cases rv.bl_eq; exact ⟨c, rfl, q1.here m1.rel⟩
  | _ => exact q1.elim
def tNotT (m : TM) : TM := fun ρ S => (m ρ S).bind fun b S1 => .ok (!b) S1
theorem st_not {e : Expr} {m : TM} (h : ST X W e m) : ST X W (.UnaryOp .Not e pos) (tNotT m) := by
  refine PT.via (pt_not h) fun σ H Q ⟨B, φ, ρ, S, g, q⟩ => ?_
  refine tT.of g (TPost.bindT q) fun b H1 ⟨φ1, S1, m1, q1⟩ => q1.here m1.rel
def tAndM (a b : TM) : TM := fun ρ S => (a ρ S).bind fun c S1 => if c then b ρ S1 else .ok false S1
def tOrM (a b : TM) : TM := fun ρ S => (a ρ S).bind fun c S1 => if c then .ok true S1 else b ρ S1
theorem sw_and1 {a : Expr} {m : TM} (h : ST X W a m) : SW X W (.BoolOp .And [a] pos) m := pw_and1 h
theorem sw_or1 {a : Expr} {m : TM} (h : ST X W a m) : SW X W (.BoolOp .Or [a] pos) m := pw_or1 h
theorem sw_and {a b : Expr} {rest : List Expr} {m n : TM} (h : ST X W a m) (h' : SW X W (.BoolOp .And (b :: rest) pos) n) : SW X W (.BoolOp .And (a :: b :: rest) pos) (tAndM m n) := by
  refine PW.via (pw_and h h') fun σ H Q ⟨B, φ, ρ, S, g, q⟩ => ?_
  refine tT.of g (TPost.bindT q) fun b H1 ⟨φ1, S1, m1, q1⟩ => ?_
  cases b with
  | true => rw [if_pos rfl] at q1 ⊢; exact ⟨B, φ1, ρ, S1, m1.rel, q1⟩
  | false => rw [if_neg Bool.false_ne_true] at q1 ⊢; exact q1.here m1.rel
theorem sw_or {a b : Expr} {rest : List Expr} {m n : TM} (h : ST X W a m) (h' : SW X W (.BoolOp .Or (b :: rest) pos) n) : SW X W (.BoolOp .Or (a :: b :: rest) pos) (tOrM m n) := by
  refine PW.via (pw_or h h') fun σ H Q ⟨B, φ, ρ, S, g, q⟩ => ?_
  refine tT.of g (TPost.bindT q) fun b H1 ⟨φ1, S1, m1, q1⟩ => ?_
  cases b with
  | true => rw [if_pos rfl] at q1 ⊢; exact q1.here m1.rel
  | false => rw [if_neg Bool.false_ne_true] at q1 ⊢; exact ⟨B, φ1, ρ, S1, m1.rel, q1⟩
theorem st_w {e : Expr} {m : TM} (h : SW X W e m) : ST X W e m := PW.pt h
/-! ### and, or, not as values; a if t else b -/
def eAnd (a b : EM) : EM := fun ρ S => (a ρ S).bind fun x S1 => match truth S1 x with
  | some true => b ρ S1
  | some false => .ok x S1
  | none => .fail
def eOr (a b : EM) : EM := fun ρ S => (a ρ S).bind fun x S1 => match truth S1 x with
  | some true => .ok x S1
  | some false => b ρ S1
  | none => .fail
def eNot (a : EM) : EM := fun ρ S => (a ρ S).bind fun x S1 => match truth S1 x with
  | some b => .ok (.bl (!b)) S1
  | none => .fail
theorem se_one {op} {a : Expr} {m : EM} (h : SE X W a m) : SE X W (.BoolOp op [a] pos) m := pe_one h
theorem se_and {a b : Expr} {rest : List Expr} {m n : EM} (h : SE X W a m) (h' : SE X W (.BoolOp .And (b :: rest) pos) n) : SE X W (.BoolOp .And (a :: b :: rest) pos) (eAnd m n) := by
  refine PE.via (pe_andT h h') fun σ H Q ⟨B, φ, ρ, S, g, q⟩ => ?_
  refine tE.of g q.bind fun v' H1 ⟨φ1, S1, v, m1, rv, q1⟩ => ?_
  cases e2 : truth S1 v with
  | none => rw [e2] at q1; exact q1.elim
  | some b =>
    rw [e2] at q1
    refine ⟨b, truth_ok m1.rel.ag rv e2, ?_⟩
    cases b with
    | true => rw [if_pos rfl]; exact ⟨B, φ1, ρ, S1, m1.rel, q1⟩
    | false => rw [if_neg Bool.false_ne_true]; exact q1.here m1.rel rv
theorem se_or {a b : Expr} {rest : List Expr} {m n : EM} (h : SE X W a m) (h' : SE X W (.BoolOp .Or (b :: rest) pos) n) : SE X W (.BoolOp .Or (a :: b :: rest) pos) (eOr m n) := by
  refine PE.via (pe_orT h h') fun σ H Q ⟨B, φ, ρ, S, g, q⟩ => ?_
  refine tE.of g q.bind fun v' H1 ⟨φ1, S1, v, m1, rv, q1⟩ => ?_
  cases e2 : truth S1 v with
  | none => rw [e2] at q1; exact q1.elim
  | some b =>
    rw [e2] at q1
    refine ⟨b, truth_ok m1.rel.ag rv e2, ?_⟩
    cases b with
    | true => rw [if_pos rfl]; exact q1.here m1.rel rv
    | false => rw [if_neg Bool.false_ne_true]; exact ⟨B, φ1, ρ, S1, m1.rel, q1⟩
theorem se_not {a : Expr} {m : EM} (h : SE X W a m) : SE X W (.UnaryOp .Not a pos) (eNot m) := by
  refine PE.via (pe_notT h) fun σ H Q ⟨B, φ, ρ, S, g, q⟩ => ?_
  refine tE.of g q.bind fun v' H1 ⟨φ1, S1, v, m1, rv, q1⟩ => ?_
  cases e2 : truth S1 v with
  | none => rw [e2] at q1; exact q1.elim
  | some b => rw [e2] at q1; exact ⟨b, truth_ok m1.rel.ag rv e2, q1.here m1.rel (.bl _)⟩
def eIf (c : TM) (a b : EM) : EM := fun ρ S => (c ρ S).bind fun d S1 => if d then a ρ S1 else b ρ S1
theorem se_if {c a b : Expr} {mc : TM} {ma mb : EM} (hc : ST X W c mc) (ha : SE X W a ma) (hb : SE X W b mb) : SE X W (.IfExp c a b pos) (eIf mc ma mb) := by
  refine PE.via (pe_ifExp hc ha hb) fun σ H Q ⟨B, φ, ρ, S, g, q⟩ => ?_
  refine tT.of g (TPost.bind q) fun b H1 ⟨φ1, S1, m1, q1⟩ => ?_
  cases b with
  | true => rw [if_pos rfl] at q1 ⊢; exact ⟨B, φ1, ρ, S1, m1.rel, q1⟩
  | false => rw [if_neg Bool.false_ne_true] at q1 ⊢; exact ⟨B, φ1, ρ, S1, m1.rel, q1⟩
/-! ### one place -/
def eNeg (a : EM) : EM := fun ρ S => (a ρ S).bind fun x S1 => match x with
  | .int i => .ok (.int (-i)) S1
  | _ => .fail
theorem se_neg {a : Expr} {m : EM} (h : SE X W a m) : SE X W (.UnaryOp .USub a pos) (eNeg m) := by
  refine PE.via (pe_un un_neg h) fun σ H Q ⟨B, φ, ρ, S, g, q⟩ => ?_
  refine tE.of g q.bind fun v' H1 ⟨φ1, S1, v, m1, rv, q1⟩ => ?_
  cases v with
  | int i => cases rv.int_eq; exact ⟨i, rfl, q1.here m1.rel (.int _)⟩
  | _ => exact q1.elim
/-! ### argument lists, displays -/
def aNil : AM := fun _ S => .ok [] S
def aCons (a : EM) (r : AM) : AM := fun ρ S => (a ρ S).bind fun x S1 => (r ρ S1).bind fun xs S2 => .ok (x :: xs) S2
theorem sa_nil : SA X W [] aNil := PA.via pa_nil fun σ H Q ⟨B, φ, ρ, S, g, q⟩ => q φ [] H (Fr.refl _ _ _) g .nil
theorem tA_cons {a : EM} {r : AM} {σ : L2.St} {H : Hp} {Q : List V → Hp → Prop} (q : tA (km X) W (aCons a r) σ H Q) : tE (km X) W a σ H fun x H1 => tA (km X) W r σ H1 fun xs H2 => Q (x :: xs) H2 := by
  obtain ⟨B, φ, ρ, S, g, q⟩ := q
  refine tE.of g (RPost.bindA q) fun v' H1 ⟨φ1, S1, v, m1, rv, q1⟩ => ?_
  refine tA.of m1.rel q1.bindA fun vs' H2 ⟨φ2, S2, vs, m2, rvs, q2⟩ => ?_
  exact q2 φ2 _ H2 (Fr.refl _ _ _) m2.rel (.cons (rv.stay m1.rel.ag m2.fr) rvs)
theorem sa_cons {e : Expr} {es : List Expr} {a : EM} {r : AM} (h : SE X W e a) (h' : SA X W es r) (hs : starEach (e :: es) X.env = (false, eval e X.env) :: starEach es X.env := by rfl) : SA X W (e :: es) (aCons a r) :=
  PA.via (pa_cons h h' hs) fun _ _ _ q => tA_cons q
def eTup (r : AM) : EM := fun ρ S => (r ρ S).bind fun xs S1 => if xs.length ≤ lim then .ok (.tup xs) S1 else .fail
def eLst (r : AM) : EM := fun ρ S => (r ρ S).bind fun xs S1 => if xs.length ≤ lim then .ok (.lst xs) S1 else .fail
def eNew (r : AM) : EM := fun ρ S => (r ρ S).bind fun xs S1 => if xs.length ≤ lim then .ok (.loc S1.length) (S1 ++ [some (.lst xs)]) else .fail
theorem se_tup {es : List Expr} {r : AM} {x1} (h : SA X W es r) : SE X W (.Tuple es x1 pos) (eTup r) := by
  refine PE.via (pe_tup h) fun σ H Q ⟨B, φ, ρ, S, g, q⟩ => ?_
  refine tA.of g (APost.bind q) fun vs' H1 ⟨φ1, S1, vs, m1, rvs, q1⟩ => ?_
  split at q1
  · rename_i hz
    exact ⟨by rw [← rvs.length]; exact lim_le hz, fun p hp => new_tup m1.rel rvs q1 hp⟩
  · exact q1.elim
theorem se_lst {es : List Expr} {r : AM} (h : SA X W es r) : SE X W (.List es pos) (eLst r) := by
  refine PE.via (pe_lst h) fun σ H Q ⟨B, φ, ρ, S, g, q⟩ => ?_
  refine tA.of g (APost.bind q) fun vs' H1 ⟨φ1, S1, vs, m1, rvs, q1⟩ => ?_
  split at q1
  · rename_i hz
    exact ⟨by rw [← rvs.length]; exact lim_le hz, fun p hp => new_lst m1.rel rvs q1 hp⟩
  · exact q1.elim
theorem se_new {es : List Expr} {r : AM} (h : SA X W es r) : SE X W (.List es pos) (eNew r) := by
  refine PE.via (pe_lst h) fun σ H Q ⟨B, φ, ρ, S, g, q⟩ => ?_
  refine tA.of g (APost.bind q) fun vs' H1 ⟨φ1, S1, vs, m1, rvs, q1⟩ => ?_
  split at q1
  · rename_i hz
    exact ⟨by rw [← rvs.length]; exact lim_le hz, fun p hp => new_loc m1.rel rvs q1 hp⟩
  · exact q1.elim
/-! ### subscripts, slices -/
def pIx : P2 := fun x y S => match y with
  | .int i => match x with
    | .str z => if z.length ≤ lim then (match atI z.cps.toList i with
      | some c => .ok (.str ⟨#[c]⟩) S
      | none => .fail) else .fail
    | x => match seqL S x with
      | some ps => (match atI ps i with
        | some p => .ok p S
        | none => .fail)
      | none => .fail
  | _ => .fail
theorem atI_rvs {K : PySem.W.Frag} {M : Addr → Prop} {φ : List Addr} {H : Hp} {ps : List PV} {vs : List V} {i : Int} {p : PV} (t : RVs K M φ H ps vs) (e : atI ps i = some p) : ∃ v, atI vs i = some v ∧ RV K M φ H p v := by
  unfold atI at e ⊢
  rw [← t.length]
  cases e2 : ixN ps.length i with
  | none => rw [e2] at e; cases e
  | some j =>
    rw [e2] at e
    exact t.get e
theorem o2_ix : Op2 X (rIx X.K) pIx := fun W B φ ρ S σ H x y x' y' Q g r1 r2 q => by
  unfold pIx at q
  split at q
  · rename_i i
    cases r2.int_eq
    split at q
    · rename_i z
      cases r1.str_eq
      split at q
      · rename_i hz
        split at q
        · rename_i c hc
          exact .inr (.inr ⟨z, i, c, rfl, rfl, lim_le hz, hc, q.here g (.str _)⟩)
        · exact q.elim
      · exact q.elim
    · split at q
      · rename_i ps e
        obtain ⟨a, vs, rfl, h, t⟩ := seqL_ok g.ag r1 e
        split at q
        · rename_i p hp
          obtain ⟨v, hv, rv⟩ := atI_rvs t hp
          rcases h with h | h
          · exact .inl ⟨a, vs, i, v, rfl, rfl, h, hv, q.here g rv⟩
          · exact .inr (.inl ⟨a, vs, i, v, rfl, rfl, h, hv, q.here g rv⟩)
        · exact q.elim
      · exact q.elim
  · exact q.elim
theorem se_ix {a b : Expr} {ma mb : EM} (ha : SE X W a ma) (hb : SE X W b mb) (hs : PlainIx b := by intro _ _; rfl) : SE X W (.Subscript a b pos) (eBin pIx ma mb) :=
  PE.via (pe_ix ix_seq ha hb hs) fun _ _ _ q => op2_run o2_ix q
/-- a slice's part -/
abbrev OM := En → Sto → R (Option Int)
def oNone : OM := fun _ S => .ok none S
def oSome (m : EM) : OM := fun ρ S => (m ρ S).bind fun v S1 => match v with
  | .int i => .ok (some i) S1
  | _ => .fail
def OPost (X : KM) (W : WX) (B : Addr → Prop) (φ : List Addr) (ρ : En) (S : Sto) (σ : L2.St) (H : Hp) (r : R (Option Int)) (Q : Option Int → Hp → Prop) : Prop := match r with
  | .ok v S' => ∀ φ' H', Fr φ S H φ' S' H' → Rel X B φ' ρ S' σ H' → Q v H'
  | .exc c a S' => XPost X W B φ ρ S σ H c a S'
  | .fail => False
def tO (X : KM) (W : WX) (m : OM) : TO := fun σ H Q => ∃ B φ ρ S, Rel X B φ ρ S σ H ∧ OPost X W B φ ρ S σ H (m ρ S) Q
def SO (X : Cx) (W : WX) (e : Option Expr) (m : OM) : Prop := PO X e (tO (km X) W m)
theorem so_none : SO X W none oNone := ⟨fun pins s σ H Q I ⟨B, φ, ρ, S, g, q⟩ => po_none.run pins s σ H Q I (q φ H (Fr.refl _ _ _) g)⟩
theorem so_some {e : Expr} {m : EM} (h : SE X W e m) : SO X W (some e) (oSome m) := by
  refine ⟨fun pins s σ H Q I ⟨B, φ, ρ, S, g, q⟩ => (po_some h).run pins s σ H Q I ?_⟩
  refine ⟨B, φ, ρ, S, g, ?_⟩
  unfold oSome at q
  cases e1 : m ρ S with
  | ok v S1 =>
    rw [e1] at q
    cases v with
    | int i => exact fun φ' v' H' f r rv => by cases rv.int_eq; exact ⟨i, rfl, q φ' H' f r⟩
    | _ => exact q.elim
  | exc c a S1 => rw [e1] at q; exact q
  | fail => rw [e1] at q; exact q
def cutP (ps : List PV) (lo hi : Option Int) : List PV := (ps.drop (HT.sIx ps.length 0 lo)).take (HT.sIx ps.length ps.length hi - HT.sIx ps.length 0 lo)
/-- a slice of a list (a new value), of a tuple -/
def pSl (x : PV) (lo hi : Option Int) : Sto → R PV := fun S => match x with
  | .tup ps => .ok (.tup (cutP ps lo hi)) S
  | x => match lstL S x with
    | some ps => .ok (.lst (cutP ps lo hi)) S
    | none => .fail
def eSl (a : EM) (lo hi : OM) : EM := fun ρ S => (a ρ S).bind fun x S1 => (lo ρ S1).bind fun l S2 => (hi ρ S2).bind fun h S3 => pSl x l h S3
theorem rvs_cut {K : PySem.W.Frag} {M : Addr → Prop} {φ : List Addr} {H : Hp} {ps : List PV} {vs : List V} {lo hi : Option Int} (t : RVs K M φ H ps vs) : RVs K M φ H (cutP ps lo hi) (cutV vs lo hi) := by
  unfold cutP cutV
  rw [← t.length]
  exact (t.drop _).take _
theorem OPost.bind {B : Addr → Prop} {φ : List Addr} {ρ : En} {S : Sto} {σ : L2.St} {H : Hp} {r : R (Option Int)} {k : Option Int → Sto → R PV} {Q : VK} (h : RPost (km X) W B φ ρ S σ H (r.bind k) Q) :
    OPost (km X) W B φ ρ S σ H r (fun v H' => ∃ φ' S', Mid (km X) B φ ρ S σ H φ' S' H' ∧ RPost (km X) W B φ' ρ S' σ H' (k v S') Q) := by
  cases r with
  | ok v S1 => exact fun φ2 H2 f2 g2 => ⟨φ2, S1, ⟨f2, g2⟩, RPost.shift f2 h⟩
  | exc c a S1 => exact h
  | fail => exact h
theorem pSl_run {B : Addr → Prop} {φ : List Addr} {ρ : En} {S : Sto} {σ : L2.St} {H : Hp} {x : PV} {x' : V} {l h : Option Int} {Q : VK} (g : Rel (km X) B φ ρ S σ H) (rv : RV X.K (Mu B φ S) φ H x x') (q : RPost (km X) W B φ ρ S σ H (pSl x l h S) Q) :
    rSlL X.K x' l h H Q ∨ rSlA X.K x' l h H Q := by
  unfold pSl at q
  split at q
  · rename_i ps
    have rv4 := rv
    unfold RV at rv
    obtain ⟨a, vs, rfl, hT, t⟩ := rv
    refine .inr ⟨a, vs, rfl, .of hT, fun hw => ?_, fun hw p hp => new_tup g (rvs_cut t) q hp⟩
    refine q.here g ?_
    have : cutP ps l h = ps := by
      unfold cutP
      rw [t.length, hw.1, hw.2]
      simp [← t.length]
    rw [this]
    exact rv4
  · split at q
    · rename_i ps e
      obtain ⟨a, vs, rfl, hT, t⟩ := lstL_ok g.ag rv e
      exact .inl ⟨a, vs, rfl, hT, fun p hp => new_lst g (rvs_cut t) q hp⟩
    · exact q.elim
theorem OPost.mono {r : R (Option Int)} {B : Addr → Prop} {φ : List Addr} {ρ : En} {S : Sto} {σ : L2.St} {H : Hp} {Q Q' : Option Int → Hp → Prop} (h : OPost (km X) W B φ ρ S σ H r Q) (q : ∀ v H', Q v H' → Q' v H') : OPost (km X) W B φ ρ S σ H r Q' := by
  cases r with
  | ok v S1 => exact fun φ2 H2 f2 g2 => q _ _ (h φ2 H2 f2 g2)
  | exc c a S1 => exact h
  | fail => exact h
theorem se_sl {e : Expr} {lo hi : Option Expr} {p2 : Pos} {a : EM} {ml mh : OM} (ha : SE X W e a) (hl : SO X W lo ml) (hh : SO X W hi mh) : SE X W (.Subscript e (.Slice lo hi none p2) pos) (eSl a ml mh) := by
  refine PE.via (pe_slice (sl_list.or sl_tupA) ha hl hh) fun σ H Q ⟨B, φ, ρ, S, g, q⟩ => ?_
  refine tE.of g q.bind fun v' H1 ⟨φ1, S1, v, m1, rv, q1⟩ => ?_
  refine ⟨B, φ1, ρ, S1, m1.rel, OPost.mono (OPost.bind q1) fun l H2 ⟨φ2, S2, m2, q2⟩ => ?_⟩
  refine ⟨B, φ2, ρ, S2, m2.rel, OPost.mono (OPost.bind q2) fun h H3 ⟨φ3, S3, m3, q3⟩ => ?_⟩
  exact pSl_run m3.rel ((rv.stay m1.rel.ag m2.fr).stay m2.rel.ag m3.fr) q3
end
end Mir
/-! Mir: statements, targets, loops, comprehensions. -/
namespace Mir
open PySem PySem.Spec PyProof.Rows L2
section
variable {X : Cx} {W : WX} {pos : Pos}
/-! ### blocks -/
def sNil : SM := fun ρ S => .nx ρ S
def sSeq (a b : SM) : SM := fun ρ S => match a ρ S with
  | .nx ρ1 S1 => b ρ1 S1
  | r => r
theorem sb_nil : SB X W [] sNil := PSs.via pss_nil fun D σ H ⟨B, φ, ρ, S, g, q⟩ => q φ σ H (Fr.refl _ _ _) g
theorem sb_cons {st : Stmt} {rest : List Stmt} {a b : SM} (h : SS X W st a) (h' : SB X W rest b) : SB X W (st :: rest) (sSeq a b) := by
  refine PSs.via (pss_cons h h') fun D σ H ⟨B, φ, ρ, S, g, q⟩ => ⟨B, φ, ρ, S, g, ?_⟩
  unfold sSeq at q
  cases e : a ρ S with
  | nx ρ1 S1 => rw [e] at q; exact fun φ' σ' H' f r => ⟨B, φ', ρ1, S1, r, SPost.shift f q⟩
  | rt v S1 => rw [e] at q; exact q
  | bk ρ1 S1 => rw [e] at q; exact q
  | ct ρ1 S1 => rw [e] at q; exact q
  | exc c a ρ1 S1 => rw [e] at q; exact q
  | fail => rw [e] at q; exact q
theorem sb_one {st : Stmt} {a : SM} (h : SS X W st a) : SB X W [st] a := PSs.via (pss_one h) fun _ _ _ q => q
def sPass : SM := fun ρ S => .nx ρ S
theorem ss_pass : SS X W (.Pass pos) sPass := PS.via ps_pass fun D σ H ⟨B, φ, ρ, S, g, q⟩ => q φ σ H (Fr.refl _ _ _) g
def sBrk : SM := fun ρ S => .bk ρ S
theorem ss_brk : SS X W (.Break pos) sBrk := PS.via ps_break fun D σ H ⟨B, φ, ρ, S, g, q⟩ => q φ σ H (Fr.refl _ _ _) g
def sCnt : SM := fun ρ S => .ct ρ S
theorem ss_cnt : SS X W (.Continue pos) sCnt := PS.via ps_continue fun D σ H ⟨B, φ, ρ, S, g, q⟩ => q φ σ H (Fr.refl _ _ _) g
/-- a run's value, put to use -/
@[simp] def R.bindS {α : Type} (ρ : En) : R α → (α → Sto → SR) → SR
  | .ok v S, f => f v S
  | .exc c a S, _ => .exc c a ρ S
  | .fail, _ => .fail
section
variable {B : Addr → Prop} {φ : List Addr} {ρ : En} {S : Sto} {σ : L2.St} {H : Hp} {D : Ends}
theorem RPost.bindS {r : R PV} {k : PV → Sto → SR} (h : SPost (km X) W B φ S H D (r.bindS ρ k)) :
    RPost (km X) W B φ ρ S σ H r (fun v' H' => ∃ φ' S' v, Mid (km X) B φ ρ S σ H φ' S' H' ∧ RV X.K (Mu B φ' S') φ' H' v v' ∧ SPost (km X) W B φ' S' H' D (k v S')) := by
  cases r with
  | ok v S1 => exact fun φ2 v2 H2 f2 g2 r2 => ⟨φ2, S1, v, ⟨f2, g2⟩, r2, SPost.shift f2 h⟩
  | exc c a S1 => exact fun φ' H' cls d f g x => h φ' σ H' cls d f g x
  | fail => exact h
theorem TPost.bindS {r : R Bool} {k : Bool → Sto → SR} (h : SPost (km X) W B φ S H D (r.bindS ρ k)) :
    TPost (km X) W B φ ρ S σ H r (fun v H' => ∃ φ' S', Mid (km X) B φ ρ S σ H φ' S' H' ∧ SPost (km X) W B φ' S' H' D (k v S')) := by
  cases r with
  | ok v S1 => exact fun φ2 H2 f2 g2 => ⟨φ2, S1, ⟨f2, g2⟩, SPost.shift f2 h⟩
  | exc c a S1 => exact fun φ' H' cls d f g x => h φ' σ H' cls d f g x
  | fail => exact h
end
def sExpr (m : EM) : SM := fun ρ S => (m ρ S).bindS ρ fun _ S1 => .nx ρ S1
theorem ss_expr {e : Expr} {m : EM} (h : SE X W e m) (hs : swapsWith e none pos.line X.env = pure false := by rfl) : SS X W (.Expr e pos) (sExpr m) :=
  PS.via (ps_expr h hs) fun D σ H ⟨B, φ, ρ, S, g, q⟩ => tE.of g (RPost.bindS q) fun v' H1 ⟨φ1, S1, v, m1, rv, q1⟩ => q1 φ1 σ H1 (Fr.refl _ _ _) m1.rel
def sRet (m : EM) : SM := fun ρ S => (m ρ S).bindS ρ fun v S1 => .rt v S1
theorem ss_ret {e : Expr} {m : EM} (h : SE X W e m) : SS X W (.Return (some e) pos) (sRet m) :=
  PS.via (ps_ret h) fun D σ H ⟨B, φ, ρ, S, g, q⟩ => tE.of g (RPost.bindS q) fun v' H1 ⟨φ1, S1, v, m1, rv, q1⟩ => q1 φ1 v' H1 (Fr.refl _ _ _) m1.rel.ag rv
def sRetN : SM := fun _ S => .rt .non S
theorem ss_retN : SS X W (.Return none pos) sRetN := PS.via ps_retN fun D σ H ⟨B, φ, ρ, S, g, q⟩ => q φ .non H (Fr.refl _ _ _) g.ag .non
def sIf (c : TM) (a b : SM) : SM := fun ρ S => (c ρ S).bindS ρ fun d S1 => if d then a ρ S1 else b ρ S1
theorem ss_if {c : Expr} {a b : List Stmt} {mc : TM} {ma mb : SM} (hc : ST X W c mc) (ha : SB X W a ma) (hb : SB X W b mb) : SS X W (.If c a b pos) (sIf mc ma mb) := by
  refine PS.via (ps_if hc ha hb) fun D σ H ⟨B, φ, ρ, S, g, q⟩ => tT.of g (TPost.bindS q) fun b H1 ⟨φ1, S1, m1, q1⟩ => ?_
  cases b with
  | true => rw [if_pos rfl] at q1 ⊢; exact ⟨B, φ1, ρ, S1, m1.rel, q1⟩
  | false => rw [if_neg Bool.false_ne_true] at q1 ⊢; exact ⟨B, φ1, ρ, S1, m1.rel, q1⟩
/-! ### targets -/
abbrev GM := PV → SM
def GPost (X : KM) (W : WX) (B : Addr → Prop) (φ : List Addr) (S : Sto) (H : Hp) (r : SR) (Q : L2.St → Hp → Prop) : Prop := match r with
  | .nx ρ' S' => ∀ φ' σ' H', Fr φ S H φ' S' H' → Rel X B φ' ρ' S' σ' H' → Q σ' H'
  | .exc c a ρ' S' => ∀ φ' σ' H' cls d, Fr φ S H φ' S' H' → Rel X B φ' ρ' S' σ' H' → ExcAt X.K X.mg (Mu B φ' S') φ' H' c a cls d → W cls d σ' H'
  | _ => False
def tG (X : KM) (W : WX) (t : GM) : TG := fun v σ H Q => ∃ B φ ρ S p, Rel X B φ ρ S σ H ∧ RV X.K (Mu B φ S) φ H p v ∧ GPost X W B φ S H (t p ρ S) Q
def SG (X : Cx) (W : WX) (tg : Expr) (t : GM) : Prop := PG X tg (tG (km X) W t)
abbrev GMs := List PV → SM
def tGs (X : KM) (W : WX) (t : GMs) : TGs := fun vs σ H Q => ∃ B φ ρ S ps, Rel X B φ ρ S σ H ∧ RVs X.K (Mu B φ S) φ H ps vs ∧ GPost X W B φ S H (t ps ρ S) Q
def SGs (X : Cx) (W : WX) (tg : List Expr) (t : GMs) : Prop := PGs X tg (tGs (km X) W t)
theorem PG.via {tg : Expr} {t t' : TG} (h : PG X tg t) (i : ∀ v σ H Q, t' v σ H Q → t v σ H Q) : PG X tg t' := ⟨fun pins s σ H v u Q I r q => h.run pins s σ H v u Q I r (i _ _ _ _ q)⟩
theorem PGs.via {tg : List Expr} {t t' : TGs} (h : PGs X tg t) (i : ∀ v σ H Q, t' v σ H Q → t v σ H Q) : PGs X tg t' := ⟨fun pins s σ H v u Q I r q => h.run pins s σ H v u Q I r (i _ _ _ _ q)⟩
theorem GPost.shift {B : Addr → Prop} {φ φ' : List Addr} {S S' : Sto} {H H' : Hp} {r : SR} {Q : L2.St → Hp → Prop} (f : Fr φ S H φ' S' H') (h : GPost (km X) W B φ S H r Q) : GPost (km X) W B φ' S' H' r Q := by
  cases r with
  | nx ρ1 S1 => exact fun φ2 v2 H2 f2 g2 => h φ2 v2 H2 (f.trans f2) g2
  | exc c a ρ1 S1 => exact fun φ2 σ2 H2 cls d f2 g2 x => h φ2 σ2 H2 cls d (f.trans f2) g2 x
  | bk ρ1 S1 => exact h
  | ct ρ1 S1 => exact h
  | rt v S1 => exact h
  | fail => exact h
theorem GPost.mono {B : Addr → Prop} {φ : List Addr} {S : Sto} {H : Hp} {r : SR} {Q Q' : L2.St → Hp → Prop} (h : GPost (km X) W B φ S H r Q) (q : ∀ σ H, Q σ H → Q' σ H) : GPost (km X) W B φ S H r Q' := by
  cases r with
  | nx ρ1 S1 => exact fun φ2 v2 H2 f2 g2 => q _ _ (h φ2 v2 H2 f2 g2)
  | exc c a ρ1 S1 => exact h
  | bk ρ1 S1 => exact h
  | ct ρ1 S1 => exact h
  | rt v S1 => exact h
  | fail => exact h
theorem Rel.set {B : Addr → Prop} {φ : List Addr} {ρ : En} {S : Sto} {σ : L2.St} {H : Hp} {p : PV} {v : V} (g : Rel (km X) B φ ρ S σ H) (r : RV X.K (Mu B φ S) φ H p v) (i : Nat) : Rel (km X) B φ (ρ.set i (some p)) S (σ.set i (some v)) H := by
  refine ⟨g.ag, by simp [g.env.len], fun j q e => ?_⟩
  by_cases hj : i = j
  · subst hj
    have hi : i < ρ.length := by
      have := (List.getElem?_eq_some_iff.mp e).1
      simpa using this
    rw [List.getElem?_set_self hi] at e
    cases e
    exact ⟨v, by rw [List.getElem?_set_self (by rw [← g.env.len]; exact hi)], r⟩
  · rw [List.getElem?_set_ne hj] at e
    obtain ⟨u, e2, r2⟩ := g.env.get j q e
    exact ⟨u, by rw [List.getElem?_set_ne hj]; exact e2, r2⟩
def gNm (i : Nat) : GM := fun p ρ S => .nx (ρ.set i (some p)) S
theorem sg_name {i : Nat} {e : Expr} (h : PG X e (gName i)) : SG X W e (gNm i) :=
  PG.via h fun v σ H Q ⟨B, φ, ρ, S, p, g, r, q⟩ => q φ _ H (Fr.refl _ _ _) (g.set r i)
def gsNil : GMs := fun ps ρ S => match ps with
  | [] => .nx ρ S
  | _ => .fail
def gsCons (a : GM) (r : GMs) : GMs := fun ps ρ S => match ps with
  | p :: t => (match a p ρ S with
    | .nx ρ1 S1 => r t ρ1 S1
    | e => e)
  | [] => .fail
theorem sgs_nil : SGs X W [] gsNil := PGs.via pgs_nil fun vs σ H Q ⟨B, φ, ρ, S, ps, g, r, q⟩ => by
  cases ps with
  | nil => unfold RVs at r; exact ⟨r, q φ σ H (Fr.refl _ _ _) g⟩
  | cons p t => exact q.elim
theorem sgs_cons {e : Expr} {es : List Expr} {a : GM} {r : GMs} (h : SG X W e a) (h' : SGs X W es r) (hs : (assignEach (e :: es) X.env).map (·.2) = assign e X.env :: (assignEach es X.env).map (·.2) := by rfl) : SGs X W (e :: es) (gsCons a r) :=
  PGs.via (pgs_cons h h' hs) fun vs σ H Q ⟨B, φ, ρ, S, ps, g, rv, q⟩ => by
    cases ps with
    | nil => exact q.elim
    | cons p t =>
      obtain ⟨v, ws, rfl, r1, r2⟩ := rv.uncons
      refine ⟨v, ws, rfl, B, φ, ρ, S, p, g, r1, ?_⟩
      unfold gsCons at q
      dsimp only at q
      cases e1 : a p ρ S with
      | nx ρ1 S1 => rw [e1] at q; exact fun φ1 σ1 H1 f1 g1 => ⟨B, φ1, ρ1, S1, t, g1, r2.stay g.ag f1, GPost.shift f1 q⟩
      | exc c a ρ1 S1 => rw [e1] at q; exact q
      | bk ρ1 S1 => rw [e1] at q; exact q
      | ct ρ1 S1 => rw [e1] at q; exact q
      | rt v S1 => rw [e1] at q; exact q
      | fail => rw [e1] at q; exact q
def gTp (n : Nat) (r : GMs) : GM := fun p ρ S => match tupL p with
  | some ps => if ps.length = n then r ps ρ S else .fail
  | none => .fail
theorem sg_tup {es : List Expr} {k : Nat} {r : GMs} {n : Nat} (hc : X.calm = true) (h : SGs X W es r)
    (hn : (assignEach es X.env).length = n := by rfl) (hst : (assignEach es X.env).findIdx? (·.1) = none := by rfl) : SG X W (.Tuple es k pos) (gTp n r) :=
  PG.via (pg_tup hc h hn hst) fun v σ H Q ⟨B, φ, ρ, S, p, g, rv, q⟩ => by
    unfold gTp at q
    cases e : tupL p with
    | none => rw [e] at q; exact q.elim
    | some ps =>
      rw [e] at q
      obtain ⟨a, vs, rfl, h, t⟩ := tupL_ok rv e
      dsimp only at q
      split at q
      · rename_i hl
        exact ⟨a, vs, rfl, h, by rw [← t.length]; exact hl, B, φ, ρ, S, ps, g, t, q⟩
      · exact q.elim
/-- o[i] = p, o a list of the store -/
def setAt (o i p : PV) (ρ : En) (S : Sto) : SR := match o, i with
  | .loc n, .int k => (match lstAt S n with
    | some ps => (match ixN ps.length k with
      | some j => .nx ρ (S.set n (some (.lst (ps.set j p))))
      | none => .fail)
    | none => .fail)
  | _, _ => .fail
def gSb (mo mi : EM) : GM := fun p ρ S => (mo ρ S).bindS ρ fun o S1 => (mi ρ S1).bindS ρ fun i S2 => setAt o i p ρ S2
theorem RPost.bindG {B : Addr → Prop} {φ : List Addr} {ρ : En} {S : Sto} {σ : L2.St} {H : Hp} {r : R PV} {k : PV → Sto → SR} {Q : L2.St → Hp → Prop} (h : GPost (km X) W B φ S H (r.bindS ρ k) Q) :
    RPost (km X) W B φ ρ S σ H r (fun v' H' => ∃ φ' S' v, Mid (km X) B φ ρ S σ H φ' S' H' ∧ RV X.K (Mu B φ' S') φ' H' v v' ∧ GPost (km X) W B φ' S' H' (k v S') Q) := by
  cases r with
  | ok v S1 => exact fun φ2 v2 H2 f2 g2 r2 => ⟨φ2, S1, v, ⟨f2, g2⟩, r2, GPost.shift f2 h⟩
  | exc c a S1 => exact fun φ' H' cls d f g x => h φ' σ H' cls d f g x
  | fail => exact h
/-- a list of the store is written -/
theorem Rel.put {B : Addr → Prop} {φ : List Addr} {ρ : En} {S : Sto} {σ : L2.St} {H : Hp} {n : Nat} {a : Addr} {ps qs : List PV} {ws : List V} (g : Rel (km X) B φ ρ S σ H) (ha : φ[n]? = some a) (hn : S[n]? = some (some (.lst ps)))
    (t : RVs X.K (Mu B φ S) φ H qs ws) : Fr φ S H φ (S.set n (some (.lst qs))) (upd H a (.lst ws)) ∧ Rel (km X) B φ ρ (S.set n (some (.lst qs))) σ (upd H a (.lst ws)) := by
  have f := fr_set (ob := .lst qs) (o := HO.lst ws) (H := H) ha ⟨_, hn⟩
  have L := f.lean g.ag
  have ag' := g.ag.set (ob := .lst qs) (o := HO.lst ws) ha ⟨_, hn⟩ ⟨ws, upd_same, RVs.lean L _ t⟩
  exact ⟨f, g.stay f ag'⟩
theorem sg_sub {o i : Expr} {mo mi : EM} (ho : SE X W o mo) (hi : SE X W i mi)
    (ha : ∀ v, assign (.Subscript o i pos) X.env v = (do
      let ov ← holding [v] (eval o X.env)
      let iv ← holding [v, ov] (eval i X.env)
      standAt pos
      holding [v, ov, iv] (setItem ov iv v)
      release [v, ov, iv] []) := by intro _; rfl) : SG X W (.Subscript o i pos) (gSb mo mi) :=
  PG.via (pg_sub ho hi set_list ha) fun v σ H Q ⟨B, φ, ρ, S, p, g, rv, q⟩ => by
    refine tE.of g (RPost.bindG q) fun o' H1 ⟨φ1, S1, o, m1, ro, q1⟩ => ?_
    refine tE.of m1.rel (RPost.bindG q1) fun i' H2 ⟨φ2, S2, i, m2, ri, q2⟩ => ?_
    have ro2 := ro.stay m1.rel.ag m2.fr
    have rv2 := (rv.stay g.ag m1.fr).stay m1.rel.ag m2.fr
    unfold setAt at q2
    cases o with
    | loc n =>
      cases i with
      | int k =>
        cases ri.int_eq
        dsimp only at q2
        cases e : lstAt S2 n with
        | none => rw [e] at q2; exact q2.elim
        | some ps =>
          rw [e] at q2
          obtain ⟨a, vs, rfl, ha, hn, h, t⟩ := loc_lst m2.rel.ag ro2 e
          dsimp only at q2
          cases e2 : ixN ps.length k with
          | none => rw [e2] at q2; exact q2.elim
          | some j =>
            rw [e2] at q2
            refine ⟨a, vs, k, j, rfl, rfl, h, by rw [← t.length]; exact e2, ?_⟩
            obtain ⟨f, g3⟩ := m2.rel.put ha hn (RVs.set rv2 j t)
            exact q2 φ2 σ _ f g3
      | _ => exact q2.elim
    | _ => first | exact q2.elim | (cases i <;> exact q2.elim)
/-- target = value -/
def sAsg (m : EM) (t : GM) : SM := fun ρ S => (m ρ S).bindS ρ fun v S1 => t v ρ S1
theorem SPost.g {B : Addr → Prop} {φ : List Addr} {S : Sto} {H : Hp} {r : SR} {D : Ends} (h : SPost (km X) W B φ S H D r) (hr : match r with
  | .bk _ _ => False
  | .ct _ _ => False
  | .rt _ _ => False
  | _ => True) : GPost (km X) W B φ S H r D.nx := by
  cases r with
  | nx ρ1 S1 => exact h
  | exc c a ρ1 S1 => exact h
  | bk ρ1 S1 => exact hr.elim
  | ct ρ1 S1 => exact hr.elim
  | rt v S1 => exact hr.elim
  | fail => exact h
/-- a target's end is the next statement's start, an error, or none -/
def gOk : SR → SR
  | .nx ρ S => .nx ρ S
  | .exc c a ρ S => .exc c a ρ S
  | _ => .fail
def sSet (m : EM) (t : GM) : SM := fun ρ S => (m ρ S).bindS ρ fun v S1 => gOk (t v ρ S1)
theorem gOk_post {B : Addr → Prop} {φ : List Addr} {S : Sto} {H : Hp} {r : SR} {D : Ends} (h : SPost (km X) W B φ S H D (gOk r)) : GPost (km X) W B φ S H r D.nx := by
  cases r <;> exact h
theorem tAsg_run {m : EM} {t : GM} {D : Ends} {σ : L2.St} {H : Hp} (q : tS (km X) W (sSet m t) D σ H) : tAsg (tE (km X) W m) (tG (km X) W t) D σ H := by
  obtain ⟨B, φ, ρ, S, g, q⟩ := q
  exact tE.of g (RPost.bindS q) fun v' H1 ⟨φ1, S1, v, m1, rv, q1⟩ => ⟨B, φ1, ρ, S1, v, m1.rel, rv, gOk_post q1⟩
theorem ss_asg {tg e : Expr} {m : EM} {t : GM} (he : SE X W e m) (hg : SG X W tg t) (hs : swapsWithSole [tg] e pos.line X.env = pure false := by rfl) (hw : swappedStores [tg] e X.env = pure none := by rfl)
    (h1 : (assignEach [tg] X.env).map (·.2) = [assign tg X.env] := by rfl) : SS X W (.Assign [tg] e pos) (sSet m t) :=
  PS.via (ps_asg he hg hs hw h1) fun _ _ _ q => tAsg_run q
/-- name = value -/
def sNm (i : Nat) (m : EM) : SM := fun ρ S => (m ρ S).bindS ρ fun v S1 => .nx (ρ.set i (some v)) S1
theorem ss_set {st : Stmt} {i : Nat} {m : EM} (h : PS X st (tAsg (tE (km X) W m) (gName i))) : SS X W st (sNm i m) :=
  PS.via h fun D σ H ⟨B, φ, ρ, S, g, q⟩ => tE.of g (RPost.bindS q) fun v' H1 ⟨φ1, S1, v, m1, rv, q1⟩ => q1 φ1 _ H1 (Fr.refl _ _ _) (m1.rel.set rv i)
/-- a, b = x, y -/
theorem APost.bindS {B : Addr → Prop} {φ : List Addr} {ρ : En} {S : Sto} {σ : L2.St} {H : Hp} {D : Ends} {r : R (List PV)} {k : List PV → Sto → SR} (h : SPost (km X) W B φ S H D (r.bindS ρ k)) :
    APost (km X) W B φ ρ S σ H r (fun v' H' => ∃ φ' S' v, Mid (km X) B φ ρ S σ H φ' S' H' ∧ RVs X.K (Mu B φ' S') φ' H' v v' ∧ SPost (km X) W B φ' S' H' D (k v S')) := by
  cases r with
  | ok v S1 => exact fun φ2 v2 H2 f2 g2 r2 => ⟨φ2, S1, v, ⟨f2, g2⟩, r2, SPost.shift f2 h⟩
  | exc c a S1 => exact fun φ' H' cls d f g x => h φ' σ H' cls d f g x
  | fail => exact h
def sPar (i j : Nat) (m : AM) : SM := fun ρ S => (m ρ S).bindS ρ fun vs S1 => match vs with
  | [v, w] => .nx ((ρ.set i (some v)).set j (some w)) S1
  | _ => .fail
theorem ss_par {st : Stmt} {i j : Nat} {m : AM} (h : PS X st (tPar i j (tA (km X) W m))) : SS X W st (sPar i j m) :=
  PS.via h fun D σ H ⟨B, φ, ρ, S, g, q⟩ => tA.of g (APost.bindS q) fun vs' H1 ⟨φ1, S1, vs, m1, rvs, q1⟩ => by
    match vs, rvs, q1 with
    | [v, w], rvs, q1 =>
      obtain ⟨v', ws, rfl, r1, r2⟩ := rvs.uncons
      obtain ⟨w', ws2, rfl, r3, r4⟩ := r2.uncons
      unfold RVs at r4
      subst r4
      exact ⟨v', w', rfl, q1 φ1 _ H1 (Fr.refl _ _ _) ((m1.rel.set r1 i).set r3 j)⟩
    | [], _, q1 => exact q1.elim
    | [_], _, q1 => exact q1.elim
    | _ :: _ :: _ :: _, _, q1 => exact q1.elim
def sPar3 (i j l : Nat) (m : AM) : SM := fun ρ S => (m ρ S).bindS ρ fun vs S1 => match vs with
  | [u, v, w] => .nx (((ρ.set i (some u)).set j (some v)).set l (some w)) S1
  | _ => .fail
theorem ss_par3 {st : Stmt} {i j l : Nat} {m : AM} (h : PS X st (tPar3 i j l (tA (km X) W m))) : SS X W st (sPar3 i j l m) :=
  PS.via h fun D σ H ⟨B, φ, ρ, S, g, q⟩ => tA.of g (APost.bindS q) fun vs' H1 ⟨φ1, S1, vs, m1, rvs, q1⟩ => by
    match vs, rvs, q1 with
    | [u, v, w], rvs, q1 =>
      obtain ⟨u', us, rfl, r0, r0'⟩ := rvs.uncons
      obtain ⟨v', ws, rfl, r1, r2⟩ := r0'.uncons
      obtain ⟨w', ws2, rfl, r3, r4⟩ := r2.uncons
      unfold RVs at r4
      subst r4
      exact ⟨u', v', w', rfl, q1 φ1 _ H1 (Fr.refl _ _ _) (((m1.rel.set r0 i).set r1 j).set r3 l)⟩
    | [], _, q1 => exact q1.elim
    | [_], _, q1 => exact q1.elim
    | [_, _], _, q1 => exact q1.elim
    | _ :: _ :: _ :: _ :: _, _, q1 => exact q1.elim
/-- name op= e -/
def sAug (i : Nat) (f : P2) (m : EM) : SM := fun ρ S => match ρ[i]? with
  | some (some x) => (m ρ S).bindS ρ fun y S1 => (f x y S1).bindS ρ fun z S2 => .nx (ρ.set i (some z)) S2
  | _ => .fail
theorem ss_aug {st : Stmt} {i : Nat} {f : P2} {m : EM} {r : R2} (h : PS X st (tAug i (tE (km X) W m) r)) (ho : Op2 X r f) : SS X W st (sAug i f m) :=
  PS.via h fun D σ H ⟨B, φ, ρ, S, g, q⟩ => by
    unfold sAug at q
    split at q
    · rename_i x e
      obtain ⟨x', e', rx⟩ := g.env.get i x e
      refine ⟨x', e', tE.of g (RPost.bindS q) fun y' H1 ⟨φ1, S1, y, m1, ry, q1⟩ => ?_⟩
      refine ho W B φ1 ρ S1 σ H1 x y x' y' _ m1.rel (rx.stay g.ag m1.fr) ry ?_
      exact (RPost.bindS q1).mono fun z' H2 ⟨φ2, S2, z, m2, rz, q2⟩ => q2 φ2 _ H2 (Fr.refl _ _ _) (m2.rel.set rz i)
    · exact q.elim
/-! ### while -/
def whl (c : TM) (b : SM) : Nat → SM
  | 0 => fun _ _ => .fail
  | n + 1 => fun ρ S => (c ρ S).bindS ρ fun d S1 => if d then (match b ρ S1 with
      | .nx ρ2 S2 => whl c b n ρ2 S2
      | .ct ρ2 S2 => whl c b n ρ2 S2
      | .bk ρ2 S2 => .nx ρ2 S2
      | r => r) else .nx ρ S1
def fuel : Nat := 1000000000
def sWhl (c : TM) (b : SM) : SM := whl c b fuel
theorem ss_while {c : Expr} {body : List Stmt} {mc : TM} {mb : SM} (hp : PassesOwn (model X.prog X.w) X.A X.env X.xe) (hc : ST X W c mc) (hb : SB X W body mb) : SS X W (.While c body [] pos) (sWhl mc mb) := by
  refine PS.via (ps_while hp hc hb) fun D σ H ⟨B, φ, ρ, S, g, q⟩ => ?_
  refine ⟨fun n σ H => ∃ B φ ρ S, Rel (km X) B φ ρ S σ H ∧ SPost (km X) W B φ S H D (whl mc mb n ρ S), ⟨fuel, B, φ, ρ, S, g, q⟩, ?_⟩
  rintro n σ H ⟨B, φ, ρ, S, g, q⟩
  cases n with
  | zero => exact q.elim
  | succ n =>
    refine tT.of g (TPost.bindS q) fun d H1 ⟨φ1, S1, m1, q1⟩ => ?_
    cases d with
    | false => rw [if_neg Bool.false_ne_true] at q1 ⊢; exact q1 φ1 σ H1 (Fr.refl _ _ _) m1.rel
    | true =>
      rw [if_pos rfl] at q1 ⊢
      refine ⟨fun σ H => ∃ B φ ρ S, Rel (km X) B φ ρ S σ H ∧ SPost (km X) W B φ S H D (whl mc mb n ρ S), fun σ' H' h => ⟨n, Nat.lt_succ_self _, h⟩, B, φ1, ρ, S1, m1.rel, ?_⟩
      cases e : mb ρ S1 with
      | nx ρ2 S2 => rw [e] at q1; exact fun φ2 σ2 H2 f2 g2 => ⟨B, φ2, ρ2, S2, g2, SPost.shift f2 q1⟩
      | ct ρ2 S2 => rw [e] at q1; exact fun φ2 σ2 H2 f2 g2 => ⟨B, φ2, ρ2, S2, g2, SPost.shift f2 q1⟩
      | bk ρ2 S2 => rw [e] at q1; exact q1
      | rt v S2 => rw [e] at q1; exact q1
      | exc c a ρ2 S2 => rw [e] at q1; exact q1
      | fail => rw [e] at q1; exact q1
/-! ### what is walked -/
/-- more that is hidden: nothing that stood already -/
structure Ex (B : Addr → Prop) (φ : List Addr) (S : Sto) (H : Hp) (B1 : Addr → Prop) (φ1 : List Addr) (S1 : Sto) (H1 : Hp) : Prop where
  fr : Fr φ S H φ1 S1 H1
  b : ∀ a o, H a = some o → B1 a → B a
theorem Ex.lean {K : PySem.W.Frag} {B B1 : Addr → Prop} {φ φ1 : List Addr} {S S1 : Sto} {H H1 : Hp} (e : Ex B φ S H B1 φ1 S1 H1) (g : Ag K B φ S H) : Lean0 (Mu B φ S) (Mu B1 φ1 S1) φ φ1 H H1 := by
  have L := e.fr.lean g
  refine ⟨L.pre, L.tup, L.frz, L.keep, fun a o h n m => ?_⟩
  rcases m with m | m
  · exact n (.inl (e.b a o h m))
  · exact L.mu a o h n (.inr m)
/-- J gives just these -/
def Yld (K : PySem.W.Frag) (B : Addr → Prop) (φ : List Addr) (S : Sto) (H : Hp) (ps : List PV) (J : It) : Prop := ∀ B1 φ1 S1 H1, Ex B φ S H B1 φ1 S1 H1 → Ag K B1 φ1 S1 H1 → ∀ i : Nat, (i < ps.length → J.go i H1) ∧ (ps.length ≤ i → J.stop i H1) ∧
  ∀ p, ps[i]? = some p → ∀ x H2, J.yld i H1 x H2 → Fr φ1 S1 H1 φ1 S1 H2 ∧ Ag K B1 φ1 S1 H2 ∧ RV K (Mu B1 φ1 S1) φ1 H2 p x
def IPost (X : KM) (W : WX) (B : Addr → Prop) (φ : List Addr) (ρ : En) (S : Sto) (σ : L2.St) (H : Hp) (r : R (List PV)) (Q : It → Hp → Prop) : Prop := match r with
  | .ok ps S' => ∀ φ' H' J, Fr φ S H φ' S' H' → Rel X B φ' ρ S' σ H' → Yld X.K B φ' S' H' ps J → Q J H'
  | .exc c a S' => XPost X W B φ ρ S σ H c a S'
  | .fail => False
def tI (X : KM) (W : WX) (m : AM) : TI := fun σ H Q => ∃ B φ ρ S, Rel X B φ ρ S σ H ∧ IPost X W B φ ρ S σ H (m ρ S) Q
def SI (X : Cx) (W : WX) (tg iter : Expr) (m : AM) : Prop := PI X tg iter (tI (km X) W m)
theorem PI.via {tg iter : Expr} {t t' : TI} (h : PI X tg iter t) (i : ∀ σ H Q, t' σ H Q → t σ H Q) : PI X tg iter t' := ⟨fun pins s σ H R I q => h.run pins s σ H R I (i _ _ _ q)⟩
theorem IPost.mono {B : Addr → Prop} {φ : List Addr} {ρ : En} {S : Sto} {σ : L2.St} {H : Hp} {r : R (List PV)} {Q Q' : It → Hp → Prop} (h : IPost (km X) W B φ ρ S σ H r Q) (q : ∀ J H, Q J H → Q' J H) : IPost (km X) W B φ ρ S σ H r Q' := by
  cases r with
  | ok v S1 => exact fun φ2 H2 J f2 g2 y => q _ _ (h φ2 H2 J f2 g2 y)
  | exc c a S1 => exact h
  | fail => exact h
/-- the turns of a for -/
def frL (t : GM) (b : SM) : List PV → SM
  | [] => fun ρ S => .nx ρ S
  | p :: r => fun ρ S => match t p ρ S with
    | .nx ρ1 S1 => (match b ρ1 S1 with
      | .nx ρ2 S2 => frL t b r ρ2 S2
      | .ct ρ2 S2 => frL t b r ρ2 S2
      | .bk ρ2 S2 => .nx ρ2 S2
      | e => e)
    | .exc c a ρ1 S1 => .exc c a ρ1 S1
    | _ => .fail
def sFor (m : AM) (t : GM) (b : SM) : SM := fun ρ S => (m ρ S).bindS ρ fun ps S1 => frL t b ps ρ S1
theorem ss_for {tg iter : Expr} {body : List Stmt} {m : AM} {t : GM} {b : SM} (hp : PassesOwn (model X.prog X.w) X.A X.env X.xe) (hc : X.calm = true) (hi : SI X W tg iter m) (hg : SG X W tg t) (hb : SB X W body b)
    (hs : ∀ x, foldedSetIterable iter X.env x = pure x := by intro _; rfl) : SS X W (.For tg iter body [] pos) (sFor m t b) := by
  refine PS.via (ps_for hp hc hi hg hb hs) fun D σ H ⟨B, φ, ρ, S, g, q⟩ => ⟨B, φ, ρ, S, g, ?_⟩
  unfold sFor at q
  cases e0 : m ρ S with
  | fail => rw [e0] at q; exact q
  | exc c a S1 => rw [e0] at q; exact fun φ' H' cls d f g x => q φ' σ H' cls d f g x
  | ok ps S1 =>
    rw [e0] at q
    intro φ1 H1 J f1 g1 y
    refine ⟨fun i n σ H => n = ps.length - i ∧ i ≤ ps.length ∧ ∃ φ2 ρ2 S2, Fr φ1 S1 H1 φ2 S2 H ∧ Rel (km X) B φ2 ρ2 S2 σ H ∧ SPost (km X) W B φ2 S2 H D (frL t b (ps.drop i) ρ2 S2), ⟨ps.length, by simp, Nat.zero_le _, φ1, ρ, S1, Fr.refl _ _ _, g1, SPost.shift f1 q⟩, ?_⟩
    rintro i n σ H ⟨rfl, hi, φ2, ρ2, S2, f2, g2, q2⟩
    obtain ⟨yg, ys, yy⟩ := y B φ2 S2 H ⟨f2, fun _ _ _ b => b⟩ g2.ag i
    by_cases hlt : i < ps.length
    · refine .inr ⟨yg hlt, fun σ H => ∃ φ2 ρ2 S2, Fr φ1 S1 H1 φ2 S2 H ∧ Rel (km X) B φ2 ρ2 S2 σ H ∧ SPost (km X) W B φ2 S2 H D (frL t b (ps.drop (i + 1)) ρ2 S2), fun σ' H' h => ⟨ps.length - (i + 1), by omega, rfl, hlt, h⟩, fun x H3 hy => ?_⟩
      obtain ⟨f3, a3, r3⟩ := yy ps[i] (List.getElem?_eq_getElem hlt) x H3 hy
      rw [List.drop_eq_getElem_cons hlt] at q2
      have g3 := g2.stay f3 a3
      refine ⟨B, φ2, ρ2, S2, ps[i], g3, r3, ?_⟩
      have q3 := SPost.shift f3 q2
      unfold frL at q3
      cases e1 : t ps[i] ρ2 S2 with
      | nx ρ4 S4 =>
        rw [e1] at q3
        intro φ4 σ4 H4 f4 g4
        refine ⟨B, φ4, ρ4, S4, g4, ?_⟩
        have q4 := SPost.shift f4 q3
        have f14 := (f2.trans f3).trans f4
        cases e2 : b ρ4 S4 with
        | nx ρ5 S5 => simp only [e2] at q4; exact fun φ5 σ5 H5 f5 g5 => ⟨φ5, ρ5, S5, f14.trans f5, g5, SPost.shift f5 q4⟩
        | ct ρ5 S5 => simp only [e2] at q4; exact fun φ5 σ5 H5 f5 g5 => ⟨φ5, ρ5, S5, f14.trans f5, g5, SPost.shift f5 q4⟩
        | bk ρ5 S5 => simp only [e2] at q4; exact q4
        | rt v S5 => simp only [e2] at q4; exact q4
        | exc c a ρ5 S5 => simp only [e2] at q4; exact q4
        | fail => simp only [e2] at q4; exact q4
      | exc c a ρ1 S1 => rw [e1] at q3; exact q3
      | bk ρ1 S1 => rw [e1] at q3; exact q3.elim
      | ct ρ1 S1 => rw [e1] at q3; exact q3.elim
      | rt v S1 => rw [e1] at q3; exact q3.elim
      | fail => rw [e1] at q3; exact q3.elim
    · have hi' : i = ps.length := by omega
      subst hi'
      rw [List.drop_length] at q2
      exact .inl ⟨ys (Nat.le_refl _), q2 φ2 σ H (Fr.refl _ _ _) g2⟩
end
end Mir
/-! Mir: comprehensions; what is walked. -/
namespace Mir
open PySem PySem.Spec PyProof.Rows L2
@[simp] def R.nx {α β : Type} : R α → (α → Sto → R β) → R β
  | .ok a S, f => f a S
  | _, _ => .fail
def wipeE (ρ : En) : List Nat → En
  | [] => ρ
  | v :: vs => (wipeE ρ vs).set v none
/-- a comprehension's target -/
abbrev CM := PV → En → Option En
/-- the turns of a comprehension -/
def lcL (t : CM) (c : TM) (m : EM) (ρ : En) : List PV → Sto → R (List PV)
  | [], S => .ok [] S
  | p :: r, S => match t p ρ with
    | some ρ1 => (c ρ1 S).nx fun d S2 => if d then ((m ρ1 S2).nx fun v S3 => (lcL t c m ρ r S3).nx fun vs S4 => .ok (v :: vs) S4) else lcL t c m ρ r S2
    | none => .fail
def tTrue : TM := fun _ S => .ok true S
section
variable {X : Cx} {W : WX} {pos : Pos}
theorem wipe_set {σ : L2.St} {i : Nat} {x : Option V} : ∀ {vs : List Nat}, i ∈ vs → wipe (σ.set i x) vs = wipe σ vs
  | [], h => by cases h
  | v :: vs, h => by
    unfold wipe
    by_cases e : i = v
    · subst e
      by_cases h2 : i ∈ vs
      · rw [wipe_set h2]
      · clear h
        have : wipe (σ.set i x) vs = (wipe σ vs).set i x := by
          induction vs with
          | nil => rfl
          | cons w ws ih =>
            have hw : i ≠ w := fun e => h2 (by simp [e])
            unfold wipe
            rw [ih (fun q => h2 (List.mem_cons_of_mem _ q)), List.set_comm _ _ hw]
        rw [this, List.set_set]
    · rw [wipe_set ((List.mem_cons.mp h).resolve_left e)]
theorem envR_wipe {K : PySem.W.Frag} {M : Addr → Prop} {φ : List Addr} {H : Hp} {ρ : En} {σ : L2.St} (e : EnvR K M φ H ρ σ) : ∀ vs : List Nat, EnvR K M φ H (wipeE ρ vs) (wipe σ vs)
  | [] => e
  | v :: vs => by
    have ih := envR_wipe e vs
    unfold wipeE wipe
    refine ⟨by simp [ih.len], fun i p h => ?_⟩
    by_cases hi : v = i
    · subst hi
      have hl : v < (wipeE ρ vs).length := by
        have := (List.getElem?_eq_some_iff.mp h).1
        simpa using this
      rw [List.getElem?_set_self hl] at h
      cases h
    · rw [List.getElem?_set_ne hi] at h
      obtain ⟨u, h1, h2⟩ := ih.get i p h
      exact ⟨u, by rw [List.getElem?_set_ne hi]; exact h1, h2⟩
theorem Rel.wipe {B : Addr → Prop} {φ : List Addr} {ρ : En} {S : Sto} {σ : L2.St} {H : Hp} (g : Rel (km X) B φ ρ S σ H) (vs : List Nat) : Rel (km X) B φ (wipeE ρ vs) S (L2.wipe σ vs) H := ⟨g.ag, envR_wipe g.env vs⟩
theorem wipe_idem (σ : L2.St) (vs : List Nat) : ∀ ws : List Nat, (∀ i ∈ ws, i ∈ vs) → L2.wipe (L2.wipe σ ws) vs = L2.wipe σ vs
  | [], _ => rfl
  | i :: ws, h => by
    show L2.wipe ((L2.wipe σ ws).set i none) vs = _
    rw [wipe_set (h i (by simp)), wipe_idem σ vs ws fun j hj => h j (by simp [hj])]
/-- a comprehension's target: names, tuples of names -/
def CT (X : Cx) (vs : List Nat) (g : TG) (t : CM) : Prop := ∀ (v : V) (σ : L2.St) (H : Hp) (Q : L2.St → Hp → Prop) (B : Addr → Prop) (φ : List Addr) (ρ ρ' : En) (S : Sto) (p : PV), Rel (km X) B φ ρ S σ H → RV X.K (Mu B φ S) φ H p v →
  t p ρ = some ρ' → (∀ σ', Rel (km X) B φ ρ' S σ' H → L2.wipe σ' vs = L2.wipe σ vs → Q σ' H) → g v σ H Q
def cNm (i : Nat) : CM := fun p ρ => some (ρ.set i (some p))
theorem ct_name {vs : List Nat} {i : Nat} (hi : i ∈ vs) : CT X vs (gName i) (cNm i) := fun v σ H Q B φ ρ ρ' S p g r e q => by cases e; exact q _ (g.set r i) (wipe_set hi)
abbrev CMs := List PV → En → Option En
def CTs (X : Cx) (vs : List Nat) (g : TGs) (t : CMs) : Prop := ∀ (ws : List V) (σ : L2.St) (H : Hp) (Q : L2.St → Hp → Prop) (B : Addr → Prop) (φ : List Addr) (ρ ρ' : En) (S : Sto) (ps : List PV), Rel (km X) B φ ρ S σ H → RVs X.K (Mu B φ S) φ H ps ws →
  t ps ρ = some ρ' → (∀ σ', Rel (km X) B φ ρ' S σ' H → L2.wipe σ' vs = L2.wipe σ vs → Q σ' H) → g ws σ H Q
def csNil : CMs := fun ps ρ => match ps with
  | [] => some ρ
  | _ => none
def csCons (a : CM) (r : CMs) : CMs := fun ps ρ => match ps with
  | p :: t => (a p ρ).bind fun ρ1 => r t ρ1
  | [] => none
theorem cts_nil {vs : List Nat} : CTs X vs gNil csNil := fun ws σ H Q B φ ρ ρ' S ps g r e q => by
  cases ps with
  | nil => unfold RVs at r; cases e; exact ⟨r, q σ g rfl⟩
  | cons p t => cases e
theorem cts_cons {vs : List Nat} {g : TG} {t : CM} {gs : TGs} {ts : CMs} (h : CT X vs g t) (h' : CTs X vs gs ts) : CTs X vs (gCons g gs) (csCons t ts) := fun ws σ H Q B φ ρ ρ' S ps gr r e q => by
  cases ps with
  | nil => cases e
  | cons p r2 =>
    obtain ⟨v, ws', rfl, h1, h2⟩ := r.uncons
    unfold csCons at e
    dsimp only at e
    cases e1 : t p ρ with
    | none => rw [e1] at e; cases e
    | some ρ1 =>
      rw [e1] at e
      exact ⟨v, ws', rfl, h v σ H _ B φ ρ ρ1 S p gr h1 e1 fun σ1 g1 w1 => h' ws' σ1 H _ B φ ρ1 ρ' S r2 g1 h2 e fun σ2 g2 w2 => q σ2 g2 (w2.trans w1)⟩
def cTp (n : Nat) (r : CMs) : CM := fun p ρ => match tupL p with
  | some ps => if ps.length = n then r ps ρ else none
  | none => none
theorem ct_tup {vs : List Nat} {n : Nat} {gs : TGs} {ts : CMs} (h : CTs X vs gs ts) : CT X vs (gTup X.K n gs) (cTp n ts) := fun v σ H Q B φ ρ ρ' S p g r e q => by
  unfold cTp at e
  cases e1 : tupL p with
  | none => rw [e1] at e; cases e
  | some ps =>
    rw [e1] at e
    dsimp only at e
    split at e
    · rename_i hl
      obtain ⟨a, ws, rfl, h1, t1⟩ := tupL_ok r e1
      exact ⟨a, ws, rfl, h1, by rw [← t1.length]; exact hl, h ws σ H Q B φ ρ ρ' S ps g t1 e q⟩
    · cases e
/-! #### the new list's address is nobody's yet -/
theorem Mu_more {B : Addr → Prop} {D : Addr} {φ : List Addr} {S : Sto} {a : Addr} (h : Mu B φ S a) : Mu (fun a => B a ∨ a = D) φ S a := by
  rcases h with h | h
  · exact .inl (.inl h)
  · exact .inr h
theorem Rel.hide {B : Addr → Prop} {φ : List Addr} {ρ : En} {S : Sto} {σ : L2.St} {H : Hp} {D : Addr} {o : HO} (g : Rel (km X) B φ ρ S σ H) (hD : H D = none) : Rel (km X) (fun a => B a ∨ a = D) φ ρ S σ (upd H D o) := by
  have ag := g.ag.upd (o := o) hD
  have L : Lean0 (Mu B φ S) (Mu (fun a => B a ∨ a = D) φ S) φ φ H (upd H D o) := by
    have f := (fr_upd (φ := φ) (S := S) (o := o) hD).lean g.ag
    refine ⟨f.pre, f.tup, f.frz, f.keep, fun a u h n m => ?_⟩
    rcases m with (m | m) | m
    · exact n (.inl m)
    · subst m; rw [hD] at h; cases h
    · exact n (.inr m)
  refine ⟨⟨ag.len, ag.nd, ag.trk, fun a h => ?_, fun a h m => ?_, fun n ob a e1 e2 => ?_⟩, g.env.lean L⟩
  · rcases h with h | h
    · exact ag.bt a h
    · subst h; exact ⟨o, upd_same⟩
  · rcases m with m | m
    · exact g.ag.dis a h m
    · subst m; exact g.ag.none_notin hD h
  · exact RO.lean L (fun u e => by rw [upd_ne (ne_of_none e hD)]; exact e) (g.ag.obj n ob a e1 e2)
/-- D is written, which nobody reads -/
theorem lean_D {B : Addr → Prop} {φ : List Addr} {S : Sto} {H : Hp} {D : Addr} {o : HO} {K : PySem.W.Frag} (g : Ag K (fun a => B a ∨ a = D) φ S H) {xs : List V} (hD : H D = some (.lst xs)) :
    Lean0 (Mu (fun a => B a ∨ a = D) φ S) (Mu (fun a => B a ∨ a = D) φ S) φ φ H (upd H D o) := by
  refine ⟨⟨[], by simp⟩, fun a vs h => ?_, fun a ob u h => ?_, fun a u h n => ?_, fun a u h n => n⟩
  · rw [upd_ne (ne_of h hD (by intro z; cases z))]; exact h
  · rw [upd_ne (ne_of h hD (by intro z; cases z))]; exact h
  · rw [upd_ne (fun e => n (.inl (.inr e)))]; exact h
theorem Rel.putD {B : Addr → Prop} {φ : List Addr} {ρ : En} {S : Sto} {σ : L2.St} {H : Hp} {D : Addr} {o : HO} {xs : List V} (g : Rel (km X) (fun a => B a ∨ a = D) φ ρ S σ H) (hD : H D = some (.lst xs)) : Rel (km X) (fun a => B a ∨ a = D) φ ρ S σ (upd H D o) := by
  have L := lean_D (o := o) g.ag hD
  have tr : ∀ a, (∃ u, H a = some u) → ∃ u, (upd H D o) a = some u := fun a ⟨u, e⟩ => by
    by_cases q : a = D
    · subst q; exact ⟨o, upd_same⟩
    · exact ⟨u, by rw [upd_ne q]; exact e⟩
  refine ⟨⟨g.ag.len, g.ag.nd, fun a h => tr a (g.ag.trk a h), fun a h => tr a (g.ag.bt a h), g.ag.dis, fun n ob a e1 e2 => ?_⟩, g.env.lean L⟩
  have na : a ≠ D := fun e => g.ag.dis a (List.mem_of_getElem? e2) (.inr e)
  exact RO.lean L (fun u e => by rw [upd_ne na]; exact e) (g.ag.obj n ob a e1 e2)
theorem Rel.show {B : Addr → Prop} {φ : List Addr} {ρ : En} {S : Sto} {σ : L2.St} {H : Hp} {D : Addr} (g : Rel (km X) (fun a => B a ∨ a = D) φ ρ S σ H) : Rel (km X) B φ ρ S σ H := by
  have L : Lean0 (Mu (fun a => B a ∨ a = D) φ S) (Mu B φ S) φ φ H H := ⟨⟨[], by simp⟩, fun _ _ h => h, fun _ _ _ h => h, fun _ _ h _ => h, fun a u h n m => n (Mu_more m)⟩
  exact ⟨⟨g.ag.len, g.ag.nd, g.ag.trk, fun a h => g.ag.bt a (.inl h), fun a h m => g.ag.dis a h (.inl m), fun n ob a e1 e2 => RO.lean L (fun _ e => e) (g.ag.obj n ob a e1 e2)⟩, g.env.lean L⟩
theorem RVs.show {K : PySem.W.Frag} {B : Addr → Prop} {φ : List Addr} {S : Sto} {H : Hp} {D : Addr} {ps : List PV} {vs : List V} (t : RVs K (Mu (fun a => B a ∨ a = D) φ S) φ H ps vs) : RVs K (Mu B φ S) φ H ps vs := by
  have L : Lean0 (Mu (fun a => B a ∨ a = D) φ S) (Mu B φ S) φ φ H H := ⟨⟨[], by simp⟩, fun _ _ h => h, fun _ _ _ h => h, fun _ _ h _ => h, fun a u h n m => n (Mu_more m)⟩
  exact RVs.lean L _ t
theorem Fr.putD {φ φ' : List Addr} {S S' : Sto} {H H' : Hp} {D : Addr} {o : HO} (f : Fr φ S H φ' S' H') (hD : H D = none) : Fr φ S H φ' S' (upd H' D o) :=
  ⟨f.pre, fun a u h n => by rw [upd_ne (ne_of_none h hD)]; exact f.keep a u h n, f.new, fun a u h => by rw [upd_ne (ne_of_none h hD)]; exact f.trk a u h⟩
/-- what stands at D stays through a run -/
theorem Fr.atD {B : Addr → Prop} {φ φ' : List Addr} {S S' : Sto} {H H' : Hp} {D : Addr} {u : HO} {K : PySem.W.Frag} (f : Fr φ S H φ' S' H') (g : Ag K (fun a => B a ∨ a = D) φ S H) (hD : H D = some u) : H' D = some u :=
  f.keep D u hD fun l => g.dis D (live_mem l) (.inr rfl)
abbrev WF : WX := fun _ _ _ _ => False
/-- nw: a list of the store -/
def eLc (nw : Bool) (mi : AM) (vs : List Nat) (t : CM) (c : TM) (m : EM) : EM := fun ρ S => (mi ρ S).bind fun ps S1 => (lcL t c m (wipeE ρ vs) ps S1).nx fun ws S2 => if ps.length ≤ lim then (if nw then .ok (.loc S2.length) (S2 ++ [some (.lst ws)]) else .ok (.lst ws) S2) else .fail
theorem Rel.take {B : Addr → Prop} {φ : List Addr} {ρ : En} {S : Sto} {σ : L2.St} {H : Hp} {D : Addr} {ws : List PV} {vs : List V} (g : Rel (km X) (fun a => B a ∨ a = D) φ ρ S σ H) (hD : H D = some (.lst vs)) (t : RVs X.K (Mu (fun a => B a ∨ a = D) φ S) φ H ws vs) (nb : ¬ B D) :
    Rel (km X) B (φ ++ [D]) ρ (S ++ [some (.lst ws)]) σ H := by
  have L : Lean0 (Mu (fun a => B a ∨ a = D) φ S) (Mu B (φ ++ [D]) (S ++ [some (.lst ws)])) φ (φ ++ [D]) H H := ⟨⟨[D], rfl⟩, fun _ _ h => h, fun _ _ _ h => h, fun _ _ h _ => h, fun a u h n m => by
    rcases m with m | m
    · exact n (.inl (.inl m))
    · rcases (live_push g.ag.len).mp m with m | m
      · exact n (.inr m)
      · exact n (.inl (.inr m))⟩
  have nD : D ∉ φ := fun m => g.ag.dis D m (.inr rfl)
  refine ⟨⟨by simp [g.ag.len], ?_, fun a m => ?_, fun a h => g.ag.bt a (.inl h), fun a m => ?_, fun n ob a e1 e2 => ?_⟩, g.env.lean L⟩
  · rw [List.nodup_append]
    exact ⟨g.ag.nd, by simp, fun a ha b hb e => by
      simp at hb; subst hb; subst e; exact nD ha⟩
  · rcases List.mem_append.mp m with m | m
    · exact g.ag.trk a m
    · simp at m; subst m; exact ⟨_, hD⟩
  · rcases List.mem_append.mp m with m | m
    · exact fun b => g.ag.dis a m (.inl b)
    · simp at m; subst m; exact nb
  · by_cases hn : n < S.length
    · rw [List.getElem?_append_left hn] at e1
      rw [List.getElem?_append_left (by rw [g.ag.len]; exact hn)] at e2
      exact RO.lean L (fun _ h => h) (g.ag.obj n ob a e1 e2)
    · have hn' : n = S.length := by
        have := (List.getElem?_eq_some_iff.mp e1).1
        simp at this; omega
      subst hn'
      simp at e1
      subst e1
      rw [← g.ag.len] at e2
      simp at e2
      subst e2
      exact ⟨vs, hD, RVs.lean L _ t⟩
theorem lcL_len {t : CM} {c : TM} {m : EM} {ρ : En} : ∀ {ps : List PV} {S S' : Sto} {ws : List PV}, lcL t c m ρ ps S = .ok ws S' → ws.length ≤ ps.length
  | [], _, _, _, h => by unfold lcL at h; cases h; simp
  | p :: r, S, S', ws, h => by
    unfold lcL at h
    cases e1 : t p ρ with
    | none => rw [e1] at h; cases h
    | some ρ1 =>
      rw [e1] at h
      dsimp only at h
      cases e2 : c ρ1 S with
      | ok d S2 =>
        rw [e2] at h
        cases d with
        | true =>
          simp only [R.nx, if_true] at h
          cases e3 : m ρ1 S2 with
          | ok v S3 =>
            rw [e3] at h
            simp only [R.nx] at h
            cases e4 : lcL t c m ρ r S3 with
            | ok vs S4 =>
              rw [e4] at h
              simp only [R.nx] at h
              cases h
              have := lcL_len e4
              simp; omega
            | _ => rw [e4] at h; cases h
          | _ => rw [e3] at h; cases h
        | false =>
          simp only [R.nx, Bool.false_eq_true, if_false] at h
          have := lcL_len h
          simp; omega
      | _ => rw [e2] at h; cases h
/-- the run of the turns, by the reading; the source's own reading is left open -/
theorem lc_runG {wi : TI} {nw : Bool} {mi : AM} {vs : List Nat} {g : TG} {t : CM} {c : TM} {m : EM} {σ : L2.St} {H : Hp} {Q : VK} {B : Addr → Prop} {φ : List Addr} {ρ : En} {S : Sto} (hg : CT X vs g t) (gr : Rel (km X) B φ ρ S σ H) (hw : ∀ R, IPost (km X) W B φ ρ S σ H (mi ρ S) R → wi σ H R)
    (q : RPost (km X) W B φ ρ S σ H (eLc nw mi vs t c m ρ S) Q) : tLc wi g (tT (km X) WF c) (tE (km X) WF m) vs σ H Q := by
  refine hw _ ?_
  unfold eLc at q
  cases e0 : mi ρ S with
  | fail => rw [e0] at q; exact q
  | exc x a S1 => rw [e0] at q; exact q
  | ok ps S1 =>
    rw [e0] at q
    simp only [R.bind] at q
    intro φ1 H1 J f1 g1 y D hD
    have q := RPost.shift f1 q
    cases e1 : lcL t c m (wipeE ρ vs) ps S1 with
    | exc x a S2 => rw [e1] at q; exact q.elim
    | fail => rw [e1] at q; exact q.elim
    | ok ws S2 =>
      rw [e1] at q
      simp only [R.nx] at q
      split at q
      · rename_i hlim
        let B' : Addr → Prop := fun a => B a ∨ a = D
        refine ⟨fun i n H => n = ps.length - i ∧ i ≤ ps.length ∧ ∃ φ2 S3 acc accv ws', Fr φ1 S1 H1 φ2 S3 H ∧ Rel (km X) B' φ2 ρ S3 σ H ∧ H D = some (.lst accv) ∧ RVs X.K (Mu B' φ2 S3) φ2 H acc accv ∧ acc.length ≤ i ∧ lcL t c m (wipeE ρ vs) (ps.drop i) S3 = .ok ws' S2 ∧ ws = acc ++ ws',
          ⟨ps.length, by simp, Nat.zero_le _, φ1, S1, [], [], ws, (Fr.refl _ _ _).putD hD, g1.hide hD, upd_same, .nil, Nat.zero_le _, e1, rfl⟩, ?_⟩
        rintro i n H2 ⟨rfl, hi, φ2, S3, acc, accv, ws', f2, g2, hD2, ta, hal, e2, ew⟩
        have bx : ∀ a o, H1 a = some o → B' a → B a := fun a o h b => b.resolve_right (ne_of_none h hD)
        obtain ⟨yg, ys, yy⟩ := y B' φ2 S3 H2 ⟨f2, bx⟩ g2.ag i
        by_cases hlt : i < ps.length
        · refine .inr ⟨yg hlt, fun H => ∃ φ2 S3 acc accv ws', Fr φ1 S1 H1 φ2 S3 H ∧ Rel (km X) B' φ2 ρ S3 σ H ∧ H D = some (.lst accv) ∧ RVs X.K (Mu B' φ2 S3) φ2 H acc accv ∧ acc.length ≤ i + 1 ∧ lcL t c m (wipeE ρ vs) (ps.drop (i + 1)) S3 = .ok ws' S2 ∧ ws = acc ++ ws',
            fun H' h => ⟨ps.length - (i + 1), by omega, rfl, hlt, h⟩, fun x H3 hy => ?_⟩
          obtain ⟨f3, a3, r3⟩ := yy ps[i] (List.getElem?_eq_getElem hlt) x H3 hy
          rw [List.drop_eq_getElem_cons hlt] at e2
          unfold lcL at e2
          have g3 := g2.stay f3 a3
          have hD3 := f3.atD g2.ag hD2
          have ta3 := ta.stay g2.ag f3
          cases e3 : t ps[i] (wipeE ρ vs) with
          | none => rw [e3] at e2; cases e2
          | some ρ1 =>
            rw [e3] at e2
            dsimp only at e2
            refine hg x _ H3 _ B' φ2 _ ρ1 S3 ps[i] (g3.wipe vs) r3 e3 fun σ4 g4 w4 => ⟨w4.trans (wipe_idem σ vs vs fun _ h => h), B', φ2, ρ1, S3, g4, ?_⟩
            cases e4 : c ρ1 S3 with
            | exc x a S4 => rw [e4] at e2; cases e2
            | fail => rw [e4] at e2; cases e2
            | ok d S4 =>
              rw [e4] at e2
              simp only [R.nx] at e2
              intro φ5 H5 f5 g5
              have hD5 := f5.atD g3.ag hD3
              have ta5 := ta3.stay g3.ag f5
              have g5' := g3.stay f5 g5.ag
              cases d with
              | true =>
                rw [if_pos rfl] at e2 ⊢
                refine ⟨B', φ5, ρ1, S4, g5, ?_⟩
                cases e5 : m ρ1 S4 with
                | exc x a S4 => rw [e5] at e2; cases e2
                | fail => rw [e5] at e2; cases e2
                | ok v S5 =>
                  rw [e5] at e2
                  simp only [R.nx] at e2
                  intro φ6 v' H6 f6 g6 r6
                  have hD6 := f6.atD g5.ag hD5
                  have ta6 := ta5.stay g5.ag f6
                  have g6' := g5'.stay f6 g6.ag
                  cases e6 : lcL t c m (wipeE ρ vs) (ps.drop (i + 1)) S5 with
                  | exc x a S4 => rw [e6] at e2; cases e2
                  | fail => rw [e6] at e2; cases e2
                  | ok us S6 =>
                    rw [e6] at e2
                    simp only at e2
                    cases e2
                    refine ⟨accv, hD6, ?_, φ6, S5, acc ++ [v], accv ++ [v'], us, (((f2.trans f3).trans f5).trans f6).putD hD, g6'.putD hD6, upd_same, RVs.lean (lean_D (o := _) g6.ag hD6) _ (ta6.append (.cons r6 .nil)), by simp; omega, e6, by rw [ew]; simp⟩
                    rw [← ta6.length, szl]
                    unfold lim at hlim
                    omega
              | false =>
                rw [if_neg Bool.false_ne_true] at e2 ⊢
                exact ⟨φ5, S4, acc, accv, ws', (f2.trans f3).trans f5, g5', hD5, ta5, Nat.le_succ_of_le hal, e2, ew⟩
        · have hi' : i = ps.length := by omega
          subst hi'
          rw [List.drop_length] at e2
          unfold lcL at e2
          cases e2
          rw [List.append_nil] at ew
          subst ew
          refine .inl ⟨ys (Nat.le_refl _), ?_⟩
          cases nw with
          | false =>
            refine q φ2 (.ref D) H2 f2 g2.show ?_
            unfold RV
            refine ⟨D, accv, rfl, ⟨fun mm => ?_, hD2⟩, ta.show⟩
            rcases mm with mm | mm
            · exact g1.ag.none_notB hD mm
            · exact g2.ag.dis D (live_mem mm) (.inr rfl)
          | true =>
            have gt := g2.take hD2 ta (g1.ag.none_notB hD)
            refine q (φ2 ++ [D]) (.ref D) H2 ⟨?_, f2.keep, fun a l => ?_, f2.trk⟩ gt ?_
            · obtain ⟨l, e⟩ := f2.pre
              exact ⟨l ++ [D], by rw [e, List.append_assoc]⟩
            · rcases (live_push g2.ag.len).mp l with l | l
              · exact f2.new a l
              · subst l; exact .inr hD
            · unfold RV
              exact ⟨D, by rw [← g2.ag.len]; simp, rfl⟩
      · exact q.elim
theorem lc_run {nw : Bool} {mi : AM} {vs : List Nat} {g : TG} {t : CM} {c : TM} {m : EM} {σ : L2.St} {H : Hp} {Q : VK} (hg : CT X vs g t) (q : tE (km X) W (eLc nw mi vs t c m) σ H Q) : tLc (tI (km X) W mi) g (tT (km X) WF c) (tE (km X) WF m) vs σ H Q := by
  obtain ⟨B, φ, ρ, S, gr, q⟩ := q
  exact lc_runG hg gr (fun R h => ⟨B, φ, ρ, S, gr, h⟩) q
theorem se_lc {nw : Bool} {elt tg iter : Expr} {ifs : List Expr} {scope : Scope} {own : List (Str × Nat)} {mi : AM} {g : TG} {t : CM} {c : TM} {m : EM} (hc : X.calm = true) (hN : X.N.Nodup) (hi : SI X W tg iter mi) (ok : BlkOk X.N X.env.scope scope own)
    (hg : ∀ (s : Shared) (H : Hp) (C : Addr) (cl : List (Str × Addr)) (fp : List Addr), PG (X.blk s H scope (compEnvC scope cl C X.env) fp) tg g)
    (ht : ∀ (s : Shared) (H : Hp) (C : Addr) (cl : List (Str × Addr)) (fp : List Addr), PTs (X.blk s H scope (compEnvC scope cl C X.env) fp) ifs (tT (km X) WF c))
    (he : ∀ (s : Shared) (H : Hp) (C : Addr) (cl : List (Str × Addr)) (fp : List Addr), SE (X.blk s H scope (compEnvC scope cl C X.env) fp) WF elt m) (hct : CT X (own.map (·.2)) g t) (hs : ∀ x, foldedSetIterable iter X.env x = pure x := by intro _; rfl) :
    SE X W (.ListComp elt [⟨tg, iter, ifs, 0⟩] scope pos) (eLc nw mi (own.map (·.2)) t c m) :=
  PE.via (pe_lc (te := tE (km X) WF m) (tt := tT (km X) WF c) hc hN hi ok hg ht he hs) fun _ _ _ q => lc_run hct q
theorem ss_lc {nw : Bool} {i : Nat} {y : Str} {py spos : Pos} {elt tg iter : Expr} {ifs : List Expr} {scope : Scope} {own : List (Str × Nat)} {mi : AM} {g : TG} {t : CM} {c : TM} {m : EM} (hc : X.calm = true) (hN : X.N.Nodup) (hy : X.N[i]? = some y) (hyl : X.env.scope.names.lookup y = some .local)
    (hsw : swapsWith (.ListComp elt [⟨tg, iter, ifs, 0⟩] scope pos) (some (.Name y py)) spos.line X.env = pure true) (hi : SI X W tg iter mi) (ok : BlkOk X.N X.env.scope scope own)
    (hg : ∀ (s : Shared) (H : Hp) (C : Addr) (cl : List (Str × Addr)) (fp : List Addr), PG (X.blk s H scope (compEnvC scope cl C X.env) fp) tg g)
    (ht : ∀ (s : Shared) (H : Hp) (C : Addr) (cl : List (Str × Addr)) (fp : List Addr), PTs (X.blk s H scope (compEnvC scope cl C X.env) fp) ifs (tT (km X) WF c))
    (he : ∀ (s : Shared) (H : Hp) (C : Addr) (cl : List (Str × Addr)) (fp : List Addr), SE (X.blk s H scope (compEnvC scope cl C X.env) fp) WF elt m) (hct : CT X (own.map (·.2)) g t) (hs : ∀ x, foldedSetIterable iter X.env x = pure x := by intro _; rfl) :
    SS X W (.Assign [.Name y py] (.ListComp elt [⟨tg, iter, ifs, 0⟩] scope pos) spos) (sNm i (eLc nw mi (own.map (·.2)) t c m)) :=
  PS.via (ps_setLc (te := tE (km X) WF m) (tt := tT (km X) WF c) hc hN hy hyl hsw hi ok hg ht he hs) fun D σ H ⟨B, φ, ρ, S, gr, q⟩ =>
    lc_run (Q := fun x H1 => gName i x σ H1 D.nx) hct ⟨B, φ, ρ, S, gr, (RPost.bindS q).mono fun v' H1 ⟨φ1, S1, v, m1, rv, q1⟩ => q1 φ1 _ H1 (Fr.refl _ _ _) (m1.rel.set rv i)⟩
theorem pts_yes {e : Cx} {Y : KM} : PTs e [] (tT Y WF tTrue) := ⟨fun pins s σ H Q I ⟨B, φ, ρ, S, g, q⟩ => pts_nil.run pins s σ H Q I (q φ H (Fr.refl _ _ _) g)⟩
theorem pts_if {e : Cx} {c : Expr} {m : TM} (h : ST e WF c m) : PTs e [c] (tT (km e) WF m) := pts_one h
/-! ### sources -/
theorem pi_or {tg iter : Expr} {t t' : TI} (h : PI X tg iter t) (h' : PI X tg iter t') : PI X tg iter (fun σ H R => t σ H R ∨ t' σ H R) := ⟨fun pins s σ H R I q => q.elim (h.run pins s σ H R I) (h'.run pins s σ H R I)⟩
theorem RPost.bindI {B : Addr → Prop} {φ : List Addr} {ρ : En} {S : Sto} {σ : L2.St} {H : Hp} {r : R PV} {k : PV → Sto → R (List PV)} {Q : It → Hp → Prop} (h : IPost (km X) W B φ ρ S σ H (r.bind k) Q) :
    RPost (km X) W B φ ρ S σ H r (fun v' H' => ∃ φ' S' v, Mid (km X) B φ ρ S σ H φ' S' H' ∧ RV X.K (Mu B φ' S') φ' H' v v' ∧ IPost (km X) W B φ' ρ S' σ H' (k v S') Q) := by
  cases r with
  | ok v S1 =>
    refine fun φ2 v2 H2 f2 g2 r2 => ⟨φ2, S1, v, ⟨f2, g2⟩, r2, ?_⟩
    simp only [R.bind] at h
    cases e : k v S1 with
    | ok ps S2 => rw [e] at h; exact fun φ3 H3 J f3 g3 y => h φ3 H3 J (f2.trans f3) g3 y
    | exc c a S2 => rw [e] at h; exact XPost.shift f2 h
    | fail => rw [e] at h; exact h
  | exc c a S1 => exact h
  | fail => exact h
theorem APost.bindI {B : Addr → Prop} {φ : List Addr} {ρ : En} {S : Sto} {σ : L2.St} {H : Hp} {r : R (List PV)} {k : List PV → Sto → R (List PV)} {Q : It → Hp → Prop} (h : IPost (km X) W B φ ρ S σ H (r.bind k) Q) :
    APost (km X) W B φ ρ S σ H r (fun v' H' => ∃ φ' S' v, Mid (km X) B φ ρ S σ H φ' S' H' ∧ RVs X.K (Mu B φ' S') φ' H' v v' ∧ IPost (km X) W B φ' ρ S' σ H' (k v S') Q) := by
  cases r with
  | ok v S1 =>
    refine fun φ2 v2 H2 f2 g2 r2 => ⟨φ2, S1, v, ⟨f2, g2⟩, r2, ?_⟩
    simp only [R.bind] at h
    cases e : k v S1 with
    | ok ps S2 => rw [e] at h; exact fun φ3 H3 J f3 g3 y => h φ3 H3 J (f2.trans f3) g3 y
    | exc c a S2 => rw [e] at h; exact XPost.shift f2 h
    | fail => rw [e] at h; exact h
  | exc c a S1 => exact h
  | fail => exact h
/-- a list or tuple that stays as it is -/
def seqI : PV → Option (List PV)
  | .tup ps => some ps
  | .lst ps => some ps
  | .fls ps => some ps
  | _ => none
def iSeq (m : EM) : AM := fun ρ S => (m ρ S).bind fun v S1 => R.of S1 (seqI v)
/-- a source's place and items, whatever became of the state -/
theorem keepL {B : Addr → Prop} {φ : List Addr} {S : Sto} {H : Hp} {v : V} {ps : List PV} {K : PySem.W.Frag} {p : PV} (hp : p = .lst ps ∨ p = .fls ps) (g : Ag K B φ S H) (r : RV K (Mu B φ S) φ H p v) :
    ∃ a vs, v = .ref a ∧ SqL K H a vs ∧ RVs K (Mu B φ S) φ H ps vs ∧ ∀ B1 φ1 S1 H1, Ex B φ S H B1 φ1 S1 H1 → SqL K H1 a vs := by
  rcases hp with rfl | rfl
  · unfold RV at r
    obtain ⟨a, vs, rfl, h, t⟩ := r
    exact ⟨a, vs, rfl, .of h.2, t, fun B1 φ1 S1 H1 x => .of ((x.lean g).keep a _ h.2 h.1)⟩
  · unfold RV at r
    obtain ⟨a, vs, rfl, h, t⟩ := r
    refine ⟨a, vs, rfl, ?_, t, fun B1 φ1 S1 H1 x => ?_⟩
    · rcases h with ⟨o, h⟩ | h
      · exact .inl (.inr ⟨o, h⟩)
      · exact .inr h
    · rcases h with ⟨o, h⟩ | h
      · exact .inl (.inr ⟨o, (x.lean g).frz a o _ h⟩)
      · exact .inr h
theorem keepT {B : Addr → Prop} {φ : List Addr} {S : Sto} {H : Hp} {v : V} {ps : List PV} {K : PySem.W.Frag} (g : Ag K B φ S H) (r : RV K (Mu B φ S) φ H (.tup ps) v) :
    ∃ a vs, v = .ref a ∧ SqT K H a vs ∧ RVs K (Mu B φ S) φ H ps vs ∧ ∀ B1 φ1 S1 H1, Ex B φ S H B1 φ1 S1 H1 → SqT K H1 a vs := by
  unfold RV at r
  obtain ⟨a, vs, rfl, h, t⟩ := r
  refine ⟨a, vs, rfl, .of h, t, fun B1 φ1 S1 H1 x => .of ((x.lean g).tup a vs h)⟩
theorem seqI_cases {p : PV} {ps : List PV} (e : seqI p = some ps) : p = .tup ps ∨ p = .lst ps ∨ p = .fls ps := by
  cases p <;> cases e <;> simp
/-- items as they stand, given out -/
theorem yld_items {B : Addr → Prop} {φ : List Addr} {S : Sto} {H : Hp} {ps : List PV} {vs : List V} {K : PySem.W.Frag} {J : It} (g : Ag K B φ S H) (t : RVs K (Mu B φ S) φ H ps vs)
    (h : ∀ B1 φ1 S1 H1, Ex B φ S H B1 φ1 S1 H1 → ∀ i : Nat, (i < vs.length → J.go i H1) ∧ (vs.length ≤ i → J.stop i H1) ∧ ∀ x H2, J.yld i H1 x H2 → H2 = H1 ∧ (i < vs.length → vs[i]? = some x)) : Yld K B φ S H ps J := fun B1 φ1 S1 H1 x a1 i => by
  obtain ⟨h1, h2, h3⟩ := h B1 φ1 S1 H1 x i
  rw [t.length]
  refine ⟨h1, h2, fun p hp v H2 y => ?_⟩
  obtain ⟨rfl, e⟩ := h3 v H2 y
  obtain ⟨u, hu, ru⟩ := t.get hp
  rw [e (List.getElem?_eq_some_iff.mp hu).1] at hu
  cases hu
  exact ⟨Fr.refl _ _ _, a1, RV.lean (x.lean g) p ru⟩
theorem si_seq {tg e : Expr} {m : EM} (h : SE X W e m) : SI X W tg e (iSeq m) := by
  refine PI.via (pi_or (pi_list h) (pi_tup h)) fun σ H Q ⟨B, φ, ρ, S, g, q⟩ => ?_
  unfold iSeq at q
  cases e0 : m ρ S with
  | fail => rw [e0] at q; exact q.elim
  | exc c a S1 => rw [e0] at q; exact .inl ⟨B, φ, ρ, S, g, by rw [e0]; exact q⟩
  | ok v S1 =>
    rw [e0] at q
    simp only [R.bind] at q
    cases e1 : seqI v with
    | none => rw [e1] at q; exact q.elim
    | some ps =>
      rw [e1] at q
      rcases seqI_cases e1 with rfl | hl
      · refine .inr ⟨B, φ, ρ, S, g, ?_⟩
        rw [e0]
        intro φ1 v' H1 f1 g1 r1
        obtain ⟨a, vs, rfl, h1, t, k⟩ := keepT g1.ag r1
        refine ⟨a, rfl, ⟨vs, h1⟩, q φ1 H1 _ f1 g1 (yld_items g1.ag t fun B2 φ2 S2 H2 x i => ?_)⟩
        have h2 := k _ _ _ _ x
        exact ⟨fun hi => ⟨vs, vs[i], h2, List.getElem?_eq_getElem hi⟩, fun hi => ⟨vs, h2, hi⟩, fun z H3 y => ⟨y.1, fun _ => y.2 vs h2⟩⟩
      · refine .inl ⟨B, φ, ρ, S, g, ?_⟩
        rw [e0]
        intro φ1 v' H1 f1 g1 r1
        obtain ⟨a, vs, rfl, h1, t, k⟩ := keepL hl g1.ag r1
        refine ⟨a, rfl, ⟨vs, h1⟩, q φ1 H1 _ f1 g1 (yld_items g1.ag t fun B2 φ2 S2 H2 x i => ?_)⟩
        have h2 := k _ _ _ _ x
        exact ⟨fun hi => ⟨vs, vs[i], h2, List.getElem?_eq_getElem hi⟩, fun hi => ⟨vs, h2, hi⟩, fun z H3 y => ⟨y.1, fun _ => y.2 vs h2⟩⟩
/-! #### ranges -/
def rng (lo : Int) (n : Nat) : List PV := (List.range n).map fun (k : Nat) => .int (lo + k)
def rngC (lo c : Int) (n : Nat) : List PV := (List.range n).map fun (k : Nat) => .int (lo + k * c)
@[irreducible] def inW (i : Int) : Bool := decide (-(2 ^ 62) ≤ i ∧ i < 2 ^ 62)
theorem inW_of {i : Int} (h : inW i = true) : -(2 ^ 62) ≤ i ∧ i < 2 ^ 62 := by unfold inW at h; exact of_decide_eq_true h
def iRange1 (r : AM) : AM := fun ρ S => (r ρ S).bind fun vs S1 => match vs with
  | [.int j] => if inW j then .ok (rng 0 j.toNat) S1 else .fail
  | _ => .fail
def iRange2 (r : AM) : AM := fun ρ S => (r ρ S).bind fun vs S1 => match vs with
  | [.int i, .int j] => if inW i && inW j then .ok (rng i (j - i).toNat) S1 else .fail
  | _ => .fail
def iRange3 (r : AM) : AM := fun ρ S => (r ρ S).bind fun vs S1 => match vs with
  | [.int i, .int j, .int c] => if inW i && inW j && c == -1 then .ok (rngC i (-1) (i - j).toNat) S1 else .fail
  | _ => .fail
theorem yld_fn {B : Addr → Prop} {φ : List Addr} {S : Sto} {H : Hp} {K : PySem.W.Frag} {J : It} {n : Nat} {f : Nat → Int}
    (h : ∀ i H1, (i < n → J.go i H1) ∧ (n ≤ i → J.stop i H1) ∧ ∀ x H2, J.yld i H1 x H2 → H2 = H1 ∧ x = .int (f i)) : Yld K B φ S H ((List.range n).map fun k => .int (f k)) J := fun B1 φ1 S1 H1 x a1 i => by
  obtain ⟨h1, h2, h3⟩ := h i H1
  rw [List.length_map, List.length_range]
  refine ⟨h1, h2, fun p hp v H2 y => ?_⟩
  obtain ⟨rfl, rfl⟩ := h3 v H2 y
  refine ⟨Fr.refl _ _ _, a1, ?_⟩
  rw [List.getElem?_map] at hp
  cases e : (List.range n)[i]? with
  | none => rw [e] at hp; cases hp
  | some k =>
    rw [e] at hp
    cases hp
    have := (List.getElem?_eq_some_iff.mp e).2
    rw [List.getElem_range] at this
    subst this
    exact .int _
theorem ap_ints1 {K : PySem.W.Frag} {M : Addr → Prop} {φ : List Addr} {H : Hp} {i : Int} {vs : List V} (t : RVs K M φ H [.int i] vs) : vs = [.int i] := by
  obtain ⟨v, ws, rfl, h1, h2⟩ := t.uncons
  unfold RVs at h2
  subst h2
  cases h1.int_eq
  rfl
theorem ap_ints2 {K : PySem.W.Frag} {M : Addr → Prop} {φ : List Addr} {H : Hp} {i j : Int} {vs : List V} (t : RVs K M φ H [.int i, .int j] vs) : vs = [.int i, .int j] := by
  obtain ⟨v, ws, rfl, h1, h2⟩ := t.uncons
  cases h1.int_eq
  rw [ap_ints1 h2]
theorem ap_ints3 {K : PySem.W.Frag} {M : Addr → Prop} {φ : List Addr} {H : Hp} {i j c : Int} {vs : List V} (t : RVs K M φ H [.int i, .int j, .int c] vs) : vs = [.int i, .int j, .int c] := by
  obtain ⟨v, ws, rfl, h1, h2⟩ := t.uncons
  cases h1.int_eq
  rw [ap_ints2 h2]
theorem si_range1 {tg a : Expr} {r : AM} {p : Pos} (hg : Gl X "range") (hm : X.mg "range" = none) (ha : SA X W [a] r) (hs : starEach [a] X.env = [(false, eval a X.env)] := by rfl) : SI X W tg (.Call (.Name "range" p) [a] [] pos) (iRange1 r) := by
  refine PI.via (pi_range1 hg hm ha hs) fun σ H Q ⟨B, φ, ρ, S, g, q⟩ => ?_
  refine tA.of g (APost.bindI q) fun vs' H1 ⟨φ1, S1, vs, m1, t, q1⟩ => ?_
  split at q1
  · rename_i j
    split at q1
    · rename_i hw
      have hw := inW_of hw
      exact ⟨_, ap_ints1 t, hw.1, hw.2, q1 φ1 H1 _ (Fr.refl _ _ _) m1.rel (yld_fn fun i H1 => ⟨fun h => h, fun h => h, fun x H2 y => y⟩)⟩
    · exact q1.elim
  · exact q1.elim
theorem si_range2 {tg a b : Expr} {r : AM} {p : Pos} (hg : Gl X "range") (hm : X.mg "range" = none) (ha : SA X W [a, b] r) (hs : starEach [a, b] X.env = [(false, eval a X.env), (false, eval b X.env)] := by rfl) (hs2 : starEach [b] X.env = [(false, eval b X.env)] := by rfl) :
    SI X W tg (.Call (.Name "range" p) [a, b] [] pos) (iRange2 r) := by
  refine PI.via (pi_range2 hg hm ha hs hs2) fun σ H Q ⟨B, φ, ρ, S, g, q⟩ => ?_
  refine tA.of g (APost.bindI q) fun vs' H1 ⟨φ1, S1, vs, m1, t, q1⟩ => ?_
  split at q1
  · split at q1
    · rename_i hw
      rw [Bool.and_eq_true] at hw
      have h1 := inW_of hw.1
      have h2 := inW_of hw.2
      exact ⟨_, _, ap_ints2 t, ⟨h1.1, h1.2, h2.1, h2.2⟩, q1 φ1 H1 _ (Fr.refl _ _ _) m1.rel (yld_fn fun i H1 => ⟨fun h => h, fun h => h, fun x H2 y => y⟩)⟩
    · exact q1.elim
  · exact q1.elim
theorem si_range3 {tg a b c : Expr} {r : AM} {t : TI} {p : Pos} (h : PI X tg (.Call (.Name "range" p) [a, b, c] [] pos) (iRng3 (tA (km X) W r))) : SI X W tg (.Call (.Name "range" p) [a, b, c] [] pos) (iRange3 r) := by
  refine PI.via h fun σ H Q ⟨B, φ, ρ, S, g, q⟩ => ?_
  refine tA.of g (APost.bindI q) fun vs' H1 ⟨φ1, S1, vs, m1, t, q1⟩ => ?_
  split at q1
  · split at q1
    · rename_i hw
      rw [Bool.and_eq_true, Bool.and_eq_true] at hw
      have h1 := inW_of hw.1.1
      have h2 := inW_of hw.1.2
      have h3 := beq_iff_eq.mp hw.2
      subst h3
      exact ⟨_, _, _, _, ap_ints3 t, RgC.neg h1.1 h1.2 h2.1 h2.2, q1 φ1 H1 _ (Fr.refl _ _ _) m1.rel (yld_fn fun i H1 => ⟨fun h => h, fun h => h, fun x H2 y => y⟩)⟩
    · exact q1.elim
  · exact q1.elim
end
end Mir
/-! Mir: enumerate and zip over lists and tuples. -/
namespace Mir
open PySem PySem.Spec PyProof.Rows L2
/-- a list (k) or a tuple -/
def HSK (k : Bool) (K : PySem.W.Frag) (H : Hp) (a : Addr) (vs : List V) : Prop := if k then SqL K H a vs else SqT K H a vs
def SrK (k : Bool) (a : Addr) (items : Array Value) (h : Heap) : Prop := if k then h.IsList a items else h.IsTuple a items
def LtK (k : Bool) (it a : Addr) (i : Nat) (h : Heap) : Prop := if k then h.IsListIter it a i else h.IsTupleIter it a i
def itO (k : Bool) (a : Addr) : Obj := if k then { cls := .type "list_iterator", data := .fields #[.ref a, .int 0 0] } else { cls := .type "tuple_iterator", data := .fields #[.ref a, .int 0 0] }
theorem srk_of {X : Cx} {pins : List (Addr × Obj)} {σ : L2.St} {H : Hp} {s : Shared} {a : Addr} {vs : List V} {k : Bool} (I : Inv X pins σ H s) (h : HSK k X.K H a vs) : ∃ its : List Value, Vals vs its ∧ SrK k a its.toArray s.heap ∧ vs.length ≤ sizeLine := by
  cases k with
  | true => obtain ⟨its, r, p, z⟩ := I.list h; exact ⟨its, r, p.isList, z⟩
  | false => obtain ⟨its, r, p, z⟩ := I.tuple h; exact ⟨its, r, p, z⟩
theorem srk_draws {prog : Program} {w : World} {A : Around} (hh : A.handled = none) (k : Bool) (it a : Addr) (hne : a ≠ it) (items : Array Value) :
    Draws prog w A it [it, a] items.size (fun i v => items[i]? = some v) (fun i h => LtK k it a i h ∧ SrK k a items h) := by
  cases k with
  | true => exact Draws.list hh it a hne items
  | false => exact Draws.tuple hh it a hne items
theorem srk_begins (k : Bool) (a : Addr) (items : Array Value) : Begins (.ref a) (itO k a) (SrK k a items) := by
  cases k with
  | true => exact begins_list a items
  | false => exact begins_tuple a items
theorem ltk_ne {k : Bool} {it a : Addr} {i : Nat} {h : Heap} {items : Array Value} (l : LtK k it a i h) (s : SrK k a items h) : a ≠ it := by
  intro e
  subst e
  cases k with
  | true =>
    obtain ⟨o, h1, h2, _⟩ := l
    obtain ⟨o', h1', h2', _⟩ := s
    rw [h1] at h1'; cases h1'
    rw [h2] at h2'; simp at h2'
  | false =>
    obtain ⟨o, h1, h2, _⟩ := l
    obtain ⟨o', h1', h2', _⟩ := s
    rw [h1] at h1'; cases h1'
    rw [h2] at h2'; simp at h2'
theorem ltk_at {k : Bool} {it a : Addr} {i : Nat} {h h' : Heap} (l : LtK k it a i h) (q : ∀ o, h.get? it = some o → h'.get? it = some o) : LtK k it a i h' := by
  cases k with
  | true => exact Heap.IsListIter.at l q
  | false => exact Heap.IsTupleIter.at l q
theorem ltk_obj {k : Bool} {it a : Addr} {i : Nat} {h : Heap} (l : LtK k it a i h) : ∃ o, h.get? it = some o ∧ ∀ v, o.data ≠ .cell v := by
  cases k with
  | true => obtain ⟨o, h1, h2, h3⟩ := l; exact ⟨o, h1, fun v q => by rw [h3] at q; cases q⟩
  | false => obtain ⟨o, h1, h2, h3⟩ := l; exact ⟨o, h1, fun v q => by rw [h3] at q; cases q⟩
theorem ltk_new {k : Bool} {it a : Addr} {h : Heap} (e : h.get? it = some (itO k a)) : LtK k it a 0 h := by
  cases k with
  | true => exact ⟨_, e, rfl, rfl⟩
  | false => exact ⟨_, e, rfl, rfl⟩
/-- enumerate of what stands at a -/
def IteX (k : Bool) (K : PySem.W.Frag) (a : Addr) (vs : List V) : It :=
  ⟨fun i H => i < vs.length ∧ HSK k K H a vs, fun i H v H' => ∃ T x, v = .ref T ∧ H T = none ∧ H' = upd H T (.tup [.int (i : Nat), x]) ∧ vs[i]? = some x, fun i H => vs.length ≤ i ∧ HSK k K H a vs⟩
theorem turn_enumX {P : Program} {w : World} {K : PySem.W.Frag} {elts : List Expr} {kk : Nat} {tpos : Pos} (k : Bool) (a e it : Addr) (vs : List V) :
    Turn P w K (.Tuple elts kk tpos) (IteX k K a vs) [e, it] e (fun i h => (∃ old, IsEnum h e it ((i : Nat) : Int) old) ∧ LtK k it a i h ∧ e ≠ it ∧ i ≤ vs.length) where
  mem := by simp
  obj := fun i h st b hb => by
    obtain ⟨⟨old, he⟩, hl, _⟩ := st
    have e' : b = e ∨ b = it := by simpa using hb
    rcases e' with z | z
    · rw [z]; exact ⟨_, he, fun v q => nomatch q⟩
    · rw [z]; exact ltk_obj hl
  keep := fun i h h' st q => by
    obtain ⟨⟨old, he⟩, hl, hne, hi⟩ := st
    exact ⟨⟨old, q e (by simp) _ he⟩, ltk_at hl fun o z => q it (by simp) o z, hne, hi⟩
  item := by
    intro X hP hw hK hc i pins s σ H E I hf st hg
    subst hP hw hK
    obtain ⟨⟨old, he⟩, hit, hne, _⟩ := st
    obtain ⟨hlt, hs⟩ := hg
    obtain ⟨its, rv, sr, hz⟩ := srk_of I hs
    have hae := ltk_ne hit sr
    have hel : e < s.heap.objs.size := Heap.lt_size he
    have hil : it < s.heap.objs.size := by obtain ⟨o, q, _⟩ := ltk_obj hit; exact Heap.lt_size q
    have hsz : its.toArray.size = vs.length := by rw [List.size_toArray]; exact rv.length.symm
    have hea : e ≠ a := fun z => by
      subst z
      cases k with
      | true => obtain ⟨o', h1', h2', _⟩ := sr; rw [he] at h1'; cases h1'; simp at h2'
      | false => obtain ⟨o', h1', h2', _⟩ := sr; rw [he] at h1'; cases h1'; simp at h2'
    have G := GoesN.enumFrom (elts := elts) (x1 := kk) (pos := tpos) 0 (srk_draws (prog := X.prog) (w := X.w) (A := X.A.in1) (I.ok.hd hc) k it a hae its.toArray) e hne (by simp [hne, hea]) (by simp)
    refine G.goes i s (fun v s2 => ∃ x H', Inv X pins σ H' s2 ∧ RelV x v ∧ (IteX k X.K a vs).yld i H x H' ∧ ((∃ old, IsEnum s2.heap e it ((i + 1 : Nat) : Int) old) ∧ LtK k it a (i + 1) s2.heap ∧ e ≠ it ∧ i + 1 ≤ vs.length) ∧ ∀ b ∈ [e, it], H' b = none) E (by rw [hsz]; exact hlt)
      ⟨⟨old, by simpa using he⟩, hit, sr⟩ fun v h' tk hY st' hk _ => ?_
    obtain ⟨T, t, x, rfl, hT, hx, hTT⟩ := hY
    obtain ⟨⟨old', he'⟩, hit', _⟩ := st'
    have hx' : its[i]? = some x := by simpa using hx
    obtain ⟨y, hy⟩ : ∃ y, vs[i]? = some y := ⟨_, List.getElem?_eq_getElem hlt⟩
    obtain ⟨u, hu, ru⟩ := rv.get hy
    rw [hx'] at hu
    cases hu
    have new : ObjOk X.prog X.w (upd H T (.tup [.int (i : Nat), y])) h' T (.tup [.int (i : Nat), y]) :=
      ⟨by show 2 ≤ sizeLine; decide, [.int (0 + (i : Int)) t, x], .cons ⟨t, by rw [Int.zero_add]⟩ (.cons ru .nil), hTT⟩
    have I1 : Inv X pins σ (upd H T (.tup [.int (i : Nat), y])) { s with heap := h', toks := tk } := I.turnedNew (ch := [e, it]) hk hf hT new
    refine ⟨.ref T, _, I1, rfl, ⟨T, y, rfl, I.hok.fresh hT, rfl, hy⟩, ⟨⟨old', by simpa using he'⟩, hit', hne, hlt⟩, fun b hb => ?_⟩
    have hb' : b < s.heap.objs.size := by
      have e' : b = e ∨ b = it := by simpa using hb
      rcases e' with z | z
      · rw [z]; exact hel
      · rw [z]; exact hil
    rw [upd_ne (Nat.ne_of_lt (Nat.lt_of_lt_of_le hb' hT))]
    exact (hf b hb).1
  done := by
    intro X hP hw hK hc i pins s σ H E I hf st hg
    subst hP hw hK
    obtain ⟨⟨old, he⟩, hit, hne, hi⟩ := st
    obtain ⟨hle, hs⟩ := hg
    obtain ⟨its, rv, sr, hz⟩ := srk_of I hs
    have hae := ltk_ne hit sr
    have hsz : its.toArray.size = vs.length := by rw [List.size_toArray]; exact rv.length.symm
    have hea : e ≠ a := fun z => by
      subst z
      cases k with
      | true => obtain ⟨o', h1', h2', _⟩ := sr; rw [he] at h1'; cases h1'; simp at h2'
      | false => obtain ⟨o', h1', h2', _⟩ := sr; rw [he] at h1'; cases h1'; simp at h2'
    have ei : i = its.toArray.size := by rw [hsz]; omega
    subst ei
    have G := GoesN.enumFrom (elts := elts) (x1 := kk) (pos := tpos) 0 (srk_draws (prog := X.prog) (w := X.w) (A := X.A.in1) (I.ok.hd hc) k it a hae its.toArray) e hne (by simp [hne, hea]) (by simp)
    exact G.stops s (fun s1 => Inv X pins σ H s1) E ⟨⟨old, by simpa using he⟩, hit, sr⟩ fun h' tk hk _ => I.turnedL hk hf
  self := fun A i s Q E st h => let ⟨⟨_, he⟩, _⟩ := st; wpAny_pyIter_enum he h
/-! #### the calls -/
theorem enum1_new {v : Value} {o : Obj} {HB : Heap → Prop} (Bg : Begins v o HB) : Meets (Builtin.«enumerate.__new__» ⟨[.type "enumerate", v], []⟩) (fun _ Re sh => HB sh.heap ∧
    Re (.ok (.ret (.ref (sh.heap.push o).objs.size))) { sh with heap := (sh.heap.push o).push { cls := .type "enumerate", data := .fields #[.none, .bool false, .ref sh.heap.objs.size, rawInt 0, .none, .none] } }) :=
  .of_wp fun pr wo Ar Re sh hh => by
    obtain ⟨hea, gen, dra, tok, osy⟩ := sh
    obtain ⟨hb1, hend⟩ := hh
    have hsub := sub_enumerate
    have qq : ∀ {A' : Around} {E : Value → Shared → Prop} {Q : Value → Shared → Prop}, Q (.ref hea.objs.size) ⟨hea.push o, gen, dra, tok, osy⟩ → wpAny (model pr wo) A' (pyIter v) Q E ⟨hea, gen, dra, tok, osy⟩ :=
      fun q => Bg.iter pr wo _ _ ⟨hea, gen, dra, tok, osy⟩ _ hb1 q
    wp_walk using qq
    refine wpAny_stack_any fun stk => wpAny_pure ?_
    split
    · rename_i cc _ _ _ _ _
      cases (cc == Value.type "enumerate")
      · wp_walk using qq
        exact ⟨_, rfl, hend⟩
      · wp_walk using qq
        exact ⟨_, rfl, hend⟩
    · wp_walk using qq
      exact ⟨_, rfl, hend⟩
theorem enum1_call {pr : Program} {wo : World} {Ar : Around} {Ex : Value → Shared → Prop} {sh : Shared} {v : Value} {o : Obj} {HB : Heap → Prop} {Q : Value → Shared → Prop} (Bg : Begins v o HB) (h1 : HB sh.heap)
    (h : ∀ h', IsEnum h' (sh.heap.objs.size + 1) sh.heap.objs.size 0 .none → h'.get? sh.heap.objs.size = some o → (∀ b o, sh.heap.get? b = some o → h'.get? b = some o) → Q (.ref (sh.heap.objs.size + 1)) { sh with heap := h' }) :
    wpAny (model pr wo) Ar (call (.type "enumerate") [v]) Q Ex sh := by
  refine callType_new F.called_enumerate (by decide) (F.typeCall_enumerate_1 _) (F.newCall_enumerate_1 _) (fun ob => F.args_object_init_2 ob _) F.entry_enumerate_new (enum1_new Bg) ⟨h1, ?_⟩
  have hz : (sh.heap.push o).objs.size = sh.heap.objs.size + 1 := Heap.size_push ..
  show _ ∧ _
  rw [hz]
  have he : IsEnum ((sh.heap.push o).push { cls := .type "enumerate", data := .fields #[.none, .bool false, .ref sh.heap.objs.size, rawInt 0, .none, .none] }) (sh.heap.objs.size + 1) sh.heap.objs.size 0 .none := by
    have q := Heap.get?_push_size (sh.heap.push o) (o := { cls := .type "enumerate", data := .fields #[.none, .bool false, .ref sh.heap.objs.size, rawInt 0, .none, .none] }) rfl
    rw [hz] at q; exact q
  exact ⟨⟨_, he, rfl⟩, h _ he (Heap.get?_push_of_some _ (Heap.get?_push_size _ Bg.free)) fun b ob x => Heap.get?_push_of_some _ (Heap.get?_push_of_some _ x)⟩
def iEnumX (K : PySem.W.Frag) (ta : TA) : TI := fun σ H R => ta σ H fun vs H1 => ∃ k a xs, vs = [.ref a] ∧ HSK k K H1 a xs ∧ R (IteX k K a xs) H1
theorem pi_enumX {X : Cx} {e : Expr} {ta : TA} {p pos tpos : Pos} {elts : List Expr} {kk : Nat} (hg : Gl X "enumerate") (hm : X.mg "enumerate" = none) (ha : PA X [e] ta) (hs : starEach [e] X.env = [(false, eval e X.env)] := by rfl) :
    PI X (.Tuple elts kk tpos) (.Call (.Name "enumerate" p) [e] [] pos) (iEnumX X.K ta) := by
  refine ⟨fun pins s σ H R I h => ?_⟩
  refine Call_ (ld_blt I hg hm boot_enumerate (PyProof.Rows.callWith_type1 (thn (ha.run pos pins s σ H _ I h) fun us s1 ⟨vs, H1, I1, r1, q1⟩ => ?_) hs rfl))
  obtain ⟨k, a, xs, ex, hq, q⟩ := q1
  subst ex
  obtain ⟨u, rfl, ru⟩ := vals1 r1
  cases ru
  obtain ⟨its, rv, sr, hz⟩ := srk_of I1 hq
  refine enum1_call (srk_begins k a its.toArray) sr fun h' he hit hk => wpAny_pyIter_enum he ?_
  have I2 : Inv X pins σ H1 { s1 with heap := h' } := I1.kept (t' := s1.toks) hk
  refine ⟨s1.heap.objs.size + 1, [s1.heap.objs.size + 1, s1.heap.objs.size], _, _, H1, rfl, I2, turn_enumX k a (s1.heap.objs.size + 1) s1.heap.objs.size xs, ⟨⟨.none, he⟩, ltk_new hit, Nat.succ_ne_self _, Nat.zero_le _⟩, fun b hb => ?_, q⟩
  have hle : s1.heap.objs.size ≤ b := by
    rcases (show b = s1.heap.objs.size + 1 ∨ b = s1.heap.objs.size by simpa using hb) with z | z
    · rw [z]; exact Nat.le_add_right _ _
    · rw [z]; exact Nat.le_refl _
  exact I1.fpOk hle (I1.hok.fresh hle)
/-! #### as plain values -/
def enumP (ps : List PV) : List PV := (List.range ps.length).zipWith (fun (i : Nat) p => PV.tup [.int i, p]) ps
def iEnumM (r : AM) : AM := fun ρ S => (r ρ S).bind fun vs S1 => match vs with
  | [v] => R.of S1 ((seqI v).map enumP)
  | _ => .fail
theorem keepK {B : Addr → Prop} {φ : List Addr} {S : Sto} {H : Hp} {v : V} {ps : List PV} {K : PySem.W.Frag} {p : PV} (e : seqI p = some ps) (g : Ag K B φ S H) (r : RV K (Mu B φ S) φ H p v) :
    ∃ k a vs, v = .ref a ∧ HSK k K H a vs ∧ RVs K (Mu B φ S) φ H ps vs ∧ ∀ B1 φ1 S1 H1, Ex B φ S H B1 φ1 S1 H1 → HSK k K H1 a vs := by
  rcases seqI_cases e with rfl | hl
  · obtain ⟨a, vs, h⟩ := keepT g r; exact ⟨false, a, vs, h⟩
  · obtain ⟨a, vs, h⟩ := keepL hl g r; exact ⟨true, a, vs, h⟩
/-- a new tuple in hand -/
theorem yld_tup {B : Addr → Prop} {φ : List Addr} {S : Sto} {H H1 : Hp} {B1 : Addr → Prop} {φ1 : List Addr} {S1 : Sto} {K : PySem.W.Frag} {T : Addr} {ps : List PV} {vs : List V} (a1 : Ag K B1 φ1 S1 H1) (hT : H1 T = none) (t : RVs K (Mu B1 φ1 S1) φ1 H1 ps vs) :
    Fr φ1 S1 H1 φ1 S1 (upd H1 T (.tup vs)) ∧ Ag K B1 φ1 S1 (upd H1 T (.tup vs)) ∧ RV K (Mu B1 φ1 S1) φ1 (upd H1 T (.tup vs)) (.tup ps) (.ref T) := by
  refine ⟨fr_upd hT, a1.upd hT, ?_⟩
  unfold RV
  exact ⟨T, vs, rfl, upd_same, RVs.lean ((fr_upd hT).lean a1) _ t⟩
theorem enumP_get {ps : List PV} {i : Nat} {q : PV} (h : (enumP ps)[i]? = some q) : ∃ p, ps[i]? = some p ∧ q = .tup [.int i, p] := by
  unfold enumP at h
  rw [List.getElem?_zipWith] at h
  cases e : ps[i]? with
  | none => rw [e] at h; cases e2 : (List.range ps.length)[i]? <;> rw [e2] at h <;> cases h
  | some p =>
    rw [e] at h
    have hi := (List.getElem?_eq_some_iff.mp e).1
    rw [List.getElem?_range hi] at h
    cases h
    exact ⟨p, rfl, rfl⟩
theorem enumP_len (ps : List PV) : (enumP ps).length = ps.length := by simp [enumP]
section
variable {X : Cx} {W : WX} {pos : Pos}
theorem si_enum {e : Expr} {r : AM} {p tpos : Pos} {elts : List Expr} {kk : Nat} (hg : Gl X "enumerate") (hm : X.mg "enumerate" = none) (ha : SA X W [e] r) (hs : starEach [e] X.env = [(false, eval e X.env)] := by rfl) :
    SI X W (.Tuple elts kk tpos) (.Call (.Name "enumerate" p) [e] [] pos) (iEnumM r) := by
  refine PI.via (pi_enumX hg hm ha hs) fun σ H Q ⟨B, φ, ρ, S, g, q⟩ => ?_
  refine tA.of g (APost.bindI q) fun vs' H1 ⟨φ1, S1, vs, m1, t, q1⟩ => ?_
  split at q1
  · rename_i v
    obtain ⟨v', ws, rfl, h1, h2⟩ := t.uncons
    unfold RVs at h2
    subst h2
    cases e1 : seqI v with
    | none => rw [e1] at q1; exact q1.elim
    | some ps =>
      rw [e1] at q1
      obtain ⟨k, a, vs, rfl, hs1, t1, kp⟩ := keepK e1 m1.rel.ag h1
      refine ⟨k, a, vs, rfl, hs1, q1 φ1 H1 _ (Fr.refl _ _ _) m1.rel fun B2 φ2 S2 H2 x a2 i => ⟨fun hi => ?_, fun hi => ?_, fun p hp z H3 y => ?_⟩⟩
      · rw [enumP_len, t1.length] at hi; exact ⟨hi, kp _ _ _ _ x⟩
      · rw [enumP_len, t1.length] at hi; exact ⟨hi, kp _ _ _ _ x⟩
      · obtain ⟨T, y0, rfl, hT, rfl, hy⟩ := y
        obtain ⟨p0, hp0, rfl⟩ := enumP_get hp
        obtain ⟨u, hu, ru⟩ := t1.get hp0
        rw [hy] at hu
        cases hu
        exact yld_tup (B := B2) (φ := φ2) (S := S2) (H := H2) a2 hT (.cons (.int _) (.cons (RV.lean (x.lean m1.rel.ag) _ ru) .nil))
  · exact q1.elim
end
/-! ### zip of two -/
theorem srk_lt {k : Bool} {a : Addr} {items : Array Value} {h : Heap} (s : SrK k a items h) : a < h.objs.size := by
  cases k with
  | true => obtain ⟨o, h1, _⟩ := s; exact Heap.lt_size h1
  | false => obtain ⟨o, h1, _⟩ := s; exact Heap.lt_size h1
def ItzX (k1 k2 : Bool) (K : PySem.W.Frag) (a b : Addr) (xs ys : List V) : It :=
  ⟨fun i H => i < min xs.length ys.length ∧ HSK k1 K H a xs ∧ HSK k2 K H b ys, fun i H v H' => ∃ T x y, v = .ref T ∧ H T = none ∧ H' = upd H T (.tup [x, y]) ∧ xs[i]? = some x ∧ ys[i]? = some y, fun i H => min xs.length ys.length ≤ i ∧ HSK k1 K H a xs ∧ HSK k2 K H b ys⟩
def ZTn (k1 k2 : Bool) (a b : Addr) (N n : Nat) (i : Nat) (h : Heap) : Prop := IsZip h (N + 4) (N + 2) (N + 3) .none ∧ IsTupOf2 h (N + 2) (.ref N) (.ref (N + 1)) ∧ (∃ a1 a2, IsTupOf2 h (N + 3) a1 a2) ∧ LtK k1 N a i h ∧ LtK k2 (N + 1) b i h ∧ i ≤ n
theorem zfp {N b : Nat} (hb : b ∈ [N + 4, N + 2, N + 3, N, N + 1]) : N ≤ b ∧ b < N + 5 := by
  simp at hb
  omega
theorem turn_zipX {P : Program} {w : World} {K : PySem.W.Frag} {elts : List Expr} {kk : Nat} {tpos : Pos} (k1 k2 : Bool) (a b N : Nat) (ha : a < N) (hb : b < N) (xs ys : List V) :
    Turn P w K (.Tuple elts kk tpos) (ItzX k1 k2 K a b xs ys) [N + 4, N + 2, N + 3, N, N + 1] (N + 4) (ZTn k1 k2 a b N (min xs.length ys.length)) where
  mem := by simp
  obj := fun i h st c hc => by
    obtain ⟨h1, h2, ⟨a1, a2, h3⟩, h4, h5, _⟩ := st
    simp at hc
    rcases hc with z | z | z | z | z
    · rw [z]; exact ⟨_, h1, fun v q => nomatch q⟩
    · rw [z]; exact ⟨_, h2, fun v q => nomatch q⟩
    · rw [z]; exact ⟨_, h3, fun v q => nomatch q⟩
    · rw [z]; exact ltk_obj h4
    · rw [z]; exact ltk_obj h5
  keep := fun i h h' st q => by
    obtain ⟨h1, h2, ⟨a1, a2, h3⟩, h4, h5, h6⟩ := st
    exact ⟨q _ (by simp) _ h1, q _ (by simp) _ h2, ⟨a1, a2, q _ (by simp) _ h3⟩, ltk_at h4 fun o z => q N (by simp) o z, ltk_at h5 fun o z => q (N + 1) (by simp) o z, h6⟩
  item := by
    intro X hP hw hK hc i pins s σ H E I hf st hg
    subst hP hw hK
    obtain ⟨z1, z2, z3, l1, l2, _⟩ := st
    obtain ⟨hlt, hs1, hs2⟩ := hg
    obtain ⟨is1, r1, s1, _⟩ := srk_of I hs1
    obtain ⟨is2, r2, s2, _⟩ := srk_of I hs2
    have e1 : is1.toArray.size = xs.length := by rw [List.size_toArray]; exact r1.length.symm
    have e2 : is2.toArray.size = ys.length := by rw [List.size_toArray]; exact r2.length.symm
    have hN : N + 4 < s.heap.objs.size := Heap.lt_size z1
    have G := GoesN.zip2 (elts := elts) (x1 := kk) (pos := tpos) (zip_sep2 (N := N) (fp1 := [a]) (fp2 := [b]) (by simpa using ha) (by simpa using hb))
      (srk_draws (prog := X.prog) (w := X.w) (A := X.A.in1) (I.ok.hd hc) k1 N a (Nat.ne_of_lt ha) is1.toArray) (srk_draws (prog := X.prog) (w := X.w) (A := X.A.in1) (I.ok.hd hc) k2 (N + 1) b (Nat.ne_of_lt (Nat.lt_succ_of_lt hb)) is2.toArray)
    refine G.goes i s (fun v st2 => ∃ x H', Inv X pins σ H' st2 ∧ RelV x v ∧ (ItzX k1 k2 X.K a b xs ys).yld i H x H' ∧ ZTn k1 k2 a b N (min xs.length ys.length) (i + 1) st2.heap ∧ ∀ c ∈ [N + 4, N + 2, N + 3, N, N + 1], H' c = none) E (by rw [e1, e2]; exact hlt)
      ⟨z1, z2, z3, ⟨l1, s1⟩, l2, s2⟩ fun v h' tk hY st' hk _ => ?_
    obtain ⟨T, x, y, rfl, hT, hx, hy, hTT⟩ := hY
    obtain ⟨z1', z2', z3', ⟨l1', _⟩, l2', _⟩ := st'
    have hx' : is1[i]? = some x := by simpa using hx
    have hy' : is2[i]? = some y := by simpa using hy
    obtain ⟨p, hp⟩ : ∃ p, xs[i]? = some p := ⟨_, List.getElem?_eq_getElem (Nat.lt_of_lt_of_le hlt (Nat.min_le_left _ _))⟩
    obtain ⟨q, hq⟩ : ∃ q, ys[i]? = some q := ⟨_, List.getElem?_eq_getElem (Nat.lt_of_lt_of_le hlt (Nat.min_le_right _ _))⟩
    obtain ⟨u, hu, ru⟩ := r1.get hp
    rw [hx'] at hu
    cases hu
    obtain ⟨u2, hu2, ru2⟩ := r2.get hq
    rw [hy'] at hu2
    cases hu2
    have new : ObjOk X.prog X.w (upd H T (.tup [p, q])) h' T (.tup [p, q]) := ⟨by show 2 ≤ sizeLine; decide, [x, y], .cons ru (.cons ru2 .nil), hTT⟩
    have I1 : Inv X pins σ (upd H T (.tup [p, q])) { s with heap := h', toks := tk } := I.turnedNew (ch := [N + 4, N + 2, N + 3, N, N + 1])
      (fun c o hc' e => hk c o (fun m => hc' (by simp at m ⊢; rcases m with m | m | m | m <;> simp [m])) e) hf hT new
    refine ⟨.ref T, _, I1, rfl, ⟨T, p, q, rfl, I.hok.fresh hT, rfl, hp, hq⟩, ⟨z1', z2', z3', l1', l2', hlt⟩, fun c hc' => ?_⟩
    rw [upd_ne (Nat.ne_of_lt (Nat.lt_of_lt_of_le (Nat.lt_of_lt_of_le (zfp hc').2 hN) hT))]
    exact (hf c hc').1
  done := by
    intro X hP hw hK hc i pins s σ H E I hf st hg
    subst hP hw hK
    obtain ⟨z1, z2, z3, l1, l2, hi⟩ := st
    obtain ⟨hle, hs1, hs2⟩ := hg
    obtain ⟨is1, r1, s1, _⟩ := srk_of I hs1
    obtain ⟨is2, r2, s2, _⟩ := srk_of I hs2
    have e1 : is1.toArray.size = xs.length := by rw [List.size_toArray]; exact r1.length.symm
    have e2 : is2.toArray.size = ys.length := by rw [List.size_toArray]; exact r2.length.symm
    have ei : i = min is1.toArray.size is2.toArray.size := by rw [e1, e2]; omega
    subst ei
    have G := GoesN.zip2 (elts := elts) (x1 := kk) (pos := tpos) (zip_sep2 (N := N) (fp1 := [a]) (fp2 := [b]) (by simpa using ha) (by simpa using hb))
      (srk_draws (prog := X.prog) (w := X.w) (A := X.A.in1) (I.ok.hd hc) k1 N a (Nat.ne_of_lt ha) is1.toArray) (srk_draws (prog := X.prog) (w := X.w) (A := X.A.in1) (I.ok.hd hc) k2 (N + 1) b (Nat.ne_of_lt (Nat.lt_succ_of_lt hb)) is2.toArray)
    exact G.stops s (fun st1 => Inv X pins σ H st1) E ⟨z1, z2, z3, ⟨l1, s1⟩, l2, s2⟩ fun h' tk hk _ => I.turnedL (ch := [N + 4, N + 2, N + 3, N, N + 1])
      (fun c o hc' e => hk c o (fun m => hc' (by simp at m ⊢; rcases m with m | m | m | m <;> simp [m])) e) hf
  self := fun A i s Q E st h => wpAny_pyIter_zip st.1 h
def iZipX (K : PySem.W.Frag) (ta : TA) : TI := fun σ H R => ta σ H fun vs H1 => ∃ k1 k2 a b xs ys, vs = [.ref a, .ref b] ∧ HSK k1 K H1 a xs ∧ HSK k2 K H1 b ys ∧ R (ItzX k1 k2 K a b xs ys) H1
theorem pi_zipX {X : Cx} {e e2 : Expr} {ta : TA} {p pos tpos : Pos} {elts : List Expr} {kk : Nat} (hg : Gl X "zip") (hm : X.mg "zip" = none) (ha : PA X [e, e2] ta)
    (hs : starEach [e, e2] X.env = [(false, eval e X.env), (false, eval e2 X.env)] := by rfl) (hs2 : starEach [e2] X.env = [(false, eval e2 X.env)] := by rfl) :
    PI X (.Tuple elts kk tpos) (.Call (.Name "zip" p) [e, e2] [] pos) (iZipX X.K ta) := by
  refine ⟨fun pins s σ H R I h => ?_⟩
  refine Call_ (ld_blt I hg hm boot_zip (PyProof.Rows.callWith_type1 (thn (ha.run pos pins s σ H _ I h) fun us s1 ⟨vs, H1, I1, r1, q1⟩ => ?_) (by rw [hs, hs2]) (by rw [hs2]; rfl)))
  obtain ⟨k1, k2, a, b, xs, ys, ex, hq1, hq2, q⟩ := q1
  subst ex
  obtain ⟨u1, u2, rfl, ru1, ru2⟩ := vals2 r1
  cases ru1
  cases ru2
  obtain ⟨is1, rv1, sr1, _⟩ := srk_of I1 hq1
  obtain ⟨is2, rv2, sr2, _⟩ := srk_of I1 hq2
  refine zip_begins2 (srk_begins k1 a is1.toArray) (srk_begins k2 b is2.toArray) sr1 sr2 fun h' z1 z2 z3 i1 i2 _ hk => wpAny_pyIter_zip z1 ?_
  have I2 : Inv X pins σ H1 { s1 with heap := h' } := I1.kept (t' := s1.toks) hk
  refine ⟨s1.heap.objs.size + 4, _, _, _, H1, rfl, I2, turn_zipX k1 k2 a b s1.heap.objs.size (srk_lt sr1) (srk_lt sr2) xs ys, ⟨z1, z2, ⟨_, _, z3⟩, ltk_new i1, ltk_new i2, Nat.zero_le _⟩, fun c hc => ?_, q⟩
  exact I1.fpOk (zfp hc).1 (I1.hok.fresh (zfp hc).1)
def zip2P (ps qs : List PV) : List PV := ps.zipWith (fun p q => PV.tup [p, q]) qs
def iZipM (r : AM) : AM := fun ρ S => (r ρ S).bind fun vs S1 => match vs with
  | [v, u] => (match seqI v, seqI u with
    | some ps, some qs => .ok (zip2P ps qs) S1
    | _, _ => .fail)
  | _ => .fail
section
variable {X : Cx} {W : WX} {pos : Pos}
theorem si_zip {e e2 : Expr} {r : AM} {p tpos : Pos} {elts : List Expr} {kk : Nat} (hg : Gl X "zip") (hm : X.mg "zip" = none) (ha : SA X W [e, e2] r)
    (hs : starEach [e, e2] X.env = [(false, eval e X.env), (false, eval e2 X.env)] := by rfl) (hs2 : starEach [e2] X.env = [(false, eval e2 X.env)] := by rfl) :
    SI X W (.Tuple elts kk tpos) (.Call (.Name "zip" p) [e, e2] [] pos) (iZipM r) := by
  refine PI.via (pi_zipX hg hm ha hs hs2) fun σ H Q ⟨B, φ, ρ, S, g, q⟩ => ?_
  refine tA.of g (APost.bindI q) fun vs' H1 ⟨φ1, S1, vs, m1, t, q1⟩ => ?_
  split at q1
  · rename_i v u
    obtain ⟨v', ws, rfl, h1, h2⟩ := t.uncons
    obtain ⟨u', ws2, rfl, h3, h4⟩ := h2.uncons
    unfold RVs at h4
    subst h4
    split at q1
    · rename_i ps qs e1 e2
      obtain ⟨k1, a, vs, rfl, hs1, t1, kp1⟩ := keepK e1 m1.rel.ag h1
      obtain ⟨k2, b, us, rfl, hs2, t2, kp2⟩ := keepK e2 m1.rel.ag h3
      have hl : (zip2P ps qs).length = min vs.length us.length := by unfold zip2P; rw [List.length_zipWith, t1.length, t2.length]
      refine ⟨k1, k2, a, b, vs, us, rfl, hs1, hs2, q1 φ1 H1 _ (Fr.refl _ _ _) m1.rel fun B2 φ2 S2 H2 x a2 i => ⟨fun hi => ?_, fun hi => ?_, fun p hp z H3 y => ?_⟩⟩
      · rw [hl] at hi; exact ⟨hi, kp1 _ _ _ _ x, kp2 _ _ _ _ x⟩
      · rw [hl] at hi; exact ⟨hi, kp1 _ _ _ _ x, kp2 _ _ _ _ x⟩
      · obtain ⟨T, y0, y1, rfl, hT, rfl, hy0, hy1⟩ := y
        unfold zip2P at hp
        rw [List.getElem?_zipWith] at hp
        cases ep : ps[i]? with
        | none => rw [ep] at hp; cases eq : qs[i]? <;> rw [eq] at hp <;> cases hp
        | some p0 =>
          cases eq : qs[i]? with
          | none => rw [ep, eq] at hp; cases hp
          | some q0 =>
            rw [ep, eq] at hp
            cases hp
            obtain ⟨w0, hw0, rw0⟩ := t1.get ep
            obtain ⟨w1, hw1, rw1⟩ := t2.get eq
            rw [hy0] at hw0
            rw [hy1] at hw1
            cases hw0
            cases hw1
            exact yld_tup (B := B2) (φ := φ2) (S := S2) (H := H2) a2 hT (.cons (RV.lean (x.lean m1.rel.ag) _ rw0) (.cons (RV.lean (x.lean m1.rel.ag) _ rw1) .nil))
    · exact q1.elim
  · exact q1.elim
end
end Mir
/-! Mir: calls of built-ins. -/
namespace Mir
open PySem PySem.Spec PyProof.Rows L2
abbrev PM := List PV → Sto → R PV
def ePrim (f : PM) (r : AM) : EM := fun ρ S => (r ρ S).bind fun vs S1 => f vs S1
def OkC (X : Cx) (r : List V → Hp → VK → Prop) (f : PM) : Prop := ∀ (W : WX) (B : Addr → Prop) (φ : List Addr) (ρ : En) (S : Sto) (σ : L2.St) (H : Hp) (vs : List PV) (vs' : List V) (Q : VK), Rel (km X) B φ ρ S σ H → RVs X.K (Mu B φ S) φ H vs vs' →
  RPost (km X) W B φ ρ S σ H (f vs S) Q → r vs' H Q
section
variable {X : Cx} {W : WX} {pos : Pos}
theorem se_prim {e : Expr} {r : List V → Hp → VK → Prop} {f : PM} {m : AM} (h : PE X e (tCB r (tA (km X) W m))) (ok : OkC X r f) : SE X W e (ePrim f m) :=
  PE.via h fun σ H Q ⟨B, φ, ρ, S, g, q⟩ => tA.of g (APost.bind q) fun vs' H1 ⟨φ1, S1, vs, m1, t, q1⟩ => ok W B φ1 ρ S1 σ H1 vs vs' Q m1.rel t q1
theorem rv1 {K : PySem.W.Frag} {M : Addr → Prop} {φ : List Addr} {H : Hp} {p : PV} {vs : List V} (t : RVs K M φ H [p] vs) : ∃ v, vs = [v] ∧ RV K M φ H p v := by
  obtain ⟨v, ws, rfl, h1, h2⟩ := t.uncons
  unfold RVs at h2
  subst h2
  exact ⟨v, rfl, h1⟩
theorem rv2 {K : PySem.W.Frag} {M : Addr → Prop} {φ : List Addr} {H : Hp} {p q : PV} {vs : List V} (t : RVs K M φ H [p, q] vs) : ∃ v w, vs = [v, w] ∧ RV K M φ H p v ∧ RV K M φ H q w := by
  obtain ⟨v, ws, rfl, h1, h2⟩ := t.uncons
  obtain ⟨w, rfl, h3⟩ := rv1 h2
  exact ⟨v, w, rfl, h1, h3⟩
/-! #### len -/
def pLen : PM := fun vs S => match vs with
  | [.str y] => if y.length ≤ lim then .ok (.int y.length) S else .fail
  | [x] => (match seqL S x with
    | some ps => .ok (.int ps.length) S
    | none => .fail)
  | _ => .fail
theorem ok_len : OkC X (fun xs H Q => ∃ x n, xs = [x] ∧ LenV X.K x H n ∧ Q (.int n) H) pLen := fun W B φ ρ S σ H vs vs' Q g t q => by
  unfold pLen at q
  split at q
  · obtain ⟨v, rfl, r⟩ := rv1 t
    cases r.str_eq
    split at q
    · rename_i h
      exact ⟨_, _, rfl, ⟨lim_le h, rfl⟩, q.here g (.int _)⟩
    · exact q.elim
  · rename_i x _
    obtain ⟨v, rfl, r⟩ := rv1 t
    split at q
    · rename_i ps e
      obtain ⟨a, ws, rfl, h, t1⟩ := seqL_ok g.ag r e
      refine ⟨_, _, rfl, ?_, q.here g (.int _)⟩
      rcases h with h | h
      · exact .inl ⟨ws, h, t1.length⟩
      · exact .inr ⟨ws, h, t1.length⟩
    · exact q.elim
  · exact q.elim
/-! #### tuple(x), list(x) -/
def pTuple : PM := fun vs S => match vs with
  | [.tup ps] => .ok (.tup ps) S
  | [x] => (match lstL S x with
    | some ps => .ok (.tup ps) S
    | none => .fail)
  | _ => .fail
theorem ok_tuple : OkC X (fun xs H Q => ∃ p ys, xs = [.ref p] ∧ ((SqL X.K H p ys ∧ ∀ l, H l = none → Q (.ref l) (upd H l (.tup ys))) ∨ (SqT X.K H p ys ∧ Q (.ref p) H))) pTuple := fun W B φ ρ S σ H vs vs' Q g t q => by
  unfold pTuple at q
  split at q
  · obtain ⟨v, rfl, r⟩ := rv1 t
    have r0 := r
    unfold RV at r
    obtain ⟨a, ws, rfl, h, t1⟩ := r
    exact ⟨a, ws, rfl, .inr ⟨.of h, q.here g r0⟩⟩
  · obtain ⟨v, rfl, r⟩ := rv1 t
    split at q
    · rename_i ps e
      obtain ⟨a, ws, rfl, h, t1⟩ := lstL_ok g.ag r e
      exact ⟨a, ws, rfl, .inl ⟨h, fun l hl => new_tup g t1 q hl⟩⟩
    · exact q.elim
  · exact q.elim
def pList : PM := fun vs S => match vs with
  | [x] => (match seqL S x with
    | some ps => .ok (.lst ps) S
    | none => .fail)
  | _ => .fail
theorem ok_list : OkC X (fun xs H Q => ∃ p ys, xs = [.ref p] ∧ (SqL X.K H p ys ∨ SqT X.K H p ys) ∧ ∀ l, H l = none → Q (.ref l) (upd H l (.lst ys))) pList := fun W B φ ρ S σ H vs vs' Q g t q => by
  unfold pList at q
  split at q
  · obtain ⟨v, rfl, r⟩ := rv1 t
    split at q
    · rename_i ps e
      obtain ⟨a, ws, rfl, h, t1⟩ := seqL_ok g.ag r e
      exact ⟨a, ws, rfl, h, fun l hl => new_lst g t1 q hl⟩
    · exact q.elim
  · exact q.elim
/-- list(x), a list of the store -/
def pListN : PM := fun vs S => match vs with
  | [x] => (match seqL S x with
    | some ps => .ok (.loc S.length) (S ++ [some (.lst ps)])
    | none => .fail)
  | _ => .fail
theorem ok_listN : OkC X (fun xs H Q => ∃ p ys, xs = [.ref p] ∧ (SqL X.K H p ys ∨ SqT X.K H p ys) ∧ ∀ l, H l = none → Q (.ref l) (upd H l (.lst ys))) pListN := fun W B φ ρ S σ H vs vs' Q g t q => by
  unfold pListN at q
  split at q
  · obtain ⟨v, rfl, r⟩ := rv1 t
    split at q
    · rename_i ps e
      obtain ⟨a, ws, rfl, h, t1⟩ := seqL_ok g.ag r e
      exact ⟨a, ws, rfl, h, fun l hl => new_loc g t1 q hl⟩
    · exact q.elim
  · exact q.elim
/-! #### lists of ints, of bools -/
def intsOf : List PV → Option (List Int)
  | [] => some []
  | .int i :: r => (intsOf r).map (i :: ·)
  | _ => none
theorem intsOf_ok {K : PySem.W.Frag} {M : Addr → Prop} {φ : List Addr} {H : Hp} : ∀ {ps : List PV} {vs : List V} {ns : List Int}, RVs K M φ H ps vs → intsOf ps = some ns → vs = ns.map V.int
  | [], _, _, t, e => by unfold RVs at t; subst t; cases e; rfl
  | p :: ps, _, ns, t, e => by
    obtain ⟨v, ws, rfl, h1, h2⟩ := t.uncons
    cases p with
    | int i =>
      cases h1.int_eq
      unfold intsOf at e
      cases e1 : intsOf ps with
      | none => rw [e1] at e; cases e
      | some ms => rw [e1] at e; cases e; rw [intsOf_ok h2 e1]; rfl
    | _ => cases e
def blsOf : List PV → Option (List Bool)
  | [] => some []
  | .bl i :: r => (blsOf r).map (i :: ·)
  | _ => none
theorem blsOf_ok {K : PySem.W.Frag} {M : Addr → Prop} {φ : List Addr} {H : Hp} : ∀ {ps : List PV} {vs : List V} {ns : List Bool}, RVs K M φ H ps vs → blsOf ps = some ns → vs = ns.map V.bl
  | [], _, _, t, e => by unfold RVs at t; subst t; cases e; rfl
  | p :: ps, _, ns, t, e => by
    obtain ⟨v, ws, rfl, h1, h2⟩ := t.uncons
    cases p with
    | bl i =>
      cases h1.bl_eq
      unfold blsOf at e
      cases e1 : blsOf ps with
      | none => rw [e1] at e; cases e
      | some ms => rw [e1] at e; cases e; rw [blsOf_ok h2 e1]; rfl
    | _ => cases e
def pInts (f : List Int → Option PV) : PM := fun vs S => match vs with
  | [x] => (match (lstL S x).bind intsOf with
    | some ns => R.of S (f ns)
    | none => .fail)
  | _ => .fail
theorem ints_at {B : Addr → Prop} {φ : List Addr} {ρ : En} {S : Sto} {σ : L2.St} {H : Hp} {f : List Int → Option PV} {vs : List PV} {vs' : List V} {Q : VK} (g : Rel (km X) B φ ρ S σ H) (t : RVs X.K (Mu B φ S) φ H vs vs') (q : RPost (km X) W B φ ρ S σ H (pInts f vs S) Q) :
    ∃ a ns p, vs' = [.ref a] ∧ SqL X.K H a (ns.map V.int) ∧ f ns = some p ∧ RPost (km X) W B φ ρ S σ H (.ok p S) Q := by
  unfold pInts at q
  split at q
  · rename_i x
    obtain ⟨v, rfl, r⟩ := rv1 t
    split at q
    · rename_i ns e
      cases e1 : lstL S x with
      | none => rw [e1] at e; cases e
      | some ps =>
        rw [e1] at e
        obtain ⟨a, ws, rfl, h, t1⟩ := lstL_ok g.ag r e1
        cases intsOf_ok t1 e
        cases e2 : f ns with
        | none => rw [e2] at q; exact q.elim
        | some p => rw [e2] at q; exact ⟨a, ns, p, rfl, h, e2, q⟩
    · exact q.elim
  · exact q.elim
def fSum (ns : List Int) : Option PV := some (.int ns.sum)
theorem ok_sum : OkC X (rSum X.K) (pInts fSum) := fun W B φ ρ S σ H vs vs' Q g t q => by
  obtain ⟨a, ns, p, rfl, h, e, q⟩ := ints_at g t q
  cases e
  exact ⟨a, ns, rfl, h, q.here g (.int _)⟩
def maxL : List Int → Option Int
  | [] => none
  | x :: r => some (r.foldl max x)
def minL : List Int → Option Int
  | [] => none
  | x :: r => some (r.foldl min x)
theorem foldl_max_mem : ∀ (r : List Int) (x : Int), (r.foldl max x) ∈ x :: r ∧ ∀ y ∈ x :: r, y ≤ r.foldl max x
  | [], x => by simp
  | z :: r, x => by
    obtain ⟨h1, h2⟩ := foldl_max_mem r (max x z)
    refine ⟨?_, fun y hy => ?_⟩
    · simp only [List.foldl_cons]
      rcases List.mem_cons.mp h1 with h | h
      · rw [h]
        by_cases c : x ≤ z
        · rw [Int.max_eq_right c]; simp
        · rw [Int.max_eq_left (by omega)]; simp
      · simp [h]
    · simp only [List.foldl_cons]
      have h3 := h2 (max x z) (by simp)
      rcases List.mem_cons.mp hy with h | h
      · omega
      · rcases List.mem_cons.mp h with h | h
        · omega
        · exact h2 y (by simp [h])
theorem foldl_min_mem : ∀ (r : List Int) (x : Int), (r.foldl min x) ∈ x :: r ∧ ∀ y ∈ x :: r, r.foldl min x ≤ y
  | [], x => by simp
  | z :: r, x => by
    obtain ⟨h1, h2⟩ := foldl_min_mem r (min x z)
    refine ⟨?_, fun y hy => ?_⟩
    · simp only [List.foldl_cons]
      rcases List.mem_cons.mp h1 with h | h
      · rw [h]
        by_cases c : x ≤ z
        · rw [Int.min_eq_left c]; simp
        · rw [Int.min_eq_right (by omega)]; simp
      · simp [h]
    · simp only [List.foldl_cons]
      have h3 := h2 (min x z) (by simp)
      rcases List.mem_cons.mp hy with h | h
      · omega
      · rcases List.mem_cons.mp h with h | h
        · omega
        · exact h2 y (by simp [h])
def fMax (ns : List Int) : Option PV := (maxL ns).map .int
def fMin (ns : List Int) : Option PV := (minL ns).map .int
theorem ok_max : OkC X (rMax X.K) (pInts fMax) := fun W B φ ρ S σ H vs vs' Q g t q => by
  obtain ⟨a, ns, p, rfl, h, e, q⟩ := ints_at g t q
  cases ns with
  | nil => cases e
  | cons x r =>
    cases e
    obtain ⟨k1, k2⟩ := foldl_max_mem r x
    refine ⟨a, x :: r, rfl, h, by simp, fun m hm hle => ?_⟩
    have : m = r.foldl max x := Int.le_antisymm (k2 m hm) (hle _ k1)
    subst this
    exact q.here g (.int _)
theorem ok_min : OkC X (rMin X.K) (pInts fMin) := fun W B φ ρ S σ H vs vs' Q g t q => by
  obtain ⟨a, ns, p, rfl, h, e, q⟩ := ints_at g t q
  cases ns with
  | nil => cases e
  | cons x r =>
    cases e
    obtain ⟨k1, k2⟩ := foldl_min_mem r x
    refine ⟨a, x :: r, rfl, h, by simp, fun m hm hle => ?_⟩
    have : m = r.foldl min x := Int.le_antisymm (hle _ k1) (k2 m hm)
    subst this
    exact q.here g (.int _)
def pBls (f : List Bool → Bool) : PM := fun vs S => match vs with
  | [x] => (match (lstL S x).bind blsOf with
    | some ns => .ok (.bl (f ns)) S
    | none => .fail)
  | _ => .fail
theorem bls_at {B : Addr → Prop} {φ : List Addr} {ρ : En} {S : Sto} {σ : L2.St} {H : Hp} {f : List Bool → Bool} {vs : List PV} {vs' : List V} {Q : VK} (g : Rel (km X) B φ ρ S σ H) (t : RVs X.K (Mu B φ S) φ H vs vs') (q : RPost (km X) W B φ ρ S σ H (pBls f vs S) Q) :
    ∃ a ns, vs' = [.ref a] ∧ SqL X.K H a (ns.map V.bl) ∧ Q (.bl (f ns)) H := by
  unfold pBls at q
  split at q
  · rename_i x
    obtain ⟨v, rfl, r⟩ := rv1 t
    split at q
    · rename_i ns e
      cases e1 : lstL S x with
      | none => rw [e1] at e; cases e
      | some ps =>
        rw [e1] at e
        obtain ⟨a, ws, rfl, h, t1⟩ := lstL_ok g.ag r e1
        cases blsOf_ok t1 e
        exact ⟨a, ns, rfl, h, q.here g (.bl _)⟩
    · exact q.elim
  · exact q.elim
theorem ok_any : OkC X (rAny X.K) (pBls fun bs => bs.any id) := fun W B φ ρ S σ H vs vs' Q g t q => bls_at g t q
theorem ok_all : OkC X (rAll X.K) (pBls fun bs => bs.all id) := fun W B φ ρ S σ H vs vs' Q g t q => bls_at g t q
/-! #### numbers -/
def pAbs : PM := fun vs S => match vs with
  | [.int i] => .ok (.int (if i < 0 then -i else i)) S
  | _ => .fail
theorem ok_abs : OkC X (fun xs H Q => ∃ i, xs = [.int i] ∧ Q (.int (if i < 0 then -i else i)) H) pAbs := fun W B φ ρ S σ H vs vs' Q g t q => by
  unfold pAbs at q
  split at q
  · obtain ⟨v, rfl, r⟩ := rv1 t
    cases r.int_eq
    exact ⟨_, rfl, q.here g (.int _)⟩
  · exact q.elim
def pInt : PM := fun vs S => match vs with
  | [.int i] => .ok (.int i) S
  | [.bl k] => .ok (.int (if k then 1 else 0)) S
  | _ => .fail
theorem ok_int : OkC X (fun xs H Q => (∃ i, xs = [.int i] ∧ Q (.int i) H) ∨ ∃ k, xs = [.bl k] ∧ Q (.int (if k then 1 else 0)) H) pInt := fun W B φ ρ S σ H vs vs' Q g t q => by
  unfold pInt at q
  split at q
  · obtain ⟨v, rfl, r⟩ := rv1 t
    cases r.int_eq
    exact .inl ⟨_, rfl, q.here g (.int _)⟩
  · obtain ⟨v, rfl, r⟩ := rv1 t
    cases r.bl_eq
    exact .inr ⟨_, rfl, q.here g (.int _)⟩
  · exact q.elim
def pI2 (f : Int → Int → Int) : PM := fun vs S => match vs with
  | [.int i, .int j] => .ok (.int (f i j)) S
  | _ => .fail
theorem ok_i2 {f : Int → Int → Int} : OkC X (fun xs H Q => ∃ i j, xs = [.int i, .int j] ∧ Q (.int (f i j)) H) (pI2 f) := fun W B φ ρ S σ H vs vs' Q g t q => by
  unfold pI2 at q
  split at q
  · exact ⟨_, _, ap_ints2 t, q.here g (.int _)⟩
  · exact q.elim
/-! #### isinstance of a built-in type -/
def tyOf : PV → String
  | .non => "NoneType"
  | .bl _ => "bool"
  | .int _ => "int"
  | .str _ => "str"
  | .tup _ => "tuple"
  | .lst _ => "list"
  | .fls _ => "list"
  | .dct _ _ _ => ""
  | .loc _ => ""
/-- what stands, of the store, too -/
def tyIn (S : Sto) : PV → String
  | .loc n => (match S[n]? with
    | some (some (.lst _)) => "list"
    | some (some (.dct _ _ _)) => "dict"
    | _ => "")
  | x => tyOf x
theorem tyX_of {B : Addr → Prop} {φ : List Addr} {S : Sto} {H : Hp} {p : PV} {v : V} {K : PySem.W.Frag} (g : Ag K B φ S H) (r : RV K (Mu B φ S) φ H p v) (h : tyIn S p ≠ "") : TyX K H v (.type (tyIn S p)) := by
  cases p with
  | non => cases r.non_eq; exact .base .non
  | bl b => cases r.bl_eq; exact .base (.bl b)
  | int b => cases r.int_eq; exact .base (.int b)
  | str b => cases r.str_eq; exact .base (.str b)
  | tup ps =>
    unfold RV at r
    obtain ⟨a, vs, rfl, h, _⟩ := r
    exact .base (.tup h)
  | lst ps =>
    unfold RV at r
    obtain ⟨a, vs, rfl, h, _⟩ := r
    exact .base (.lst h.2)
  | fls ps =>
    unfold RV at r
    obtain ⟨a, vs, rfl, h, _⟩ := r
    rcases h with ⟨o, h⟩ | ⟨o, its, n, h1, h2, _⟩
    · exact .base (.frz h)
    · exact .kList h1 h2
  | dct t ks ps => exact (h rfl).elim
  | loc n =>
    unfold RV at r
    obtain ⟨a, ha, rfl⟩ := r
    unfold tyIn at h ⊢
    dsimp only at h ⊢
    cases e : S[n]? with
    | none => rw [e] at h; simp at h
    | some o =>
      cases o with
      | none => rw [e] at h; simp at h
      | some o =>
        have q := g.obj n o a e ha
        cases o with
        | lst ps => obtain ⟨vs, q, _⟩ := q; exact .base (.lst q)
        | dct t ks ps =>
          obtain ⟨vs, u, q, d, _⟩ := q
          cases t with
          | false => obtain ⟨kvs, rfl, _⟩ := d; exact .base (.dK q)
          | true => obtain ⟨kvs, rfl, _⟩ := d; exact .base (.dT q)
def sixT : List String := ["NoneType", "bool", "int", "str", "tuple", "list", "dict"]
theorem tyIn_six (S : Sto) (p : PV) : tyIn S p = "" ∨ tyIn S p ∈ sixT := by
  cases p with
  | loc n =>
    unfold tyIn
    dsimp only
    split
    · right; simp [sixT]
    · right; simp [sixT]
    · left; rfl
  | dct _ _ _ => left; rfl
  | _ => right; simp [tyIn, tyOf, sixT]
def pIsi (f : String → Bool) (x : PV) (S : Sto) : R PV := if tyIn S x == "" then .fail else .ok (.bl (f (tyIn S x))) S
def eIsi (f : String → Bool) (m : EM) : EM := fun ρ S => (m ρ S).bind fun x S1 => pIsi f x S1
theorem se_isi {c : String} {f : String → Bool} {e : Expr} {cn : Str} {m : EM} {p p2 : Pos} (hk : ∀ t ∈ sixT, kitB t c = some (f t)) (hg : Gl X "isinstance") (hm : X.mg "isinstance" = none) (hg2 : Gl X cn) (hm2 : X.mg cn = none) (hb : bootBuiltins cn = some (.type c)) (he : SE X W e m)
    (hn : cn ≠ "__name__") (hd : (cn == ("__debug__" : Str)) = false) (s1 : starEach [e, .Name cn p2] X.env = (false, eval e X.env) :: starEach [.Name cn p2] X.env := by rfl) (s2 : starEach [.Name cn p2] X.env = (false, eval (.Name cn p2) X.env) :: starEach [] X.env := by rfl)
    (hpl : (backTo pos (starEach [.Name cn p2] X.env)).any (·.1) = false := by rfl) :
    SE X W (.Call (.Name "isinstance" p) [e, .Name cn p2] [] pos) (eIsi f m) := by
  have h2 : PE X (.Name cn p2) (tC (.ty c)) := pe_bltn hg2 hm2 hb rfl hn hd
  refine PE.via (pe_callB call_isi hg hm (by decide +kernel) (pa_cons he (pa_cons h2 pa_nil s2) s1) (by decide) (by decide) s1 hpl) fun σ H Q ⟨B, φ, ρ, S, g, q⟩ => ?_
  refine tE.of g q.bind fun v' H1 ⟨φ1, S1, v, m1, rv, q1⟩ => ?_
  unfold pIsi at q1
  split at q1
  · exact q1.elim
  · rename_i hne
    have hne : tyIn S1 v ≠ "" := by simpa using hne
    have h6 := (tyIn_six S1 v).resolve_left hne
    exact ⟨v', .ty c, _, _, _, rfl, .ty c, tyX_of m1.rel.ag rv hne, kit_ty (hk _ h6), q1.here m1.rel (.bl _)⟩
def isTyInt (t : String) : Bool := t == "int" || t == "bool"
def isTyEq (c t : String) : Bool := t == c
theorem k_int : ∀ t ∈ sixT, kitB t "int" = some (isTyInt t) := by decide +kernel
theorem k_bool : ∀ t ∈ sixT, kitB t "bool" = some (isTyEq "bool" t) := by decide +kernel
theorem k_tuple : ∀ t ∈ sixT, kitB t "tuple" = some (isTyEq "tuple" t) := by decide +kernel
theorem k_str : ∀ t ∈ sixT, kitB t "str" = some (isTyEq "str" t) := by decide +kernel
theorem k_list : ∀ t ∈ sixT, kitB t "list" = some (isTyEq "list" t) := by decide +kernel
/-! #### tuple(range(..)), list(range(..)) -/
def eTupR (r : AM) : EM := fun ρ S => (r ρ S).bind fun ps S1 => if ps.length ≤ lim then .ok (.tup ps) S1 else .fail
def eLstR (r : AM) : EM := fun ρ S => (r ρ S).bind fun ps S1 => if ps.length ≤ lim then .ok (.lst ps) S1 else .fail
theorem rvs_rng {K : PySem.W.Frag} {M : Addr → Prop} {φ : List Addr} {H : Hp} {a b : Int} : RVs K M φ H (rng a (b - a).toNat) (rgV a b) := by
  refine RVs.of_get (by simp [rng, rgV]) fun i p v h1 h2 => ?_
  unfold rng at h1
  unfold rgV at h2
  rw [List.getElem?_map] at h1 h2
  cases e : (List.range (b - a).toNat)[i]? with
  | none => rw [e] at h1; cases h1
  | some k => rw [e] at h1 h2; cases h1; cases h2; exact .int _
theorem rng_len (a : Int) (n : Nat) : (rng a n).length = n := by simp [rng]
def rgA1 (m : EM) : AM := fun ρ S => (m ρ S).bind fun v S1 => match v with
  | .int j => if inW j then .ok (rng 0 (j - 0).toNat) S1 else .fail
  | _ => .fail
def rgA2 (m n : EM) : AM := fun ρ S => (m ρ S).bind fun v S1 => (n ρ S1).bind fun u S2 => match v, u with
  | .int i, .int j => if inW i && inW j then .ok (rng i (j - i).toNat) S2 else .fail
  | _, _ => .fail
theorem inW0 : inW 0 = true := by unfold inW; decide
theorem se_tupR1 {a : Expr} {m : EM} {p p2 q2 : Pos} {te : L2.St → Hp → (Int → Int → Hp → Prop) → Prop} (h : PE X (.Call (.Name "tuple" p) [.Call (.Name "range" p2) [a] [] q2] [] pos) (tTupRg (tRg1 (tE (km X) W m)))) : SE X W (.Call (.Name "tuple" p) [.Call (.Name "range" p2) [a] [] q2] [] pos) (eTupR (rgA1 m)) := by
  refine PE.via h fun σ H Q ⟨B, φ, ρ, S, g, q⟩ => ?_
  unfold eTupR rgA1 at q
  have q : RPost (km X) W B φ ρ S σ H ((m ρ S).bind fun v S1 => (match v with
    | .int j => if inW j then R.ok (rng 0 (j - 0).toNat) S1 else .fail
    | _ => .fail).bind fun ps S1 => if ps.length ≤ lim then .ok (.tup ps) S1 else .fail) Q := by
    cases e : m ρ S with
    | ok v S1 => rw [e] at q; exact q
    | exc c a S1 => rw [e] at q; exact q
    | fail => rw [e] at q; exact q
  refine tE.of g q.bind fun v' H1 ⟨φ1, S1, v, m1, rv, q1⟩ => ?_
  cases v with
  | int j =>
    cases rv.int_eq
    dsimp only at q1
    split at q1
    · rename_i hw
      simp only [R.bind] at q1
      split at q1
      · rename_i hl
        have hw := inW_of hw
        rw [rng_len] at hl
        refine ⟨j, rfl, ⟨by decide, by decide, hw.1, hw.2, hl⟩, fun p hp => new_tup m1.rel rvs_rng q1 hp⟩
      · exact q1.elim
    · exact q1.elim
  | _ => exact q1.elim
theorem se_tupR2 {a b : Expr} {m n : EM} {p p2 q2 : Pos} (h : PE X (.Call (.Name "tuple" p) [.Call (.Name "range" p2) [a, b] [] q2] [] pos) (tTupRg (tRg2 (tE (km X) W m) (tE (km X) W n)))) : SE X W (.Call (.Name "tuple" p) [.Call (.Name "range" p2) [a, b] [] q2] [] pos) (eTupR (rgA2 m n)) := by
  refine PE.via h fun σ H Q ⟨B, φ, ρ, S, g, q⟩ => ?_
  unfold eTupR rgA2 at q
  have q : RPost (km X) W B φ ρ S σ H ((m ρ S).bind fun v S1 => (n ρ S1).bind fun u S2 => (match v, u with
    | .int i, .int j => if inW i && inW j then R.ok (rng i (j - i).toNat) S2 else .fail
    | _, _ => .fail).bind fun ps S1 => if ps.length ≤ lim then .ok (.tup ps) S1 else .fail) Q := by
    cases e : m ρ S with
    | ok v S1 =>
      rw [e] at q
      simp only [R.bind] at q ⊢
      cases e2 : n ρ S1 with
      | ok v S1 => rw [e2] at q; exact q
      | exc c a S1 => rw [e2] at q; exact q
      | fail => rw [e2] at q; exact q
    | exc c a S1 => rw [e] at q; exact q
    | fail => rw [e] at q; exact q
  refine tE.of g q.bind fun v' H1 ⟨φ1, S1, v, m1, rv, q1⟩ => ?_
  refine tE.of m1.rel q1.bind fun u' H2 ⟨φ2, S2, u, m2, ru, q2⟩ => ?_
  cases v with
  | int i =>
    cases u with
    | int j =>
      cases (rv.stay m1.rel.ag m2.fr).int_eq
      cases ru.int_eq
      dsimp only at q2
      split at q2
      · rename_i hw
        rw [Bool.and_eq_true] at hw
        have h1 := inW_of hw.1
        have h2 := inW_of hw.2
        simp only [R.bind] at q2
        split at q2
        · rename_i hl
          rw [rng_len] at hl
          exact ⟨i, j, rfl, rfl, ⟨h1.1, h1.2, h2.1, h2.2, hl⟩, fun p hp => new_tup m2.rel rvs_rng q2 hp⟩
        · exact q2.elim
      · exact q2.elim
    | _ => exact q2.elim
  | _ => first | exact q2.elim | (cases u <;> exact q2.elim)
/-! #### methods of lists of the store -/
def mAppend : PM := fun vs S => match vs with
  | [.loc n, y] => (match lstAt S n with
    | some ps => if ps.length < lim then .ok .non (S.set n (some (.lst (ps ++ [y])))) else .fail
    | none => .fail)
  | _ => .fail
theorem lim_lt {n : Nat} (h : n < lim) : n < sizeLine := by rw [szl]; exact h
/-- o.m(..), o a list -/
def eMeL (f : PM) (o : EM) (r : AM) : EM := fun ρ S => (o ρ S).bind fun x S1 => match lstL S1 x with
  | some _ => (r ρ S1).bind fun vs S2 => f (x :: vs) S2
  | none => .fail
/-- a store's list is written and a value given -/
theorem put_ok {B : Addr → Prop} {φ : List Addr} {ρ : En} {S : Sto} {σ : L2.St} {H : Hp} {n : Nat} {a : Addr} {ps qs : List PV} {ws : List V} {Q : VK} {p : PV} {v : V} (g : Rel (km X) B φ ρ S σ H) (ha : φ[n]? = some a) (hn : S[n]? = some (some (.lst ps)))
    (t : RVs X.K (Mu B φ S) φ H qs ws) (rp : RV X.K (Mu B φ S) φ H p v) (q : RPost (km X) W B φ ρ S σ H (.ok p (S.set n (some (.lst qs)))) Q) : Q v (upd H a (.lst ws)) := by
  obtain ⟨f, g2⟩ := g.put ha hn t
  exact q φ v _ f g2 (rp.stay g.ag f)
def OkM (X : Cx) (r : V → List V → Hp → VK → Prop) (f : PM) : Prop := ∀ (W : WX) (B : Addr → Prop) (φ : List Addr) (ρ : En) (S : Sto) (σ : L2.St) (H : Hp) (x : PV) (x' : V) (vs : List PV) (vs' : List V) (Q : VK), Rel (km X) B φ ρ S σ H → RV X.K (Mu B φ S) φ H x x' → RVs X.K (Mu B φ S) φ H vs vs' →
  RPost (km X) W B φ ρ S σ H (f (x :: vs) S) Q → r x' vs' H Q
theorem se_methL {e : Expr} {r : V → List V → Hp → VK → Prop} {f : PM} {mo : EM} {mr : AM} (h : PE X e (tBM X.K "list" r (tE (km X) W mo) (tA (km X) W mr))) (ok : OkM X r f) : SE X W e (eMeL f mo mr) :=
  PE.via h fun σ H Q ⟨B, φ, ρ, S, g, q⟩ => by
    refine tE.of g q.bind fun x' H1 ⟨φ1, S1, x, m1, rx, q1⟩ => ?_
    cases e1 : lstL S1 x with
    | none => rw [e1] at q1; exact q1.elim
    | some ps =>
      rw [e1] at q1
      obtain ⟨a, vs, rfl, h1, _⟩ := lstL_ok m1.rel.ag rx e1
      refine ⟨.inl ⟨rfl, vs, h1⟩, ?_⟩
      exact tA.of m1.rel (APost.bind q1) fun vs' H2 ⟨φ2, S2, vs, m2, t, q2⟩ => ok W B φ2 ρ S2 σ H2 x _ vs vs' Q m2.rel (rx.stay m1.rel.ag m2.fr) t q2
theorem se_methL0 {e : Expr} {r : V → List V → Hp → VK → Prop} {f : PM} {mo : EM} (h : PE X e (tBM0 X.K "list" r (tE (km X) W mo))) (ok : OkM X r f) : SE X W e (eMeL f mo aNil) :=
  PE.via h fun σ H Q ⟨B, φ, ρ, S, g, q⟩ => by
    refine tE.of g q.bind fun x' H1 ⟨φ1, S1, x, m1, rx, q1⟩ => ?_
    cases e1 : lstL S1 x with
    | none => rw [e1] at q1; exact q1.elim
    | some ps =>
      rw [e1] at q1
      obtain ⟨a, vs, rfl, h1, _⟩ := lstL_ok m1.rel.ag rx e1
      exact ⟨.inl ⟨rfl, vs, h1⟩, ok W B φ1 ρ S1 σ H1 x _ [] [] Q m1.rel rx .nil q1⟩
theorem om_append : OkM X rAppend mAppend := fun W B φ ρ S σ H x x' vs vs' Q g rx t q => by
  unfold mAppend at q
  split at q
  · rename_i n y e0
    cases e0
    obtain ⟨y', rfl, ry⟩ := rv1 t
    split at q
    · rename_i ps e
      split at q
      · rename_i hz
        obtain ⟨a, ws, rfl, ha, hn, h, t1⟩ := loc_lst g.ag rx e
        exact ⟨a, ws, y', rfl, rfl, h, by rw [← t1.length]; exact lim_lt hz, put_ok g ha hn (t1.append (.cons ry .nil)) .non q⟩
      · exact q.elim
    · exact q.elim
  · exact q.elim
def mExtend : PM := fun vs S => match vs with
  | [.loc n, y] => (match lstAt S n, lstM S y with
    | some ps, some qs => if ps.length + qs.length ≤ lim then .ok .non (S.set n (some (.lst (ps ++ qs)))) else .fail
    | _, _ => .fail)
  | _ => .fail
theorem om_extend : OkM X rExtend mExtend := fun W B φ ρ S σ H x x' vs vs' Q g rx t q => by
  unfold mExtend at q
  split at q
  · rename_i n y e0
    cases e0
    obtain ⟨y', rfl, ry⟩ := rv1 t
    split at q
    · rename_i ps qs e e2
      split at q
      · rename_i hz
        obtain ⟨a, ws, rfl, ha, hn, h, t1⟩ := loc_lst g.ag rx e
        obtain ⟨b, us, rfl, hb, t2⟩ := lstM_ok g.ag ry e2
        exact ⟨a, b, ws, us, rfl, rfl, h, hb, by rw [← t1.length, ← t2.length]; exact lim_le hz, put_ok g ha hn (t1.append t2) .non q⟩
      · exact q.elim
    · exact q.elim
  · exact q.elim
theorem RVs.dropLast {K : PySem.W.Frag} {M : Addr → Prop} {φ : List Addr} {H : Hp} {ps : List PV} {vs : List V} (t : RVs K M φ H ps vs) : RVs K M φ H ps.dropLast vs.dropLast := by
  rw [List.dropLast_eq_take, List.dropLast_eq_take, t.length]
  exact t.take _
def mPop : PM := fun vs S => match vs with
  | [.loc n] => (match lstAt S n with
    | some ps => (match ps[ps.length - 1]? with
      | some p => .ok p (S.set n (some (.lst ps.dropLast)))
      | none => .fail)
    | none => .fail)
  | _ => .fail
theorem om_pop : OkM X rPop mPop := fun W B φ ρ S σ H x x' vs vs' Q g rx t q => by
  unfold mPop at q
  split at q
  · rename_i n e0
    cases e0
    unfold RVs at t
    subst t
    split at q
    · rename_i ps e
      obtain ⟨a, ws, rfl, ha, hn, h, t1⟩ := loc_lst g.ag rx e
      split at q
      · rename_i p hp
        obtain ⟨v, hv, rv⟩ := t1.get hp
        exact ⟨a, ws, v, rfl, rfl, h, by rw [← t1.length]; exact hv, put_ok g ha hn t1.dropLast rv q⟩
      · exact q.elim
    · exact q.elim
  · exact q.elim
end
end Mir
/-! Mir: defs and their calls. -/
namespace Mir
open PySem PySem.Spec PyProof.Rows L2
/-! ### a def's promise -/
def FPost (Y : KM) (B : Addr → Prop) (φ : List Addr) (S : Sto) (H : Hp) (r : R PV) (Q : VK) (E : XK) : Prop := match r with
  | .ok v S' => ∀ φ' v' H', Fr φ S H φ' S' H' → Ag Y.K B φ' S' H' → RV Y.K (Mu B φ' S') φ' H' v v' → Q v' H'
  | .exc c a S' => ∀ φ' H' cls d, Fr φ S H φ' S' H' → Ag Y.K B φ' S' H' → ExcAt Y.K Y.mg (Mu B φ' S') φ' H' c a cls d → E cls d H'
  | .fail => False
def spM (Y : KM) (n : Nat) (m : FM) : Sp := fun vs H Q E => vs.length = n ∧ ∃ B φ S ps, Ag Y.K B φ S H ∧ RVs Y.K (Mu B φ S) φ H ps vs ∧ FPost Y B φ S H (m ps S) Q E
/-- a body's run as a def's -/
def fin (S0 : Sto) : SR → R PV
  | .nx _ S => .ok .non S
  | .rt v S => .ok v S
  | .exc c a _ S => .exc c a S
  | _ => .fail
def runM (n : Nat) (b : SM) : FM := fun args S => fin S (b (args.map some ++ List.replicate (n - args.length) none) S)
section
variable {P : Program} {w : World} {K : PySem.W.Frag} {mg : Str → Option Value} {base : Heap}
abbrev WE0 (E : XK) : WX := fun cls d _ H => E cls d H
/-- the body's reading at the entry -/
theorem entry_ok {N ps : List Str} {vs : List V} {H : Hp} {Q : VK} {E : XK} {b : SM} (h : spM ⟨K, mg⟩ ps.length (runM N.length b) vs H Q E) : tS ⟨K, mg⟩ (WE0 E) b { nx := fun _ H' => Q .non H', rt := Q } (L2.start N vs) H := by
  obtain ⟨hl, B, φ, S, qs, g, t, q⟩ := h
  refine ⟨B, φ, qs.map some ++ List.replicate (N.length - qs.length) none, S, ⟨g, ?_, fun i p e => ?_⟩, ?_⟩
  · unfold L2.start
    simp only [List.length_append, List.length_map, List.length_replicate]
    rw [t.length]
  · have hi : i < qs.length := by
      by_cases hi : i < qs.length
      · exact hi
      · rw [List.getElem?_append_right (by simpa using hi), List.getElem?_replicate] at e
        split at e <;> cases e
    rw [List.getElem?_append_left (by simpa using hi), List.getElem?_map] at e
    cases e1 : qs[i]? with
    | none => rw [e1] at e; cases e
    | some p' =>
      rw [e1] at e
      cases e
      obtain ⟨v, hv, rv⟩ := t.get e1
      refine ⟨v, ?_, rv⟩
      unfold L2.start
      have hi2 : i < vs.length := by rw [← t.length]; exact hi
      rw [List.getElem?_append_left (by simpa using hi2), List.getElem?_map, hv]
      rfl
  · unfold runM fin at q
    generalize b (qs.map some ++ List.replicate (N.length - qs.length) none) S = r at q
    cases r with
    | nx ρ' S' => exact fun φ' σ' H' f g' => q φ' .non H' f g'.ag .non
    | rt v S' => exact q
    | bk ρ' S' => exact q.elim
    | ct ρ' S' => exact q.elim
    | exc c a ρ' S' => exact fun φ' σ' H' cls d f g' x => q φ' H' cls d f g'.ag x
    | fail => exact q.elim
theorem fn_mir {x qual : Str} {st : Stmt} {f : Addr} {fd : FuncData} {N ps : List Str} {k : Nat} {b : SM} (F : Fun K x qual st f fd) (Sc : FnScope N ps (defScope st))
    (hb : ∀ (cdv : Value) (A : Around) (outer : List Env) (s : Shared) (H : Hp) (E : XK), Room k (A.deeper (envOfC qual (defScope st) s.heap.objs.size f cdv)) →
      SB (cxOf (L2.CX P w) P w K mg base N qual (defScope st) f cdv A outer s H E) (WE0 E) (defBody st) b) : FnOk P w K mg base (L2.CX P w) (k + 1) f fd ps (spM ⟨K, mg⟩ ps.length (runM N.length b)) :=
  F.okX Sc (fun vs H Q E h => h.1) fun cdv A outer s H vs Q E hr h => ⟨_, hb cdv A outer s H E hr, entry_ok (b := b) h⟩
/-! ### what a def gives back, written out: its own store is dropped -/
mutual
def noL : PV → Bool
  | .non => true
  | .bl _ => true
  | .int _ => true
  | .str _ => true
  | .tup ps => noLs ps
  | .lst ps => noLs ps
  | .fls ps => noLs ps
  | .dct _ _ ps => noLs ps
  | .loc _ => false
def noLs : List PV → Bool
  | [] => true
  | p :: ps => noL p && noLs ps
end
def noLO : Option Ob → Bool
  | some (.lst ps) => noLs ps
  | some (.dct _ _ ps) => noLs ps
  | none => true
/-- a thing of the store made a value -/
def thaw (S : Sto) : PV → Option PV
  | .loc n => match S[n]? with
    | some (some (.lst ps)) => if noLs ps then some (.lst ps) else none
    | some (some (.dct t ks ps)) => if noLs ps then some (.dct t ks ps) else none
    | _ => none
  | v => if noL v then some v else none
def frzM (m : FM) : FM := fun args S => match m args S with
  | .ok v S' => (match thaw (S'.drop S.length |> fun d => List.replicate S.length none ++ d) v with
    | some v' => if (S'.take S.length).all noLO then .ok v' (S'.take S.length) else .fail
    | none => .fail)
  | .exc c a S' => if noL a && (S'.take S.length).all noLO then .exc c a (S'.take S.length) else .fail
  | .fail => .fail
section
variable {M M' : Addr → Prop} {φ φ' : List Addr} {H : Hp}
/-- without places: only what may change counts -/
structure Leaf (M M' : Addr → Prop) (H : Hp) : Prop where
  mu : ∀ a o, H a = some o → ¬ M a → ¬ M' a
mutual
theorem RV.leaf (L : Leaf M M' H) : ∀ (p : PV) {v : V}, noL p = true → RV K M φ H p v → RV K M' φ' H p v
  | .non, _, _, h => h
  | .bl _, _, _, h => h
  | .int _, _, _, h => h
  | .str _, _, _, h => h
  | .tup ps, _, n, h => by
    unfold RV at h ⊢
    unfold noL at n
    obtain ⟨a, vs, e, q, r⟩ := h
    exact ⟨a, vs, e, q, RVs.leaf L ps n r⟩
  | .lst ps, _, n, h => by
    unfold RV at h ⊢
    unfold noL at n
    obtain ⟨a, vs, e, q, r⟩ := h
    exact ⟨a, vs, e, ⟨L.mu a _ q.2 q.1, q.2⟩, RVs.leaf L ps n r⟩
  | .fls ps, _, n, h => by
    unfold RV at h ⊢
    unfold noL at n
    obtain ⟨a, vs, e, q, r⟩ := h
    exact ⟨a, vs, e, q, RVs.leaf L ps n r⟩
  | .dct t ks ps, _, n, h => by
    unfold RV at h ⊢
    unfold noL at n
    obtain ⟨a, vs, e, m, ⟨u, q, d⟩, r⟩ := h
    refine ⟨a, vs, e, ?_, ⟨u, q, d⟩, RVs.leaf L ps n r⟩
    rcases q with q | ⟨o, q⟩ <;> exact L.mu a _ q m
  | .loc n, _, h, _ => by cases h
theorem RVs.leaf (L : Leaf M M' H) : ∀ (ps : List PV) {vs : List V}, noLs ps = true → RVs K M φ H ps vs → RVs K M' φ' H ps vs
  | [], _, _, h => h
  | p :: ps, _, n, h => by
    unfold RVs at h ⊢
    unfold noLs at n
    rw [Bool.and_eq_true] at n
    obtain ⟨v, ws, e, h1, h2⟩ := h
    exact ⟨v, ws, e, RV.leaf L p n.1 h1, RVs.leaf L ps n.2 h2⟩
end
end
theorem live_take {φ : List Addr} {S' : Sto} {φ' : List Addr} {a : Addr} {n : Nat} (hφ : φ'.take n = φ) (l : live φ (S'.take n) a) : live φ' S' a := by
  obtain ⟨i, o, e1, e2⟩ := l
  subst hφ
  have h1 := (List.getElem?_eq_some_iff.mp e1).1
  have hi : i < n := by rw [List.length_take] at h1; omega
  rw [List.getElem?_take_of_lt hi] at e1 e2
  exact ⟨i, o, e1, e2⟩
theorem ite_leaf {M M' : Addr → Prop} {φ φ' : List Addr} {H : Hp} (L : Leaf M M' H) {p p2 : PV} {v : V} (e : (if noL p = true then some p else none) = some p2) (r : RV K M φ H p v) : RV K M' φ' H p2 v := by
  by_cases hq : noL p = true
  · rw [if_pos hq] at e; cases e; exact RV.leaf L _ hq r
  · rw [if_neg hq] at e; cases e
/-- the own part of the store is forgotten -/
theorem drop_own {Y : KM} {B : Addr → Prop} {φ φ' : List Addr} {S S' : Sto} {H H' : Hp} (g : Ag Y.K B φ S H) (f : Fr φ S H φ' S' H') (g' : Ag Y.K B φ' S' H') (hn : (S'.take S.length).all noLO = true) :
    Fr φ S H φ (S'.take S.length) H' ∧ Ag Y.K B φ (S'.take S.length) H' ∧ φ'.take S.length = φ := by
  have hφ : φ'.take S.length = φ := by
    obtain ⟨l, rfl⟩ := f.pre
    rw [← g.len]
    simp
  have hle : S.length ≤ S'.length := by
    obtain ⟨l, e⟩ := f.pre
    rw [← g'.len, e, ← g.len]
    simp
  have hmem : ∀ a, a ∈ φ → a ∈ φ' := fun a h => by
    obtain ⟨l, rfl⟩ := f.pre
    exact List.mem_append_left _ h
  refine ⟨⟨⟨[], by simp⟩, f.keep, fun a l => f.new a (live_take hφ l), f.trk⟩, ⟨?_, g.nd, fun a h => g'.trk a (hmem a h), g'.bt, fun a h => g'.dis a (hmem a h), fun n o a e1 e2 => ?_⟩, hφ⟩
  · rw [List.length_take, g.len]; omega
  · have hi : n < S.length := by
      have := (List.getElem?_eq_some_iff.mp e2).1
      rw [g.len] at this
      exact this
    have e1' : S'[n]? = some (some o) := by rw [List.getElem?_take_of_lt hi] at e1; exact e1
    have e2' : φ'[n]? = some a := by rw [← hφ, List.getElem?_take_of_lt hi] at e2; exact e2
    have q := g'.obj n o a e1' e2'
    have hno : noLO (some o) = true := List.all_eq_true.mp hn (some o) (List.mem_of_getElem? e1)
    have L : Leaf (Mu B φ' S') (Mu B φ (S'.take S.length)) H' := ⟨fun b u hb m m' => by
      rcases m' with m' | m'
      · exact m (.inl m')
      · exact m (.inr (live_take hφ m'))⟩
    cases o with
    | lst ps => obtain ⟨vs, h, t⟩ := q; exact ⟨vs, h, RVs.leaf L _ hno t⟩
    | dct t ks ps => obtain ⟨vs, u, h, d, t⟩ := q; exact ⟨vs, u, h, d, RVs.leaf L _ hno t⟩
theorem frz_imp {Y : KM} {n : Nat} {m : FM} {vs : List V} {H : Hp} {Q : VK} {E : XK} (h : spM Y n (frzM m) vs H Q E) : spM Y n m vs H Q E := by
  obtain ⟨hl, B, φ, S, ps, g, t, q⟩ := h
  refine ⟨hl, B, φ, S, ps, g, t, ?_⟩
  unfold frzM at q
  cases e : m ps S with
  | fail => rw [e] at q; exact q
  | exc c a S' =>
    rw [e] at q
    dsimp only at q
    split at q
    · rename_i hc
      rw [Bool.and_eq_true] at hc
      intro φ' H' cls d f g' x
      obtain ⟨f2, g2, hφ⟩ := drop_own g f g' hc.2
      refine q φ H' cls d f2 g2 ?_
      obtain ⟨C, dd, v, h1, h2, h3, h4, h5⟩ := x
      refine ⟨C, dd, v, h1, h2, h3, h4, RV.leaf ⟨fun b u hb mm m' => ?_⟩ _ hc.1 h5⟩
      rcases m' with m' | m'
      · exact mm (.inl m')
      · exact mm (.inr (live_take hφ m'))
    · exact q.elim
  | ok v S' =>
    rw [e] at q
    dsimp only at q
    split at q
    · rename_i v2 e2
      split at q
      · rename_i hc
        intro φ' v' H' f g' rv
        obtain ⟨f2, g2, hφ⟩ := drop_own g f g' hc
        refine q φ v' H' f2 g2 ?_
        have L : Leaf (Mu B φ' S') (Mu B φ (S'.take S.length)) H' := ⟨fun b u hb mm m' => by
          rcases m' with m' | m'
          · exact mm (.inl m')
          · exact mm (.inr (live_take hφ m'))⟩
        cases v with
        | loc k =>
          unfold thaw at e2
          dsimp only at e2
          unfold RV at rv
          obtain ⟨a, ha, rfl⟩ := rv
          -- the place is an own one
          have key : ∀ o, (List.replicate S.length none ++ S'.drop S.length)[k]? = some (some o) → S'[k]? = some (some o) ∧ S.length ≤ k := fun o e3 => by
            by_cases hk : k < S.length
            · rw [List.getElem?_append_left (by simpa using hk), List.getElem?_replicate] at e3
              split at e3 <;> cases e3
            · rw [List.getElem?_append_right (by simpa using hk), List.length_replicate, List.getElem?_drop] at e3
              have : S.length + (k - S.length) = k := by omega
              rw [this] at e3
              exact ⟨e3, by omega⟩
          have notMu : ∀ o, S'[k]? = some (some o) → S.length ≤ k → ¬ Mu B φ (S'.take S.length) a := fun o e3 hk mm => by
            have ma : a ∈ φ' := List.mem_of_getElem? ha
            rcases mm with mm | mm
            · exact g'.dis a ma mm
            · obtain ⟨i, o', i1, i2⟩ := mm
              have hi : i < S.length := by
                have := (List.getElem?_eq_some_iff.mp i1).1
                rw [g.len] at this; exact this
              have i1' : φ'[i]? = some a := by rw [← hφ, List.getElem?_take_of_lt hi] at i1; exact i1
              obtain ⟨q1, q2⟩ := List.getElem?_eq_some_iff.mp i1'
              obtain ⟨q3, q4⟩ := List.getElem?_eq_some_iff.mp ha
              have := (List.getElem_inj g'.nd).mp (q2.trans q4.symm)
              omega
          split at e2
          · rename_i qs e3
            obtain ⟨k1, k2⟩ := key _ e3
            split at e2
            · rename_i hq
              cases e2
              obtain ⟨ws, h, t1⟩ := g'.obj k _ a k1 ha
              unfold RV
              exact ⟨a, ws, rfl, ⟨notMu _ k1 k2, h⟩, RVs.leaf L _ hq t1⟩
            · cases e2
          · rename_i tt ks qs e3
            obtain ⟨k1, k2⟩ := key _ e3
            split at e2
            · rename_i hq
              cases e2
              obtain ⟨ws, u, h, d, t1⟩ := g'.obj k _ a k1 ha
              unfold RV
              exact ⟨a, ws, rfl, notMu _ k1 k2, ⟨u, .inl h, d⟩, RVs.leaf L _ hq t1⟩
            · cases e2
          · cases e2
        | _ =>
          simp only [thaw] at e2
          exact ite_leaf L e2 rv
      · exact q.elim
    · exact q.elim
end
end Mir
/-! Mir: calls of defs. -/
namespace Mir
open PySem PySem.Spec PyProof.Rows L2
/-- the arguments as the callee knows them, and the caller's places that are handed on -/
def splitA : List PV → Nat → Option (List PV × List Nat)
  | [], _ => some ([], [])
  | .loc n :: r, k => match splitA r (k + 1) with
    | some (xs, ns) => some (.loc k :: xs, n :: ns)
    | none => none
  | p :: r, k => if noL p then (match splitA r k with
    | some (xs, ns) => some (p :: xs, ns)
    | none => none) else none
/-- the store of the callee -/
def subS (S : Sto) : List Nat → Option Sto
  | [] => some []
  | n :: ns => match S[n]? with
    | some (some ob) => if noLO (some ob) then (match subS S ns with
      | some T => some (some ob :: T)
      | none => none) else none
    | _ => none
/-- written back -/
def backS (S : Sto) : List Nat → Sto → Sto
  | n :: ns, o :: T => backS (S.set n o) ns T
  | _, _ => S
/-- an own place within a list -/
def deep1 (k : Nat) (S : Sto) : PV → Option PV
  | .loc n => if k ≤ n then (match S[n]? with
    | some (some (.lst ps)) => if noLs ps then some (.lst ps) else none
    | _ => none) else none
  | p => if noL p then some p else none
def deep1s (k : Nat) (S : Sto) : List PV → Option (List PV)
  | [] => some []
  | p :: ps => match deep1 k S p, deep1s k S ps with
    | some q, some qs => some (q :: qs)
    | _, _ => none
mutual
/-- own places of the callee's made values -/
def deepT (k : Nat) (S : Sto) : PV → Option PV
  | .loc n => if k ≤ n then (match S[n]? with
    | some (some (.lst ps)) => if noLs ps then some (.lst ps) else (deep1s k S ps).map .lst
    | some (some (.dct t ks ps)) => if noLs ps then some (.dct t ks ps) else none
    | _ => none) else none
  | .tup ps => (deepTs k S ps).map .tup
  | .non => some .non
  | .bl b => some (.bl b)
  | .int i => some (.int i)
  | .str x => some (.str x)
  | .lst ps => if noLs ps then some (.lst ps) else none
  | .fls ps => if noLs ps then some (.fls ps) else none
  | .dct t ks ps => if noLs ps then some (.dct t ks ps) else none
def deepTs (k : Nat) (S : Sto) : List PV → Option (List PV)
  | [] => some []
  | p :: ps => match deepT k S p, deepTs k S ps with
    | some q, some qs => some (q :: qs)
    | _, _ => none
end
/-- the result, as the caller has it -/
def backR (ad : Bool) (ns : List Nat) (S1 S' : Sto) (v : PV) : R PV := match v with
  | .loc n => if n < ns.length then (match ns[n]? with | some m => .ok (.loc m) S1 | none => .fail) else if ad then (match S'[n]? with
    | some (some ob) => if noLO (some ob) then .ok (.loc S1.length) (S1 ++ [some ob]) else .fail
    | _ => .fail) else (match deepT ns.length S' (.loc n) with | some v' => .ok v' S1 | none => .fail)
  | v => match deepT ns.length S' v with | some v' => .ok v' S1 | none => .fail
def callM (ad : Bool) (m : FM) (args : List PV) (S : Sto) : R PV := match splitA args 0 with
  | some (xs, ns) => if ns.Nodup then (match subS S ns with
    | some T => (match m xs T with
      | .ok v S' => if (S'.take ns.length).all noLO then backR ad ns (backS S ns S') S' v else .fail
      | .exc c a S' => if (S'.take ns.length).all noLO && noL a then .exc c a (backS S ns S') else .fail
      | .fail => .fail)
    | none => .fail) else .fail
  | none => .fail
section
variable {K : PySem.W.Frag} {M M' : Addr → Prop} {B : Addr → Prop} {φ φ' : List Addr} {S S' T : Sto} {H H' : Hp}
theorem splitA_ok {ψ : List Addr} (L : Leaf M M' H) : ∀ {args xs : List PV} {k : Nat} {ns : List Nat} {vs : List V}, splitA args k = some (xs, ns) → (∀ j n, ns[j]? = some n → ψ[k + j]? = φ[n]?) → RVs K M φ H args vs → RVs K M' ψ H xs vs
  | [], xs, k, ns, vs, e, hh, r => by
    unfold splitA at e
    cases e
    unfold RVs at r
    subst r
    exact .nil
  | p :: args, xs, k, ns, vs, e, hh, r => by
    obtain ⟨v, ws, rfl, r1, r2⟩ := r.uncons
    by_cases hl : ∃ n, p = .loc n
    · obtain ⟨n, rfl⟩ := hl
      rw [splitA.eq_def] at e
      dsimp only at e
      split at e
      · rename_i ys ms e2
        cases e
        refine .cons ?_ (splitA_ok L e2 (fun j n' hj => ?_) r2)
        · unfold RV at r1 ⊢
          obtain ⟨a, ha, hv⟩ := r1
          refine ⟨a, ?_, hv⟩
          have := hh 0 n rfl
          rw [Nat.add_zero] at this
          rw [this]; exact ha
        · have := hh (j + 1) n' (by simpa using hj)
          rw [← this]
          congr 1
          omega
      · cases e
    · rw [splitA.eq_def] at e
      have e' : (if noL p then (match splitA args k with | some (xs, ns) => some (p :: xs, ns) | none => none) else none) = some (xs, ns) := by
        cases p with
        | loc n => exact absurd ⟨n, rfl⟩ hl
        | _ => exact e
      split at e'
      · rename_i hn
        split at e'
        · rename_i ys ms e2
          cases e'
          exact .cons (RV.leaf L p hn r1) (splitA_ok L e2 hh r2)
        · cases e'
      · cases e'
theorem subS_ok : ∀ {ns : List Nat} {T : Sto}, subS S ns = some T → T.length = ns.length ∧ ∀ (j n : Nat), ns[j]? = some n → ∃ ob, S[n]? = some (some ob) ∧ T[j]? = some (some ob) ∧ noLO (some ob) = true
  | [], T, e => by
    unfold subS at e
    cases e
    exact ⟨rfl, fun j n h => by simp at h⟩
  | n :: ns, T, e => by
    unfold subS at e
    split at e
    · rename_i ob eo
      split at e
      · rename_i hn
        split at e
        · rename_i T' e2
          cases e
          obtain ⟨hl, hh⟩ := subS_ok e2
          refine ⟨by simp [hl], fun j m h => ?_⟩
          cases j with
          | zero => simp at h; subst h; exact ⟨ob, eo, rfl, hn⟩
          | succ j => exact hh j m (by simpa using h)
        · cases e
      · cases e
    · cases e
theorem backS_len : ∀ (ns : List Nat) (S T : Sto), (backS S ns T).length = S.length
  | [], _, _ => by unfold backS; rfl
  | _ :: _, _, [] => by unfold backS; rfl
  | n :: ns, S, o :: T => by unfold backS; rw [backS_len ns]; simp
theorem backS_out : ∀ (ns : List Nat) (S T : Sto) (m : Nat), m ∉ ns → (backS S ns T)[m]? = S[m]?
  | [], _, _, _, _ => by unfold backS; rfl
  | _ :: _, _, [], _, _ => by unfold backS; rfl
  | n :: ns, S, o :: T, m, h => by
    unfold backS
    rw [backS_out ns _ _ m (fun q => h (List.mem_cons_of_mem _ q)), List.getElem?_set_ne (fun q => h (by rw [q]; exact List.mem_cons_self))]
theorem backS_in : ∀ (ns : List Nat) (S T : Sto), ns.Nodup → ns.length ≤ T.length → (∀ n ∈ ns, n < S.length) → ∀ (j m : Nat), ns[j]? = some m → (backS S ns T)[m]? = T[j]?
  | [], _, _, _, _, _, j, m, h => by simp at h
  | n :: ns, S, [], _, hl, _, j, m, h => by simp at hl
  | n :: ns, S, o :: T, nd, hl, hS, j, m, h => by
    unfold backS
    cases j with
    | zero =>
      simp at h
      subst h
      rw [backS_out ns _ _ _ (List.nodup_cons.mp nd).1, List.getElem?_set_self (hS _ List.mem_cons_self)]
      rfl
    | succ j =>
      rw [backS_in ns (S.set n o) T (List.nodup_cons.mp nd).2 (by simpa using hl) (fun q hq => by simpa using hS q (List.mem_cons_of_mem _ hq)) j m (by simpa using h)]
      rfl
theorem Ag.uniq (g : Ag K B φ S H) {m n : Nat} {a : Addr} (h1 : φ[m]? = some a) (h2 : φ[n]? = some a) : m = n := by
  obtain ⟨q1, q2⟩ := List.getElem?_eq_some_iff.mp h1
  obtain ⟨q3, q4⟩ := List.getElem?_eq_some_iff.mp h2
  exact (List.getElem_inj g.nd).mp (q2.trans q4.symm)
/-- what the callee sees as other things that may change -/
def offB (B : Addr → Prop) (φ : List Addr) (S : Sto) (ns : List Nat) (a : Addr) : Prop := Mu B φ S a ∧ ∀ n ∈ ns, φ[n]? ≠ some a
/-- the callee's places -/
def subφ (φ : List Addr) (ns : List Nat) : List Addr := ns.filterMap fun n => φ[n]?
theorem subφ_get : ∀ (ns : List Nat), (∀ n ∈ ns, n < φ.length) → ∀ (j : Nat), (subφ φ ns)[j]? = ns[j]?.bind fun n => φ[n]?
  | [], _, j => by simp [subφ]
  | n :: ns, h, j => by
    have h0 := h n List.mem_cons_self
    have e : subφ φ (n :: ns) = φ[n] :: subφ φ ns := by
      unfold subφ
      rw [List.filterMap_cons, List.getElem?_eq_getElem h0]
    rw [e]
    cases j with
    | zero => simp [List.getElem?_eq_getElem h0]
    | succ j => simpa using subφ_get ns (fun m hm => h m (List.mem_cons_of_mem _ hm)) j
structure Sub (S : Sto) (ns : List Nat) (T : Sto) : Prop where
  nd : ns.Nodup
  len : T.length = ns.length
  at_ : ∀ (j n : Nat), ns[j]? = some n → ∃ ob, S[n]? = some (some ob) ∧ T[j]? = some (some ob) ∧ noLO (some ob) = true
theorem Sub.lt {ns : List Nat} (s : Sub S ns T) {n : Nat} (h : n ∈ ns) : n < S.length := by
  obtain ⟨j, e⟩ := List.mem_iff_getElem?.mp h
  obtain ⟨ob, e1, _⟩ := s.at_ j n e
  exact (List.getElem?_eq_some_iff.mp e1).1
theorem sub_get (g : Ag K B φ S H) {ns : List Nat} (s : Sub S ns T) {j : Nat} {a : Addr} : (subφ φ ns)[j]? = some a ↔ ∃ n, ns[j]? = some n ∧ φ[n]? = some a := by
  rw [subφ_get ns (fun n h => by rw [g.len]; exact s.lt h)]
  cases ns[j]? with
  | none => simp
  | some n => simp
theorem sub_live (g : Ag K B φ S H) {ns : List Nat} (s : Sub S ns T) {a : Addr} (l : live (subφ φ ns) T a) : live φ S a := by
  obtain ⟨j, o, e1, e2⟩ := l
  obtain ⟨n, q1, q2⟩ := (sub_get g s).mp e1
  obtain ⟨ob, s1, s2, _⟩ := s.at_ j n q1
  exact ⟨n, ob, q2, s1⟩
theorem subφ_len (g : Ag K B φ S H) {ns : List Nat} (s : Sub S ns T) : (subφ φ ns).length = ns.length := by
  have h1 : ∀ j, (subφ φ ns)[j]? = none ↔ ns[j]? = none := fun j => by
    rw [subφ_get ns (fun n h => by rw [g.len]; exact s.lt h)]
    cases e : ns[j]? with
    | none => simp
    | some n =>
      have hn : n < φ.length := by rw [g.len]; exact s.lt (List.mem_of_getElem? e)
      simp [hn]
  have a1 := (h1 ns.length).mpr (by simp)
  have a2 := (h1 (subφ φ ns).length).mp (by simp)
  rw [List.getElem?_eq_none_iff] at a1 a2
  omega
theorem sub_leaf (g : Ag K B φ S H) {ns : List Nat} (s : Sub S ns T) : Leaf (Mu B φ S) (Mu (offB B φ S ns) (subφ φ ns) T) H := ⟨fun a o h n m => by
  rcases m with m | m
  · exact n m.1
  · exact n (.inr (sub_live g s m))⟩
theorem RO.leaf (L : Leaf M M' H) {a : Addr} : ∀ {o : Ob}, noLO (some o) = true → RO K M φ H a o → RO K M' φ' H a o
  | .lst ps, n, ⟨vs, h, t⟩ => ⟨vs, h, RVs.leaf L _ n t⟩
  | .dct tt ks ps, n, ⟨vs, u, h, d, t⟩ => ⟨vs, u, h, d, RVs.leaf L _ n t⟩
theorem sub_ag (g : Ag K B φ S H) {ns : List Nat} (s : Sub S ns T) : Ag K (offB B φ S ns) (subφ φ ns) T H where
  len := by rw [subφ_len g s, s.len]
  nd := by
    refine List.pairwise_iff_getElem.mpr fun i j hi hj hij e => ?_
    have ea : (subφ φ ns)[j]? = some (subφ φ ns)[j] := List.getElem?_eq_getElem hj
    have eb : (subφ φ ns)[i]? = some (subφ φ ns)[j] := by rw [List.getElem?_eq_getElem hi, e]
    obtain ⟨n, q1, q2⟩ := (sub_get g s).mp ea
    obtain ⟨n', q3, q4⟩ := (sub_get g s).mp eb
    have := g.uniq q2 q4
    subst this
    obtain ⟨z1, z2⟩ := List.getElem?_eq_some_iff.mp q1
    obtain ⟨z3, z4⟩ := List.getElem?_eq_some_iff.mp q3
    have := (List.getElem_inj s.nd).mp (z2.trans z4.symm)
    omega
  trk := fun a m => by
    obtain ⟨j, e⟩ := List.mem_iff_getElem?.mp m
    obtain ⟨n, _, q2⟩ := (sub_get g s).mp e
    exact g.trk a (List.mem_of_getElem? q2)
  bt := fun a h => by
    rcases h.1 with h | h
    · exact g.bt a h
    · exact g.trk a (live_mem h)
  dis := fun a m h => by
    obtain ⟨j, e⟩ := List.mem_iff_getElem?.mp m
    obtain ⟨n, q1, q2⟩ := (sub_get g s).mp e
    exact h.2 n (List.mem_of_getElem? q1) q2
  obj := fun j o a e1 e2 => by
    obtain ⟨n, q1, q2⟩ := (sub_get g s).mp e2
    obtain ⟨ob, s1, s2, s3⟩ := s.at_ j n q1
    rw [e1] at s2
    cases s2
    exact RO.leaf (sub_leaf g s) s3 (g.obj n o a s1 q2)
/-- behind the callee; ex: own places of its that the caller takes over, exo: what stands there -/
structure Bk (K : PySem.W.Frag) (B : Addr → Prop) (φ : List Addr) (S : Sto) (ns : List Nat) (H : Hp) (φ' : List Addr) (S' : Sto) (H' : Hp) (ex : List Addr) (exo : Sto) : Prop where
  fr : Fr φ S H (φ ++ ex) (backS S ns S' ++ exo) H'
  ag : Ag K B (φ ++ ex) (backS S ns S' ++ exo) H'
  leaf : Leaf (Mu (offB B φ S ns) φ' S') (Mu B (φ ++ ex) (backS S ns S' ++ exo)) H'
structure Ex0 (ns : List Nat) (φ' : List Addr) (S' : Sto) (ex : List Addr) (exo : Sto) : Prop where
  nd : ex.Nodup
  len : ex.length = exo.length
  at_ : ∀ (i : Nat) (a : Addr), ex[i]? = some a → ∃ n o, ns.length ≤ n ∧ φ'[n]? = some a ∧ S'[n]? = some (some o) ∧ exo[i]? = some (some o) ∧ noLO (some o) = true
theorem Ex0.nil {ns : List Nat} : Ex0 ns φ' S' [] [] := ⟨List.nodup_nil, rfl, fun i a h => by simp at h⟩
theorem live_app {ex : List Addr} {exo : Sto} (hl : φ.length = S.length) {a : Addr} (l : live (φ ++ ex) (S ++ exo) a) : live φ S a ∨ a ∈ ex := by
  obtain ⟨n, o, e1, e2⟩ := l
  by_cases hn : n < φ.length
  · rw [List.getElem?_append_left hn] at e1
    rw [List.getElem?_append_left (by omega)] at e2
    exact .inl ⟨n, o, e1, e2⟩
  · rw [List.getElem?_append_right (by omega)] at e1
    exact .inr (List.mem_of_getElem? e1)
theorem sub_back {ex : List Addr} {exo : Sto} (g : Ag K B φ S H) {ns : List Nat} (s : Sub S ns T) (f : Fr (subφ φ ns) T H φ' S' H') (g' : Ag K (offB B φ S ns) φ' S' H') (hn : (S'.take ns.length).all noLO = true)
    (x : Ex0 ns φ' S' ex exo) : Bk K B φ S ns H φ' S' H' ex exo := by
  have hk : ns.length ≤ S'.length := by
    obtain ⟨l, e⟩ := f.pre
    rw [← g'.len, e, List.length_append, subφ_len g s]
    omega
  have hin := backS_in ns S S' s.nd hk (fun n h => s.lt h)
  have hout := backS_out ns S S'
  have hlen : φ.length = (backS S ns S').length := by rw [backS_len]; exact g.len
  have hpre : ∀ (j n : Nat) (a : Addr), ns[j]? = some n → φ[n]? = some a → φ'[j]? = some a := fun j n a e1 e2 => by
    obtain ⟨l, e⟩ := f.pre
    have := (sub_get g s).mpr ⟨n, e1, e2⟩
    rw [e, List.getElem?_append_left (List.getElem?_eq_some_iff.mp this).1]
    exact this
  have hown : ∀ (n : Nat) (a : Addr), ns.length ≤ n → φ'[n]? = some a → a ∉ subφ φ ns := fun n a hk ha hm => by
    obtain ⟨j, ej⟩ := List.mem_iff_getElem?.mp hm
    obtain ⟨m, e1, e2⟩ := (sub_get g s).mp ej
    have := g'.uniq ha (hpre j m a e1 e2)
    have hj := (List.getElem?_eq_some_iff.mp e1).1
    omega
  have hnone : ∀ a, a ∈ ex → H a = none ∧ live φ' S' a := fun a hm => by
    obtain ⟨i, ei⟩ := List.mem_iff_getElem?.mp hm
    obtain ⟨n, o, q1, q2, q3, q4, q5⟩ := x.at_ i a ei
    refine ⟨?_, ⟨n, o, q2, q3⟩⟩
    rcases f.new a ⟨n, o, q2, q3⟩ with l | l
    · exact absurd (live_mem l) (hown n a q1 q2)
    · exact l
  -- live behind: live in S; and live in S' or not handed on
  have hlive : ∀ a, live φ (backS S ns S') a → live φ S a ∧ (live φ' S' a ∨ ∀ n ∈ ns, φ[n]? ≠ some a) := fun a l => by
    obtain ⟨m, o, e1, e2⟩ := l
    by_cases hm : m ∈ ns
    · obtain ⟨j, ej⟩ := List.mem_iff_getElem?.mp hm
      obtain ⟨ob, s1, s2, _⟩ := s.at_ j m ej
      rw [hin j m ej] at e2
      exact ⟨⟨m, ob, e1, s1⟩, .inl ⟨j, o, hpre j m a ej e1, e2⟩⟩
    · rw [hout m hm] at e2
      refine ⟨⟨m, o, e1, e2⟩, .inr fun n hn q => ?_⟩
      have := g.uniq e1 q
      subst this
      exact hm hn
  have fr : Fr φ S H (φ ++ ex) (backS S ns S' ++ exo) H' := ⟨⟨ex, rfl⟩, fun a o h l => f.keep a o h fun q => l (sub_live g s q), fun a l => by
    rcases live_app hlen l with l | l
    · exact .inl (hlive a l).1
    · exact .inr (hnone a l).1, f.trk⟩
  have leaf : Leaf (Mu (offB B φ S ns) φ' S') (Mu B (φ ++ ex) (backS S ns S' ++ exo)) H' := ⟨fun a o h n m => by
    rcases m with m | m
    · exact n (.inl ⟨.inl m, fun k hk q => g.dis a (List.mem_of_getElem? q) m⟩)
    · rcases live_app hlen m with m | m
      · obtain ⟨l1, l2⟩ := hlive a m
        rcases l2 with l2 | l2
        · exact n (.inr l2)
        · exact n (.inl ⟨.inr l1, l2⟩)
      · exact n (.inr (hnone a m).2)⟩
  refine ⟨fr, ⟨by simp [hlen, x.len], ?_, fun a m => ?_, fun a m => ?_, fun a m => ?_, fun n o a e1 e2 => ?_⟩, leaf⟩
  · rw [List.nodup_append]
    refine ⟨g.nd, x.nd, fun a ha b hb e => ?_⟩
    subst e
    exact g.none_notin (hnone a hb).1 ha
  · rcases List.mem_append.mp m with m | m
    · obtain ⟨o, e⟩ := g.trk a m; exact f.trk a o e
    · exact g'.trk a (live_mem (hnone a m).2)
  · obtain ⟨o, e⟩ := g.bt a m; exact f.trk a o e
  · rcases List.mem_append.mp m with m | m
    · exact g.dis a m
    · exact g.none_notB (hnone a m).1
  · by_cases hb : n < (backS S ns S').length
    · rw [List.getElem?_append_left hb] at e1
      rw [List.getElem?_append_left (by omega)] at e2
      by_cases hm : n ∈ ns
      · obtain ⟨j, ej⟩ := List.mem_iff_getElem?.mp hm
        rw [hin j n ej] at e1
        have hj : j < ns.length := (List.getElem?_eq_some_iff.mp ej).1
        have hno : noLO (some o) = true := List.all_eq_true.mp hn (some o) (List.mem_of_getElem? (i := j) (by rw [List.getElem?_take_of_lt hj]; exact e1))
        exact RO.leaf leaf hno (g'.obj j o a e1 (hpre j n a ej e2))
      · rw [hout n hm] at e1
        refine RO.lean (fr.lean g) (fun u hu => f.keep a u hu fun q => ?_) (g.obj n o a e1 e2)
        obtain ⟨j, o', z1, z2⟩ := q
        obtain ⟨n', z3, z4⟩ := (sub_get g s).mp z1
        have := g.uniq e2 z4
        subst this
        exact hm (List.mem_of_getElem? z3)
    · rw [List.getElem?_append_right (by omega)] at e1
      rw [List.getElem?_append_right (by omega), hlen] at e2
      obtain ⟨m, o', q1, q2, q3, q4, q5⟩ := x.at_ _ a e2
      rw [e1] at q4
      cases q4
      exact RO.leaf leaf q5 (g'.obj m o a q3 q2)
theorem deep1_ok (g' : Ag K B φ' S' H') {k : Nat} (hm : ∀ (n : Nat) (a : Addr), k ≤ n → φ'[n]? = some a → ¬ M' a) (L : Leaf (Mu B φ' S') M' H') {p q : PV} {v : V} (e : deep1 k S' p = some q) (r : RV K (Mu B φ' S') φ' H' p v) : RV K M' φ H' q v := by
  have hno : ∀ p : PV, (if noL p then some p else none) = some q → RV K (Mu B φ' S') φ' H' p v → RV K M' φ H' q v := fun p e r => by
    split at e
    · rename_i hq; cases e; exact RV.leaf L _ hq r
    · cases e
  cases p with
  | loc n =>
    unfold deep1 at e
    dsimp only at e
    unfold RV at r
    obtain ⟨a, ha, rfl⟩ := r
    split at e
    · rename_i hk
      split at e
      · rename_i ps e3
        split at e
        · rename_i hq
          cases e
          obtain ⟨ws, h, t⟩ := g'.obj n _ a e3 ha
          unfold RV
          exact ⟨a, ws, rfl, ⟨hm n a hk ha, h⟩, RVs.leaf L _ hq t⟩
        · cases e
      · cases e
    · cases e
  | non => exact hno .non e r
  | bl b => exact hno (.bl b) e r
  | int i => exact hno (.int i) e r
  | str i => exact hno (.str i) e r
  | tup i => exact hno (.tup i) e r
  | lst i => exact hno (.lst i) e r
  | fls i => exact hno (.fls i) e r
  | dct a b c => exact hno (.dct a b c) e r
theorem deep1s_ok (g' : Ag K B φ' S' H') {k : Nat} (hm : ∀ (n : Nat) (a : Addr), k ≤ n → φ'[n]? = some a → ¬ M' a) (L : Leaf (Mu B φ' S') M' H') : ∀ (ps : List PV) {qs : List PV} {vs : List V}, deep1s k S' ps = some qs → RVs K (Mu B φ' S') φ' H' ps vs → RVs K M' φ H' qs vs
  | [], qs, vs, e, r => by unfold deep1s at e; cases e; unfold RVs at r; subst r; exact .nil
  | p :: ps, qs, vs, e, r => by
    unfold deep1s at e
    split at e
    · rename_i q qs' e1 e2
      cases e
      obtain ⟨v, ws, rfl, r1, r2⟩ := r.uncons
      exact .cons (deep1_ok g' hm L e1 r1) (deep1s_ok g' hm L ps e2 r2)
    · cases e
mutual
theorem deepT_ok (g' : Ag K B φ' S' H') {k : Nat} (hm : ∀ (n : Nat) (a : Addr), k ≤ n → φ'[n]? = some a → ¬ M' a) (L : Leaf (Mu B φ' S') M' H') : ∀ (p : PV) {q : PV} {v : V}, deepT k S' p = some q → RV K (Mu B φ' S') φ' H' p v → RV K M' φ H' q v
  | .loc n, q, v, e, r => by
    unfold deepT at e
    unfold RV at r
    obtain ⟨a, ha, rfl⟩ := r
    split at e
    · rename_i hk
      split at e
      · rename_i ps e3
        split at e
        · rename_i hq
          cases e
          obtain ⟨ws, h, t⟩ := g'.obj n _ a e3 ha
          unfold RV
          exact ⟨a, ws, rfl, ⟨hm n a hk ha, h⟩, RVs.leaf L _ hq t⟩
        · cases e4 : deep1s k S' ps with
          | none => rw [e4] at e; cases e
          | some qs =>
            rw [e4] at e
            cases e
            obtain ⟨ws, h, t⟩ := g'.obj n _ a e3 ha
            unfold RV
            exact ⟨a, ws, rfl, ⟨hm n a hk ha, h⟩, deep1s_ok g' hm L ps e4 t⟩
      · rename_i t ks ps e3
        split at e
        · rename_i hq
          cases e
          obtain ⟨ws, u, h, d, t⟩ := g'.obj n _ a e3 ha
          unfold RV
          exact ⟨a, ws, rfl, hm n a hk ha, ⟨u, .inl h, d⟩, RVs.leaf L _ hq t⟩
        · cases e
      · cases e
    · cases e
  | .tup ps, q, v, e, r => by
    unfold deepT at e
    cases e2 : deepTs k S' ps with
    | none => rw [e2] at e; cases e
    | some qs =>
      rw [e2] at e
      cases e
      unfold RV at r ⊢
      obtain ⟨a, vs, h1, h2, h3⟩ := r
      exact ⟨a, vs, h1, h2, deepTs_ok g' hm L ps e2 h3⟩
  | .non, q, v, e, r => by unfold deepT at e; cases e; exact r
  | .bl _, q, v, e, r => by unfold deepT at e; cases e; exact r
  | .int _, q, v, e, r => by unfold deepT at e; cases e; exact r
  | .str _, q, v, e, r => by unfold deepT at e; cases e; exact r
  | .lst ps, q, v, e, r => by
    unfold deepT at e
    split at e
    · rename_i hq; cases e; exact RV.leaf L _ (by unfold noL; exact hq) r
    · cases e
  | .fls ps, q, v, e, r => by
    unfold deepT at e
    split at e
    · rename_i hq; cases e; exact RV.leaf L _ (by unfold noL; exact hq) r
    · cases e
  | .dct t ks ps, q, v, e, r => by
    unfold deepT at e
    split at e
    · rename_i hq; cases e; exact RV.leaf L _ (by unfold noL; exact hq) r
    · cases e
theorem deepTs_ok (g' : Ag K B φ' S' H') {k : Nat} (hm : ∀ (n : Nat) (a : Addr), k ≤ n → φ'[n]? = some a → ¬ M' a) (L : Leaf (Mu B φ' S') M' H') : ∀ (ps : List PV) {qs : List PV} {vs : List V}, deepTs k S' ps = some qs → RVs K (Mu B φ' S') φ' H' ps vs → RVs K M' φ H' qs vs
  | [], qs, vs, e, r => by unfold deepTs at e; cases e; unfold RVs at r; subst r; exact .nil
  | p :: ps, qs, vs, e, r => by
    unfold deepTs at e
    split at e
    · rename_i q qs' e1 e2
      cases e
      obtain ⟨v, ws, rfl, r1, r2⟩ := r.uncons
      exact .cons (deepT_ok g' hm L p e1 r1) (deepTs_ok g' hm L ps e2 r2)
    · cases e
end
end
section
variable {X : KM} {W : WX} {B : Addr → Prop} {φ : List Addr} {ρ : En} {S : Sto} {σ : L2.St} {H : Hp}
theorem back_ok {ns : List Nat} {T : Sto} {ad : Bool} {S' : Sto} {v : PV} {Q : VK} {φ' : List Addr} {v' : V} {H' : Hp} (g : Rel X B φ ρ S σ H) (s : Sub S ns T) (f : Fr (subφ φ ns) T H φ' S' H') (g' : Ag X.K (offB B φ S ns) φ' S' H')
    (hn : (S'.take ns.length).all noLO = true) (rv : RV X.K (Mu (offB B φ S ns) φ' S') φ' H' v v') (q : RPost X W B φ ρ S σ H (backR ad ns (backS S ns S') S' v) Q) : Q v' H' := by
  have hpre : ∀ (j n : Nat) (a : Addr), ns[j]? = some n → φ[n]? = some a → φ'[j]? = some a := fun j n a e1 e2 => by
    obtain ⟨l, e⟩ := f.pre
    have := (sub_get g.ag s).mpr ⟨n, e1, e2⟩
    rw [e, List.getElem?_append_left (List.getElem?_eq_some_iff.mp this).1]
    exact this
  have hown : ∀ (n : Nat) (a : Addr), ns.length ≤ n → φ'[n]? = some a → a ∉ subφ φ ns := fun n a hk ha hm => by
    obtain ⟨j, ej⟩ := List.mem_iff_getElem?.mp hm
    obtain ⟨m, e1, e2⟩ := (sub_get g.ag s).mp ej
    have := g'.uniq ha (hpre j m a e1 e2)
    have hj := (List.getElem?_eq_some_iff.mp e1).1
    omega
  have bk0 := sub_back g.ag s f g' hn Ex0.nil
  have bk : Fr φ S H φ (backS S ns S') H' ∧ Ag X.K B φ (backS S ns S') H' ∧ Leaf (Mu (offB B φ S ns) φ' S') (Mu B φ (backS S ns S')) H' := by
    have h1 := bk0.fr
    have h2 := bk0.ag
    have h3 := bk0.leaf
    simp only [List.append_nil] at h1 h2 h3
    exact ⟨h1, h2, h3⟩
  obtain ⟨bfr, bag, blf⟩ := bk
  have hrel : Rel X B φ ρ (backS S ns S') σ H' := g.stay bfr bag
  have hmu : ∀ (n : Nat) (a : Addr), ns.length ≤ n → φ'[n]? = some a → ¬ Mu B φ (backS S ns S') a := fun n a hk ha m => by
    have nb : ¬ offB B φ S ns a := g'.dis a (List.mem_of_getElem? ha)
    have no := hown n a hk ha
    have np : ∀ k ∈ ns, φ[k]? ≠ some a := fun k hk2 e => no (by
      obtain ⟨j, ej⟩ := List.mem_iff_getElem?.mp hk2
      exact List.mem_of_getElem? ((sub_get g.ag s).mpr ⟨k, ej, e⟩))
    refine nb ⟨?_, np⟩
    rcases m with m | m
    · exact .inl m
    · refine .inr ?_
      rcases bfr.new a m with l | l
      · exact l
      · exact absurd l (fun l => g.ag.none_notin l (live_mem m))
  have deep' : RPost X W B φ ρ S σ H (match deepT ns.length S' v with | some v' => .ok v' (backS S ns S') | none => .fail) Q → Q v' H' := fun qq => by
    split at qq
    · rename_i v2 e2
      exact qq φ v' H' bfr hrel (deepT_ok g' hmu blf v e2 rv)
    · exact qq.elim
  by_cases hl : ∃ n, v = .loc n
  · obtain ⟨n, rfl⟩ := hl
    unfold backR at q
    dsimp only at q
    split at q
    · rename_i hlt
      split at q
      · rename_i m em
        refine q φ v' H' bfr hrel ?_
        unfold RV at rv ⊢
        obtain ⟨a, ha, hv⟩ := rv
        refine ⟨a, ?_, hv⟩
        have hm : m < φ.length := by rw [g.ag.len]; exact s.lt (List.mem_of_getElem? em)
        have e2 := hpre n m _ em (List.getElem?_eq_getElem hm)
        rw [ha] at e2
        rw [List.getElem?_eq_getElem hm]
        exact e2.symm
      · exact q.elim
    · rename_i hge
      split at q
      · split at q
        · rename_i ob eo
          split at q
          · rename_i hno
            unfold RV at rv
            obtain ⟨a, ha, rfl⟩ := rv
            have b2 := sub_back (ex := [a]) (exo := [some ob]) g.ag s f g' hn ⟨by simp, rfl, fun i b h => by
              cases i with
              | zero => simp at h; subst h; exact ⟨n, ob, by omega, ha, eo, rfl, hno⟩
              | succ i => simp at h⟩
            refine q (φ ++ [a]) (.ref a) H' b2.fr (g.stay b2.fr b2.ag) ?_
            unfold RV
            exact ⟨a, by rw [backS_len, ← g.ag.len]; simp, rfl⟩
          · exact q.elim
        · exact q.elim
      · exact deep' q
  · have q' : RPost X W B φ ρ S σ H (match deepT ns.length S' v with | some v' => .ok v' (backS S ns S') | none => .fail) Q := by
      cases v with
      | loc n => exact absurd ⟨n, rfl⟩ hl
      | _ => exact q
    exact deep' q'
/-- THE RULE of a call -/
theorem call_sp {n : Nat} {m : FM} {ad : Bool} {args : List PV} {vs : List V} {Q : VK} (g : Rel X B φ ρ S σ H) (t : RVs X.K (Mu B φ S) φ H args vs) (hl : args.length = n) (q : RPost X W B φ ρ S σ H (callM ad m args S) Q) :
    spM X n m vs H Q (WE W σ) := by
  refine ⟨by rw [← t.length]; exact hl, ?_⟩
  unfold callM at q
  split at q
  · rename_i xs ns e1
    split at q
    · rename_i nd
      split at q
      · rename_i T e2
        obtain ⟨s1, s2⟩ := subS_ok e2
        have s : Sub S ns T := ⟨nd, s1, s2⟩
        refine ⟨offB B φ S ns, subφ φ ns, T, xs, sub_ag g.ag s, splitA_ok (sub_leaf g.ag s) e1 (fun j k h => ?_) t, ?_⟩
        · rw [Nat.zero_add, subφ_get ns (fun n h => by rw [g.ag.len]; exact s.lt h), h]
          rfl
        · cases em : m xs T with
          | fail => rw [em] at q; exact q
          | ok v S' =>
            rw [em] at q
            dsimp only at q
            split at q
            · rename_i hn
              exact fun φ' v' H' f g' rv => back_ok g s f g' hn rv q
            · exact q.elim
          | exc c a S' =>
            rw [em] at q
            dsimp only at q
            split at q
            · rename_i hn
              rw [Bool.and_eq_true] at hn
              intro φ' H' cls d f g' x
              have bk0 := sub_back g.ag s f g' hn.1 Ex0.nil
              have bk : Fr φ S H φ (backS S ns S') H' ∧ Ag X.K B φ (backS S ns S') H' ∧ Leaf (Mu (offB B φ S ns) φ' S') (Mu B φ (backS S ns S')) H' := by
                have h1 := bk0.fr
                have h2 := bk0.ag
                have h3 := bk0.leaf
                simp only [List.append_nil] at h1 h2 h3
                exact ⟨h1, h2, h3⟩
              obtain ⟨bfr, bag, blf⟩ := bk
              refine q φ H' cls d bfr (g.stay bfr bag) ?_
              obtain ⟨C, dd, v, h1, h2, h3, h4, h5⟩ := x
              exact ⟨C, dd, v, h1, h2, h3, h4, RV.leaf blf _ hn.2 h5⟩
            · exact q.elim
      · exact q.elim
    · exact q.elim
  · exact q.elim
end
/-! ### the written calls -/
def eCall (ad : Bool) (m : FM) (n : Nat) (a : AM) (ds : List PV) : EM := fun ρ S => (a ρ S).bind fun vs S1 => if (vs ++ ds).length = n then callM ad m (vs ++ ds) S1 else .fail
/-- what defaults are -/
def cnst : PV → Option V
  | .non => some .non
  | .bl b => some (.bl b)
  | .int i => some (.int i)
  | .str x => some (.str x)
  | _ => none
def cnsts : List PV → Option (List V)
  | [] => some []
  | p :: r => match cnst p, cnsts r with
    | some v, some vs => some (v :: vs)
    | _, _ => none
theorem cnst_ok {K : PySem.W.Frag} {M : Addr → Prop} {φ : List Addr} {H : Hp} : ∀ {p : PV} {v : V}, cnst p = some v → RV K M φ H p v := fun {p v} e => by
  cases p <;> unfold cnst at e <;> cases e <;> rfl
theorem cnsts_ok {K : PySem.W.Frag} {M : Addr → Prop} {φ : List Addr} {H : Hp} : ∀ {ps : List PV} {vs : List V}, cnsts ps = some vs → RVs K M φ H ps vs
  | [], vs, e => by unfold cnsts at e; cases e; exact .nil
  | p :: ps, vs, e => by
    unfold cnsts at e
    split at e
    · rename_i v ws e1 e2
      cases e
      exact .cons (cnst_ok e1) (cnsts_ok e2)
    · cases e
section
variable {X : Cx} {W : WX} {k : Nat} {f : Addr} {fd : FuncData} {ps : List Str} {m : FM} {ad : Bool} {x : Str} {p pos : Pos} {e : Expr} {es : List Expr} {a : AM} {dvs : List V} {ds : List Value} {dps : List PV}
theorem se_call {n : Nat} (F : FnOk X.prog X.w X.K X.mg X.base (L2.CX X.prog X.w) k f fd ps (spM (km X) n m)) (hr : Room k X.A) (hg : Gl X x) (hm : X.mg x = some (.ref f)) (hk : PySem.W.keepIn X.K (.ref f) = true) (tk : Takes X W) (hb : Binds X.K fd ps ds) (hd : Vals dvs ds) (hc : cnsts dps = some dvs)
    (ha : SA X W (e :: es) a) (hn : ps.length = n := by rfl) (hdb : (x == ("__debug__" : Str)) = false := by decide) (he : starEach (e :: es) X.env = (false, eval e X.env) :: starEach es X.env := by rfl) (hpl : (backTo pos (starEach es X.env)).any (·.1) = false := by rfl) :
    SE X W (.Call (.Name x p) (e :: es) [] pos) (eCall ad m n a dps) := by
  subst hn
  exact PE.via (pe_callSD F hr hg hm hk hb hd (passAt tk) ha hdb he hpl) fun σ H Q ⟨B, φ, ρ, S, g, q⟩ => tA.of g (APost.bind q) fun vs' H1 ⟨φ1, S1, vs, m1, t, q1⟩ => by
    split at q1
    · rename_i hl
      exact call_sp m1.rel (t.append (cnsts_ok hc)) hl q1
    · exact q1.elim
theorem pe_callSD0 {CX : CXT} {sp : Sp} {E : L2.St → XK} (F : FnOk X.prog X.w X.K X.mg X.base CX k f fd ps sp) (hr : Room k X.A) (hg : Gl X x) (hm : X.mg x = some (.ref f)) (hk : PySem.W.keepIn X.K (.ref f) = true) (hb : Binds X.K fd ps ds) (hd : Vals dvs ds) (hx : ∀ σ, PassesAt CX X σ (E σ))
    (hdb : (x == ("__debug__" : Str)) = false := by decide) : PE X (.Call (.Name x p) [] [] pos) (tCallSD sp dvs E tNil) := by
  refine ⟨fun pins s σ H Q I h => wpAny_Call_Name_kw (ld_glob I hg hm ?_ hdb)⟩
  exact PySem.W.callWith_K0 I.kIn hk (run_fnSD (us := []) F hr hb hd (hx σ) I .nil h)
theorem se_call0 {n : Nat} (F : FnOk X.prog X.w X.K X.mg X.base (L2.CX X.prog X.w) k f fd ps (spM (km X) n m)) (hr : Room k X.A) (hg : Gl X x) (hm : X.mg x = some (.ref f)) (hk : PySem.W.keepIn X.K (.ref f) = true) (tk : Takes X W) (hb : Binds X.K fd ps ds) (hd : Vals dvs ds) (hc : cnsts dps = some dvs)
    (hn : ps.length = n := by rfl) (hdb : (x == ("__debug__" : Str)) = false := by decide) : SE X W (.Call (.Name x p) [] [] pos) (eCall ad m n aNil dps) := by
  subst hn
  exact PE.via (pe_callSD0 F hr hg hm hk hb hd (passAt tk) hdb) fun σ H Q ⟨B, φ, ρ, S, g, q⟩ => by
    unfold eCall at q
    change RPost _ _ _ _ _ _ _ _ (if ([] ++ dps).length = ps.length then callM ad m ([] ++ dps) S else .fail) Q at q
    split at q
    · rename_i hl
      exact call_sp g (cnsts_ok hc) hl q
    · exact q.elim
/-! keywords alone: all parameters given, in their order or another; the values in the parameters' order by ix -/
def SK (X : Cx) (W : WX) (kws : List Keyword) (a : AM) : Prop := PK X kws (tA (km X) W a)
theorem sk_nil : SK X W [] aNil := ⟨fun pos pins s σ H Q I h => pk_nil.run pos pins s σ H Q I (by
  obtain ⟨B, φ, ρ, S, g, q⟩ := h
  exact q φ [] H (Fr.refl _ _ _) g .nil)⟩
theorem sk_cons {nm : Option Str} {kpos : Pos} {kws : List Keyword} {b : EM} {r : AM} (h : SE X W e b) (h' : SK X W kws r) : SK X W (⟨nm, e, kpos⟩ :: kws) (aCons b r) :=
  ⟨fun pos pins s σ H Q I q => (pk_cons h h').run pos pins s σ H Q I (tA_cons q)⟩
/-- how a call by keywords alone binds -/
def KwB (K : PySem.W.Frag) (fd : FuncData) (ps ks : List Str) (ix : List Nat) (ds : List Value) : Prop :=
  ∀ (s : Shared) (ws : List Value), K.In s.heap → ws.length = ks.length → BindsTo s fd ⟨[], ks.zip ws⟩ (ps.zip (ix.filterMap ((ws ++ ds)[·]?)))
def eCallK (ad : Bool) (m : FM) (n k : Nat) (a : AM) (ix : List Nat) (ds : List PV) : EM := fun ρ S => (a ρ S).bind fun vs S1 => if vs.length = k ∧ (ix.filterMap ((vs ++ ds)[·]?)).length = n then callM ad m (ix.filterMap ((vs ++ ds)[·]?)) S1 else .fail
theorem RVs.pick {K : PySem.W.Frag} {M : Addr → Prop} {φ : List Addr} {H : Hp} {qs : List PV} {vs : List V} (t : RVs K M φ H qs vs) : ∀ ix : List Nat, RVs K M φ H (ix.filterMap (qs[·]?)) (ix.filterMap (vs[·]?))
  | [] => .nil
  | i :: ix => by
    rw [List.filterMap_cons, List.filterMap_cons]
    cases e : qs[i]? with
    | none =>
      have : vs[i]? = none := by
        rw [List.getElem?_eq_none_iff] at e ⊢
        rw [← t.length]; exact e
      rw [this]
      exact RVs.pick t ix
    | some q =>
      obtain ⟨v, hv, r⟩ := t.get e
      rw [hv]
      exact .cons r (RVs.pick t ix)
theorem Vals.pick {vs : List V} {us : List Value} (t : Vals vs us) : ∀ ix : List Nat, Vals (ix.filterMap (vs[·]?)) (ix.filterMap (us[·]?))
  | [] => .nil
  | i :: ix => by
    rw [List.filterMap_cons, List.filterMap_cons]
    cases e : vs[i]? with
    | none =>
      have : us[i]? = none := by
        rw [List.getElem?_eq_none_iff] at e ⊢
        rw [← t.length]; exact e
      rw [this]
      exact Vals.pick t ix
    | some q =>
      obtain ⟨v, hv, r⟩ := t.get e
      rw [hv]
      exact .cons r (Vals.pick t ix)
theorem se_callK {n k2 : Nat} {ks : List Str} {ix : List Nat} {kws : List Keyword} (F : FnOk X.prog X.w X.K X.mg X.base (L2.CX X.prog X.w) k f fd ps (spM (km X) n m)) (hr : Room k X.A) (hg : Gl X x) (hm : X.mg x = some (.ref f)) (hk : PySem.W.keepIn X.K (.ref f) = true) (tk : Takes X W)
    (hb : KwB X.K fd ps ks ix ds) (hd : Vals dvs ds) (hc : cnsts dps = some dvs) (ha : SK X W kws a) (hn : ps.length = n := by rfl) (hk2 : ks.length = k2 := by rfl) (hall : (backToKw pos (keywordEach kws X.env)).all (·.1.isSome) = true := by rfl) (hks : (backToKw pos (keywordEach kws X.env)).filterMap (·.1) = ks := by rfl)
    (hdb : (x == ("__debug__" : Str)) = false := by decide) (hpl : ((backTo pos (starEach [] X.env)).any (·.1) || (backToKw pos (keywordEach kws X.env)).any (·.1.isNone)) = false := by rfl) :
    SE X W (.Call (.Name x p) [] kws pos) (eCallK ad m n k2 a ix dps) := by
  subst hn; subst hk2
  refine ⟨fun pins s σ H Q I ⟨B, φ, ρ, S, g, q⟩ => ?_⟩
  refine wpAny_Call_Name_kw (ld_glob I hg hm ?_ hdb)
  refine PySem.W.callWith_KW0 (h₀ := X.base) I.ok.mod.kin hk hall (thn (ha.run pos pins s σ H _ I (tA.of g (APost.bind q) fun _ _ z => z)) fun ws s2 ⟨zs, H2, I2, rz, φ1, S1, vs, m1, t, q1⟩ => ⟨I2.kIn, ?_⟩) hpl
  rw [hks]
  split at q1
  · rename_i hl
    have r2 : Vals (ix.filterMap ((zs ++ dvs)[·]?)) (ix.filterMap ((ws ++ ds)[·]?)) := Vals.pick (rz.append hd) ix
    have t2 := RVs.pick (t.append (cnsts_ok hc)) ix
    have sp := call_sp m1.rel t2 hl.2 q1
    refine wpAny_call (codeAny_mono (F.run X.A X.stack s2 H2 ⟨[], ks.zip ws⟩ _ _ Q (WE W σ) hr I2.env0 (hb s2 ws I2.kIn (by rw [← rz.length, ← t.length]; exact hl.1)) r2 sp) fun r s' hq => ?_)
    cases r with
    | error e => exact passAt tk σ pins H2 s2 e s' I2 hq
    | ok fl =>
      cases fl with
      | ret u => exact I2.after hq
      | next => exact False.elim hq
      | brk => exact False.elim hq
      | cont => exact False.elim hq
  · exact q1.elim
/-! a thing that will not change any more -/
def eFr (m : EM) : EM := fun ρ S => (m ρ S).bind fun v S1 => match v with
  | .loc n => (match S1[n]? with
    | some (some (.lst qs)) => if noLs qs then .ok (.lst qs) (S1.set n none) else .fail
    | some (some (.dct t ks qs)) => if noLs qs then .ok (.dct t ks qs) (S1.set n none) else .fail
    | _ => .fail)
  | _ => .fail
theorem fr_dead {φ : List Addr} {S : Sto} {H : Hp} (n : Nat) : Fr φ S H φ (S.set n none) H := ⟨⟨[], by simp⟩, fun _ _ h _ => h, fun a l => by
  obtain ⟨m, o, e1, e2⟩ := l
  by_cases hm : m = n
  · subst hm
    rw [List.getElem?_set] at e2
    split at e2
    · split at e2 <;> cases e2
    · exact absurd rfl (by assumption)
  · rw [List.getElem?_set_ne (Ne.symm hm)] at e2
    exact .inl ⟨m, o, e1, e2⟩, fun _ o h => ⟨o, h⟩⟩
theorem set_dead {S : Sto} {n m : Nat} {o : Ob} (e : (S.set n none)[m]? = some (some o)) : m ≠ n ∧ S[m]? = some (some o) := by
  by_cases hm : m = n
  · subst hm
    rw [List.getElem?_set] at e
    split at e
    · split at e <;> cases e
    · exact absurd rfl (by assumption)
  · rw [List.getElem?_set_ne (Ne.symm hm)] at e
    exact ⟨hm, e⟩
theorem Ag.dead {K : PySem.W.Frag} {B : Addr → Prop} {φ : List Addr} {S : Sto} {H : Hp} (g : Ag K B φ S H) (n : Nat) : Ag K B φ (S.set n none) H :=
  ⟨by simp [g.len], g.nd, g.trk, g.bt, g.dis, fun m o a e1 e2 => RO.lean ((fr_dead n).lean g) (fun _ h => h) (g.obj m o a (set_dead e1).2 e2)⟩
theorem se_fr {b : EM} (h : SE X W e b) : SE X W e (eFr b) := PE.via h fun σ H Q ⟨B, φ, ρ, S, g, q⟩ => tE.of g (RPost.bind q) fun v' H1 ⟨φ1, S1, v, m1, rv, q1⟩ => by
  split at q1
  · rename_i n
    unfold RV at rv
    obtain ⟨a, ha, rfl⟩ := rv
    have hnm : ∀ o, S1[n]? = some (some o) → ¬ Mu B φ1 (S1.set n none) a := fun o e m => by
      rcases m with m | m
      · exact m1.rel.ag.dis a (List.mem_of_getElem? ha) m
      · obtain ⟨k, o', e1, e2⟩ := m
        exact (set_dead e2).1 (m1.rel.ag.uniq e1 ha)
    have hlf : Leaf (Mu B φ1 S1) (Mu B φ1 (S1.set n none)) H1 := ⟨fun b o _ n1 n2 => by
      rcases n2 with n2 | n2
      · exact n1 (.inl n2)
      · obtain ⟨k, o', e1, e2⟩ := n2
        exact n1 (.inr ⟨k, o', e1, (set_dead e2).2⟩)⟩
    split at q1
    · rename_i qs e
      split at q1
      · rename_i hq
        obtain ⟨ws, h1, t⟩ := m1.rel.ag.obj n _ a e ha
        refine q1 φ1 (.ref a) H1 (fr_dead n) (m1.rel.stay (fr_dead n) (m1.rel.ag.dead n)) ?_
        unfold RV
        exact ⟨a, ws, rfl, ⟨hnm _ e, h1⟩, RVs.leaf hlf _ hq t⟩
      · exact q1.elim
    · rename_i t ks qs e
      split at q1
      · rename_i hq
        obtain ⟨ws, u, h1, d, tt⟩ := m1.rel.ag.obj n _ a e ha
        refine q1 φ1 (.ref a) H1 (fr_dead n) (m1.rel.stay (fr_dead n) (m1.rel.ag.dead n)) ?_
        unfold RV
        exact ⟨a, ws, rfl, hnm _ e, ⟨u, .inl h1, d⟩, RVs.leaf hlf _ hq tt⟩
      · exact q1.elim
    · exact q1.elim
  · exact q1.elim
end
end Mir
/-! Mir: sorted. -/
namespace Mir
open PySem PySem.Spec PyProof.Rows L2
open PySem.W (EachIs alike dataLt keyToks)
/-! ### tuples with empty ones among them -/
section
variable {prog : Program} {w : World} {A : Around} {E : Value → Shared → Prop} {s : Shared}
theorem tup_call_lt {Q : Value → Shared → Prop} {l b : Addr} {us1 us2 : Array Value} {e r : Nat → Bool} (hl : s.heap.IsTuple l us1) (hb : s.heap.IsTuple b us2)
    (he : ∀ j (h1 : j < us1.size) (h2 : j < us2.size), SeqAt.EqAt A.in1 s us1[j] us2[j] (e j)) (hr : ∀ j (h1 : j < us1.size) (h2 : j < us2.size), e j = false → SeqAt.RcLt A.in1 s us1[j] us2[j] (r j))
    (h : Q (.bool (SeqAt.firstLt e r (decide (us1.size < us2.size)) (List.range (min us1.size us2.size)))) s) : wpAny (model prog w) A (call (.builtin "tuple.__lt__") [.ref l, .ref b]) Q E s := by
  obtain ⟨⟨c1, d1, x1, z1⟩, ho, hc, n, hd⟩ := id hl
  obtain ⟨⟨c2, d2, x2, z2⟩, ho2, hc2, n2, hd2⟩ := id hb
  simp only at hc hd hc2 hd2
  subst hc hd hc2 hd2
  exact call_meets F.slot_tuple_lt ⟨_, ho, rfl⟩ F.entry_tuple_lt (F.args_tuple_lt_2 _ _) (SeqAt.tuple_ltAt l b us1 us2 n n2 d1 d2 z1 z2 e r) ⟨ho, ho2, he, hr, h⟩
theorem tup_one {xs ys : List PyData} {a b : Value} {as bs : List Addr} {Q : Bool → Shared → Prop} (ra : Reads s.heap a (.tuple xs) as) (rb : Reads s.heap b (.tuple ys) bs) (h : alike (.tuple xs) (.tuple ys) = true)
    (hu : A.units + min (PyData.tuple xs).depth (PyData.tuple ys).depth < cLine) (hq : Q (dataLt (.tuple xs) (.tuple ys)) s) : wpAny (model prog w) A (oneLt' true a b) Q E s := by
  have hal : PySem.W.alikeAll xs ys = true := by simpa [PySem.W.alike] using h
  cases ra with
  | @tuple l o vs n _ _ h1 h2 h3 h4 =>
    cases rb with
    | @tuple l' o' vs' n' _ _ k1 k2 k3 k4 =>
      have n1 : vs.size = xs.length := by simpa using SeqAt.ReadsAll.length _ _ _ h4
      have n2 : vs'.size = ys.length := by simpa using SeqAt.ReadsAll.length _ _ _ k4
      rw [PySem.W.dataLt_tuple, ← PySem.W.firstLt_toks xs ys hal, ← n1, ← n2] at hq
      rw [oneLt'_eq]
      simp only [if_true]
      refine wpAny_bind (wpAny_cRoomFor (SeqAt.room_here hu) ?_)
      refine wpAny_bind (wpAny_callSpecialIfBound?_slot (T := "tuple") ⟨_, h1, h2⟩ F.slot_tuple_lt (tup_call_lt (e := SeqAt.pairEq xs ys) (r := fun j => dataLt (xs.getD j .none) (ys.getD j .none)) ⟨_, h1, h2, _, h3⟩ ⟨_, k1, k2, _, k3⟩ (fun j j1 j2 => ?_) (fun j j1 j2 hj => ?_) ?_))
      · have q := PySem.W.eqAt_alikeAll xs ys A.in1 s vs.toList vs'.toList _ _ h4 k4 hal (SeqAt.room_in hu) j (by simpa using j1) (by simpa using j2)
        simpa using q
      · have q := PySem.W.rcLt_alikeAll xs ys A.in1 s vs.toList vs'.toList _ _ h4 k4 hal (SeqAt.room_in hu) j (by simpa using j1) (by simpa using j2) hj
        simpa using q
      · exact wpAny_truthy_bool hq
end
section
variable {prog : Program} {w : World} {A : Around} {s : Shared}
/-- no empty tuple, if there is one at all -/
def neT : PyData → Bool
  | .tuple [] => false
  | _ => true
theorem firsts_all {E : Value → Shared → Prop} : ∀ {vs : List Value} {ds : List PyData}, EachIs (fun v d => ∃ as, Reads s.heap v d as) vs ds → (∀ d ∈ ds, ∃ xs, d = .tuple xs) →
    ∃ fs : List (Option Value), fs.map Option.isSome = ds.map neT ∧ ∀ {Q : List (Option Value) → Shared → Prop}, Q fs s → wpAny (model prog w) A (vs.mapM firstOfTuple') Q E s
  | _, _, .nil, _ => ⟨[], rfl, fun {Q} h => by rw [List.mapM_nil]; exact wpAny_pure h⟩
  | v :: vs, _, .cons (b := d) (as := _) (bs := ds) ⟨as, r⟩ t, ht => by
    obtain ⟨fs, e, h⟩ := firsts_all (E := E) t fun d hd => ht d (List.mem_cons_of_mem _ hd)
    obtain ⟨xs, rfl⟩ := ht d List.mem_cons_self
    cases r with
    | @tuple a o us n _ _ ho hc hd hr =>
      refine ⟨us[0]? :: fs, ?_, fun {Q} hq => ?_⟩
      · rw [List.map_cons, List.map_cons, e]
        congr 1
        have hl := SeqAt.ReadsAll.length _ _ _ hr
        cases xs with
        | nil =>
          have : us.toList = [] := List.eq_nil_of_length_eq_zero (by simpa using hl)
          have h0 : us[0]? = none := by rw [← Array.getElem?_toList, this]; rfl
          rw [h0]; rfl
        | cons x xs =>
          have : 0 < us.size := by have := hl; simp at this; omega
          rw [Array.getElem?_eq_getElem this]; rfl
      · rw [List.mapM_cons]
        refine wpAny_bind ?_
        rw [PySem.W.kas_first_eq]
        refine wpAny_bind (PySem.W.Looks.here (show PySem.W.Looks (model prog w) s.heap (typeOf (.ref a)) o.cls from (PySem.W.Looks.ld ho).andThen .now) ?_)
        rw [hc, if_neg (by first | decide | simp)]
        refine wpAny_bind (listItems_at ho hd (wpAny_pure ?_))
        exact wpAny_bind (h (Q := fun bs s' => wpAny (model prog w) A (pure (us[0]? :: bs)) Q E s') (wpAny_pure hq))
/-- a list with an empty tuple -/
theorem sorts_emp {vs : List Value} {ds : List PyData} (e : EachIs (fun v d => ∃ as, Reads s.heap v d as) vs ds) (hal : PySem.W.AllAlike ds) (ht : ∀ d ∈ ds, ∃ xs, d = .tuple xs) (hemp : ∃ d ∈ ds, neT d = false) (hu : ∀ d, d ∈ ds → A.units + d.depth < cLine) :
    PySem.W.SortsAt prog w A s (PySem.W.dataKind s.heap ds) vs := by
  have room : ∀ {d d' : PyData}, d ∈ ds → A.units + min d.depth d'.depth < cLine := fun {d d'} hd => Nat.lt_of_le_of_lt (Nat.add_le_add_left (Nat.min_le_left _ _) _) (hu d hd)
  refine ⟨fun v hv => ?_, ?_⟩
  · obtain ⟨d, hd, as, r⟩ := e.left v hv
    exact ⟨_, PySem.W.dataKind_some hal hd r⟩
  · have hnall : ∀ fs : List (Option Value), fs.map Option.isSome = ds.map neT → ¬ (fs.toArray.all fun x => x.isSome) = true := fun fs ef hh => by
      obtain ⟨d, hd, hn⟩ := hemp
      have h1 : false ∈ ds.map neT := List.mem_map.mpr ⟨d, hd, hn⟩
      rw [← ef] at h1
      obtain ⟨f, hf, hn2⟩ := List.mem_map.mp h1
      rw [List.all_toArray] at hh
      have := List.all_eq_true.mp hh f hf
      rw [hn2] at this
      cases this
    by_cases hd0 : ∃ d r, ds = d :: r ∧ neT d = true
    · obtain ⟨d0, r0, rfl, hne⟩ := hd0
      refine ⟨general', ?_, fun h2 E Q hq => ?_⟩
      · intro E x y a b Q ha hb hq
        obtain ⟨d, as, hd, ra, rfl⟩ := PySem.W.dataKind_inv ha
        obtain ⟨d', as', hd', rb, rfl⟩ := PySem.W.dataKind_inv hb
        obtain ⟨xs, rfl⟩ := ht d hd
        exact PySem.W.oneLt_alike (f := false) (fun z => absurd z (by simp)) ra rb (hal _ hd _ hd') (by simp) (room hd) hq
      · obtain ⟨fs, ef, hf⟩ := firsts_all (prog := prog) (w := w) (A := A) (E := E) e ht
        rw [keyKind'_eq, List.mapM_toArray, map_eq_pure_bind]
        refine wpAny_bind (wpAny_bind (hf (wpAny_pure ?_)))
        rw [if_neg (hnall fs ef)]
        have h0 : (fs.toArray[0]?.bind id).isSome = true := by
          cases fs with
          | nil => simp at ef
          | cons f fs =>
            rw [List.map_cons, List.map_cons] at ef
            have := (List.cons.inj ef).1
            rw [hne] at this
            simpa using this
        rw [if_pos h0]
        exact wpAny_pure hq
    · refine ⟨oneType', ?_, fun h2 E Q hq => ?_⟩
      · intro E x y a b Q ha hb hq
        obtain ⟨d, as, hd, ra, rfl⟩ := PySem.W.dataKind_inv ha
        obtain ⟨d', as', hd', rb, rfl⟩ := PySem.W.dataKind_inv hb
        obtain ⟨xs, rfl⟩ := ht d hd
        obtain ⟨ys, rfl⟩ := ht d' hd'
        rw [keyLt'_oneType]
        exact tup_one ra rb (hal _ hd _ hd') (room hd) hq
      · obtain ⟨fs, ef, hf⟩ := firsts_all (prog := prog) (w := w) (A := A) (E := E) e ht
        rw [keyKind'_eq, List.mapM_toArray, map_eq_pure_bind]
        refine wpAny_bind (wpAny_bind (hf (wpAny_pure ?_)))
        rw [if_neg (hnall fs ef)]
        have hvd := e.length
        have h0 : ¬ (fs.toArray[0]?.bind id).isSome = true := by
          cases ds with
          | nil => rw [hvd] at h2; simp at h2
          | cons d r =>
            have hn : neT d = false := by
              cases q : neT d with
              | false => rfl
              | true => exact absurd ⟨d, r, rfl, q⟩ hd0
            cases fs with
            | nil => simp at ef
            | cons f fs =>
              rw [List.map_cons, List.map_cons] at ef
              have := (List.cons.inj ef).1
              rw [hn] at this
              simp [this]
        rw [if_neg h0, oneTypeOnly'_eq, List.mapM_toArray, map_eq_pure_bind]
        refine wpAny_bind (wpAny_bind (wpAny_bind (PySem.W.kas_mapM (r := Value.type "tuple") _ (fun v hv Q' hq => ?_) (wpAny_pure ?_))))
        · obtain ⟨d, hd, as, r⟩ := e.left v hv
          obtain ⟨xs, rfl⟩ := ht d hd
          exact (PySem.W.looks_reads r).here hq
        · have hlen : 0 < vs.length := by omega
          have hall : ((List.map (fun _ => Value.type "tuple") vs).toArray.all fun x => x == Value.type "tuple") = true := by
            simp only [List.all_toArray, List.all_map, List.all_eq_true]
            intro _ _
            rfl
          have h0 : (List.map (fun _ => Value.type "tuple") vs).toArray[0]? = some (Value.type "tuple") := by
            simp [hlen]
          rw [h0]
          simp only [hall, if_true]
          exact wpAny_pure (wpAny_pure hq)
end
/-! ### the order, and a sort that is computed -/
def dLe (x y : PyData) : Bool := !dataLt y x
def insD {α : Type} (le : α → α → Bool) (x : α) : List α → List α
  | [] => [x]
  | y :: r => if le x y then x :: y :: r else y :: insD le x r
def srtD {α : Type} (le : α → α → Bool) : List α → List α
  | [] => []
  | x :: r => insD le x (srtD le r)
section
variable {α : Type} {le : α → α → Bool}
theorem insD_perm (x : α) : ∀ l : List α, (insD le x l).Perm (x :: l)
  | [] => List.Perm.refl _
  | y :: r => by
    unfold insD
    split
    · exact List.Perm.refl _
    · exact ((insD_perm x r).cons y).trans (List.Perm.swap x y r)
theorem srtD_perm : ∀ l : List α, (srtD le l).Perm l
  | [] => List.Perm.refl _
  | x :: r => by unfold srtD; exact (insD_perm x _).trans ((srtD_perm r).cons x)
theorem insD_pw (h : PySem.W.TotalLe le) (x : α) : ∀ l : List α, l.Pairwise (fun a b => le a b = true) → (insD le x l).Pairwise (fun a b => le a b = true)
  | [], _ => List.pairwise_singleton _ _
  | y :: r, hp => by
    unfold insD
    obtain ⟨h1, h2⟩ := List.pairwise_cons.mp hp
    split
    · rename_i hxy
      exact List.pairwise_cons.mpr ⟨fun z hz => by
        rcases List.mem_cons.mp hz with rfl | hz
        · exact hxy
        · exact h.trans _ _ _ hxy (h1 z hz), hp⟩
    · rename_i hxy
      refine List.pairwise_cons.mpr ⟨fun z hz => ?_, insD_pw h x r h2⟩
      rcases List.mem_cons.mp ((insD_perm x r).mem_iff.mp hz) with rfl | hz
      · rcases h.total z y with q | q
        · exact absurd q hxy
        · exact q
      · exact h1 z hz
theorem srtD_pw (h : PySem.W.TotalLe le) : ∀ l : List α, (srtD le l).Pairwise (fun a b => le a b = true)
  | [] => List.Pairwise.nil
  | x :: r => by unfold srtD; exact insD_pw h x _ (srtD_pw h r)
theorem insD_filter (h : PySem.W.TotalLe le) (c x : α) : ∀ l : List α, (insD le x l).filter (PySem.W.sameRank le c) = (x :: l).filter (PySem.W.sameRank le c)
  | [] => rfl
  | y :: r => by
    unfold insD
    split
    · rfl
    · rename_i hxy
      have ih := insD_filter h c x r
      cases hx : PySem.W.sameRank le c x with
      | false => 
        rw [List.filter_cons, ih, List.filter_cons_of_neg (by rw [hx]; simp), List.filter_cons_of_neg (by rw [hx]; simp), List.filter_cons]
      | true =>
        have hy : PySem.W.sameRank le c y = false := by
          unfold PySem.W.sameRank at hx ⊢
          rw [Bool.and_eq_true] at hx
          cases q1 : le c y with
          | false => rfl
          | true => exact absurd (h.trans _ _ _ hx.2 q1) hxy
        rw [List.filter_cons_of_neg (by rw [hy]; simp), ih, List.filter_cons_of_pos hx, List.filter_cons_of_pos hx, List.filter_cons_of_neg (by rw [hy]; simp)]
theorem srtD_filter (h : PySem.W.TotalLe le) (c : α) : ∀ l : List α, (srtD le l).filter (PySem.W.sameRank le c) = l.filter (PySem.W.sameRank le c)
  | [] => rfl
  | x :: r => by
    unfold srtD
    rw [insD_filter h, List.filter_cons, List.filter_cons, srtD_filter h c r]
theorem srtD_eq (h : PySem.W.TotalLe le) (l : List α) : srtD le l = l.mergeSort le := PySem.W.sort_unique h (srtD_pw h l) fun c => srtD_filter h c l
end
def alikeB : List PyData → Bool
  | [] => true
  | d :: r => alike d d && r.all (fun e => alike d e && alike e d) && alikeB r
theorem alikeB_ok : ∀ {ds : List PyData}, alikeB ds = true → PySem.W.AllAlike ds
  | [], _ => fun d hd => absurd hd (by simp)
  | d :: r, h => by
    unfold alikeB at h
    rw [Bool.and_eq_true, Bool.and_eq_true] at h
    obtain ⟨⟨h0, h1⟩, h2⟩ := h
    have ih := alikeB_ok h2
    rw [List.all_eq_true] at h1
    intro a ha b hb
    rcases List.mem_cons.mp ha with rfl | ha
    · rcases List.mem_cons.mp hb with rfl | hb
      · exact h0
      · exact (Bool.and_eq_true_iff.mp (h1 b hb)).1
    · rcases List.mem_cons.mp hb with e | hb
      · rw [e]; exact (Bool.and_eq_true_iff.mp (h1 a ha)).2
      · exact ih a ha b hb
def isTupD : PyData → Bool
  | .tuple _ => true
  | _ => false
def isNonD : PyData → Bool
  | .none => true
  | _ => false
/-- the sorted values -/
def srtP (ps : List PV) : Option (List PV) := match toDs ps with
  | some ds => if alikeB ds && ds.all (fun d => !isNonD d && decide (d.depth ≤ 8)) && (ds.all isTupD || ds.all fun d => !isTupD d) then
      some ((srtD (fun x y : PV × PyData => dLe x.2 y.2) (ps.zip ds)).map (·.1)) else none
  | none => none
theorem toDs_len : ∀ {ps : List PV} {ds : List PyData}, toDs ps = some ds → ps.length = ds.length
  | [], _, e => by unfold toDs at e; cases e; rfl
  | p :: ps, _, e => by
    unfold toDs at e
    split at e
    · rename_i d ds e1 e2; cases e; simp [toDs_len e2]
    · cases e
theorem sorts_any {prog : Program} {w : World} {A : Around} {s : Shared} {vs : List Value} {ds : List PyData} (e : EachIs (fun v d => ∃ as, Reads s.heap v d as) vs ds) (h1 : alikeB ds = true) (h2 : ds.all (fun d => !isNonD d && decide (d.depth ≤ 8)) = true) (h3 : (ds.all isTupD || ds.all fun d => !isTupD d) = true)
    (hu : A.units + 8 < cLine) : PySem.W.SortsAt prog w A s (PySem.W.dataKind s.heap ds) vs := by
  have hal := alikeB_ok h1
  rw [List.all_eq_true] at h2
  have hd : ∀ d ∈ ds, A.units + d.depth < cLine := fun d m => by
    have := h2 d m
    rw [Bool.and_eq_true] at this
    have := of_decide_eq_true this.2
    omega
  have hn : ∀ d ∈ ds, d ≠ .none := fun d m z => by
    have := h2 d m
    rw [z] at this
    simp [isNonD] at this
  rw [Bool.or_eq_true] at h3
  rcases h3 with h3 | h3
  · rw [List.all_eq_true] at h3
    have ht : ∀ d ∈ ds, ∃ xs, d = .tuple xs := fun d m => by
      have := h3 d m
      cases d <;> first | exact ⟨_, rfl⟩ | (simp [isTupD] at this)
    by_cases he : ∃ d ∈ ds, neT d = false
    · exact sorts_emp e hal ht he hd
    · refine PySem.W.SortsAt.data e hal (.inl fun d m => ?_) hd
      obtain ⟨xs, rfl⟩ := ht d m
      cases xs with
      | nil => exact absurd ⟨_, m, rfl⟩ he
      | cons x r => exact ⟨x, r, rfl⟩
  · rw [List.all_eq_true] at h3
    refine PySem.W.SortsAt.data e hal (.inr fun d m => ⟨hn d m, fun xs z => ?_⟩) hd
    have := h3 d m
    rw [z] at this
    simp [isTupD] at this
theorem each_reads {h : Heap} : ∀ {ds : List PyData} {us : List Value} {as : List Addr}, ReadsAll h us ds as → EachIs (fun v d => ∃ as, Reads h v d as) us ds
  | [], _, _, r => by cases r; exact .nil
  | d :: ds, _, _, r => by
    cases r with
    | cons r1 r2 => exact .cons ⟨_, r1⟩ (each_reads r2)
theorem EachIs.all2 {α β γ : Type} {R : α → β → Prop} {T : α → γ → Prop} : ∀ {as : List α} {bs : List β} {cs : List γ}, EachIs R as bs → EachIs T as cs → EachIs (fun a (p : γ × β) => T a p.1 ∧ R a p.2) as (cs.zip bs)
  | _, _, _, .nil, .nil => .nil
  | _, _, _, .cons h t, .cons h' t' => .cons ⟨h', h⟩ (EachIs.all2 t t')
theorem EachIs.mapR {α β γ : Type} {T : α → β → Prop} {f : γ → β} : ∀ {as : List α} {cs : List γ}, EachIs (fun a c => T a (f c)) as cs → EachIs T as (cs.map f)
  | _, _, .nil => .nil
  | _, _, .cons h t => .cons h (EachIs.mapR t)
/-- a plain value and a value of the model's -/
def RVV (K : PySem.W.Frag) (M : Addr → Prop) (φ : List Addr) (H : Hp) (u : Value) (p : PV) : Prop := ∃ v, RV K M φ H p v ∧ RelV v u
theorem each_rvv {K : PySem.W.Frag} {M : Addr → Prop} {φ : List Addr} {H : Hp} : ∀ {ps : List PV} {vs : List V} {us : List Value}, RVs K M φ H ps vs → Vals vs us → EachIs (RVV K M φ H) us ps
  | [], _, _, r, t => by unfold RVs at r; subst r; cases t; exact .nil
  | p :: ps, _, _, r, t => by
    obtain ⟨v, ws, rfl, r1, r2⟩ := r.uncons
    cases t with
    | cons t1 t2 => exact .cons ⟨v, r1, t1⟩ (each_rvv r2 t2)
theorem rvv_each {K : PySem.W.Frag} {M : Addr → Prop} {φ : List Addr} {H : Hp} : ∀ {ps : List PV} {us : List Value}, EachIs (RVV K M φ H) us ps → ∃ vs, RVs K M φ H ps vs ∧ Vals vs us
  | _, _, .nil => ⟨[], .nil, .nil⟩
  | _, _, .cons ⟨v, r1, t1⟩ t => by
    obtain ⟨vs, r2, t2⟩ := rvv_each t
    exact ⟨v :: vs, .cons r1 r2, .cons t1 t2⟩
section
variable {X : Cx}
/-- sorted(l): as a rule of the layer -/
def rSortM (X : Cx) : List V → Hp → VK → Prop := fun vs H Q => ∃ (a : Addr) (xs : List V) (ps qs : List PV) (M : Addr → Prop) (φ : List Addr), vs = [V.ref a] ∧ SqL X.K H a xs ∧ RVs X.K M φ H ps xs ∧ srtP ps = some qs ∧
  ∀ ys p, RVs X.K M φ H qs ys → ys.length = xs.length → H p = none → Q (.ref p) (upd H p (.lst ys))
theorem sort_out {ps : List PV} {ds : List PyData} (hl : ps.length = ds.length) : (srtD (fun x y : PV × PyData => dLe x.2 y.2) (ps.zip ds)) = (ps.zip ds).mergeSort (PySem.W.sortLe (listOrd itemOrd) false fun b : PV × PyData => keyToks b.2) := by
  have h := PySem.W.sortLe_total (listOrd itemOrd) false fun b : PV × PyData => keyToks b.2
  have e : (fun x y : PV × PyData => dLe x.2 y.2) = PySem.W.sortLe (listOrd itemOrd) false fun b : PV × PyData => keyToks b.2 := by
    funext x y
    rfl
  rw [e]
  exact srtD_eq h _
theorem cr_sortM (hu : X.A.units + 10 < cLine) : CallR X (.builtin "sorted") (rSortM X) := by
  intro pins s σ H vs us Q I r h
  obtain ⟨a, xs, ps, qs, M, φ, rfl, hs, rps, hsrt, q⟩ := h
  obtain ⟨its, rv, hl, hz⟩ := I.list hs
  rw [Vals.ref1 r]
  unfold srtP at hsrt
  split at hsrt
  · rename_i ds hds
    split at hsrt
    · rename_i hc
      cases hsrt
      rw [Bool.and_eq_true, Bool.and_eq_true] at hc
      obtain ⟨⟨c1, c2⟩, c3⟩ := hc
      obtain ⟨as, hra⟩ := Dp.readsAll I ds xs its (rvs_dp ps rps hds) rv
      have hlz : its.length ≤ sizeLine := by rw [← rv.length]; exact hz
      have each : EachIs (fun v d => ∃ as, Reads (PySem.W.sortingHeap (PySem.W.copyHeap s.heap its) (s.heap.objs.size + 1) its) v d as) its ds := each_reads (ReadsAll.keeps (fun b o e => PySem.W.sorting_copy_old e) hra)
      have S := sorts_any (prog := X.prog) (w := X.w) (A := X.A.in1.in1) (s := { s with heap := PySem.W.sortingHeap (PySem.W.copyHeap s.heap its) (s.heap.objs.size + 1) its }) each c1 c2 c3 (by show X.A.units + 1 + 1 + 8 < cLine; omega)
      refine PySem.W.sorted_vals hl.isList S hlz ?_
      have hll := toDs_len hds
      have e3 := EachIs.all2 each (each_rvv rps rv)
      have hk : EachIs (fun v (b : PV × PyData) => (PySem.W.dataKind (PySem.W.sortingHeap (PySem.W.copyHeap s.heap its) (s.heap.objs.size + 1) its) ds).keyOf v = some (keyToks b.2)) its (ps.zip ds) := by
        refine (PySem.W.EachIs.of_zip e3.length fun p hp => ?_)
        have hmem : p.2.2 ∈ ds := (List.of_mem_zip (List.of_mem_zip hp).2).2
        obtain ⟨_, as', hr⟩ := PySem.W.EachIs.zip e3 p hp
        exact PySem.W.dataKind_some (alikeB_ok c1) hmem hr
      have out := PySem.W.sortVals_each (κ := PySem.W.dataKind (PySem.W.sortingHeap (PySem.W.copyHeap s.heap its) (s.heap.objs.size + 1) its) ds) (rev := false) (R := fun v (b : PV × PyData) => RVV X.K M φ H v b.1) (fun b : PV × PyData => keyToks b.2) (e3.mono fun _ _ z => z.1) hk
      have out2 : EachIs (fun v (b : PV × PyData) => RVV X.K M φ H v b.1) (PySem.W.sortVals (PySem.W.dataKind (PySem.W.sortingHeap (PySem.W.copyHeap s.heap its) (s.heap.objs.size + 1) its) ds) false its its) (srtD (fun x y : PV × PyData => dLe x.2 y.2) (ps.zip ds)) := by
        rw [sort_out hll]; exact out
      obtain ⟨ys, ry, rys⟩ := rvv_each (EachIs.mapR (f := Prod.fst) out2)
      have hlen : ys.length = xs.length := by
        have e1 := rys.length
        rw [PySem.W.sortVals_length false rfl] at e1
        rw [e1, rv.length]
      obtain ⟨ep, he'⟩ := PyProof.Rows.sortedAll_at s.heap its (PySem.W.sortVals (PySem.W.dataKind (PySem.W.sortingHeap (PySem.W.copyHeap s.heap its) (s.heap.objs.size + 1) its) ds) false its its).toArray
      exact ⟨.ref _, upd H (s.heap.objs.size + 1) (.lst ys), I.laid (t' := s.toks) (fun _ _ => PyProof.Rows.sortedAll_old) (Nat.le_succ _) ⟨by rw [hlen]; exact hz, _, ep, rys, he'⟩, rfl, q _ _ ry hlen (I.hok.fresh (Nat.le_succ _))⟩
    · cases hsrt
  · cases hsrt
end
end Mir
/-! Mir: sorted(set(l)), l * n. -/
namespace Mir
open PySem PySem.Spec PyProof.Rows L2
/-! ### set(l), l a list of ints, as a set that can be walked -/
section
variable {P : Program} {w : World} {A : Around} {E : Value → Shared → Prop} {s : Shared}
theorem led_new1 (a : Value) {Q1 : Value → Shared → Prop}
    (hq : Q1 (.ref s.heap.objs.size) { s with heap := s.heap.push { cls := .type "set", dict := none, data := .set #[] 0 (.fresh 0 0 (!w.params.followText "set-order")) } }) :
    codeAny (model P w) A (.call (.builtin "set.__new__") ⟨[.type "set", a], []⟩) (wants Q1 E) s := by
  refine codeAny_of_tree (show wpAny _ A.in1 (do checkBuiltinCall "set.__new__" ⟨[.type "set", a], []⟩; again (.builtin "set.__new__" ⟨[.type "set", a], []⟩)) _ _ s from ?_)
  refine wpAny_bind (wpAny_of_eq (F.newCall_set_1 a) (wpAny_pure ⟨plainId_quiet F.plain_set_new _, codeAny_builtin F.entry_set_new ?_⟩))
  rw [Around.under_plainId F.plain_set_new _]; unfold Builtin.«set.__new__» Builtin.Frozenset.newClass
  have hsub := sub_set_self
  obtain ⟨hp1, gn, dr, tks, os1⟩ := s
  dsimp only
  wp_walk
  refine wpAny_askSetting (wpAny_pure ?_)
  dsimp only; simp only [newObj]
  refine wpAny_bind (wpAny_alloc (wpAny_pure ?_)); exact wpAny_pure hq
variable {R : Result → Shared → Prop} {I : Addr} {fp wr : List Addr} {G : Array GenState → Array GenState → Prop} {n : Nat} {Pi : Nat → Value → Prop} {St : Nat → Shared → Prop}
theorem set_loopR (W : WalksS P w A.in1 I fp wr G n Pi St) (Sa : Addr) (hSf : Sa ∉ fp)
    (val : Nat → Int) (hval : ∀ i v, Pi i v → ∃ t, v = .int (val i) t) (hb : n + 1 < scanBound) :
    ∀ (k i : Nat) (s : Shared), n - i = k → i ≤ n → St i s →
      SetR w s.heap Sa (fun j => (firstMet val i).any (· == j)) (firstMet val i).length →
      (∀ s', Moved (Sa :: wr) G s s' → SetR w s'.heap Sa (fun j => (firstMet val n).any (· == j)) (firstMet val n).length → R (.ok (.ret .none)) s') →
      codeAny (model P w) A (.builtin "set.update.loop" ⟨[.ref Sa, .ref I], []⟩) R s := by
  have hSw : Sa ∉ wr := fun q => hSf (W.sub _ q)
  have hsub : ∀ b ∈ wr, b ∈ Sa :: wr := fun b q => List.mem_cons_of_mem _ q
  intro k
  induction k with
  | zero =>
    intro i s hk hi hst hS hR
    obtain rfl : i = n := by omega
    refine codeAny_builtin F.entry_set_update_loop ?_
    rw [Around.under_plainId F.plain_set_update_loop _]
    refine show wpAny _ A.in1 (pyNext (.ref I) >>= _) _ _ s from ?_
    refine wpAny_bind (W.done s _ _ hst fun s' hm => show wpAny _ A.in1 (ret Value.none) _ _ s' from ?_)
    exact wpAny_pure (hR s' (hm.mono hsub) (hS.at fun o q => hm.heap Sa _ hSw q))
  | succ k ih =>
    intro i s hk hi hst hS hR
    have hlt : i < n := by omega
    refine codeAny_builtin F.entry_set_update_loop ?_
    rw [Around.under_plainId F.plain_set_update_loop _]
    refine show wpAny _ A.in1 (pyNext (.ref I) >>= _) _ _ s from ?_
    refine wpAny_bind (W.item i s _ _ hlt hst fun v s' hP hst' hm => ?_)
    obtain ⟨t, rfl⟩ := hval i v hP
    have hS1 := hS.at (h' := s'.heap) fun o q => hm.heap Sa _ hSw q
    refine show wpAny _ A.in1 (holding [Value.int (val i) t] (setAdd Sa (.int (val i) t)) >>= _) _ _ s' from ?_
    refine wpAny_bind (wpAny_holding ?_)
    unfold setAdd
    refine wpAny_holding (wpAny_bind ((intKind P w).pyHash (k := val i) (intKind_is _ _ _ _) ?_))
    have hroom : (firstMet val i).length + 1 < scanBound := by have := firstMet_length_le val i; omega
    refine setR_add_hashed (s := { s' with toks := s'.toks + 1 }) hS1 hroom fun h' hsb hS2 => ?_
    have hlen : (if ((firstMet val i).any (· == val i)) = true then (firstMet val i).length else (firstMet val i).length + 1) = (firstMet val (i + 1)).length := by rw [firstMet_succ, step_length]
    have hS3 : SetR w h' Sa (fun j => (firstMet val (i + 1)).any (· == j)) (firstMet val (i + 1)).length := by
      rw [← hlen]
      exact hS2.congr fun j => by rw [firstMet_succ, step_any]
    refine wpAny_pure ⟨plainId_quiet F.plain_set_update_loop _, ih (i + 1) _ (by omega) hlt (W.frame _ s' _ _ hst' (Nat.le_succ _) fun b q o e => ?_) hS3 fun s'' hm2 hS4 => ?_⟩
    · rw [hsb.2 b (fun z : b = Sa => hSf (z ▸ q))]; exact e
    · refine hR s'' (Moved.trans W.gtrans ((hm.mono hsub).then_heap (Nat.le_succ _) fun b o q e => ?_) hm2) hS4
      rw [hsb.2 b (fun z : b = Sa => q (z ▸ List.mem_cons_self))]; exact e
theorem set_of_list {l : Addr} {items : Array Value} {ns : List Int} {Q : Value → Shared → Prop} (hh : A.handled = none) (hl : s.heap.IsList l items) (hi : IntsAre items.toList ns) (hb : items.size + 1 < scanBound)
    (hq : ∀ (h' : Heap) (tk : Nat), SetR w h' s.heap.objs.size (fun j => (firstMet (fun i => ns.getD i 0) items.size).any (· == j)) (firstMet (fun i => ns.getD i 0) items.size).length →
      (∀ b o, s.heap.get? b = some o → h'.get? b = some o) → Q (.ref s.heap.objs.size) { s with heap := h', toks := tk }) :
    wpAny (model P w) A (call (.type "set") [.ref l]) Q E s := by
  obtain ⟨c, tl, hmro⟩ := F.called_set.mro
  have hmade := F.called_set.made; have hsub := F.called_set.sub
  refine wpAny_call (codeAny_of_tree (show wpAny _ _ (callAny (.type "set") _) _ _ _ from ?_))
  refine wpAny_pure ⟨Code.quiet_builtin _ (by decide +kernel), codeAny_builtin F.entry_type_call ?_⟩
  rw [Around.under_plain (weight_type_call_type "set" [.ref l] []) rfl]
  have h1 := F.called_set.notType; have h2 := F.called_set.canCreate
  have hct := F.typeCall_set_1 (.ref l)
  repeat (any_goals (first | assumption | wp_step))
  refine codeAny_mono (led_new1 (.ref l) (E := E) (Q1 := fun obj s₁ => obj = .ref s.heap.objs.size ∧ s₁ = { s with heap := s.heap.push { cls := .type "set", dict := none, data := .set #[] 0 (.fresh 0 0 (!w.params.followText "set-order")) } }) ⟨rfl, rfl⟩) fun r s₁ hr => ?_
  cases r with
  | error e => exact hr
  | ok fl =>
    cases fl with
    | ret obj =>
      obtain ⟨rfl, rfl⟩ := hr
      have hS : (s.heap.push { cls := .type "set", dict := none, data := .set #[] 0 (.fresh 0 0 (!w.params.followText "set-order")) }).get? s.heap.objs.size = some { cls := .type "set", dict := none, data := .set #[] 0 (.fresh 0 0 (!w.params.followText "set-order")) } := Heap.get?_push_size _ rfl
      have hT : Shared.TypeIs { s with heap := s.heap.push { cls := .type "set", dict := none, data := .set #[] 0 (.fresh 0 0 (!w.params.followText "set-order")) } } (.ref s.heap.objs.size) "set" := ⟨_, hS, rfl⟩
      have hli := F.called_set.init.lookup
      have hbi := F.called_set.init.bind (.ref s.heap.objs.size)
      repeat (any_goals (first | assumption | wp_step))
      refine codeAny_mono (codeAny_call_builtin (R := wants (fun r s₂ => r = .none ∧ ∃ h' tk, s₂ = { s with heap := h', toks := tk } ∧
          SetR w h' s.heap.objs.size (fun j => (firstMet (fun i => ns.getD i 0) items.size).any (· == j)) (firstMet (fun i => ns.getD i 0) items.size).length ∧
          (∀ b o, s.heap.get? b = some o → h'.get? b = some o)) E) F.called_set.init.plain F.entry_set_init (PySem.check_set_init_1 hT ?_)) fun r₂ s₂ hr₂ => ?_
      · obtain ⟨ol, hol, hcl, nl, hdl⟩ := hl
        obtain ⟨c0, d0, x0, z0⟩ := ol
        simp only at hcl hdl
        subst hcl; subst hdl
        have hol' : (s.heap.push { cls := .type "set", dict := none, data := .set #[] 0 (.fresh 0 0 (!w.params.followText "set-order")) }).get? l = some { cls := .type "list", dict := d0, data := .seq items nl, slots := z0 } := Heap.get?_push_of_some _ hol
        have hsls := F.sub_list_set; have hslf := F.sub_list_frozenset
        have hne : (Value.type "list" == Value.type "dict") = false := by decide
        have hl1 : (s.heap.push { cls := .type "set", dict := none, data := .set #[] 0 (.fresh 0 0 (!w.params.followText "set-order")) }).IsList l items := ⟨_, hol', rfl, nl, rfl⟩
        unfold Builtin.«set.__init__» noKeywords Builtin.Frozenset.updateFrom
        generalize hPI : pyIter = PI
        wp_walk
        subst hPI
        refine wpAny_pyIter_list hl1 (wpAny_bind (wpAny_runValue ?_))
        have hlS : l < s.heap.objs.size := Heap.lt_size hol
        have hh3 : A.in1.in1.in1.handled = none := by simp [hh]
        have hneI : l ≠ (s.heap.push { cls := .type "set", dict := none, data := .set #[] 0 (.fresh 0 0 (!w.params.followText "set-order")) }).objs.size := by
          rw [Heap.size_push]; exact Nat.ne_of_lt (Nat.lt_succ_of_lt hlS)
        have hSf : s.heap.objs.size ∉ [(s.heap.push { cls := .type "set", dict := none, data := .set #[] 0 (.fresh 0 0 (!w.params.followText "set-order")) }).objs.size, l] := by
          rw [Heap.size_push]; simp only [List.mem_cons, List.mem_singleton, List.not_mem_nil, or_false, not_or]
          exact ⟨Nat.ne_of_lt (Nat.lt_succ_self _), Nat.ne_of_gt hlS⟩
        have hval : ∀ (i : Nat) (v : Value), items[i]? = some v → ∃ t, v = .int ((fun i => ns.getD i 0) i) t := fun i v q =>
          IntsAre.int_at hi i v (by rw [Array.getElem?_toList]; exact q)
        refine set_loopR ((Walks.list hh3 _ l hneI items).toS) s.heap.objs.size
          hSf (fun i => ns.getD i 0) hval hb (items.size - 0) 0 _ (by omega) (Nat.zero_le _)
          ⟨⟨_, Heap.get?_push_size _ rfl, rfl, rfl⟩, (hl1.push _)⟩ ?hS0 ?hR
        case hS0 => exact ((setR_fresh (h := s.heap) w).at fun o q => Heap.get?_push_of_some _ q).congr fun j => rfl
        case hR =>
          intro s' hm hS'
          obtain ⟨h', g', d', tk', os'⟩ := s'
          have eg : g' = s.gens := hm.gens
          have ed : d' = s.drawn := hm.drawn
          have eo : os' = s.os := hm.os
          subst eg; subst ed; subst eo
          refine show wpAny _ _ _ _ _ _ from wpAny_pure (show wpAny _ _ (ret Value.none) _ _ _ from ?_)
          refine wpAny_pure ⟨rfl, h', tk', rfl, hS', fun b o e => ?_⟩
          have hb0 := Heap.lt_size e
          have hb1 : b ≠ s.heap.objs.size := Nat.ne_of_lt hb0
          have hb2 : b ≠ (s.heap.push { cls := .type "set", dict := none, data := .set #[] 0 (.fresh 0 0 (!w.params.followText "set-order")) }).objs.size := by
            rw [Heap.size_push]; exact Nat.ne_of_lt (Nat.lt_succ_of_lt hb0)
          exact hm.heap b o (by simp only [List.mem_cons, List.mem_singleton, List.not_mem_nil, or_false, not_or]; exact ⟨hb1, hb2⟩) (Heap.get?_push_of_some _ (Heap.get?_push_of_some _ e))
      · cases r₂ with
        | error e => exact hr₂
        | ok fl₂ =>
          cases fl₂ with
          | ret r =>
            obtain ⟨rfl, h', tk, rfl, hS', hk'⟩ := hr₂
            repeat (any_goals (first | assumption | wp_step))
            exact hq _ _ hS' hk'
          | _ => exact hr₂.elim
    | _ => exact hr.elim
end
/-- set(l) as a rule -/
def rSetL (K : PySem.W.Frag) (w : World) : List V → Hp → VK → Prop := fun xs H Q => ∃ (l : Addr) (ns : List Int), xs = [V.ref l] ∧ SqL K H l (ns.map V.int) ∧ ns.length < 1000 ∧
  ∀ p, H p = none → Q (.ref p) (upd H p (SetO w p (fun j => (firstMet (fun i => ns.getD i 0) ns.length).any (· == j)) (firstMet (fun i => ns.getD i 0) ns.length).length))
theorem cr_setL {X : Cx} (hc : X.calm = true) : CallR X (.type "set") (rSetL X.K X.w) := by
  intro pins s σ H xs us Q I r h
  obtain ⟨l, ns, rfl, hl, hf, q⟩ := h
  rw [Vals.ref1 r]
  obtain ⟨its, rv, pl, hz⟩ := I.list hl
  have hn : H s.heap.objs.size = none := I.hok.fresh (Nat.le_refl _)
  have hlen : its.toArray.size = ns.length := by rw [List.size_toArray, ← rv.length, List.length_map]
  refine set_of_list (P := X.prog) (w := X.w) (ns := ns) (I.ok.hd hc) pl.isList (by simpa using rv.ints) (by rw [hlen]; unfold scanBound; omega) fun h' tk R k => ?_
  rw [hlen] at R
  exact ⟨.ref s.heap.objs.size, _, I.laid (t' := tk) k (Nat.le_refl _) (setO_new R), rfl, q _ hn⟩
end Mir
/-! Mir: sorted(l), sorted(set(l)), l * n as runs. -/
namespace Mir
open PySem PySem.Spec PyProof.Rows L2
section
variable {X : Cx} {W : WX} {pos p : Pos} {e : Expr}
def pSrt : PM := fun vs S => match vs with
  | [x] => (match (lstL S x).bind srtP with
    | some qs => .ok (.lst qs) S
    | none => .fail)
  | _ => .fail
def pSrtN : PM := fun vs S => match vs with
  | [x] => (match (lstL S x).bind srtP with
    | some qs => .ok (.loc S.length) (S ++ [some (.lst qs)])
    | none => .fail)
  | _ => .fail
theorem srt_go {B : Addr → Prop} {φ : List Addr} {ρ : En} {S : Sto} {σ : L2.St} {H : Hp} {vs : List PV} {vs' : List V} {Q : VK} (x : PV) (g : Rel (km X) B φ ρ S σ H) (t : RVs X.K (Mu B φ S) φ H [x] vs') (qs : List PV) (e : (lstL S x).bind srtP = some qs)
    (q : ∀ ys p, RVs X.K (Mu B φ S) φ H qs ys → H p = none → Q (.ref p) (upd H p (.lst ys))) : rSortM X vs' H Q := by
  obtain ⟨v, rfl, r⟩ := rv1 t
  cases e1 : lstL S x with
  | none => rw [e1] at e; cases e
  | some ps =>
    rw [e1] at e
    obtain ⟨a, ws, rfl, h, t1⟩ := lstL_ok g.ag r e1
    exact ⟨a, ws, ps, qs, _, _, rfl, h, t1, e, fun ys p ry _ hp => q ys p ry hp⟩
theorem ok_srt : OkC X (rSortM X) pSrt := fun W B φ ρ S σ H vs vs' Q g t q => by
  unfold pSrt at q
  split at q
  · split at q
    · rename_i qs e
      exact srt_go (vs := []) _ g t qs e fun ys p ry hp => new_lst g ry q hp
    · exact q.elim
  · exact q.elim
theorem ok_srtN : OkC X (rSortM X) pSrtN := fun W B φ ρ S σ H vs vs' Q g t q => by
  unfold pSrtN at q
  split at q
  · split at q
    · rename_i qs e
      exact srt_go (vs := []) _ g t qs e fun ys p ry hp => new_loc g ry q hp
    · exact q.elim
  · exact q.elim
/-! sorted(set(l)) -/
def insI (x : Int) : List Int → List Int
  | [] => [x]
  | y :: r => if x < y then x :: y :: r else if x = y then y :: r else y :: insI x r
def sortI : List Int → List Int
  | [] => []
  | x :: r => insI x (sortI r)
theorem insI_mem (x z : Int) : ∀ l : List Int, z ∈ insI x l ↔ z = x ∨ z ∈ l
  | [] => by simp [insI]
  | y :: r => by
    unfold insI
    split
    · simp
    · split
      · rename_i h; subst h; simp
      · rw [List.mem_cons, insI_mem x z r, List.mem_cons]
        constructor
        · rintro (h | h | h)
          · exact .inr (.inl h)
          · exact .inl h
          · exact .inr (.inr h)
        · rintro (h | h | h)
          · exact .inr (.inl h)
          · exact .inl h
          · exact .inr (.inr h)
theorem insI_pw (x : Int) : ∀ l : List Int, l.Pairwise (· < ·) → (insI x l).Pairwise (· < ·)
  | [], _ => List.pairwise_singleton _ _
  | y :: r, h => by
    obtain ⟨h1, h2⟩ := List.pairwise_cons.mp h
    unfold insI
    split
    · rename_i hx
      exact List.pairwise_cons.mpr ⟨fun z hz => by
        rcases List.mem_cons.mp hz with rfl | hz
        · exact hx
        · have := h1 z hz; omega, h⟩
    · split
      · exact h
      · refine List.pairwise_cons.mpr ⟨fun z hz => ?_, insI_pw x r h2⟩
        rcases (insI_mem x z r).mp hz with rfl | hz
        · omega
        · exact h1 z hz
theorem sortI_mem (z : Int) : ∀ l : List Int, z ∈ sortI l ↔ z ∈ l
  | [] => by simp [sortI]
  | x :: r => by unfold sortI; rw [insI_mem, sortI_mem z r, List.mem_cons]
theorem sortI_pw : ∀ l : List Int, (sortI l).Pairwise (· < ·)
  | [] => List.Pairwise.nil
  | x :: r => by unfold sortI; exact insI_pw x _ (sortI_pw r)
theorem pw_one : ∀ {a b : List Int}, a.Pairwise (· < ·) → b.Pairwise (· < ·) → (∀ z, z ∈ a ↔ z ∈ b) → a = b
  | [], [], _, _, _ => rfl
  | [], y :: r, _, _, h => absurd ((h y).mpr List.mem_cons_self) (by simp)
  | x :: r, [], _, _, h => absurd ((h x).mp List.mem_cons_self) (by simp)
  | x :: r, y :: t, ha, hb, h => by
    obtain ⟨a1, a2⟩ := List.pairwise_cons.mp ha
    obtain ⟨b1, b2⟩ := List.pairwise_cons.mp hb
    have e : x = y := by
      rcases List.mem_cons.mp ((h x).mp List.mem_cons_self) with q | q
      · exact q
      · rcases List.mem_cons.mp ((h y).mpr List.mem_cons_self) with q2 | q2
        · exact q2.symm
        · have := b1 x q; have := a1 y q2; omega
    subst e
    rw [pw_one a2 b2 fun z => ⟨fun hz => ?_, fun hz => ?_⟩]
    · rcases List.mem_cons.mp ((h z).mp (List.mem_cons_of_mem _ hz)) with q | q
      · have := a1 z hz; omega
      · exact q
    · rcases List.mem_cons.mp ((h z).mpr (List.mem_cons_of_mem _ hz)) with q | q
      · have := b1 z hz; omega
      · exact q
def pSrtS : PM := fun vs S => match vs with
  | [x] => (match (lstL S x).bind intsOf with
    | some ns => if ns.length < 64 then .ok (.lst ((sortI ns).map .int)) S else .fail
    | none => .fail)
  | _ => .fail
theorem rvs_ints {K : PySem.W.Frag} {M : Addr → Prop} {φ : List Addr} {H : Hp} : ∀ (ns : List Int), RVs K M φ H (ns.map .int) (ns.map V.int)
  | [] => .nil
  | n :: ns => .cons (.int n) (rvs_ints ns)
theorem first_mem {ns : List Int} (z : Int) : (firstMet (fun i => ns.getD i 0) ns.length).any (· == z) = true ↔ z ∈ ns := by
  rw [firstMet_any, List.any_eq_true]
  constructor
  · rintro ⟨y, hy, e⟩
    obtain ⟨i, hi, rfl⟩ := List.mem_map.mp hy
    have hi := List.mem_range.mp hi
    have : ns.getD i 0 = ns[i] := by simp [hi]
    rw [this] at e
    have := beq_iff_eq.mp e
    subst this
    exact List.getElem_mem hi
  · intro h
    obtain ⟨i, hi, e⟩ := List.mem_iff_getElem.mp h
    exact ⟨ns.getD i 0, List.mem_map.mpr ⟨i, List.mem_range.mpr hi, rfl⟩, by simp [hi, e]⟩
theorem first_len (val : Nat → Int) (n : Nat) : (firstMet val n).length ≤ n := firstMet_length_le val n
theorem se_srtS {m : AM} {q pos2 : Pos} (hc : X.calm = true) (hg : Gl X "sorted") (hm : X.mg "sorted" = none) (hg2 : Gl X "set") (hm2 : X.mg "set" = none) (ha : SA X W [e] m) (hs : starEach [e] X.env = (false, eval e X.env) :: starEach [] X.env := by rfl) :
    SE X W (.Call (.Name "sorted" p) [.Call (.Name "set" q) [e] [] pos2] [] pos) (ePrim pSrtS m) := by
  have h1 : PE X (.Call (.Name "set" q) [e] [] pos2) (tCB (rSetL X.K X.w) (tA (km X) W m)) := pe_callTy (cr_setL hc) hg2 hm2 (by rfl) ha (he := hs)
  have h2 := pe_callB (pos := pos) (p := p) (cr_sortedSet hc) hg hm (by rfl) (pa_cons h1 pa_nil)
  refine PE.via h2 fun σ H Q ⟨B, φ, ρ, S, g, qq⟩ => ?_
  refine tA.of g (APost.bind qq) fun vs' H1 ⟨φ1, S1, vs, m1, t, q1⟩ => ?_
  unfold pSrtS at q1
  split at q1
  · rename_i x
    obtain ⟨v, rfl, r⟩ := rv1 t
    cases e1 : lstL S1 x with
    | none => rw [e1] at q1; exact q1.elim
    | some ps =>
      rw [e1] at q1
      obtain ⟨a, ws, rfl, hs, t1⟩ := lstL_ok m1.rel.ag r e1
      cases e2 : intsOf ps with
      | none => simp only [Option.bind_some, e2] at q1; exact q1.elim
      | some ns =>
        simp only [Option.bind_some, e2] at q1
        split at q1
        · rename_i hlen
          have ew := intsOf_ok t1 e2
          subst ew
          refine ⟨a, ns, rfl, hs, by omega, fun p hp => ?_⟩
          refine ⟨p, _, _, rfl, upd_same, Nat.lt_of_le_of_lt (first_len _ _) hlen, fun ms q hpw hmem hl hq => ?_⟩
          have e3 : ms = sortI ns := pw_one hpw (sortI_pw ns) fun z => by rw [hmem, first_mem, sortI_mem]
          subst e3
          have hqp : q ≠ p := fun z => by rw [z, upd_same] at hq; cases hq
          have fr := fr_upd (φ := φ1) (S := S1) (o := SetO X.w p (fun j => (firstMet (fun i => ns.getD i 0) ns.length).any (· == j)) (firstMet (fun i => ns.getD i 0) ns.length).length) hp
          have g2 := m1.rel.stay fr (m1.rel.ag.upd hp)
          exact new_lst g2 (rvs_ints _) (RPost.shift fr q1) hq
        · exact q1.elim
  · exact q1.elim
/-! l * n -/
def repM (S : Sto) (x y : PV) : Option (List PV) := match lstM S x, y with
  | some ps, .int k => if -(2 ^ 63) ≤ k ∧ k < 2 ^ 63 ∧ ps.length * k.toNat ≤ lim then some (List.replicate k.toNat ps).flatten else none
  | _, _ => none
def pRep : P2 := fun x y S => match repM S x y with | some ps => .ok (.lst ps) S | none => .fail
def pRepN : P2 := fun x y S => match repM S x y with | some ps => .ok (.loc S.length) (S ++ [some (.lst ps)]) | none => .fail
theorem RVs.rep {K : PySem.W.Frag} {M : Addr → Prop} {φ : List Addr} {H : Hp} {ps : List PV} {vs : List V} (t : RVs K M φ H ps vs) : ∀ k : Nat, RVs K M φ H (List.replicate k ps).flatten (List.replicate k vs).flatten
  | 0 => .nil
  | k + 1 => by
    rw [List.replicate_succ, List.replicate_succ, List.flatten_cons, List.flatten_cons]
    exact t.append (RVs.rep t k)
theorem rep_go {B : Addr → Prop} {φ : List Addr} {ρ : En} {S : Sto} {σ : L2.St} {H : Hp} {x y : PV} {x' y' : V} {qs : List PV} {Q : VK} (g : Rel (km X) B φ ρ S σ H) (r1 : RV X.K (Mu B φ S) φ H x x') (r2 : RV X.K (Mu B φ S) φ H y y') (e : repM S x y = some qs)
    (q : ∀ ys p, RVs X.K (Mu B φ S) φ H qs ys → H p = none → Q (.ref p) (upd H p (.lst ys))) : rRep x' y' H Q := by
  unfold repM at e
  split at e
  · rename_i ps k e1
    split at e
    · rename_i hk
      cases e
      obtain ⟨a, ws, rfl, h, t⟩ := lstM_ok g.ag r1 e1
      cases r2.int_eq
      exact ⟨a, k, ws, rfl, rfl, h, hk.1, hk.2.1, by rw [← t.length]; exact lim_le hk.2.2, fun p hp => q _ p (t.rep _) hp⟩
    · cases e
  · cases e
theorem o2_rep : Op2 X rRep pRep := fun W B φ ρ S σ H x y x' y' Q g r1 r2 q => by
  unfold pRep at q
  split at q
  · rename_i qs e
    exact rep_go g r1 r2 e fun ys p t hp => new_lst g t q hp
  · exact q.elim
theorem o2_repN : Op2 X rRep pRepN := fun W B φ ρ S σ H x y x' y' Q g r1 r2 q => by
  unfold pRepN at q
  split at q
  · rename_i qs e
    exact rep_go g r1 r2 e fun ys p t hp => new_loc g t q hp
  · exact q.elim
end
end Mir
/-! Mir: what the printed derivations lean on. -/
namespace Mir
open PySem PySem.Spec PyProof.Rows L2
section
variable {X : Cx} {W : WX}
def eFail : EM := fun _ _ => .fail
theorem se_fail {e : Expr} : SE X W e eFail := ⟨fun pins s σ H Q I ⟨B, φ, ρ, S, g, q⟩ => q.elim⟩
def sFail : SM := fun _ _ => .fail
theorem ss_fail {st : Stmt} : SS X W st sFail := ⟨fun pins s σ H Q I ⟨B, φ, ρ, S, g, q⟩ => q.elim⟩
theorem takes_F : Takes X WF := fun u s' x => by
  obtain ⟨_, _, _, _, _, _, _, _, _, _, _, _, _, _, _, _, w⟩ := x
  exact w.elim
theorem u65 {A : Around} {k : Nat} (hr : Room k A) : A.units + 65 < cLine := by have := hr.un; omega
theorem u10 {A : Around} {k : Nat} (hr : Room k A) : A.units + 10 < cLine := by have := hr.un; omega
end
section
variable {P : Program} {w : World} {K : PySem.W.Frag} {mg : Str → Option Value} {base : Heap}
theorem fn_fail {Y : KM} {k n : Nat} {f : Addr} {fd : FuncData} {ps : List Str} (hn : ps.length = n := by rfl) : FnOk P w K mg base (L2.CX P w) k f fd ps (spM Y n fun _ _ => .fail) :=
  ⟨fun vs H Q E h => by rw [hn]; exact h.1, fun A outer s H args us vs Q E _ _ _ _ h => by
    obtain ⟨_, B, φ, S, qs, _, _, q⟩ := h
    exact q.elim⟩
theorem fn_mir' {x qual : Str} {st : Stmt} {f : Addr} {fd : FuncData} {N ps : List Str} {k n m : Nat} {b : SM} (F : Fun K x qual st f fd) (Sc : FnScope N ps (defScope st))
    (hb : ∀ (cdv : Value) (A : Around) (outer : List Env) (s : Shared) (H : Hp) (E : XK), Room k (A.deeper (envOfC qual (defScope st) s.heap.objs.size f cdv)) →
      SB (cxOf (L2.CX P w) P w K mg base N qual (defScope st) f cdv A outer s H E) (WE0 E) (defBody st) b) (hn : ps.length = n := by rfl) (hm : N.length = m := by rfl) : FnOk P w K mg base (L2.CX P w) (k + 1) f fd ps (spM ⟨K, mg⟩ n (runM m b)) := by
  subst hn; subst hm
  exact fn_mir F Sc hb
theorem fn_mirD {x qual : Str} {params : Arguments} {body : List Stmt} {scope : Scope} {dvs : List V} {kws : List (Str × V)} {f : Addr} {fd : FuncData} {N ps : List Str} {k n m : Nat} {b : SM} (F : FunD K x qual params body scope dvs kws f fd) (Sc : FnScope N ps scope)
    (hb : ∀ (cdv : Value) (A : Around) (outer : List Env) (s : Shared) (H : Hp) (E : XK), Room k (A.deeper (envOfC qual scope s.heap.objs.size f cdv)) →
      SB (cxOf (L2.CX P w) P w K mg base N qual scope f cdv A outer s H E) (WE0 E) body b) (hn : ps.length = n := by rfl) (hm : N.length = m := by rfl) : FnOk P w K mg base (L2.CX P w) (k + 1) f fd ps (spM ⟨K, mg⟩ n (runM m b)) := by
  subst hn; subst hm
  refine F.ok Sc (fun vs H Q E h => h.1) fun cdv A outer s H vs Q E hr h => ⟨_, hb cdv A outer s H E hr, ?_⟩
  exact entry_ok (b := b) h
end
end Mir
/-! Mir: an own exception class over ValueError whose __init__ says super().__init__('..') and stores one field. -/
namespace MirX
open PySem PySem.W PySem.Calls PyProof.Rows PySem.HandSPX
/-! ### the text of __init__: the field's name n, the text tx -/
def fnm : Bool → Str
  | true => "value"
  | false => "at"
def iA (n : Str) (p1 p2 : Pos) : Arguments := { posonlyargs := [], args := [{ arg := "self", annotation := none, pos := p1 }, { arg := n, annotation := none, pos := p2 }], vararg := none, kwonlyargs := [], kw_defaults := [], kwarg := none, defaults := [] }
def iB (n tx : Str) (q0 q1 q2 q3 q4 q5 q6 q7 q8 q9 : Pos) : List Stmt := [.Expr (.Call (.Attribute (.Call (.Name "super" q0) [] [] q1) "__init__" q2) [.Constant (.str tx) 0 q3] [] q4) q5, .Assign [.Attribute (.Name "self" q6) n q7] (.Name n q8) q9]
def iS (n : Str) : Scope := { kind := .function, names := [(PySem.Str.ofString "self", .local), (n, .local), (PySem.Str.ofString "__class__", .free), (PySem.Str.ofString "super", .globalImplicit)], isGenerator := false, isCoroutine := false, more := [] }
/-- what the written part says of the class cn, at C, and of its __init__, at fI -/
structure Txt (P : Program) (K : Frag) (mg : Str → Option Value) (cn n tx qual : Str) (C fI : Addr) : Prop where
  gC : mg cn = some (.ref C)
  gS : mg "super" = none
  cls : ∃ nm q N bs bm sn sub ab col dd k0 k1 k2 k3 k5, K.lookup C = some (excClassObj nm q C N bs bm true sn sub ab col dd k0 k1 k2 k3 k5 "ValueError.__new__") ∧ refsVE bm = true
  sup : ks_superIn K C C "__init__" = some (some (.builtin "ValueError.__init__"))
  slf : mroIn K C (.ref C) = some true
  opq : nsIn K cStatics "thirdparty.any" = some none
  sVE : subIn K (.ref C) (.type "ValueError") = some true
  sa : findIn K (.ref C) "__setattr__" = some (some (.builtin "object.__setattr__"))
  xf : L2.XfC K C
  noN : findIn K (.ref C) n = some none
  iC : findIn K (.ref C) "__init__" = some (some (.ref fI))
  tC : typeIn K (.ref fI) = some (.type "function")
  kC : keepIn K (.ref C) = true
  exC : subIn K (.ref C) (.type "BaseException") = some true
  tyC : typeIn K (.ref C) = some (.type "type")
  te : exmOne K (.ref C) (.ref C) = some true
  top : (P.main.scope.names.lookup ("super" : Str)).isSome = false
  fn : ∃ (oc ccl cl doc pm ct : Value) (od an cdd cld : Option Addr) (cda cc : Addr) (osl ccs csl : Array (Option Value)) (vs : Array Value) (file : Str) (tf : Tok) (p1 p2 q0 q1 q2 q3 q4 q5 q6 q7 q8 q9 : Pos),
    K.lookup fI = some ⟨oc, od, .func (ksFn "__init__" qual (iA n p1 p2) (iB n tx q0 q1 q2 q3 q4 q5 q6 q7 q8 q9) (iS n) .none .none doc pm an (.ref cda) ct cc), osl⟩ ∧ codeIn K (.ref cda) qual = true ∧
    K.lookup cc = some ⟨cl, cld, .cell (some (.ref C)), csl⟩ ∧ K.lookup cda = some ⟨ccl, cdd, .fields vs, ccs⟩ ∧ vs[2]? = some (.str file tf) ∧ (P.main.file == file) = true ∧ (q2.endLine == q4.line) = true
/-- what __init__ leaves of a fresh exception at x -/
structure InitEnd (n : Str) (h h' : Heap) (x C dx t1 : Addr) (v : Value) : Prop where
  keep : ∀ b o, b ≠ x → h.get? b = some o → h'.get? b = some o
  obj : h'.get? x = some { cls := .ref C, dict := some dx, data := .fields #[.ref t1, .none, .none, .none, .bool false, .none] }
  dbig : h.objs.size ≤ dx
  dne : dx ≠ x
  ns : h'.Ns1 dx (fun y => if y = n then some v else none)
structure OwnMade (n : Str) (h h' : Heap) (e C d : Addr) (v : Value) : Prop where
  keep : ∀ b o, h.get? b = some o → h'.get? b = some o
  new : h.objs.size ≤ e
  obj : ∃ oe vs, h'.get? e = some oe ∧ oe.cls = .ref C ∧ oe.dict = some d ∧ oe.data = .fields vs ∧ vs[1]? = some .none
  dbig : h.objs.size ≤ d
  dne : d ≠ e
  ns : h'.Ns1 d (fun y => if y = n then some v else none)
theorem look_n (f : Bool) : (iS (fnm f)).names.lookup (fnm f) = some .local := by cases f <;> rfl
theorem look_s (f : Bool) : (iS (fnm f)).names.lookup ("super" : Str) = some .globalImplicit := by cases f <;> rfl
theorem look_c (f : Bool) : (iS (fnm f)).names.lookup ("__class__" : Str) = some .free := by cases f <;> rfl
theorem look_f (f : Bool) : (iS (fnm f)).names.lookup ("self" : Str) = some .local := by cases f <;> rfl
theorem ldX {M : Model} {A : Around} {E : Value → Shared → Prop} {s : Shared} {env : Env} {m : Str → Option Value} {x : Str} {pos : Pos} {v : Value} {Q : Value → Shared → Prop} (hk : env.scope.kind = .function) (hl : env.scope.names.lookup x = some .local)
    (hn : s.heap.Ns env.locals m) (hv : m x = some v) (hd : (x == ("__debug__" : Str)) = false) (h : Q v s) : wpAny M A (eval (.Name x pos) env) Q E s := wpAny_Name (wpAny_loadName_local hk hl hn hv h) hd
theorem keepX {K : Frag} {h h' : Heap} {x : Addr} (X : K.In h) (hx : K.lookup x = none) (k : ∀ b o, b ≠ x → h.get? b = some o → h'.get? b = some o) : K.In h' := fun a o e => k a o (fun z => by rw [z, hx] at e; cases e) (X a o e)
section
variable {P : Program} {w : World} {A : Around} {E : Value → Shared → Prop} {R : Result → Shared → Prop} {s : Shared} {K : Frag} {mg mb : Str → Option Value} {C fI : Addr} {cn tx qual : Str} {f : Bool}
theorem init_ok (T : Txt P K mg cn (fnm f) tx qual C fI) {x t0 : Addr} {v : Value} (X : K.In s.heap) (hlim : s.heap.NoLimit) (hg : s.heap.Ns mainGlobals mg) (hb : s.heap.Ns builtinsNs mb) (hbs : mb "super" = bootBuiltins "super")
    (hx : s.heap.get? x = some (excO C t0)) (hnx : K.lookup x = none) (hroom : A.depth < recursionLimit)
    (hq : ∀ h' tk dx t1, InitEnd (fnm f) s.heap h' x C dx t1 v → R (.ok (.ret .none)) { s with heap := h', toks := tk }) :
    codeAny (model P w) A (.call (.ref fI) ⟨[.ref x, v], []⟩) R s := by
  obtain ⟨oc, ccl, cl, doc, pm, ct, od, an, cdd, cld, cda, cc, osl, ccs, csl, vs, file, tf, p1, p2, q0, q1, q2, q3, q4, q5, q6, q7, q8, q9, ho, hcd, hcc, hcda, hvs, hfile, hline⟩ := T.fn
  obtain ⟨nm, q, N, bs, bm, sn, sub, ab, col, dd, k0, k1, k2, k3, k5, hC, hbm⟩ := T.cls
  have hcl : clsIn K C = some { name := nm, bases := bs, mro := .ref C :: bm, ns := N, qualname := q, hasDict := true, slotNames := sn, subclasses := sub, abstract := ab, collection := col, hasDel := false } := by unfold clsIn; rw [hC] <;> rfl
  refine ks_codeAny_call_defAt (fd := ksFn "__init__" qual (iA (fnm f) p1 p2) (iB (fnm f) tx q0 q1 q2 q3 q4 q5 q6 q7 q8 q9) (iS (fnm f)) .none .none doc pm an (.ref cda) ct cc) (body := iB (fnm f) tx q0 q1 q2 q3 q4 q5 q6 q7 q8 q9) (binds := [("self", .ref x), (fnm f, v)]) hroom (X _ _ ho) rfl hlim (codeRec_of X hcd) rfl
    (BindsTo.of_eq (by cases f <;> rfl)) ?cell ?loc (fun h₁ hns k => ?_) rfl rfl rfl
  case cell =>
    show ∀ y ∈ (iS (fnm f)).names, y.2 ≠ .cell
    cases f <;> decide
  case loc =>
    intro y hy
    rcases List.mem_cons.mp hy with e | hy
    · rw [e]; exact look_f f
    rcases List.mem_cons.mp hy with e | hy
    · rw [e]; exact look_n f
    · cases hy
  obtain ⟨hp, gn, dr, tk, os⟩ := s
  have hLx : hp.objs.size ≠ x := Nat.ne_of_gt (Heap.lt_size hx)
  have X₁ : K.In h₁ := X.keeps k
  have hx₁ := k _ _ hx
  have lkn : (([("self", Value.ref x), (fnm f, v)] : List (Str × Value)).reverse).lookup (fnm f) = some v := by cases f <;> rfl
  have lks : (([("self", Value.ref x), (fnm f, v)] : List (Str × Value)).reverse).lookup ("self" : Str) = some (Value.ref x) := by cases f <;> rfl
  have nC : x ≠ C := fun z => by
    rw [z] at hnx
    rw [hC] at hnx
    cases hnx
  have hD1 := X₁ _ _ hC
  -- super().__init__('..')
  refine ks_wpAt_execs_cons (ks_wpAt_Expr_any (ks_wpAt_MethodCall (pl := do return (← importBound (.Call (.Name "super" q0) [] [] q1) _).getD true) ?_ (by
    show (do
      let ov ← attributeBase _ _ _ _
      standAt _
      methodCall _ _ _ _ _ _ _ _ _) = _
    have hp : ∀ (fw : Bool) (o : Expr) (env : Env), methodCallPos fw o env q2 q4 = pure q4 := fun fw o env => by unfold methodCallPos; simp [hline]
    simp only [methodCall, hp]
    rfl)) rfl rfl)
  refine ks_wpAt_super_base (look_s f) (look_c f) (by decide) rfl (X₁ _ _ ho) rfl rfl rfl (X₁ _ _ hcda) rfl hvs hfile T.top ?_
  refine ks_loadName_global rfl (look_s f) (loadGlobal_builtin (hg.keeps k) T.gS (hb.keeps k) (hbs.trans (by rfl)) ⟨rfl, ?_⟩)
  refine wpAny_loadName_free rfl (look_c f) rfl ⟨_, X₁ _ _ hcc, rfl⟩ ?_
  refine wpAny_loadName_local rfl (look_f f) hns lks ?_
  refine ks_wpAny_isType_cls hD1 rfl ⟨rfl, ?_⟩
  refine ks_wpAny_call_super hD1 rfl hx₁ rfl (fun c e => ?_) (looks_mroIn X₁ T.slf) (fun h2 e2 k2 => ?_)
  · cases e
  have X2 : K.In h2 := X₁.keeps k2
  have hx2 := k2 _ _ hx₁
  -- the method
  have hsup := T.sup
  unfold ks_superIn at hsup
  rw [hcl] at hsup
  have I2 : InstAt h2 x (excO C t0) C none := ⟨hx2, rfl, rfl, trivial⟩
  refine kxs_getMethod kxs_ValueError e2 (looks_opaque X2 T.opq) (l₀ := .ref C :: bm) (fun A Q E s k q => wpAny_bind ((looks_clsIn X2 hcl) A _ E s k (wpAny_pure q))) rfl X2 hsup (I2.type.andThen (looks_subIn X2 T.sVE)) nC (by decide) ?_
  -- its call
  refine kxs_callWith (i := "ValueError.__init__") (x := x) rfl (evalArgs_plain (spliced_cons (wpAny_Constant_str (k := 0) (pos := q3) (spliced_nil ?_))))
  have hu : (h2.push (kxs_mw "ValueError.__init__" x)).get? h2.objs.size = some (kxs_mw "ValueError.__init__" x) := Heap.get?_push_size _ rfl
  refine ⟨hu, ?_⟩
  have X3 : K.In (h2.push (kxs_mw "ValueError.__init__" x)) := X2.keeps fun b o e => Heap.get?_push_of_some _ e
  have hx3 : (h2.push (kxs_mw "ValueError.__init__" x)).get? x = some (excO C t0) := Heap.get?_push_of_some _ hx2
  refine wpAny_call (codeAny_of_tree ?_)
  show wpAny _ _ (callAny (.ref h2.objs.size) ⟨_, []⟩) _ _ _
  simp only [callAny]
  refine wpAny_bind (wpAny_load hu ?_)
  simp only [kxs_mw, show (Value.type "method-wrapper" == Value.type "method" || Value.type "method-wrapper" == Value.type "builtin_function_or_method" || Value.type "method-wrapper" == Value.type "method-wrapper") = true by decide, if_true]
  refine KFB.if_so (by decide) ?_
  refine wpAny_bind (check_bound_init F.excBase_ValueError.toExcCallFacts (X3 _ _ hC) hx3 rfl ?_)
  refine wpAny_bind (wpAny_pure (wpAny_pure ?_))
  refine ⟨plainId_quiet F.excBase_ValueError.init.plain _, codeAny_builtin F.excBase_ValueError.initEntry ?_⟩
  refine exc_init_tree (cls := .ref C) (t0 := t0) (dv := none) (c2 := .none) (c3 := .none) (b4 := .bool false) hx3 (by show 1 ≤ sizeLine; rw [sizeLine_eq]; decide) fun h4 k4 hx4 ht4 => ?_
  have kk : ∀ b o, b ≠ x → hp.get? b = some o → h4.get? b = some o := fun b o hb e => k4 b o hb (Heap.get?_push_of_some _ (k2 b o (k b o e)))
  have X4 : K.In h4 := keepX X3 hnx k4
  obtain ⟨oL, esL, epL, hL, hL2, hL3⟩ := hns
  have hns4 : h4.Ns hp.objs.size (fun y => (([("self", Value.ref x), (fnm f, v)] : List (Str × Value)).reverse).lookup y) := ⟨oL, esL, epL, k4 _ _ hLx (Heap.get?_push_of_some _ (k2 _ _ hL)), hL2, hL3⟩
  -- self.f = f
  refine ks_wpAt_execs_cons (ks_wpAt_Assign_Attr ?_ (by cases f <;> rfl))
  refine wpAt_of_wpAny ?_
  refine ldX (x := fnm f) (v := v) (m := fun y => (([("self", Value.ref x), (fnm f, v)] : List (Str × Value)).reverse).lookup y) rfl (look_n f) hns4 lkn (by cases f <;> decide) ?_
  refine ldX (x := ("self" : Str)) (v := .ref x) (m := fun y => (([("self", Value.ref x), (fnm f, v)] : List (Str × Value)).reverse).lookup y) rfl (look_f f) hns4 lks (by decide) ?_
  refine set_plain X4 (ox := excO C (h2.push (kxs_mw "ValueError.__init__" x)).objs.size) (od := none) ⟨hx4, rfl, rfl, trivial⟩ T.sa ?_
  refine exc_osa X4 hx4 hcl (show refsVE (.ref C :: bm) = true from hbm) rfl T.noN (fun h₃ tk₃ dx k₃ dn dne hx₃ hn₃ => ?_)
  refine wpAt_of_wpAny (wpAny_execs_nil ?_)
  have z : hp.objs.size < h4.objs.size := Heap.lt_size hns4.choose_spec.choose_spec.choose_spec.1
  exact hq h₃ tk₃ dx _ ⟨fun b o hb e => k₃ b o hb (kk b o hb e), hx₃, Nat.le_of_lt (Nat.lt_of_lt_of_le z dn), dne, hn₃⟩
theorem made (T : Txt P K mg cn (fnm f) tx qual C fI) {v : Value} (X : K.In s.heap) (hlim : s.heap.NoLimit) (hg : s.heap.Ns mainGlobals mg) (hb : s.heap.Ns builtinsNs mb) (hbs : mb "super" = bootBuiltins "super") (hroom : A.depth + 1 < recursionLimit)
    (hq : ∀ h' tk e d, OwnMade (fnm f) s.heap h' e C d v → R (.ok (.ret (.ref e))) { s with heap := h', toks := tk }) : codeAny (model P w) A (.call (.ref C) ⟨[v], []⟩) R s := by
  obtain ⟨nm, q, N, bs, bm, sn, sub, ab, col, dd, k0, k1, k2, k3, k5, hC, hbm⟩ := T.cls
  obtain ⟨hp, g, dr, tk, os⟩ := s
  have up : ∀ b o, hp.get? b = some o → ((hp.push (kdv_tup [v])).push (excO C hp.objs.size)).get? b = some o := fun b o e => Heap.get?_push_of_some _ (Heap.get?_push_of_some _ e)
  have hget : ((hp.push (kdv_tup [v])).push (excO C hp.objs.size)).get? (hp.objs.size + 1) = some (excO C hp.objs.size) := by heap_get
  have hnx : K.lookup (hp.objs.size + 1) = none := by
    cases e : K.lookup (hp.objs.size + 1) with
    | none => rfl
    | some o =>
      have z : hp.get? (hp.objs.size + 1) = some o := X _ _ e
      exact absurd (show hp.objs.size + 1 < hp.objs.size from Heap.lt_size z) (Nat.not_lt_of_le (Nat.le_succ _))
  refine call_own F.excBase_ValueError (fun T2 => refsVE_contains T2 bm hbm) (X _ _ hC) (looks_findIn X T.iC) (fun self => bind_fn X self T.tC) (by show 1 ≤ sizeLine; rw [sizeLine_eq]; decide) ?_
  refine init_ok (s := ⟨(hp.push (kdv_tup [v])).push (excO C hp.objs.size), g, dr, tk, os⟩) T (X.keeps up) (hlim.keeps up) (hg.keeps up) (hb.keeps up) hbs hget hnx (show A.depth + 1 < recursionLimit from hroom) fun h' tk' dx t1 ⟨k', hx, dn, dne, hns⟩ => ?_
  have old : ∀ b o, hp.get? b = some o → h'.get? b = some o := fun b o e => k' b o (Nat.ne_of_lt (Nat.lt_succ_of_lt (Heap.lt_size e))) (up b o e)
  have z : hp.objs.size + 1 + 1 ≤ dx := by
    have q := dn
    rw [Heap.size_push, Heap.size_push] at q
    exact q
  exact ⟨rfl, hq h' tk' (hp.objs.size + 1) dx ⟨old, Nat.le_succ _, ⟨_, _, hx, rfl, rfl, rfl, rfl⟩, Nat.le_trans (Nat.le_trans (Nat.le_succ _) (Nat.le_succ _)) z, dne, hns⟩⟩
end
end MirX
namespace Mir
open PySem PySem.Spec PyProof.Rows L2
theorem relO_f {n : Str} {v : V} {v' : Value} (r : RelV v v') (y : Str) : RelO (List.lookup y [(n, v)]) (if y = n then some v' else none) := by
  by_cases hw : y = n
  · subst hw
    rw [if_pos rfl]
    have q : List.lookup y [(y, v)] = some v := by simp [List.lookup]
    rw [q]; exact r
  · rw [if_neg hw]
    have qw : (y == n) = false := by simpa using hw
    have q2 : List.lookup y [(n, v)] = none := by simp [List.lookup, qw]
    rw [q2]; trivial
section
variable {X : Cx} {W : WX} {C fI : Addr} {cn tx qual : Str} {f : Bool}
/-- C(e) -/
def tMkX (C : Addr) (n : Str) (ta : TA) : L2.St → Hp → XK → Prop := fun σ H Q => ta σ H fun vs H1 => ∃ v, vs = [v] ∧ ∀ d, H1 d = none → Q (.ref C) (some d) (upd H1 d (.xd [(n, v)]))
theorem pmk_x {a : Expr} {ta : TA} {p pos : Pos} {k : Nat} (T : MirX.Txt X.prog X.K X.mg cn (MirX.fnm f) tx qual C fI) (hr : Room k X.A) (ha : PA X [a] ta) (hg : Gl X cn) (hdb : (cn == ("__debug__" : Str)) = false)
    (he : starEach (a :: []) X.env = (false, eval a X.env) :: starEach [] X.env := by rfl) : PMk X (.Call (.Name cn p) [a] [] pos) (tMkX C (MirX.fnm f) ta) := by
  intro pins s σ H Q I h
  refine wpAny_Call_Name_kw (ld_glob I hg T.gC ?_ hdb)
  refine PySem.W.callWith_K (h₀ := X.base) I.ok.mod.kin T.kC (thn (ha.run pos pins s σ H _ I h) fun us s1 hh => ?_) he rfl
  obtain ⟨vs, H1, I1, r1, v, ev, q1⟩ := hh
  subst ev
  refine ⟨I1.kIn, ?_⟩
  cases r1 with
  | cons rv rn =>
    rename_i v' us'
    cases rn
    show wpAny _ _ (call (.ref C) [v']) _ _ _
    have hlim := I1.nolimit
    obtain ⟨mb, hb1, hb2⟩ := I1.mod.blt
    have hgl : s1.heap.Ns mainGlobals X.mg := I1.mod.glob.keeps I1.bk
    have hbl : s1.heap.Ns builtinsNs mb := hb1.keeps I1.bk
    obtain ⟨hp, g, dr, tk, os⟩ := s1
    refine wpAny_call (MirX.made T I1.kIn hlim hgl hbl (hb2 _ (by decide)) (by have := hr.dp; omega) fun h' tk' e d M => ?_)
    show MkP X pins σ Q (.ref e) ⟨h', g, dr, tk', os⟩
    obtain ⟨oe, fv, hoe, hc, hd, hdat, h1⟩ := M.obj
    have hns := M.ns
    obtain ⟨G', g1, g2⟩ := restrict h' fun b => decide (b ≠ e)
    have gk : ∀ b, b ≠ e → G'.get? b = h'.get? b := fun b hb => g1 b (decide_eq_true hb)
    have ge : G'.get? e = none := g2 e (by simp)
    have old : ∀ b o, hp.get? b = some o → G'.get? b = some o := fun b o q => (gk b (Nat.ne_of_lt (Nat.lt_of_lt_of_le (Heap.lt_size q) M.new))).trans (M.keep b o q)
    have ob : ObjOk X.prog X.w (upd H1 d (.xd [(MirX.fnm f, v)])) G' d (.xd [(MirX.fnm f, v)]) :=
      ⟨_, hns.at (fun o q => (gk d M.dne).trans q), fun y => relO_f rv y⟩
    have J : Inv X pins σ (upd H1 d (.xd [(MirX.fnm f, v)])) ⟨G', g, dr, tk', os⟩ := I1.laid (t' := tk') old M.dbig ob
    refine ⟨e, oe, fv, ⟨G', g, dr, tk', os⟩, _, .ref C, some d, rfl, J, fun b o q => ?_, ge, hoe, ⟨hc, hd⟩, hdat, h1, ?_, rfl, I1.bare, raises_own T.exC T.tyC, q1 d (I1.hok.fresh M.dbig)⟩
    · by_cases hb : b = e
      · have q' : G'.get? b = some o := q
        rw [hb, ge] at q'; cases q'
      · exact (gk b hb).symm.trans q
    · rw [upd_ne (Ne.symm M.dne)]
      exact I1.hok.fresh M.new
/-! ### as a statement's run -/
def sRaise (c : Str) (a : AM) : SM := fun ρ S => (a ρ S).bindS ρ fun vs S1 => match vs with
  | [v] => .exc c v ρ S1
  | _ => .fail
theorem ss_raise {a : Expr} {m : AM} {p pos pos2 : Pos} {k : Nat} (T : MirX.Txt X.prog X.K X.mg cn (MirX.fnm f) tx qual C fI) (hc : X.calm = true) (hr : Room k X.A) (tk : Takes X W) (ha : SA X W [a] m) (hg : Gl X cn) (hdb : (cn == ("__debug__" : Str)) = false) (hf : fieldOf cn = MirX.fnm f)
    (he : starEach (a :: []) X.env = (false, eval a X.env) :: starEach [] X.env := by rfl) : SS X W (.Raise (some (.Call (.Name cn p) [a] [] pos)) none pos2) (sRaise cn m) := by
  refine PS.via (ps_raise hc tk (pmk_x T hr ha hg hdb he)) fun D σ H ⟨B, φ, ρ, S, g, q⟩ => ?_
  refine tA.of g (APost.bindS q) fun vs' H1 ⟨φ1, S1, vs, m1, rvs, q1⟩ => ?_
  split at q1
  · rename_i v
    obtain ⟨v', rfl, rv⟩ := rv1 rvs
    refine ⟨v', rfl, fun d hd => ?_⟩
    have fr := fr_upd (φ := φ1) (S := S1) (o := HO.xd [(MirX.fnm f, v')]) hd
    have g2 := m1.rel.stay fr (m1.rel.ag.upd hd)
    refine q1 φ1 σ _ (.ref C) (some d) fr g2 ⟨C, d, v', rfl, rfl, T.gC, ?_, rv.stay m1.rel.ag fr⟩
    rw [hf]; exact upd_same
  · exact q1.elim
end
end Mir
/-! Mir: try: .. except C as e: return ('..', e.f) | x = ('..', e.f). -/
namespace Mir
open PySem PySem.Spec PyProof.Rows L2
section
variable {X : Cx} {W : WX} {C fI : Addr} {cn tx qual : Str} {f : Bool}
/-- what the body's exception becomes -/
def tryM (b : SM) (h : Str → PV → En → Sto → SR) : SM := fun ρ S => match b ρ S with
  | .exc c a ρ1 S1 => h c a ρ1 S1
  | r => r
theorem tryM_run {b : SM} {h : Str → PV → En → Sto → SR} {W2 : WX} {D : Ends} {σ : L2.St} {H : Hp} (q : tS (km X) W (tryM b h) D σ H)
    (hx : ∀ c a ρ S B φ S0 H0, SPost (km X) W B φ S0 H0 D (h c a ρ S) → ∀ φ' σ' H' cls d, Fr φ S0 H0 φ' S H' → Rel (km X) B φ' ρ S σ' H' → ExcAt X.K X.mg (Mu B φ' S) φ' H' c a cls d → W2 cls d σ' H') : tS (km X) W2 b D σ H := by
  obtain ⟨B, φ, ρ, S, g, q⟩ := q
  refine ⟨B, φ, ρ, S, g, ?_⟩
  unfold tryM at q
  cases e : b ρ S with
  | exc c a ρ1 S1 => rw [e] at q; exact hx c a ρ1 S1 B φ S H q
  | nx ρ1 S1 => rw [e] at q; exact q
  | bk ρ1 S1 => rw [e] at q; exact q
  | ct ρ1 S1 => rw [e] at q; exact q
  | rt v S1 => rw [e] at q; exact q
  | fail => rw [e] at q; exact q.elim
def hRet (cn : Str) (i : Nat) (s : Str) : Str → PV → En → Sto → SR := fun c a ρ S => if c = cn ∧ i < ρ.length then .rt (.tup [.str s, a]) S else .fail
def hAsg (cn : Str) (i j : Nat) (s : Str) : Str → PV → En → Sto → SR := fun c a ρ S => if c = cn ∧ i < ρ.length then .nx ((ρ.set j (some (.tup [.str s, a]))).set i none) S else .fail
/-- the pair, made in the suite -/
theorem pair_go {B : Addr → Prop} {φ : List Addr} {ρ : En} {S : Sto} {σ : L2.St} {H : Hp} {a : PV} {s : Str} {cls : Value} {d : Option Addr} {i : Nat} {Q : VK} {e : Addr} (T : MirX.Txt X.prog X.K X.mg cn (MirX.fnm f) tx qual C fI) (hf : fieldOf cn = MirX.fnm f)
    (g : Rel (km X) B φ ρ S σ H) (x : ExcAt X.K X.mg (Mu B φ S) φ H cn a cls d) (hi : i < σ.length) (q : ∀ v p, H p = none → RV X.K (Mu B φ S) φ H a v → Q (.ref p) (upd H p (.tup [.str s, v]))) :
    cls = .ref C ∧ tTup (tCons (tC (.str s)) (tCons (tXf e cls d C (MirX.fnm f) (tVar i)) tNil)) (σ.set i (some (.ref e))) H Q := by
  obtain ⟨C2, dd, v, h1, h2, h3, h4, h5⟩ := x
  have hC : C2 = C := by
    have := h3.symm.trans T.gC
    cases this; rfl
  subst hC; subst h1; subst h2
  refine ⟨rfl, .ref e, by rw [List.getElem?_set_self hi], rfl, rfl, dd, [(MirX.fnm f, v)], v, rfl, ?_, by simp [List.lookup], by show 2 ≤ sizeLine; decide, fun p hp => q v p hp h5⟩
  rw [← hf]; exact h4
variable {body : List Stmt} {mb : SM} {n : Str} {i : Nat} {np pos pos' p1 p2 p3 p4 p5 p6 : Pos} {s : Str} {k2 : Nat}
theorem ss_tryR (hc : X.calm = true) (hs : X.stack = X.env :: X.outer) (hf : X.env.frame = some X.env.locals) (hN : X.N.Nodup) (hi : X.N[i]? = some n) (hln : X.env.kindOf n = some .local) (T : MirX.Txt X.prog X.K X.mg cn (MirX.fnm f) tx qual C fI) (hfo : fieldOf cn = MirX.fnm f) (hg : Gl X cn) (hdb : (cn == ("__debug__" : Str)) = false) (tk : Takes X W)
    (hb : ∀ (W2 : WX) (pn : List (Addr × Obj)) (xe : Value → Shared → Prop), Takes (X.tr pn xe) W2 → PassesOwn (model X.prog X.w) X.A X.env xe → SB (X.tr pn xe) W2 body mb)
    (hd : (n == ("__debug__" : Str)) = false) (hcd : (n == ("__classdict__" : Str)) = false) (hab : attributeBase (.Name n p2) (MirX.fnm f) X.env (eval (.Name n p2) X.env) = eval (.Name n p2) X.env := by rfl) :
    SS X W (.Try body [.ExceptHandler (some (.Name cn np)) (some n) [.Return (some (.Tuple [.Constant (.str s) 0 p1, .Attribute (.Name n p2) (MirX.fnm f) p3] k2 p4)) p5] pos'] [] [] pos) (tryM mb (hRet cn i s)) := by
  have hsu : ∀ (a : Addr) (oe : Obj) (cls : Value) (d : Option Addr) (pn : List (Addr × Obj)), Zc cls d oe → (∃ vs, oe.data = .fields vs) → PSs (X.suite a ((a, oe) :: pn)) [.Return (some (.Tuple [.Constant (.str s) 0 p1, .Attribute (.Name n p2) (MirX.fnm f) p3] k2 p4)) p5]
      (tRet (tTup (tCons (tC (.str s)) (tCons (tXf a cls d C (MirX.fnm f) (tVar i)) tNil)))) := fun a oe cls d pn hz hv =>
    pss_one (ps_ret (pe_tup (pa_cons pe_str (pa_cons (pe_xf T.xf T.noN hz hv (pe_var hi (.inl hln) hd hcd) hab) pa_nil))))
  refine PS.via (ps_try_as (tb := fun W2 => tS (km X) W2 mb) hs hf hN hi hln ⟨hg, hdb, .inl T.gC⟩ tk (fun W2 pn xe t o => hb W2 pn xe t o) hsu) fun D σ H q => ?_
  refine tryM_run q fun c a ρ S B φ S0 H0 q1 φ' σ' H' cls d fr g x => ?_
  unfold hRet at q1
  split at q1
  · rename_i hcn
    obtain ⟨rfl, hl⟩ := hcn
    have hlen : i < σ'.length := by rw [← g.env.len]; exact hl
    have hex : PySem.W.exmOne X.K cls (.ref C) = some true := by
      obtain ⟨C2, dd, v, h1, h2, h3, h4, h5⟩ := x
      have := h3.symm.trans T.gC
      cases this
      rw [h1]; exact T.te
    refine ⟨true, hex, fun _ e he => ?_, fun z => by cases z⟩
    refine (pair_go T hfo g x hlen fun v p hp rv => ?_).2
    have fr2 := fr_upd (φ := φ') (S := S) (o := HO.tup [.str s, v]) hp
    refine q1 φ' (.ref p) _ (fr.trans fr2) (g.ag.upd hp) ?_
    unfold RV
    exact ⟨p, _, rfl, upd_same, .cons (.str s) (.cons (rv.stay g.ag fr2) .nil)⟩
  · exact q1.elim
theorem ss_tryA {j : Nat} {y : Str} (hc : X.calm = true) (hs : X.stack = X.env :: X.outer) (hf : X.env.frame = some X.env.locals) (hN : X.N.Nodup) (hi : X.N[i]? = some n) (hln : X.env.kindOf n = some .local) (T : MirX.Txt X.prog X.K X.mg cn (MirX.fnm f) tx qual C fI) (hfo : fieldOf cn = MirX.fnm f) (hg : Gl X cn) (hdb : (cn == ("__debug__" : Str)) = false) (tk : Takes X W)
    (hb : ∀ (W2 : WX) (pn : List (Addr × Obj)) (xe : Value → Shared → Prop), Takes (X.tr pn xe) W2 → PassesOwn (model X.prog X.w) X.A X.env xe → SB (X.tr pn xe) W2 body mb)
    (hd : (n == ("__debug__" : Str)) = false) (hcd : (n == ("__classdict__" : Str)) = false) (hj : X.N[j]? = some y) (hy : Loc X.env.scope y) (hfy : X.fn y = true ∨ X.env.scope.names.lookup y = some .local) (hab : attributeBase (.Name n p2) (MirX.fnm f) X.env (eval (.Name n p2) X.env) = eval (.Name n p2) X.env := by rfl)
    (hsw : swapsWith (.Tuple [.Constant (.str s) 0 p1, .Attribute (.Name n p2) (MirX.fnm f) p3] k2 p4) (some (.Name y np)) p5.line X.env = pure false := by rfl) :
    SS X W (.Try body [.ExceptHandler (some (.Name cn p6)) (some n) [.Assign [.Name y np] (.Tuple [.Constant (.str s) 0 p1, .Attribute (.Name n p2) (MirX.fnm f) p3] k2 p4) p5] pos'] [] [] pos) (tryM mb (hAsg cn i j s)) := by
  have hsu : ∀ (a : Addr) (oe : Obj) (cls : Value) (d : Option Addr) (pn : List (Addr × Obj)), Zc cls d oe → (∃ vs, oe.data = .fields vs) → PSs (X.suite a ((a, oe) :: pn)) [.Assign [.Name y np] (.Tuple [.Constant (.str s) 0 p1, .Attribute (.Name n p2) (MirX.fnm f) p3] k2 p4) p5]
      (tAsg (tTup (tCons (tC (.str s)) (tCons (tXf a cls d C (MirX.fnm f) (tVar i)) tNil))) (gName j)) := fun a oe cls d pn hz hv =>
    pss_one (ps_set hN hj hy (pe_tup (pa_cons pe_str (pa_cons (pe_xf T.xf T.noN hz hv (pe_var hi (.inl hln) hd hcd) hab) pa_nil))) hsw hfy)
  refine PS.via (ps_try_as (tb := fun W2 => tS (km X) W2 mb) hs hf hN hi hln ⟨hg, hdb, .inl T.gC⟩ tk (fun W2 pn xe t o => hb W2 pn xe t o) hsu) fun D σ H q => ?_
  refine tryM_run q fun c a ρ S B φ S0 H0 q1 φ' σ' H' cls d fr g x => ?_
  unfold hAsg at q1
  split at q1
  · rename_i hcn
    obtain ⟨rfl, hl⟩ := hcn
    have hlen : i < σ'.length := by rw [← g.env.len]; exact hl
    have hex : PySem.W.exmOne X.K cls (.ref C) = some true := by
      obtain ⟨C2, dd, v, h1, h2, h3, h4, h5⟩ := x
      have := h3.symm.trans T.gC
      cases this
      rw [h1]; exact T.te
    refine ⟨true, hex, fun _ e he => ?_, fun z => by cases z⟩
    refine (pair_go T hfo g x hlen fun v p hp rv => ?_).2
    have fr2 := fr_upd (φ := φ') (S := S) (o := HO.tup [.str s, v]) hp
    have g2 := g.stay fr2 (g.ag.upd hp)
    have rv2 : RV X.K (Mu B φ' S) φ' (L2.upd H' p (HO.tup [.str s, v])) (.tup [.str s, a]) (.ref p) := by
      unfold RV
      exact ⟨p, _, rfl, upd_same, .cons (.str s) (.cons (rv.stay g.ag fr2) .nil)⟩
    refine q1 φ' _ _ (fr.trans fr2) ⟨g2.ag, ?_, fun k q hk => ?_⟩
    · simp [g2.env.len]
    · by_cases hki : k = i
      · subst hki
        rw [List.getElem?_set] at hk
        split at hk
        · split at hk <;> cases hk
        · exact absurd rfl (by assumption)
      · rw [List.getElem?_set_ne (Ne.symm hki)] at hk
        rw [List.getElem?_set_ne (Ne.symm hki)]
        by_cases hkj : k = j
        · subst hkj
          have hkl : k < ρ.length := by
            have := (List.getElem?_eq_some_iff.mp hk).1
            simpa using this
          rw [List.getElem?_set_self hkl] at hk
          cases hk
          refine ⟨.ref p, ?_, rv2⟩
          rw [List.getElem?_set_self (by simpa [← g2.env.len] using hkl)]
        · rw [List.getElem?_set_ne (Ne.symm hkj)] at hk
          rw [List.getElem?_set_ne (Ne.symm hkj), List.getElem?_set_ne (Ne.symm hki)]
          exact g2.env.get k q hk
  · exact q1.elim
end
end Mir
/-! Mir: the ends. -/
namespace Mir
open PySem PySem.Spec PyProof.Rows L2
/-- a law's promise -/
def spL (K : PySem.W.Frag) : Sp := fun vs H Q _ => ∃ (a : Addr) (ns : List Int), vs = [.ref a] ∧ ns.length ≤ 63 ∧ (∀ z ∈ ns, Builtin.Int.intBits z ≤ 1048576) ∧ Only H ∧ SqL K H a (ns.map V.int) ∧ ∀ H', Q (.bl true) H'
/-- what a law's mirror must do -/
def LawOk (m : FM) : Prop := ∀ ns : List Int, ns.length ≤ 63 → (∀ z ∈ ns, Builtin.Int.intBits z ≤ 1048576) → ∃ S, m [.fls (ns.map .int)] [] = .ok (.bl true) S
theorem spL_imp {K : PySem.W.Frag} {mg : Str → Option Value} {m : FM} (hm : LawOk m) {vs : List V} {H : Hp} {Q : VK} {E : XK} (h : spL K vs H Q E) : spM ⟨K, mg⟩ 1 m vs H Q E := by
  obtain ⟨a, ns, rfl, hl, hb, hO, hS, q⟩ := h
  obtain ⟨S, e⟩ := hm ns hl hb
  refine ⟨rfl, fun _ => False, [], [], [.fls (ns.map .int)], ⟨rfl, List.nodup_nil, (fun a h => by simp at h), (fun a h => h.elim), (fun a h => by simp at h), fun n o a h _ => by simp at h⟩, .cons ?_ .nil, ?_⟩
  · unfold RV
    refine ⟨a, ns.map V.int, rfl, ?_, rvs_ints ns⟩
    rcases hS with (hS | ⟨o, hS⟩) | hS
    · rcases hO a with z | ⟨o, xs, z⟩ <;> (rw [hS] at z; cases z)
    · exact .inl ⟨o, hS⟩
    · exact .inr hS
  · rw [e]
    intro φ' v' H' _ _ rv
    cases rv.bl_eq
    exact q H'
theorem cx_none {P : Program} {w : World} {H : Hp} {s : Shared} {e : Value} {s' : Shared} (h : L2.CX P w [] H s (fun _ _ _ => False) e s') : False := by
  unfold L2.CX at h
  obtain ⟨_, _, _, _, _, _, h⟩ := h
  repeat (first | exact h | exact h.elim | (obtain ⟨_, h⟩ := h))
theorem exm_me {K : PySem.W.Frag} {S : Addr} (a1 : PySem.W.subIn K (.ref S) (.type "BaseException") = some true) (a2 : PySem.W.isClsIn K S = true) (a3 : PySem.W.typeIn K (.ref S) = some (.type "type")) (a4 : PySem.W.subIn K (.ref S) (.ref S) = some true) : PySem.W.exmOne K (.ref S) (.ref S) = some true := by
  have z1 : (PySem.W.subIn K (.ref S) (.type "BaseException") == some true) = true := by rw [a1]; rfl
  have z2 : ((PySem.W.clsIn K S).isSome && PySem.W.typeIn K (.ref S) == some (.type "type")) = true := by
    have z3 : (PySem.W.clsIn K S).isSome = true := a2
    rw [z3, a3]; rfl
  unfold PySem.W.exmOne
  rw [if_pos z1]
  show (if ((PySem.W.clsIn K S).isSome && PySem.W.typeIn K (.ref S) == some (.type "type")) = true then PySem.W.subIn K (.ref S) (.ref S) else none) = some true
  rw [if_pos z2]; exact a4
section
variable {P : Program} {K : PySem.W.Frag} {h : Heap} {mg : Str → Option Value}
theorem txt_mk {cn tx qual : Str} {f : Bool} {C fI O : Addr} (X : K.In h) (G : h.Ns mainGlobals mg)
    {nm q : Str} {N : Addr} {bs bm : List Value} {sn : List Str} {sub : List Value} {ab : Bool} {col : Option Bool} {dd : Option Addr} {m0 m1 m2 m3 m5 : Option Value}
    {od1 an1 cdd cld : Option Addr} {sl1 ccs csl : Array (Option Value)} {oc1 dc1 pm1 ct1 ccl cl : Value} {cda cc : Addr} {vs : Array Value} {file : Str} {tf : Tok} {p1 p2 q0 q1 q2 q3 q4 q5 q6 q7 q8 q9 : Pos}
    (aC : PySem.W.nsIn K mainGlobals cn = some (some (.ref C))) (zS : PySem.W.nsIn K mainGlobals "super" = some none)
    (xL : K.lookup C = some (excClassObj nm q C N bs bm true sn sub ab col dd m0 m1 m2 m3 m5 "ValueError.__new__")) (hb : PySem.HandSPX.refsVE bm = true)
    (su : PySem.W.ks_superIn K C C "__init__" = some (some (.builtin "ValueError.__init__"))) (sf : PySem.W.mroIn K C (.ref C) = some true) (oq : PySem.W.nsIn K cStatics "thirdparty.any" = some none) (sV : PySem.W.subIn K (.ref C) (.type "ValueError") = some true)
    (sa : PySem.W.findIn K (.ref C) "__setattr__" = some (some (.builtin "object.__setattr__"))) (ga : PySem.W.findIn K (.ref C) "__getattribute__" = some (some (.builtin "BaseException.__getattribute__"))) (gg : PySem.W.findIn K (.ref C) "__getattr__" = some none) (nb : PySem.W.findIn K (.ref C) (MirX.fnm f) = some none)
    (a1 : PySem.W.findIn K (.ref C) "__init__" = some (some (.ref fI))) (t1 : PySem.W.typeIn K (.ref fI) = some (.type "function"))
    (l1 : K.lookup fI = some ⟨oc1, od1, .func (PySem.W.ksFn "__init__" qual (MirX.iA (MirX.fnm f) p1 p2) (MirX.iB (MirX.fnm f) tx q0 q1 q2 q3 q4 q5 q6 q7 q8 q9) (MirX.iS (MirX.fnm f)) .none .none dc1 pm1 an1 (.ref cda) ct1 cc), sl1⟩) (c1 : PySem.W.codeIn K (.ref cda) qual = true)
    (lc : K.lookup cc = some ⟨cl, cld, .cell (some (.ref C)), csl⟩) (ld : K.lookup cda = some ⟨ccl, cdd, .fields vs, ccs⟩) (hv : vs[2]? = some (.str file tf)) (hfl : (P.main.file == file) = true) (hln : (q2.endLine == q4.line) = true)
    (kC : PySem.W.keepIn K (.ref C) = true) (eC : PySem.W.subIn K (.ref C) (.type "BaseException") = some true) (tC : PySem.W.typeIn K (.ref C) = some (.type "type")) (hC : PySem.W.hasDictIn K C = true) (iC : PySem.W.isClsIn K C = true) (sC : PySem.W.subIn K (.ref C) (.ref C) = some true)
    (tp : (P.main.scope.names.lookup ("super" : Str)).isSome = false) : MirX.Txt P K mg cn (MirX.fnm f) tx qual C fI :=
  { gC := PySem.W.mg_of X G aC, gS := PySem.W.mg_none_of X G zS, cls := ⟨nm, q, N, bs, bm, sn, sub, ab, col, dd, m0, m1, m2, m3, m5, xL, hb⟩, sup := su, slf := sf, opq := oq, sVE := sV, sa := sa, xf := ⟨ga, gg, eC, hC⟩, noN := nb, iC := a1, tC := t1, kC := kC, exC := eC, tyC := tC,
    te := exm_me eC iC tC sC, top := tp, fn := ⟨oc1, ccl, cl, dc1, pm1, ct1, od1, an1, cdd, cld, cda, cc, sl1, ccs, csl, vs, file, tf, p1, p2, q0, q1, q2, q3, q4, q5, q6, q7, q8, q9, l1, c1, lc, ld, hv, hfl, hln⟩ }
theorem funD_mk {x qual : Str} {st : Stmt} {f T : Addr} {oc o_c : Value} {od an o_d : Option Addr} {osl o_s : Array (Option Value)} {kV doc pm cdv ct : Value} {its : List Value} {n : Nat} {dvs : List V} (l : K.lookup f = some ⟨oc, od, .func (PySem.W.fnOf x qual (defArgs st) (defBody st) (defScope st) (.ref T) kV doc pm an cdv ct), osl⟩)
    (lT : K.lookup T = some ⟨o_c, o_d, .seq its.toArray n, o_s⟩) (hd : dvs ≠ []) (hv : Vals dvs its) (c : PySem.W.codeIn K cdv qual = true) (k : PySem.W.keepIn K (.ref f) = true) : FunD K x qual (defArgs st) (defBody st) (defScope st) dvs [] f (PySem.W.fnOf x qual (defArgs st) (defBody st) (defScope st) (.ref T) kV doc pm an cdv ct) :=
  ⟨⟨oc, od, .ref T, kV, doc, pm, an, cdv, ct, osl, rfl, l, c, .inr ⟨hd, T, _, its, n, rfl, lT, rfl, hv⟩, .inl rfl⟩, k⟩
end
end Mir
/-! MirW: what a plain run must give, read backwards. -/
namespace Mir
open PySem PySem.Spec PyProof.Rows L2
abbrev XP := Str → PV → Sto → Prop
abbrev XS := Str → PV → En → Sto → Prop
def W {α : Type} (r : R α) (E : XP) (Q : α → Sto → Prop) : Prop := match r with
  | .ok v S => Q v S
  | .exc c a S => E c a S
  | .fail => False
def WS (r : SR) (E : XS) (N : En → Sto → Prop) (T : PV → Sto → Prop) : Prop := match r with
  | .nx ρ S => N ρ S
  | .rt v S => T v S
  | .exc c a ρ S => E c a ρ S
  | _ => False
abbrev nE : XP := fun _ _ _ => False
abbrev nX : XS := fun _ _ _ _ => False
section
variable {α β : Type} {E : XP} {X : XS} {ρ : En} {S : Sto} {N : En → Sto → Prop} {T : PV → Sto → Prop} {Q : PV → Sto → Prop}
@[simp] theorem W_ok {v : α} {Q : α → Sto → Prop} : W (.ok v S) E Q = Q v S := propext Iff.rfl
@[simp] theorem W_exc {c : Str} {a : PV} {Q : α → Sto → Prop} : W (.exc c a S) E Q = E c a S := propext Iff.rfl
@[simp] theorem W_fail {Q : α → Sto → Prop} : W (.fail : R α) E Q = False := propext Iff.rfl
@[simp] theorem W_bind {r : R α} {f : α → Sto → R β} {Q : β → Sto → Prop} : W (r.bind f) E Q = W r E fun v S => W (f v S) E Q := by cases r <;> rfl
@[simp] theorem W_of {o : Option α} {Q : α → Sto → Prop} : W (R.of S o) E Q ↔ ∃ v, o = some v ∧ Q v S := by cases o <;> simp [R.of, W]
@[simp] theorem WS_bindS {r : R α} {f : α → Sto → SR} : WS (r.bindS ρ f) X N T = W r (fun c a S => X c a ρ S) fun v S => WS (f v S) X N T := by cases r <;> rfl
@[simp] theorem WS_nx : WS (.nx ρ S) X N T = N ρ S := propext Iff.rfl
@[simp] theorem WS_rt {v : PV} : WS (.rt v S) X N T = T v S := propext Iff.rfl
@[simp] theorem WS_seq {a b : SM} : WS (sSeq a b ρ S) X N T = WS (a ρ S) X (fun ρ S => WS (b ρ S) X N T) T := by
  unfold sSeq; cases a ρ S <;> rfl
@[simp] theorem WS_nil : WS (sNil ρ S) X N T = N ρ S := propext Iff.rfl
@[simp] theorem W_fin {r : SR} {S0 : Sto} : W (fin S0 r) E Q = WS r (fun c a _ S => E c a S) (fun _ S => Q .non S) Q := by cases r <;> rfl
theorem W_mono {r : R α} {E E' : XP} {Q Q' : α → Sto → Prop} (h : W r E Q) (q : ∀ v S, Q v S → Q' v S) (e : ∀ c a S, E c a S → E' c a S := by intros; assumption) : W r E' Q' := by
  cases r with
  | ok v S => exact q _ _ h
  | exc c a S => exact e _ _ _ h
  | fail => exact h
theorem WS_mono {r : SR} {X X' : XS} {N N' : En → Sto → Prop} {T T' : PV → Sto → Prop} (h : WS r X N T) (n : ∀ ρ S, N ρ S → N' ρ S) (t : ∀ v S, T v S → T' v S) (x : ∀ c a ρ S, X c a ρ S → X' c a ρ S := by intros; assumption) : WS r X' N' T' := by
  cases r with
  | nx ρ S => exact n _ _ h
  | rt v S => exact t _ _ h
  | exc c a ρ S => exact x _ _ _ _ h
  | _ => exact h
theorem W_get {r : R α} {Q : α → Sto → Prop} (h : W r nE Q) : ∃ v S, r = .ok v S ∧ Q v S := by
  cases r with
  | ok v S => exact ⟨v, S, rfl, h⟩
  | _ => exact h.elim
@[simp] theorem W_var {i : Nat} : W (eVar i ρ S) E Q ↔ ∃ v, ρ[i]? = some (some v) ∧ Q v S := by
  unfold eVar
  rcases h : ρ[i]? with _ | _ | v <;> simp [W]
@[simp] theorem W_c {v : PV} : W (eC v ρ S) E Q = Q v S := propext Iff.rfl
@[simp] theorem W_bin {f : P2} {a b : EM} : W (eBin f a b ρ S) E Q = W (a ρ S) E fun x S => W (b ρ S) E fun y S => W (f x y S) E Q := by simp only [eBin, W_bind]
@[simp] theorem W_tbin {f : P2} {a b : EM} {Q : Bool → Sto → Prop} : W (tBin f a b ρ S) E Q = W (a ρ S) E fun x S => W (b ρ S) E fun y S => W (f x y S) E fun v S => ∃ c, v = .bl c ∧ Q c S := by
  simp only [tBin, W_bind, W_bin]
  congr; funext x S; congr; funext y S; congr; funext v S
  cases v <;> simp [W]
@[simp] theorem W_ttru {a : EM} {Q : Bool → Sto → Prop} : W (tTru a ρ S) E Q = W (a ρ S) E fun x S => ∃ c, truth S x = some c ∧ Q c S := by simp only [tTru, W_bind, W_of]
@[simp] theorem W_tnot {a : TM} {Q : Bool → Sto → Prop} : W (tNotT a ρ S) E Q = W (a ρ S) E fun c S => Q (!c) S := by simp only [tNotT, W_bind, W_ok]
@[simp] theorem W_tand {a b : TM} {Q : Bool → Sto → Prop} : W (tAndM a b ρ S) E Q = W (a ρ S) E fun c S => if c then W (b ρ S) E Q else Q false S := by
  simp only [tAndM, W_bind]; congr; funext c S; cases c <;> rfl
@[simp] theorem W_tor {a b : TM} {Q : Bool → Sto → Prop} : W (tOrM a b ρ S) E Q = W (a ρ S) E fun c S => if c then Q true S else W (b ρ S) E Q := by
  simp only [tOrM, W_bind]; congr; funext c S; cases c <;> rfl
@[simp] theorem W_and {a b : EM} : W (eAnd a b ρ S) E Q = W (a ρ S) E fun x S => ∃ c, truth S x = some c ∧ if c then W (b ρ S) E Q else Q x S := by
  simp only [eAnd, W_bind]; congr; funext x S; rcases truth S x with _ | _ | _ <;> simp [W]
@[simp] theorem W_or {a b : EM} : W (eOr a b ρ S) E Q = W (a ρ S) E fun x S => ∃ c, truth S x = some c ∧ if c then Q x S else W (b ρ S) E Q := by
  simp only [eOr, W_bind]; congr; funext x S; rcases truth S x with _ | _ | _ <;> simp [W]
@[simp] theorem W_not {a : EM} : W (eNot a ρ S) E Q = W (a ρ S) E fun x S => ∃ c, truth S x = some c ∧ Q (.bl (!c)) S := by
  simp only [eNot, W_bind]; congr; funext x S; rcases truth S x with _ | _ | _ <;> simp [W]
@[simp] theorem W_eif {c : TM} {a b : EM} : W (eIf c a b ρ S) E Q = W (c ρ S) E fun d S => if d then W (a ρ S) E Q else W (b ρ S) E Q := by
  simp only [eIf, W_bind]; congr; funext d S; cases d <;> rfl
@[simp] theorem W_neg {a : EM} : W (eNeg a ρ S) E Q = W (a ρ S) E fun x S => ∃ i, x = .int i ∧ Q (.int (-i)) S := by
  simp only [eNeg, W_bind]; congr; funext x S; cases x <;> simp [W]
@[simp] theorem W_anil {Q : List PV → Sto → Prop} : W (aNil ρ S) E Q = Q [] S := propext Iff.rfl
@[simp] theorem W_acons {a : EM} {r : AM} {Q : List PV → Sto → Prop} : W (aCons a r ρ S) E Q = W (a ρ S) E fun x S => W (r ρ S) E fun xs S => Q (x :: xs) S := by simp only [aCons, W_bind, W_ok]
@[simp] theorem W_tup {r : AM} : W (eTup r ρ S) E Q = W (r ρ S) E fun xs S => xs.length ≤ lim ∧ Q (.tup xs) S := by
  simp only [eTup, W_bind]; congr; funext x S; split <;> (rename_i h; first | simp only [W_ok, h, true_and]; done | simp only [W_fail, h, false_and])
@[simp] theorem W_lst {r : AM} : W (eLst r ρ S) E Q = W (r ρ S) E fun xs S => xs.length ≤ lim ∧ Q (.lst xs) S := by
  simp only [eLst, W_bind]; congr; funext x S; split <;> (rename_i h; first | simp only [W_ok, h, true_and]; done | simp only [W_fail, h, false_and])
@[simp] theorem W_new {r : AM} : W (eNew r ρ S) E Q = W (r ρ S) E fun xs S => xs.length ≤ lim ∧ Q (.loc S.length) (S ++ [some (.lst xs)]) := by
  simp only [eNew, W_bind]; congr; funext x S; split <;> (rename_i h; first | simp only [W_ok, h, true_and]; done | simp only [W_fail, h, false_and])
@[simp] theorem W_prim {f : PM} {r : AM} : W (ePrim f r ρ S) E Q = W (r ρ S) E fun vs S => W (f vs S) E Q := by simp only [ePrim, W_bind]
@[simp] theorem W_call {ad : Bool} {m : FM} {n : Nat} {a : AM} {ds : List PV} : W (eCall ad m n a ds ρ S) E Q = W (a ρ S) E fun vs S => (vs ++ ds).length = n ∧ W (callM ad m (vs ++ ds) S) E Q := by
  simp only [eCall, W_bind]; congr; funext x S; split <;> (rename_i h; first | simp only [W_ok, h, true_and]; done | simp only [W_fail, h, false_and])
@[simp] theorem W_callK {ad : Bool} {m : FM} {n k : Nat} {a : AM} {ix : List Nat} {ds : List PV} : W (eCallK ad m n k a ix ds ρ S) E Q = W (a ρ S) E fun vs S => (vs.length = k ∧ (ix.filterMap ((vs ++ ds)[·]?)).length = n) ∧ W (callM ad m (ix.filterMap ((vs ++ ds)[·]?)) S) E Q := by
  simp only [eCallK, W_bind]; congr; funext x S; split <;> (rename_i h; first | simp only [W_ok, h, true_and]; done | simp only [W_fail, h, false_and])
@[simp] theorem W_isi {f : String → Bool} {m : EM} : W (eIsi f m ρ S) E Q = W (m ρ S) E fun x S => W (pIsi f x S) E Q := by simp only [eIsi, W_bind]
@[simp] theorem WS_nm {i : Nat} {m : EM} : WS (sNm i m ρ S) X N T = W (m ρ S) (fun c a S => X c a ρ S) fun v S => N (ρ.set i (some v)) S := by simp only [sNm, WS_bindS, WS_nx]
@[simp] theorem WS_ret {m : EM} : WS (sRet m ρ S) X N T = W (m ρ S) (fun c a S => X c a ρ S) T := by simp only [sRet, WS_bindS, WS_rt]
@[simp] theorem WS_expr {m : EM} : WS (sExpr m ρ S) X N T = W (m ρ S) (fun c a S => X c a ρ S) fun _ S => N ρ S := by simp only [sExpr, WS_bindS, WS_nx]
@[simp] theorem WS_if {c : TM} {a b : SM} : WS (sIf c a b ρ S) X N T = W (c ρ S) (fun c a S => X c a ρ S) fun d S => if d then WS (a ρ S) X N T else WS (b ρ S) X N T := by
  simp only [sIf, WS_bindS]; congr; funext d S; cases d <;> rfl
@[simp] theorem WS_par {i j : Nat} {m : AM} : WS (sPar i j m ρ S) X N T = W (m ρ S) (fun c a S => X c a ρ S) fun vs S => ∃ v w, vs = [v, w] ∧ N ((ρ.set i (some v)).set j (some w)) S := by
  simp only [sPar, WS_bindS]; congr; funext vs S
  rcases vs with _ | ⟨v, _ | ⟨w, _ | ⟨u, r⟩⟩⟩ <;> simp [WS, and_assoc]
@[simp] theorem WS_gok {r : SR} : WS (gOk r) X N T = WS r X N (fun _ _ => False) := by cases r <;> rfl
@[simp] theorem WS_set {m : EM} {t : GM} : WS (sSet m t ρ S) X N T = W (m ρ S) (fun c a S => X c a ρ S) fun v S => WS (t v ρ S) X N fun _ _ => False := by simp only [sSet, WS_bindS, WS_gok]
@[simp] theorem WS_for {m : AM} {t : GM} {b : SM} : WS (sFor m t b ρ S) X N T = W (m ρ S) (fun c a S => X c a ρ S) fun ps S => WS (frL t b ps ρ S) X N T := by simp only [sFor, WS_bindS]
@[simp] theorem WS_frNil {t : GM} {b : SM} : WS (frL t b [] ρ S) X N T = N ρ S := propext Iff.rfl
theorem WS_frCons {t : GM} {b : SM} {p : PV} {r : List PV} (h : WS (t p ρ S) X (fun ρ1 S1 => WS (b ρ1 S1) X (fun ρ2 S2 => WS (frL t b r ρ2 S2) X N T) T) fun _ _ => False) : WS (frL t b (p :: r) ρ S) X N T := by
  unfold frL
  cases e : t p ρ S with
  | nx ρ1 S1 =>
    rw [e] at h
    simp only [WS_nx] at h
    dsimp only
    cases e2 : b ρ1 S1 <;> rw [e2] at h <;> first | exact h | exact False.elim h
  | exc c a ρ1 S1 => rw [e] at h; exact h
  | _ => rw [e] at h; exact False.elim h
/-- a walk with what holds on the way -/
theorem WS_frInv {t : GM} {b : SM} (I : List PV → En → Sto → Prop) : ∀ (ps : List PV) (ρ : En) (S : Sto), I ps ρ S →
    (∀ p r ρ S, I (p :: r) ρ S → WS (t p ρ S) X (fun ρ1 S1 => WS (b ρ1 S1) X (fun ρ2 S2 => I r ρ2 S2) T) fun _ _ => False) → (∀ ρ S, I [] ρ S → N ρ S) → WS (frL t b ps ρ S) X N T
  | [], ρ, S, h, _, hn => hn ρ S h
  | p :: r, ρ, S, h, hs, hn => WS_frCons (WS_mono (hs p r ρ S h) (fun ρ1 S1 q => WS_mono q (fun ρ2 S2 q => WS_frInv I r ρ2 S2 q hs hn) fun _ _ q => q) fun _ _ q => q)
@[simp] theorem WS_gNm {i : Nat} {p : PV} : WS (gNm i p ρ S) X N T = N (ρ.set i (some p)) S := propext Iff.rfl
@[simp] theorem W_nx {r : R α} {f : α → Sto → R β} {Q : β → Sto → Prop} : W (r.nx f) nE Q = W r nE fun v S => W (f v S) nE Q := by cases r <;> rfl
theorem W_lc {nw : Bool} {mi : AM} {vs : List Nat} {t : CM} {c : TM} {m : EM} (h : W (mi ρ S) E fun ps S1 => W (lcL t c m (wipeE ρ vs) ps S1) nE fun ws S2 => ps.length ≤ lim ∧ if nw then Q (.loc S2.length) (S2 ++ [some (.lst ws)]) else Q (.lst ws) S2) : W (eLc nw mi vs t c m ρ S) E Q := by
  simp only [eLc, W_bind]
  refine W_mono h fun ps S1 q => ?_
  obtain ⟨ws, S2, e, hl, q⟩ := W_get q
  rw [e, R.nx, if_pos hl]
  cases nw <;> exact q
/-- each step gives one value -/
theorem W_lcAll {t : CM} {m : EM} {P : PV → Prop} {I : Sto → Prop} : ∀ (ps : List PV) (S : Sto), I S → (∀ p ∈ ps, ∀ S, I S → ∃ ρ1, t p ρ = some ρ1 ∧ W (m ρ1 S) nE fun v S' => P v ∧ I S') →
    W (lcL t tTrue m ρ ps S) nE fun ws S' => (ws.length = ps.length ∧ ∀ w ∈ ws, P w) ∧ I S'
  | [], S, h, _ => ⟨⟨rfl, by simp⟩, h⟩
  | p :: r, S, h, hs => by
    obtain ⟨ρ1, e, q⟩ := hs p List.mem_cons_self S h
    rw [lcL, e]
    simp only [W_nx]
    show W (R.ok true S) nE _
    simp only [W_ok, if_pos]
    simp only [W_nx]
    refine W_mono q fun v S1 ⟨pv, i1⟩ => ?_
    refine W_mono (W_lcAll r S1 i1 fun p' hp => hs p' (List.mem_cons_of_mem _ hp)) fun ws S2 ⟨⟨hl, hw⟩, i2⟩ => ?_
    exact ⟨⟨by simp [hl], fun w hw' => (List.mem_cons.mp hw').elim (fun e => e ▸ pv) (hw w)⟩, i2⟩
/-- the steps leave the store as it is -/
theorem lcL_pure {t : CM} {c : TM} {m : EM} {C : PV → Bool} {F : PV → PV} : ∀ (ps : List PV), (∀ p ∈ ps, ∃ ρ1, t p ρ = some ρ1 ∧ c ρ1 S = .ok (C p) S ∧ (C p = true → m ρ1 S = .ok (F p) S)) →
    lcL t c m ρ ps S = .ok ((ps.filter C).map F) S
  | [], _ => rfl
  | p :: r, hs => by
    obtain ⟨ρ1, e, h1, h2⟩ := hs p List.mem_cons_self
    have ih := lcL_pure r fun p' hp => hs p' (List.mem_cons_of_mem _ hp)
    rw [lcL, e]
    simp only [h1, R.nx]
    cases hc : C p with
    | false => simp [ih, hc]
    | true => simp [h2 hc, ih, hc, R.nx]
theorem W_lcPure {t : CM} {c : TM} {m : EM} (C : PV → Bool) (F : PV → PV) (ps : List PV) {Q : List PV → Sto → Prop} (hs : ∀ p ∈ ps, ∃ ρ1, t p ρ = some ρ1 ∧ c ρ1 S = .ok (C p) S ∧ (C p = true → m ρ1 S = .ok (F p) S)) (q : Q ((ps.filter C).map F) S) : W (lcL t c m ρ ps S) nE Q := by
  rw [lcL_pure ps hs]; exact q
theorem of_W {r : R α} {v : α} (h : W r nE fun v' S' => v' = v ∧ S' = S) : r = .ok v S := by
  obtain ⟨v', S', e, h1, h2⟩ := W_get h
  rw [e, h1, h2]
/-! leaves -/
@[simp] theorem W_pI {f : Int → Int → Option PV} {i j : Int} : W (pI f (.int i) (.int j) S) E Q ↔ ∃ v, f i j = some v ∧ Q v S := by simp only [pI, W_of]
@[simp] theorem W_addI {i j : Int} : W (pAdd (.int i) (.int j) S) E Q = Q (.int (i + j)) S := propext Iff.rfl
@[simp] theorem fSub_eq {i j : Int} : fSub i j = some (.int (i - j)) := rfl
@[simp] theorem fLt_eq {i j : Int} : fLt i j = some (.bl (decide (i < j))) := rfl
@[simp] theorem fLe_eq {i j : Int} : fLe i j = some (.bl (decide (i ≤ j))) := rfl
@[simp] theorem fGt_eq {i j : Int} : fGt i j = some (.bl (decide (j < i))) := rfl
@[simp] theorem fGe_eq {i j : Int} : fGe i j = some (.bl (decide (j ≤ i))) := rfl
@[simp] theorem ite_some_eq {c : Prop} [Decidable c] {a v : α} : ((if c then some a else none) = some v) ↔ c ∧ a = v := by split <;> simp_all
@[simp] theorem W_pint {i : Int} : W (pInt [.int i] S) E Q = Q (.int i) S := propext Iff.rfl
@[simp] theorem W_pabs {i : Int} : W (pAbs [.int i] S) E Q = Q (.int (if i < 0 then -i else i)) S := propext Iff.rfl
@[simp] theorem eqI {neg : Bool} {i j : Int} : W (pEq neg (.int i) (.int j) S) E Q = Q (.bl (if neg then !decide (i = j) else decide (i = j))) S := by
  have h : PyData.eqv (.int i) (.int j) = decide (i = j) := by
    simp only [PyData.eqv]
    by_cases h : i = j <;> simp [h]
  have hs : ∀ i : Int, SeqAt.shaped (.int i) = true := fun _ => rfl
  cases neg <;> simp only [pEq, eqP, drf, toD, hs, h, Bool.and_self, if_true, W_of, Option.some.injEq, exists_eq_left', Bool.false_eq_true, if_false]
@[simp] theorem truth_bl {b : Bool} : truth S (.bl b) = some b := rfl
theorem lstAt_iff {b : Nat} {ps : List PV} : lstAt S b = some ps ↔ S[b]? = some (some (.lst ps)) := by
  unfold lstAt; rcases S[b]? with _ | _ | _ | _ <;> simp
theorem atI_nat {l : List α} {n : Nat} : atI l (n : Int) = l[n]? := by
  unfold atI ixN
  rw [if_pos (by omega)]
  by_cases h : n < l.length
  · rw [if_pos (by omega)]; rfl
  · rw [if_neg (by omega)]; simp; omega
@[simp] theorem atI_zero {a : α} {r : List α} : atI (a :: r) 0 = some a := atI_nat (n := 0)
@[simp] theorem atI_one {a b : α} {r : List α} : atI (a :: b :: r) 1 = some b := atI_nat (n := 1)
theorem atI_of {l : List α} {i : Int} {v : α} (h : 0 ≤ i) (e : l[i.toNat]? = some v) : atI l i = some v := by
  have := atI_nat (l := l) (n := i.toNat)
  rw [Int.toNat_of_nonneg h] at this
  rw [this, e]
theorem ixN_of {n : Nat} {i : Int} (h : 0 ≤ i) (h2 : i < n) : ixN n i = some i.toNat := by unfold ixN; rw [if_pos h, if_pos h2]
@[simp] theorem W_ixLoc {b : Nat} {i : Int} : W (pIx (.loc b) (.int i) S) E Q ↔ ∃ ps, S[b]? = some (some (.lst ps)) ∧ ∃ v, atI ps i = some v ∧ Q v S := by
  simp only [pIx, seqL, lstL]
  cases h : lstAt S b with
  | none =>
    simp only [W_fail, false_iff]
    rintro ⟨ps, h2, _⟩
    rw [lstAt_iff.mpr h2] at h; cases h
  | some ps =>
    have h2 := lstAt_iff.mp h
    simp only [h2, Option.some.injEq, Ob.lst.injEq, exists_eq_left']
    cases atI ps i <;> simp
@[simp] theorem W_ixLst {ps : List PV} {i : Int} : W (pIx (.lst ps) (.int i) S) E Q ↔ ∃ v, atI ps i = some v ∧ Q v S := by
  simp only [pIx, seqL, lstL]; cases atI ps i <;> simp
@[simp] theorem W_ixFls {ps : List PV} {i : Int} : W (pIx (.fls ps) (.int i) S) E Q ↔ ∃ v, atI ps i = some v ∧ Q v S := by
  simp only [pIx, seqL, lstL]; cases atI ps i <;> simp
@[simp] theorem W_ixTup {ps : List PV} {i : Int} : W (pIx (.tup ps) (.int i) S) E Q ↔ ∃ v, atI ps i = some v ∧ Q v S := by
  simp only [pIx, seqL]; cases atI ps i <;> simp
@[simp] theorem WS_gSb {mo mi : EM} {p : PV} : WS (gSb mo mi p ρ S) X N T = W (mo ρ S) (fun c a S => X c a ρ S) fun o S => W (mi ρ S) (fun c a S => X c a ρ S) fun i S => WS (setAt o i p ρ S) X N T := by simp only [gSb, WS_bindS]
@[simp] theorem WS_setAt {n : Nat} {k : Int} {p : PV} : WS (setAt (.loc n) (.int k) p ρ S) X N T ↔ ∃ ps, S[n]? = some (some (.lst ps)) ∧ ∃ j, ixN ps.length k = some j ∧ N ρ (S.set n (some (.lst (ps.set j p)))) := by
  simp only [setAt]
  cases h : lstAt S n with
  | none =>
    simp only [WS, false_iff]
    rintro ⟨ps, h2, _⟩
    rw [lstAt_iff.mpr h2] at h; cases h
  | some ps =>
    have h2 := lstAt_iff.mp h
    simp only [h2, Option.some.injEq, Ob.lst.injEq, exists_eq_left']
    cases ixN ps.length k <;> simp [WS]
def rg1 : List PV → Sto → R (List PV) := fun vs S1 => match vs with
  | [.int j] => if inW j then .ok (rng 0 j.toNat) S1 else .fail
  | _ => .fail
@[simp] theorem W_range1 {r : AM} {Q : List PV → Sto → Prop} : W (iRange1 r ρ S) E Q = W (r ρ S) E fun vs S => W (rg1 vs S) E Q := by simp only [iRange1, W_bind]; rfl
@[simp] theorem W_rg1 {j : Int} {Q : List PV → Sto → Prop} : W (rg1 [.int j] S) E Q ↔ inW j = true ∧ Q (rng 0 j.toNat) S := by simp only [rg1]; split <;> simp [*]
def rg2 : List PV → Sto → R (List PV) := fun vs S1 => match vs with
  | [.int i, .int j] => if inW i && inW j then .ok (rng i (j - i).toNat) S1 else .fail
  | _ => .fail
@[simp] theorem W_range2 {r : AM} {Q : List PV → Sto → Prop} : W (iRange2 r ρ S) E Q = W (r ρ S) E fun vs S => W (rg2 vs S) E Q := by simp only [iRange2, W_bind]; rfl
@[simp] theorem W_rg2 {i j : Int} {Q : List PV → Sto → Prop} : W (rg2 [.int i, .int j] S) E Q ↔ (inW i = true ∧ inW j = true) ∧ Q (rng i (j - i).toNat) S := by simp only [rg2]; split <;> simp_all
@[simp] theorem W_iseq {m : EM} {Q : List PV → Sto → Prop} : W (iSeq m ρ S) E Q = W (m ρ S) E fun v S => ∃ ps, seqI v = some ps ∧ Q ps S := by simp only [iSeq, W_bind, W_of]
@[simp] theorem seqI_tup {ps : List PV} : seqI (.tup ps) = some ps := rfl
@[simp] theorem seqI_lst {ps : List PV} : seqI (.lst ps) = some ps := rfl
@[simp] theorem seqI_fls {ps : List PV} : seqI (.fls ps) = some ps := rfl
def en1 : List PV → Sto → R (List PV) := fun vs S1 => match vs with
  | [v] => R.of S1 ((seqI v).map enumP)
  | _ => .fail
@[simp] theorem W_enum {r : AM} {Q : List PV → Sto → Prop} : W (iEnumM r ρ S) E Q = W (r ρ S) E fun vs S => W (en1 vs S) E Q := by simp only [iEnumM, W_bind]; rfl
@[simp] theorem W_en1 {v : PV} {Q : List PV → Sto → Prop} : W (en1 [v] S) E Q ↔ ∃ ps, seqI v = some ps ∧ Q (enumP ps) S := by simp only [en1, W_of]; cases seqI v <;> simp
def zp1 : List PV → Sto → R (List PV) := fun vs S1 => match vs with
  | [v, u] => (match seqI v, seqI u with
    | some ps, some qs => .ok (zip2P ps qs) S1
    | _, _ => .fail)
  | _ => .fail
@[simp] theorem W_zip {r : AM} {Q : List PV → Sto → Prop} : W (iZipM r ρ S) E Q = W (r ρ S) E fun vs S => W (zp1 vs S) E Q := by simp only [iZipM, W_bind]; rfl
@[simp] theorem W_zp1 {v u : PV} {Q : List PV → Sto → Prop} : W (zp1 [v, u] S) E Q ↔ ∃ ps, seqI v = some ps ∧ ∃ qs, seqI u = some qs ∧ Q (zip2P ps qs) S := by simp only [zp1]; cases seqI v <;> cases seqI u <;> simp
@[simp] theorem W_lenLst {ps : List PV} : W (pLen [.lst ps] S) E Q = Q (.int ps.length) S := propext Iff.rfl
@[simp] theorem W_lenFls {ps : List PV} : W (pLen [.fls ps] S) E Q = Q (.int ps.length) S := propext Iff.rfl
@[simp] theorem W_lenTup {ps : List PV} : W (pLen [.tup ps] S) E Q = Q (.int ps.length) S := propext Iff.rfl
@[simp] theorem W_lenLoc {n : Nat} : W (pLen [.loc n] S) E Q ↔ ∃ ps, S[n]? = some (some (.lst ps)) ∧ Q (.int ps.length) S := by
  simp only [pLen, seqL, lstL]
  cases h : lstAt S n with
  | none =>
    simp only [W_fail, false_iff]
    rintro ⟨ps, h2, _⟩
    rw [lstAt_iff.mpr h2] at h; cases h
  | some ps => simp [lstAt_iff.mp h]
@[simp] theorem W_tupLst {ps : List PV} : W (pTuple [.lst ps] S) E Q = Q (.tup ps) S := propext Iff.rfl
@[simp] theorem WS_gTp {n : Nat} {r : GMs} {ps : List PV} : WS (gTp n r (.tup ps) ρ S) X N T ↔ ps.length = n ∧ WS (r ps ρ S) X N T := by
  simp only [gTp, tupL]; split <;> simp [WS, *]
@[simp] theorem WS_gsNil : WS (gsNil [] ρ S) X N T = N ρ S := propext Iff.rfl
@[simp] theorem WS_gsCons {i : Nat} {r : GMs} {p : PV} {ps : List PV} : WS (gsCons (gNm i) r (p :: ps) ρ S) X N T = WS (r ps (ρ.set i (some p)) S) X N T := propext Iff.rfl
@[simp] theorem W_append {n : Nat} {y : PV} : W (mAppend [.loc n, y] S) E Q ↔ ∃ ps, S[n]? = some (some (.lst ps)) ∧ ps.length < lim ∧ Q .non (S.set n (some (.lst (ps ++ [y])))) := by
  simp only [mAppend]
  cases h : lstAt S n with
  | none =>
    simp only [W_fail, false_iff]
    rintro ⟨ps, h2, _⟩
    rw [lstAt_iff.mpr h2] at h; cases h
  | some ps =>
    simp only [lstAt_iff.mp h, Option.some.injEq, Ob.lst.injEq, exists_eq_left']
    split <;> simp [*]
@[simp] theorem W_meL {f : PM} {o : EM} {r : AM} : W (eMeL f o r ρ S) E Q = W (o ρ S) E fun x S => ∃ ps, lstL S x = some ps ∧ W (r ρ S) E fun vs S => W (f (x :: vs) S) E Q := by
  simp only [eMeL, W_bind]; congr; funext x S
  cases lstL S x <;> simp [-R.bind]
@[simp] theorem lstL_loc {n : Nat} {ps : List PV} : lstL S (.loc n) = some ps ↔ S[n]? = some (some (.lst ps)) := lstAt_iff
/-! a call with no place of the store -/
theorem splitA_pure : ∀ {ps : List PV} (k : Nat), noLs ps = true → splitA ps k = some (ps, [])
  | [], _, _ => rfl
  | p :: r, k, h => by
    rw [noLs, Bool.and_eq_true] at h
    have ih := splitA_pure (ps := r) k h.2
    cases p <;> first | (simp [noL] at h; done) | simp [splitA, h.1, ih]
mutual
theorem deepT_noL {k : Nat} {S : Sto} : ∀ (p : PV), noL p = true → deepT k S p = some p
  | .non, _ => by simp [deepT]
  | .bl _, _ => by simp [deepT]
  | .int _, _ => by simp [deepT]
  | .str _, _ => by simp [deepT]
  | .tup ps, h => by rw [noL] at h; simp [deepT, deepTs_noL ps h]
  | .lst ps, h => by rw [noL] at h; simp [deepT, h]
  | .fls ps, h => by rw [noL] at h; simp [deepT, h]
  | .dct t ks ps, h => by rw [noL] at h; simp [deepT, h]
  | .loc n, h => by simp [noL] at h
theorem deepTs_noL {k : Nat} {S : Sto} : ∀ (ps : List PV), noLs ps = true → deepTs k S ps = some ps
  | [], _ => by simp [deepTs]
  | p :: ps, h => by
    rw [noLs, Bool.and_eq_true] at h
    simp [deepTs, deepT_noL p h.1, deepTs_noL ps h.2]
end
theorem backR_noL {ad : Bool} {ns : List Nat} {S1 S' : Sto} {v : PV} (h : noL v = true) : backR ad ns S1 S' v = .ok v S1 := by
  cases v <;> first | (simp [noL] at h; done) | simp [backR, deepT_noL _ h]
theorem call_pure {ad : Bool} {m : FM} {args : List PV} {v : PV} {T : Sto} (ha : noLs args = true) (e : m args [] = .ok v T) (hv : noL v = true) : callM ad m args S = .ok v S := by
  simp [callM, splitA_pure 0 ha, subS, e, backS, backR_noL hv]
theorem call_exc {ad : Bool} {m : FM} {args : List PV} {c : Str} {v : PV} {T : Sto} (ha : noLs args = true) (e : m args [] = .exc c v T) (hv : noL v = true) : callM ad m args S = .exc c v S := by
  simp [callM, splitA_pure 0 ha, subS, e, backS, hv]
/-! a call with one place of the store, the first -/
theorem call_one {ad : Bool} {m : FM} {xs as : List PV} {o o' : Ob} {v : PV} {b : Nat} {rest : Sto} (hs : splitA as 0 = some (xs, [b])) (h : S[b]? = some (some o)) (ho : noLO (some o) = true) (ho' : noLO (some o') = true) (hv : noL v = true) (e : m xs [some o] = .ok v (some o' :: rest)) : callM ad m as S = .ok v (S.set b (some o')) := by
  simp [callM, hs, subS, h, ho, e, ho', backS, backR_noL hv]
theorem call_oneNew {m : FM} {xs as : List PV} {o o' ob : Ob} {b k : Nat} {rest : Sto} (hs : splitA as 0 = some (xs, [b])) (h : S[b]? = some (some o)) (ho : noLO (some o) = true) (ho' : noLO (some o') = true) (hk : 1 ≤ k) (hb : (some o' :: rest)[k]? = some (some ob)) (hob : noLO (some ob) = true) (e : m xs [some o] = .ok (.loc k) (some o' :: rest)) : callM true m as S = .ok (.loc S.length) (S.set b (some o') ++ [some ob]) := by
  have : ¬ k < 1 := by omega
  simp [callM, hs, subS, h, ho, e, ho', backS, backR, this, hb, hob]
theorem call_new {m : FM} {as : List PV} {ob : Ob} {k : Nat} {T : Sto} (ha : noLs as = true) (hb : T[k]? = some (some ob)) (hob : noLO (some ob) = true) (e : m as [] = .ok (.loc k) T) : callM true m as S = .ok (.loc S.length) (S ++ [some ob]) := by
  simp [callM, splitA_pure 0 ha, subS, e, backS, backR, hb, hob]
theorem W_one {ad : Bool} {m : FM} {xs as : List PV} {o : Ob} {b : Nat} (hs : splitA as 0 = some (xs, [b])) (h : S[b]? = some (some o)) (ho : noLO (some o) = true) (w : W (m xs [some o]) nE fun v S' => noL v = true ∧ ∃ o' rest, S' = some o' :: rest ∧ noLO (some o') = true ∧ Q v (S.set b (some o'))) : W (callM ad m as S) E Q := by
  obtain ⟨v, S', e, hv, o', rest, rfl, ho', q⟩ := W_get w
  rw [call_one hs h ho ho' hv e]; exact q
theorem W_oneNew {m : FM} {xs as : List PV} {o : Ob} {b : Nat} (hs : splitA as 0 = some (xs, [b])) (h : S[b]? = some (some o)) (ho : noLO (some o) = true) (w : W (m xs [some o]) nE fun v S' => ∃ k o' rest ob, v = .loc k ∧ 1 ≤ k ∧ S' = some o' :: rest ∧ noLO (some o') = true ∧ S'[k]? = some (some ob) ∧ noLO (some ob) = true ∧ Q (.loc S.length) (S.set b (some o') ++ [some ob])) : W (callM true m as S) E Q := by
  obtain ⟨v, S', e, k, o', rest, ob, rfl, hk, rfl, ho', hb, hob, q⟩ := W_get w
  rw [call_oneNew hs h ho ho' hk hb hob e]; exact q
theorem W_new0 {m : FM} {as : List PV} (ha : noLs as = true) (w : W (m as []) nE fun v S' => ∃ k ob, v = .loc k ∧ S'[k]? = some (some ob) ∧ noLO (some ob) = true ∧ Q (.loc S.length) (S ++ [some ob])) : W (callM true m as S) E Q := by
  obtain ⟨v, S', e, k, ob, rfl, hb, hob, q⟩ := W_get w
  rw [call_new ha hb hob e]; exact q
theorem W_pure {ad : Bool} {m : FM} {as : List PV} (ha : noLs as = true) (w : W (m as []) nE fun v S' => noL v = true ∧ Q v S) : W (callM ad m as S) E Q := by
  obtain ⟨v, S', e, hv, q⟩ := W_get w
  rw [call_pure ha e hv]; exact q
theorem noLs_map {ι : Type} {f : ι → PV} {l : List ι} (h : ∀ i ∈ l, noL (f i) = true) : noLs (l.map f) = true := by
  induction l with
  | nil => rfl
  | cons a r ih => rw [List.map_cons, noLs, h a List.mem_cons_self, ih fun i hi => h i (List.mem_cons_of_mem _ hi)]; rfl
theorem noLs_ints (ns : List Int) : noLs (ns.map .int) = true := by
  induction ns with
  | nil => rfl
  | cons a r ih => simp [noLs, noL, ih]
theorem noLs_bls (ns : List Bool) : noLs (ns.map .bl) = true := by
  induction ns with
  | nil => rfl
  | cons a r ih => simp [noLs, noL, ih]
theorem W_lcMap {ι : Type} {t : CM} {c : TM} {m : EM} (g : ι → PV) (C : ι → Bool) (F : ι → PV) {Q : List PV → Sto → Prop} : ∀ (l : List ι), (∀ i ∈ l, ∃ ρ1, t (g i) ρ = some ρ1 ∧ W (c ρ1 S) nE (fun d S' => d = C i ∧ S' = S) ∧ (C i = true → W (m ρ1 S) nE fun v S' => v = F i ∧ S' = S)) →
    Q ((l.filter C).map F) S → W (lcL t c m ρ (l.map g) S) nE Q := by
  intro l hs q
  have : ∀ l : List ι, (∀ i ∈ l, ∃ ρ1, t (g i) ρ = some ρ1 ∧ W (c ρ1 S) nE (fun d S' => d = C i ∧ S' = S) ∧ (C i = true → W (m ρ1 S) nE fun v S' => v = F i ∧ S' = S)) → lcL t c m ρ (l.map g) S = .ok ((l.filter C).map F) S := by
    intro l
    induction l with
    | nil => intro _; rfl
    | cons p r ih =>
      intro hs
      obtain ⟨ρ1, e, h1, h2⟩ := hs p List.mem_cons_self
      have ih := ih fun p' hp => hs p' (List.mem_cons_of_mem _ hp)
      rw [List.map_cons, lcL, e]
      simp only [of_W h1, R.nx]
      cases hc : C p with
      | false => simp [ih, hc]
      | true => simp [of_W (h2 hc), ih, hc, R.nx]
  rw [this l hs]; exact q
theorem rng_zero {n : Nat} : rng 0 n = (List.range n).map fun (k : Nat) => PV.int k := by
  unfold rng; congr; funext k; simp
theorem rng_one {n : Nat} : rng 1 n = (List.range n).map fun (k : Nat) => PV.int ((k + 1 : Nat) : Int) := by
  unfold rng; congr; funext k; congr 1; omega
end
end Mir
/-! MirV: plain values told apart by a run of the kernel. -/
namespace Mir
open PySem PySem.Spec PyProof.Rows L2
mutual
def eqPV : PV → PV → Bool
  | .non, .non => true
  | .bl a, .bl b => a == b
  | .int a, .int b => decide (a = b)
  | .str a, .str b => decide (a = b)
  | .tup a, .tup b => eqPVs a b
  | .lst a, .lst b => eqPVs a b
  | .fls a, .fls b => eqPVs a b
  | _, _ => false
def eqPVs : List PV → List PV → Bool
  | [], [] => true
  | a :: r, b :: t => eqPV a b && eqPVs r t
  | _, _ => false
end
mutual
theorem eqPV_ok : ∀ (a b : PV), eqPV a b = true → a = b
  | a, b, h => by
    cases a <;> cases b <;> simp only [eqPV, Bool.false_eq_true] at h <;> first
      | rfl
      | (rw [eq_of_beq h])
      | (rw [of_decide_eq_true h])
      | (rw [eqPVs_ok _ _ h])
theorem eqPVs_ok : ∀ (a b : List PV), eqPVs a b = true → a = b
  | [], [], _ => rfl
  | [], _ :: _, h => by simp [eqPVs] at h
  | _ :: _, [], h => by simp [eqPVs] at h
  | a :: r, b :: t, h => by
    simp only [eqPVs, Bool.and_eq_true] at h
    rw [eqPV_ok a b h.1, eqPVs_ok r t h.2]
end
def okIs (r : R PV) (w : PV) : Bool := match r with
  | .ok v [] => eqPV v w
  | _ => false
theorem okIs_ok {r : R PV} {w : PV} (h : okIs r w = true) : r = .ok w [] := by
  unfold okIs at h
  split at h
  · rw [eqPV_ok _ _ h]
  · cases h
end Mir
/-! Mir: dicts. -/
namespace Mir
open PySem PySem.Spec PyProof.Rows L2
/-! ### keys -/
def gGet {κ : Type} [DecidableEq κ] (kf : PV → Option κ) (k : κ) : List PV → List PV → Option PV
  | p :: r, v :: s => if kf p = some k then some v else gGet kf k r s
  | _, _ => none
def gPut {κ : Type} [DecidableEq κ] (kf : PV → Option κ) (k : κ) (kp v : PV) (ks vs : List PV) : List PV × List PV :=
  if (ks.any fun p => decide (kf p = some k)) = true then (ks, List.zipWith (fun p w => if kf p = some k then v else w) ks vs) else (ks ++ [kp], vs ++ [v])
/-- what stands at y; none: y is no key -/
def dLook (t : Bool) (ks vs : List PV) (y : PV) : Option (Option PV) := if t then (keyT y).map fun k => gGet keyT k ks vs else (keyOf y).map fun k => gGet keyOf k ks vs
def dStore (t : Bool) (ks vs : List PV) (y v : PV) : Option (List PV × List PV) := if t then (keyT y).map fun k => gPut keyT k y v ks vs else (keyOf y).map fun k => gPut keyOf k y v ks vs
def dctAt (S : Sto) : PV → Option (Bool × List PV × List PV)
  | .dct t ks vs => some (t, ks, vs)
  | .loc n => match S[n]? with
    | some (some (.dct t ks vs)) => some (t, ks, vs)
    | _ => none
  | _ => none
section
variable {K : PySem.W.Frag} {M : Addr → Prop} {B : Addr → Prop} {φ φ' : List Addr} {S S' : Sto} {H H' : Hp} {p x y : PV} {v x' y' : V} {ps ks vs : List PV}
theorem keyOf_rv {k : Key} (r : RV K M φ H p v) (e : keyOf p = some k) : v = kV k := by
  cases p with
  | int i => unfold keyOf at e; cases e; exact r.int_eq
  | str i => unfold keyOf at e; cases e; exact r.str_eq
  | _ => cases e
theorem keyL_rvs : ∀ {ps : List PV} {vs : List V} {k : List Key}, RVs K M φ H ps vs → keyL ps = some k → vs = k.map kV
  | [], _, _, r, e => by unfold RVs at r; unfold keyL at e; cases e; exact r
  | p :: ps, _, _, r, e => by
    obtain ⟨v, ws, rfl, r1, r2⟩ := r.uncons
    unfold keyL at e
    cases e1 : keyOf p with
    | none => rw [e1] at e; cases e
    | some k =>
      cases e2 : keyL ps with
      | none => rw [e1, e2] at e; cases e
      | some l =>
        rw [e1, e2] at e; cases e
        rw [keyOf_rv r1 e1, keyL_rvs r2 e2]; rfl
theorem keyT_rv {k : List Key} (r : RV K M φ H p v) (e : keyT p = some k) : ∃ b, v = .ref b ∧ H b = some (.tup (k.map kV)) := by
  cases p with
  | tup ps =>
    unfold keyT at e
    unfold RV at r
    obtain ⟨a, ws, rfl, h, t⟩ := r
    exact ⟨a, rfl, by rw [h, keyL_rvs t e]⟩
  | _ => cases e
/-- values side by side -/
def RO2 (K : PySem.W.Frag) (M : Addr → Prop) (φ : List Addr) (H : Hp) : Option PV → Option V → Prop
  | some p, some v => RV K M φ H p v
  | none, none => True
  | _, _ => False
theorem gGet_ok {κ : Type} [DecidableEq κ] {kf : PV → Option κ} {k : κ} : ∀ {kvs : List (κ × V)} {ks ps : List PV}, ks.map kf = kvs.map (fun p => some p.1) → RVs K M φ H ps (kvs.map (·.2)) → RO2 K M φ H (gGet kf k ks ps) (valV kvs k)
  | [], ks, ps, e, r => by
    cases ks with
    | nil => unfold gGet; exact trivial
    | cons a b => simp at e
  | q :: kvs, ks, ps, e, r => by
    cases ks with
    | nil => simp at e
    | cons a b =>
      rw [List.map_cons, List.map_cons] at e
      injection e with e1 e2
      have hl := r.length
      cases ps with
      | nil => simp at hl
      | cons p ps =>
        obtain ⟨v, ws, e3, r1, r2⟩ := r.uncons
        rw [List.map_cons] at e3
        injection e3 with e3 e4
        unfold gGet
        by_cases h : q.1 = k
        · rw [if_pos (by rw [e1, h]), valV_pos h, e3]; exact r1
        · rw [if_neg (by rw [e1]; intro z; exact h (Option.some.inj z)), valV_neg h]
          exact gGet_ok e2 (e4 ▸ r2)
theorem any_key {κ : Type} [DecidableEq κ] {kf : PV → Option κ} {k : κ} : ∀ {kvs : List (κ × V)} {ks : List PV}, ks.map kf = kvs.map (fun p => some p.1) → (ks.any fun p => decide (kf p = some k)) = kvs.any fun kv => decide (kv.1 = k)
  | [], ks, e => by
    cases ks with
    | nil => rfl
    | cons a b => simp at e
  | q :: kvs, ks, e => by
    cases ks with
    | nil => simp at e
    | cons a b =>
      rw [List.map_cons, List.map_cons] at e
      injection e with e1 e2
      rw [List.any_cons, List.any_cons, any_key e2, e1]
      congr 1
      by_cases h : q.1 = k <;> simp [h]
theorem gPut_ok {κ : Type} [DecidableEq κ] {kf : PV → Option κ} {k : κ} {kvs : List (κ × V)} {ks ps : List PV} {y p : PV} {v : V} (e : ks.map kf = kvs.map (fun p => some p.1)) (r : RVs K M φ H ps (kvs.map (·.2))) (ey : kf y = some k) (rp : RV K M φ H p v) :
    (gPut kf k y p ks ps).1.map kf = (putK kvs k v).map (fun p => some p.1) ∧ RVs K M φ H (gPut kf k y p ks ps).2 ((putK kvs k v).map (·.2)) := by
  unfold gPut putK
  rw [any_key e]
  by_cases h : (kvs.any fun kv => decide (kv.1 = k)) = true
  · rw [if_pos h, if_pos h]
    constructor
    · rw [e, List.map_map]
      apply List.map_congr_left
      intro a _
      show some a.1 = some (if a.1 = k then (a.1, v) else a).1
      split <;> rfl
    · clear h
      induction kvs generalizing ks ps with
      | nil =>
        cases ks with
        | nil => simp; exact .nil
        | cons a b => simp at e
      | cons q kvs ih =>
        cases ks with
        | nil => simp at e
        | cons a b =>
          rw [List.map_cons, List.map_cons] at e
          injection e with e1 e2
          have hl := r.length
          cases ps with
          | nil => simp at hl
          | cons c ps =>
            obtain ⟨w, ws, e3, r1, r2⟩ := r.uncons
            rw [List.map_cons] at e3
            injection e3 with e3 e4
            have := ih e2 (e4 ▸ r2)
            rw [List.zipWith_cons_cons, List.map_cons, List.map_cons]
            refine .cons ?_ this
            by_cases h : q.1 = k
            · rw [if_pos (by rw [e1, h]), if_pos h]; exact rp
            · rw [if_neg (by rw [e1]; intro z; exact h (Option.some.inj z)), if_neg h, e3]; exact r1
  · rw [if_neg h, if_neg h]
    constructor
    · simp [e, ey]
    · rw [List.map_append]
      exact r.append (.cons rp .nil)
theorem dctAt_ok (g : Ag K B φ S H) (r : RV K (Mu B φ S) φ H x x') {t : Bool} (e : dctAt S x = some (t, ks, ps)) : ∃ a ws u, x' = .ref a ∧ Rd H a u ∧ DcO t ks ws u ∧ RVs K (Mu B φ S) φ H ps ws := by
  cases x with
  | dct t' ks' ps' =>
    unfold dctAt at e; cases e
    unfold RV at r
    obtain ⟨a, vs, rfl, _, ⟨u, h, d⟩, t⟩ := r
    exact ⟨a, vs, u, rfl, h, d, t⟩
  | loc n =>
    unfold dctAt at e
    dsimp only at e
    split at e
    · rename_i t' ks' ps' e2
      cases e
      unfold RV at r
      obtain ⟨a, ha, rfl⟩ := r
      obtain ⟨vs, u, h, d, t⟩ := g.obj n _ a e2 ha
      exact ⟨a, vs, u, rfl, .inl h, d, t⟩
    · cases e
  | _ => cases e
theorem isD_of {t : Bool} {a : Addr} {ws : List V} {u : HO} (h : Rd H a u) (d : DcO t ks ws u) : IsD H a := by
  cases t with
  | false => obtain ⟨kvs, rfl, _⟩ := d; exact .inl ⟨kvs, h⟩
  | true => obtain ⟨kvs, rfl, _⟩ := d; exact .inr ⟨kvs, h⟩
theorem dLook_ok {t : Bool} {a : Addr} {ws : List V} {u : HO} {o : Option PV} (h : Rd H a u) (d : DcO t ks ws u) (r : RVs K M φ H ps ws) (ry : RV K M φ H y y') (e : dLook t ks ps y = some o) : ∃ ov, DGet H a y' ov ∧ RO2 K M φ H o ov := by
  cases t with
  | false =>
    obtain ⟨kvs, rfl, e1, rfl⟩ := d
    unfold dLook at e
    rw [if_neg Bool.false_ne_true] at e
    cases ek : keyOf y with
    | none => rw [ek] at e; cases e
    | some k =>
      rw [ek] at e; cases e
      cases keyOf_rv ry ek
      exact ⟨_, .inl ⟨kvs, k, h, rfl, rfl⟩, gGet_ok e1 r⟩
  | true =>
    obtain ⟨kvs, rfl, e1, rfl⟩ := d
    unfold dLook at e
    rw [if_pos rfl] at e
    cases ek : keyT y with
    | none => rw [ek] at e; cases e
    | some k =>
      rw [ek] at e; cases e
      obtain ⟨b, rfl, hb⟩ := keyT_rv ry ek
      exact ⟨_, .inr ⟨kvs, k, b, h, rfl, hb, rfl⟩, gGet_ok e1 r⟩
theorem dStore_ok {t : Bool} {a : Addr} {ws : List V} {u : HO} {q : List PV × List PV} (h : H a = some u) (d : DcO t ks ws u) (r : RVs K M φ H ps ws) (ry : RV K M φ H y y') (rp : RV K M φ H p v) (hl : ks.length < lim) (e : dStore t ks ps y p = some q) :
    ∃ ws' u', DPut H a y' v (upd H a u') ∧ DcO t q.1 ws' u' ∧ RVs K M φ H q.2 ws' := by
  cases t with
  | false =>
    obtain ⟨kvs, rfl, e1, rfl⟩ := d
    unfold dStore at e
    rw [if_neg Bool.false_ne_true] at e
    cases ek : keyOf y with
    | none => rw [ek] at e; cases e
    | some k =>
      rw [ek] at e; cases e
      cases keyOf_rv ry ek
      obtain ⟨h1, h2⟩ := gPut_ok e1 r ek rp
      have hk : kvs.length < sizeLine := by
        have := congrArg List.length e1
        rw [List.length_map, List.length_map] at this
        rw [← this, szl]; exact hl
      exact ⟨_, _, .inl ⟨kvs, k, h, rfl, hk, rfl⟩, ⟨_, rfl, h1, rfl⟩, h2⟩
  | true =>
    obtain ⟨kvs, rfl, e1, rfl⟩ := d
    unfold dStore at e
    rw [if_pos rfl] at e
    cases ek : keyT y with
    | none => rw [ek] at e; cases e
    | some k =>
      rw [ek] at e; cases e
      obtain ⟨b, rfl, hb⟩ := keyT_rv ry ek
      obtain ⟨h1, h2⟩ := gPut_ok e1 r ek rp
      have hk : kvs.length < sizeLine := by
        have := congrArg List.length e1
        rw [List.length_map, List.length_map] at this
        rw [← this, szl]; exact hl
      exact ⟨_, _, .inr ⟨kvs, k, b, h, rfl, hb, hk, rfl⟩, ⟨_, rfl, h1, rfl⟩, h2⟩
end
section
variable {X : Cx} {W : WX} {pos : Pos}
theorem pe_or {e : Expr} {t t' : TE} (h : PE X e t) (h' : PE X e t') : PE X e (fun σ H Q => t σ H Q ∨ t' σ H Q) := ⟨fun pins s σ H Q I q => q.elim (h.run pins s σ H Q I) (h'.run pins s σ H Q I)⟩
theorem pt_or {e : Expr} {t t' : TT} (h : PT X e t) (h' : PT X e t') : PT X e (fun σ H Q => t σ H Q ∨ t' σ H Q) := ⟨fun pins s σ H Q I q => q.elim (h.run pins s σ H Q I) (h'.run pins s σ H Q I)⟩
theorem ps_or {e : Stmt} {t t' : TS} (h : PS X e t) (h' : PS X e t') : PS X e (fun D σ H => t D σ H ∨ t' D σ H) := ⟨fun pins s σ H D I q => q.elim (h.run pins s σ H D I) (h'.run pins s σ H D I)⟩
theorem callR_or {f : Value} {r r' : List V → Hp → VK → Prop} (h : CallR X f r) (h' : CallR X f r') : CallR X f (fun xs H Q => r xs H Q ∨ r' xs H Q) := fun pins s σ H xs us Q I rv q => q.elim (h pins s σ H xs us Q I rv) (h' pins s σ H xs us Q I rv)
/-! ### d[k], of lists, tuples, texts, too -/
def pIxD : P2 := fun x y S => match dctAt S x with
  | some (t, ks, vs) => (match dLook t ks vs y with
    | some (some p) => .ok p S
    | _ => .fail)
  | none => pIx x y S
theorem bin_or {f : P2} {a b : EM} {r1 r2 : V → V → Hp → VK → Prop} (h : ∀ (W : WX) (B : Addr → Prop) (φ : List Addr) (ρ : En) (S : Sto) (σ : L2.St) (H : Hp) (x y : PV) (x' y' : V) (Q : VK), Rel (km X) B φ ρ S σ H → RV X.K (Mu B φ S) φ H x x' → RV X.K (Mu B φ S) φ H y y' →
    RPost (km X) W B φ ρ S σ H (f x y S) Q → r1 x' y' H Q ∨ r2 x' y' H Q) (σ : L2.St) (H : Hp) (Q : VK) (q : tE (km X) W (eBin f a b) σ H Q) :
    tE (km X) W a σ H fun x H1 => tE (km X) W b σ H1 fun y H2 => r1 x y H2 Q ∨ r2 x y H2 Q := by
  obtain ⟨B, φ, ρ, S, g, q⟩ := q
  refine tE.of g (RPost.bind q) fun x' H1 ⟨φ1, S1, x, m1, rx, q1⟩ => ?_
  refine tE.of m1.rel (RPost.bind q1) fun y' H2 ⟨φ2, S2, y, m2, ry, q2⟩ => ?_
  exact h W B φ2 ρ S2 σ H2 x y x' y' Q m2.rel (rx.stay m1.rel.ag m2.fr) ry q2
end
end Mir
/-! Mir: dicts, the rules. -/
namespace Mir
open PySem PySem.Spec PyProof.Rows L2
section
variable {X : Cx} {W : WX} {pos : Pos}
/-- a run goes one of two ways -/
theorem bin_split {f f1 f2 : P2} {c : PV → PV → Sto → Bool} {a b : EM} (h1 : ∀ x y S, c x y S = true → f x y S = f1 x y S) (h2 : ∀ x y S, c x y S = false → f x y S = f2 x y S) {σ : L2.St} {H : Hp} {Q : VK} (q : tE (km X) W (eBin f a b) σ H Q) :
    tE (km X) W (eBin f1 a b) σ H Q ∨ tE (km X) W (eBin f2 a b) σ H Q := by
  obtain ⟨B, φ, ρ, S, g, q⟩ := q
  cases e1 : a ρ S with
  | ok x S1 =>
    cases e2 : b ρ S1 with
    | ok y S2 =>
      have e : ∀ f, eBin f a b ρ S = f x y S2 := fun f => by simp [eBin, e1, e2]
      cases hc : c x y S2 with
      | true => exact .inl ⟨B, φ, ρ, S, g, by rw [e f1, ← h1 _ _ _ hc, ← e f]; exact q⟩
      | false => exact .inr ⟨B, φ, ρ, S, g, by rw [e f2, ← h2 _ _ _ hc, ← e f]; exact q⟩
    | exc cc aa S2 =>
      have e : ∀ f1 f2, eBin f1 a b ρ S = eBin f2 a b ρ S := fun f1 f2 => by simp [eBin, e1, e2]
      exact .inl ⟨B, φ, ρ, S, g, by rw [e f1 f]; exact q⟩
    | fail =>
      have e : ∀ f1 f2, eBin f1 a b ρ S = eBin f2 a b ρ S := fun f1 f2 => by simp [eBin, e1, e2]
      exact .inl ⟨B, φ, ρ, S, g, by rw [e f1 f]; exact q⟩
  | exc cc aa S1 =>
    have e : ∀ f1 f2, eBin f1 a b ρ S = eBin f2 a b ρ S := fun f1 f2 => by simp [eBin, e1]
    exact .inl ⟨B, φ, ρ, S, g, by rw [e f1 f]; exact q⟩
  | fail =>
    have e : ∀ f1 f2, eBin f1 a b ρ S = eBin f2 a b ρ S := fun f1 f2 => by simp [eBin, e1]
    exact .inl ⟨B, φ, ρ, S, g, by rw [e f1 f]; exact q⟩
def pDGet : P2 := fun x y S => match dctAt S x with
  | some (t, ks, vs) => (match dLook t ks vs y with
    | some (some p) => .ok p S
    | _ => .fail)
  | none => .fail
theorem pIxD_1 : ∀ x y S, (dctAt S x).isSome = true → pIxD x y S = pDGet x y S := fun x y S h => by
  unfold pIxD pDGet
  cases e : dctAt S x with
  | none => rw [e] at h; cases h
  | some p => rfl
theorem pIxD_2 : ∀ x y S, (dctAt S x).isSome = false → pIxD x y S = pIx x y S := fun x y S h => by
  unfold pIxD
  cases e : dctAt S x with
  | none => rfl
  | some p => rw [e] at h; cases h
theorem dget_run {a b : EM} {σ : L2.St} {H : Hp} {Q : VK} (q : tE (km X) W (eBin pDGet a b) σ H Q) : tDGet (tE (km X) W a) (tE (km X) W b) σ H Q := by
  obtain ⟨B, φ, ρ, S, g, q⟩ := q
  refine tE.of g (RPost.bind q) fun x' H1 ⟨φ1, S1, x, m1, rx, q1⟩ => ?_
  refine tE.of m1.rel (RPost.bind q1) fun y' H2 ⟨φ2, S2, y, m2, ry, q2⟩ => ?_
  have rx2 := rx.stay m1.rel.ag m2.fr
  unfold pDGet at q2
  cases e1 : dctAt S2 x with
  | none => rw [e1] at q2; exact q2.elim
  | some z =>
    obtain ⟨t, ks, vs⟩ := z
    rw [e1] at q2
    dsimp only at q2
    obtain ⟨a', ws, u, rfl, h, d, r⟩ := dctAt_ok m2.rel.ag rx2 e1
    cases e2 : dLook t ks vs y with
    | none => rw [e2] at q2; exact q2.elim
    | some o =>
      cases o with
      | none => rw [e2] at q2; exact q2.elim
      | some p =>
        rw [e2] at q2
        obtain ⟨ov, hg, ro⟩ := dLook_ok h d r ry e2
        cases ov with
        | none => exact ro.elim
        | some v => exact ⟨a', v, rfl, hg, q2.here m2.rel ro⟩
theorem se_ixD {a b : Expr} {ma mb : EM} (hu : X.A.units + 1 < cLine) (ha : SE X W a ma) (hb : SE X W b mb) (hs : PlainIx b := by intro _ _; rfl) (hs2 : NoSl b := by intro _ _; rfl) : SE X W (.Subscript a b pos) (eBin pIxD ma mb) :=
  PE.via (pe_or (pe_dget hu ha hb hs2) (pe_ix ix_seq ha hb hs)) fun _ _ _ q => (bin_split (c := fun x _ S => (dctAt S x).isSome) pIxD_1 pIxD_2 q).imp dget_run (op2_run o2_ix)
/-! ### k in d -/
def pDIn (neg : Bool) : P2 := fun x y S => match dctAt S y with
  | some (t, ks, vs) => (match dLook t ks vs x with
    | some o => .ok (.bl (if neg then !o.isSome else o.isSome)) S
    | none => .fail)
  | none => .fail
def pInD (neg : Bool) : P2 := fun x y S => match dctAt S y with
  | some _ => pDIn neg x y S
  | none => pIn neg x y S
theorem pInD_1 {neg : Bool} : ∀ x y S, (dctAt S y).isSome = true → pInD neg x y S = pDIn neg x y S := fun x y S h => by
  unfold pInD
  cases e : dctAt S y with
  | none => rw [e] at h; cases h
  | some p => rfl
theorem pInD_2 {neg : Bool} : ∀ x y S, (dctAt S y).isSome = false → pInD neg x y S = pIn neg x y S := fun x y S h => by
  unfold pInD
  cases e : dctAt S y with
  | none => rfl
  | some p => rw [e] at h; cases h
theorem ro2_some {K : PySem.W.Frag} {M : Addr → Prop} {φ : List Addr} {H : Hp} : ∀ {o : Option PV} {ov : Option V}, RO2 K M φ H o ov → o.isSome = ov.isSome
  | some _, some _, _ => rfl
  | none, none, _ => rfl
  | some _, none, h => h.elim
  | none, some _, h => h.elim
theorem din_run {neg : Bool} {a b : EM} {σ : L2.St} {H : Hp} {Q : VK} (q : tE (km X) W (eBin (pDIn neg) a b) σ H Q) :
    tE (km X) W a σ H fun y H1 => tE (km X) W b σ H1 fun x H2 => ∃ a o, x = .ref a ∧ DGet H2 a y o ∧ Q (.bl (if neg then !o.isSome else o.isSome)) H2 := by
  obtain ⟨B, φ, ρ, S, g, q⟩ := q
  refine tE.of g (RPost.bind q) fun x' H1 ⟨φ1, S1, x, m1, rx, q1⟩ => ?_
  refine tE.of m1.rel (RPost.bind q1) fun y' H2 ⟨φ2, S2, y, m2, ry, q2⟩ => ?_
  have rx2 := rx.stay m1.rel.ag m2.fr
  unfold pDIn at q2
  cases e1 : dctAt S2 y with
  | none => rw [e1] at q2; exact q2.elim
  | some z =>
    obtain ⟨t, ks, vs⟩ := z
    rw [e1] at q2
    dsimp only at q2
    obtain ⟨a', ws, u, rfl, h, d, r⟩ := dctAt_ok m2.rel.ag ry e1
    cases e2 : dLook t ks vs x with
    | none => rw [e2] at q2; exact q2.elim
    | some o =>
      rw [e2] at q2
      obtain ⟨ov, hg, ro⟩ := dLook_ok h d r rx2 e2
      dsimp only at q2
      rw [ro2_some ro] at q2
      exact ⟨a', ov, rfl, hg, q2.here m2.rel (.bl _)⟩
theorem se_in {a b : Expr} {ma mb : EM} (hu : X.A.units + 65 < cLine) (ha : SE X W a ma) (hb : SE X W b mb) (hm : behindInMarks .In b = false) : SE X W (.Compare a [.In] [b] pos) (eBin (pInD false) ma mb) :=
  PE.via (pe_or (pe_cmp (pc_din (by omega) ha hb) hm) (pe_cmpR (or_in hu) ha hb hm)) fun _ _ _ q => (bin_split (c := fun _ y S => (dctAt S y).isSome) pInD_1 pInD_2 q).imp din_run (op2_run o2_in)
theorem se_notIn {a b : Expr} {ma mb : EM} (hu : X.A.units + 65 < cLine) (ha : SE X W a ma) (hb : SE X W b mb) (hm : behindInMarks .NotIn b = false) : SE X W (.Compare a [.NotIn] [b] pos) (eBin (pInD true) ma mb) :=
  PE.via (pe_or (pe_cmp (pc_dnotin (by omega) ha hb) hm) (pe_cmpR (or_notIn hu) ha hb hm)) fun _ _ _ q => (bin_split (c := fun _ y S => (dctAt S y).isSome) pInD_1 pInD_2 q).imp din_run (op2_run o2_in)
/-- a test by a value that is a truth -/
theorem tbin_split {f f1 f2 : P2} {c : PV → PV → Sto → Bool} {a b : EM} (h1 : ∀ x y S, c x y S = true → f x y S = f1 x y S) (h2 : ∀ x y S, c x y S = false → f x y S = f2 x y S) {σ : L2.St} {H : Hp} {Q : Bool → Hp → Prop} (q : tT (km X) W (tBin f a b) σ H Q) :
    tE (km X) W (eBin f1 a b) σ H (fun v H' => ∃ k, v = .bl k ∧ Q k H') ∨ tE (km X) W (eBin f2 a b) σ H (fun v H' => ∃ k, v = .bl k ∧ Q k H') := by
  obtain ⟨B, φ, ρ, S, g, q⟩ := q
  refine bin_split h1 h2 ⟨B, φ, ρ, S, g, (RPost.bindT q).mono fun v' H1 ⟨φ1, S1, v, m1, rv, q1⟩ => ?_⟩
  cases v with
  | bl c => cases rv.bl_eq; exact ⟨c, rfl, q1.here m1.rel⟩
  | _ => exact q1.elim
theorem st_in {a b : Expr} {ma mb : EM} (hu : X.A.units + 65 < cLine) (ha : SE X W a ma) (hb : SE X W b mb) (hm : behindInMarks .In b = false) : ST X W (.Compare a [.In] [b] pos) (tBin (pInD false) ma mb) :=
  PT.via (pt_or (pt_cmp (pc_din (by omega) ha hb) hm) (pt_cmpR (or_in hu) ha hb hm)) fun _ _ _ q => (tbin_split (c := fun _ y S => (dctAt S y).isSome) pInD_1 pInD_2 q).imp din_run (op2_run o2_in)
theorem st_notIn {a b : Expr} {ma mb : EM} (hu : X.A.units + 65 < cLine) (ha : SE X W a ma) (hb : SE X W b mb) (hm : behindInMarks .NotIn b = false) : ST X W (.Compare a [.NotIn] [b] pos) (tBin (pInD true) ma mb) :=
  PT.via (pt_or (pt_cmp (pc_dnotin (by omega) ha hb) hm) (pt_cmpR (or_notIn hu) ha hb hm)) fun _ _ _ q => (tbin_split (c := fun _ y S => (dctAt S y).isSome) pInD_1 pInD_2 q).imp din_run (op2_run o2_in)
/-! ### d.get(k, x) -/
def eGet2 (o k x : EM) : EM := fun ρ S => (o ρ S).bind fun d S1 => match dctAt S1 d with
  | some _ => (k ρ S1).bind fun y S2 => (x ρ S2).bind fun z S3 => (match dctAt S3 d with
    | some (t, ks, vs) => (match dLook t ks vs y with
      | some r => .ok (r.getD z) S3
      | none => .fail)
    | none => .fail)
  | none => .fail
theorem se_get2 {o e f : Expr} {apos cpos : Pos} {mo me mf : EM} (hu : X.A.units + 1 < cLine) (ho : SE X W o mo) (he : SE X W e me) (hf : SE X W f mf) (m : M2 X o "get" apos e f cpos) : SE X W (.Call (.Attribute o "get" apos) [e, f] [] cpos) (eGet2 mo me mf) :=
  PE.via (pe_dget2 hu ho he hf m) fun σ H Q ⟨B, φ, ρ, S, g, q⟩ => by
    refine tE.of g (RPost.bind q) fun d' H1 ⟨φ1, S1, d, m1, rd, q1⟩ => ?_
    cases e1 : dctAt S1 d with
    | none => rw [e1] at q1; exact q1.elim
    | some z =>
      obtain ⟨t, ks, vs⟩ := z
      rw [e1] at q1
      obtain ⟨a, ws, u, rfl, h, dd, r⟩ := dctAt_ok m1.rel.ag rd e1
      refine ⟨a, rfl, isD_of h dd, ?_⟩
      refine tE.of m1.rel (RPost.bind q1) fun y' H2 ⟨φ2, S2, y, m2, ry, q2⟩ => ?_
      refine tE.of m2.rel (RPost.bind q2) fun z' H3 ⟨φ3, S3, z, m3, rz, q3⟩ => ?_
      have rd3 := (rd.stay m1.rel.ag m2.fr).stay m2.rel.ag m3.fr
      have ry3 := ry.stay m2.rel.ag m3.fr
      cases e3 : dctAt S3 d with
      | none => rw [e3] at q3; exact q3.elim
      | some z3 =>
        obtain ⟨t3, ks3, vs3⟩ := z3
        rw [e3] at q3
        dsimp only at q3
        obtain ⟨a3, ws3, u3, ea, h3, dd3, r3⟩ := dctAt_ok m3.rel.ag rd3 e3
        cases ea
        cases e4 : dLook t3 ks3 vs3 y with
        | none => rw [e4] at q3; exact q3.elim
        | some o =>
          rw [e4] at q3
          obtain ⟨ov, hg, ro⟩ := dLook_ok h3 dd3 r3 ry3 e4
          refine ⟨ov, hg, q3.here m3.rel ?_⟩
          cases o with
          | none =>
            cases ov with
            | none => exact rz
            | some _ => exact ro.elim
          | some p =>
            cases ov with
            | none => exact ro.elim
            | some _ => exact ro
/-! ### {}, to be changed -/
theorem new_obj {W : WX} {B : Addr → Prop} {φ : List Addr} {ρ : En} {S : Sto} {σ : L2.St} {H : Hp} {ob : Ob} {o : HO} {Q : VK} {p : Addr} (g : Rel (km X) B φ ρ S σ H) (hn : RO X.K (Mu B (φ ++ [p]) (S ++ [some ob])) (φ ++ [p]) (upd H p o) p ob)
    (q : RPost (km X) W B φ ρ S σ H (.ok (.loc S.length) (S ++ [some ob])) Q) (hp : H p = none) : Q (.ref p) (L2.upd H p o) := by
  have f := fr_push (ob := ob) (o := o) g.ag hp
  have ag' := g.ag.push (ob := ob) (o := o) hp hn
  refine q (φ ++ [p]) (.ref p) _ f (g.stay f ag') ?_
  unfold RV
  exact ⟨p, by rw [← g.ag.len]; simp, rfl⟩
def eDNew (t : Bool) : EM := fun _ S => .ok (.loc S.length) (S ++ [some (.dct t [] [])])
theorem se_dnewK : SE X W (.Dict [] [] pos) (eDNew false) := PE.via pe_dnewK fun σ H Q ⟨B, φ, ρ, S, g, q⟩ p hp =>
  new_obj (ob := .dct false [] []) g ⟨[], .dK [], upd_same, ⟨[], rfl, rfl, rfl⟩, .nil⟩ q hp
theorem se_dnewT : SE X W (.Dict [] [] pos) (eDNew true) := PE.via pe_dnewT fun σ H Q ⟨B, φ, ρ, S, g, q⟩ p hp =>
  new_obj (ob := .dct true [] []) g ⟨[], .dT [], upd_same, ⟨[], rfl, rfl, rfl⟩, .nil⟩ q hp
/-! ### d[k] = v -/
def dsetAt (o i p : PV) (ρ : En) (S : Sto) : SR := match o with
  | .loc n => (match S[n]? with
    | some (some (.dct t ks vs)) => if ks.length < lim then (match dStore t ks vs i p with
      | some q => .nx ρ (S.set n (some (.dct t q.1 q.2)))
      | none => .fail) else .fail
    | _ => .fail)
  | _ => .fail
/-- an object of the store is written -/
theorem Rel.putO {B : Addr → Prop} {φ : List Addr} {ρ : En} {S : Sto} {σ : L2.St} {H : Hp} {n : Nat} {a : Addr} {ob ob' : Ob} {o : HO} (g : Rel (km X) B φ ρ S σ H) (ha : φ[n]? = some a) (hn : S[n]? = some (some ob))
    (hw : RO X.K (Mu B φ (S.set n (some ob'))) φ (upd H a o) a ob') : Fr φ S H φ (S.set n (some ob')) (upd H a o) ∧ Rel (km X) B φ ρ (S.set n (some ob')) σ (upd H a o) := by
  have f := fr_set (ob := ob') (o := o) (H := H) ha ⟨_, hn⟩
  have ag' := g.ag.set (ob := ob') (o := o) ha ⟨_, hn⟩ hw
  exact ⟨f, g.stay f ag'⟩
/-- o[i] = e: a dict -/
def sDSet (e o i : EM) : SM := fun ρ S => (e ρ S).bindS ρ fun p S1 => (o ρ S1).bindS ρ fun d S2 => (i ρ S2).bindS ρ fun y S3 => dsetAt d y p ρ S3
theorem dset_run {e o i : EM} {D : Ends} {σ : L2.St} {H : Hp} (q : tS (km X) W (sDSet e o i) D σ H) : sDPut (tE (km X) W o) (tE (km X) W i) (tE (km X) W e) D σ H := by
  obtain ⟨B, φ, ρ, S, g, q⟩ := q
  refine tE.of g (RPost.bindS q) fun p' H1 ⟨φ1, S1, p, m1, rp, q1⟩ => ?_
  refine tE.of m1.rel (RPost.bindS q1) fun d' H2 ⟨φ2, S2, d, m2, rd, q2⟩ => ?_
  refine tE.of m2.rel (RPost.bindS q2) fun y' H3 ⟨φ3, S3, y, m3, ry, q3⟩ => ?_
  have rp3 := (rp.stay m1.rel.ag m2.fr).stay m2.rel.ag m3.fr
  have rd3 := rd.stay m2.rel.ag m3.fr
  unfold dsetAt at q3
  cases d with
  | loc n =>
    dsimp only at q3
    split at q3
    · rename_i t ks vs e1
      split at q3
      · rename_i hl
        split at q3
        · rename_i z e2
          unfold RV at rd3
          obtain ⟨a, ha, rfl⟩ := rd3
          obtain ⟨ws, u, h, dd, r⟩ := m3.rel.ag.obj n _ a e1 ha
          obtain ⟨ws', u', hp, dd', r'⟩ := dStore_ok h dd r ry rp3 hl e2
          have L := (fr_set (ob := Ob.dct t z.1 z.2) (o := u') (H := H3) ha ⟨_, e1⟩).lean m3.rel.ag
          obtain ⟨f, g'⟩ := m3.rel.putO (ob' := .dct t z.1 z.2) (o := u') ha e1 ⟨ws', u', upd_same, dd', RVs.lean L _ r'⟩
          exact ⟨a, _, rfl, hp, q3 φ3 σ _ f g'⟩
        · exact q3.elim
      · exact q3.elim
    · exact q3.elim
  | _ => exact q3.elim
theorem ss_dset {o i value : Expr} {pos' : Pos} {me mo mi : EM} (hu : X.A.units + 1 < cLine) (ho : SE X W o mo) (hi : SE X W i mi) (hv : SE X W value me) (hs : swapsWith value (some (.Subscript o i pos')) pos.line X.env = pure false := by rfl) :
    SS X W (.Assign [.Subscript o i pos'] value pos) (sDSet me mo mi) := PS.via (ps_dput hu ho hi hv hs) fun _ _ _ q => dset_run q
/-! ### a name's thing will not change any more -/
def sFz (i : Nat) : SM := fun ρ S => match ρ[i]? with
  | some (some (.loc n)) => (match S[n]? with
    | some (some (.lst qs)) => if noLs qs then .nx (ρ.set i (some (.lst qs))) (S.set n none) else .fail
    | some (some (.dct t ks qs)) => if noLs qs then .nx (ρ.set i (some (.dct t ks qs))) (S.set n none) else .fail
    | _ => .fail)
  | _ => .nx ρ S
theorem Rel.freeze {B : Addr → Prop} {φ : List Addr} {ρ : En} {S : Sto} {σ : L2.St} {H : Hp} {i n : Nat} {p : PV} (g : Rel (km X) B φ ρ S σ H) (hi : ρ[i]? = some (some (.loc n))) (hp : (∃ qs, S[n]? = some (some (.lst qs)) ∧ noLs qs = true ∧ p = .lst qs) ∨ ∃ t ks qs, S[n]? = some (some (.dct t ks qs)) ∧ noLs qs = true ∧ p = .dct t ks qs) :
    Rel (km X) B φ (ρ.set i (some p)) (S.set n none) σ H := by
  obtain ⟨v, hv, rv⟩ := g.env.get i _ hi
  unfold RV at rv
  obtain ⟨a, ha, rfl⟩ := rv
  have hnm : ¬ Mu B φ (S.set n none) a := fun m => by
    rcases m with m | m
    · exact g.ag.dis a (List.mem_of_getElem? ha) m
    · obtain ⟨k, o', e1, e2⟩ := m
      exact (set_dead e2).1 (g.ag.uniq e1 ha)
  have hlf : Leaf (Mu B φ S) (Mu B φ (S.set n none)) H := ⟨fun b o _ n1 n2 => by
    rcases n2 with n2 | n2
    · exact n1 (.inl n2)
    · obtain ⟨k, o', e1, e2⟩ := n2
      exact n1 (.inr ⟨k, o', e1, (set_dead e2).2⟩)⟩
  have r2 : RV X.K (Mu B φ (S.set n none)) φ H p (.ref a) := by
    rcases hp with ⟨qs, e, hq, rfl⟩ | ⟨t, ks, qs, e, hq, rfl⟩
    · obtain ⟨ws, h1, t⟩ := g.ag.obj n _ a e ha
      unfold RV
      exact ⟨a, ws, rfl, ⟨hnm, h1⟩, RVs.leaf hlf _ hq t⟩
    · obtain ⟨ws, u, h1, d, t⟩ := g.ag.obj n _ a e ha
      unfold RV
      exact ⟨a, ws, rfl, hnm, ⟨u, .inl h1, d⟩, RVs.leaf hlf _ hq t⟩
  have g2 : Rel (km X) B φ ρ (S.set n none) σ H := g.stay (fr_dead n) (g.ag.dead n)
  have g3 := g2.set r2 i
  have es : σ.set i (some (V.ref a)) = σ := by
    apply List.ext_getElem?
    intro j
    by_cases hj : i = j
    · subst hj
      rw [List.getElem?_set_self (List.getElem?_eq_some_iff.mp hv).1, hv]
    · rw [List.getElem?_set_ne hj]
  rw [es] at g3
  exact g3
theorem sFz_or (i : Nat) (ρ : En) (S : Sto) : sFz i ρ S = .fail ∨ sFz i ρ S = .nx ρ S ∨ ∃ n p, sFz i ρ S = .nx (ρ.set i (some p)) (S.set n none) ∧ ρ[i]? = some (some (.loc n)) ∧ ((∃ qs, S[n]? = some (some (.lst qs)) ∧ noLs qs = true ∧ p = .lst qs) ∨ ∃ t ks qs, S[n]? = some (some (.dct t ks qs)) ∧ noLs qs = true ∧ p = .dct t ks qs) := by
  unfold sFz
  split
  · rename_i n e1
    split
    · rename_i qs e2
      split
      · rename_i hq; exact .inr (.inr ⟨n, _, rfl, e1, .inl ⟨qs, e2, hq, rfl⟩⟩)
      · exact .inl rfl
    · rename_i t ks qs e2
      split
      · rename_i hq; exact .inr (.inr ⟨n, _, rfl, e1, .inr ⟨t, ks, qs, e2, hq, rfl⟩⟩)
      · exact .inl rfl
    · exact .inl rfl
  · exact .inr (.inl rfl)
theorem sb_fz {sts : List Stmt} {m : SM} (i : Nat) (h : SB X W sts m) : SB X W sts (sSeq (sFz i) m) := PSs.via h fun D σ H ⟨B, φ, ρ, S, g, q⟩ => by
  unfold sSeq at q
  rcases sFz_or i ρ S with e | e | ⟨n, p, e, e1, hp⟩
  · rw [e] at q; exact q.elim
  · rw [e] at q; exact ⟨B, φ, ρ, S, g, q⟩
  · rw [e] at q; exact ⟨B, φ, _, _, g.freeze e1 hp, SPost.shift (fr_dead n) q⟩
end
end Mir
/-! list(zip(a, b, c)): a zip whose first tuple is kept. -/
namespace MirR
open PySem PySem.W PySem.Calls
section
variable {prog : Program} {w : World} {A : Around} {E : Value → Shared → Prop} {s : Shared} {z TI TO T i1 i2 i3 : Addr} {fp1 fp2 fp3 : List Addr} {n1 n2 n3 i : Nat} {P1 P2 P3 : Nat → Value → Prop} {St1 St2 St3 : Nat → Heap → Prop} {f : Bool} {oT : Obj}
/-- what stays where a zip draws from three -/
def Kp (z i1 i2 i3 : Addr) (h h' : Heap) : Prop := ∀ c o, c ≠ z → c ≠ i1 → c ≠ i2 → c ≠ i3 → h.get? c = some o → h'.get? c = some o
theorem held_item (Sp : ZipSep3 z TI TO i1 i2 i3 fp1 fp2 fp3) (D1 : Draws prog w A i1 fp1 n1 P1 St1) (D2 : Draws prog w A i2 fp2 n2 P2 St2) (D3 : Draws prog w A i3 fp3 n3 P3 St3) {Q : Value → Shared → Prop}
    (hz : IsZipHeld s.heap z TI TO T f) (hT : s.heap.get? T = some oT) (hI : IsTupOf3 s.heap TI (.ref i1) (.ref i2) (.ref i3)) (st1 : St1 i s.heap) (st2 : St2 i s.heap) (st3 : St3 i s.heap) (lt1 : i < n1) (lt2 : i < n2) (lt3 : i < n3)
    (q : ∀ x1 x2 x3 h' tk, P1 i x1 → P2 i x2 → P3 i x3 → IsZipHeld h' z TI TO T true → St1 (i + 1) h' → St2 (i + 1) h' → St3 (i + 1) h' → IsTupOf3 h' s.heap.objs.size x1 x2 x3 → Kp z i1 i2 i3 s.heap h' → Q (.ref s.heap.objs.size) { s with heap := h', toks := tk }) :
    wpAny (model prog w) A (Builtin.«zip.__next__» ⟨[.ref z], []⟩) (fun fin s' => ∃ v, fin = .done (.ret v) ∧ Q v s') E s := by
  obtain ⟨hp, gs, dr, tk0, os⟩ := s
  show wpAny _ _ (field (.ref z) 2 >>= _) _ _ _
  refine wpAny_bind (wpAny_field hz rfl (x := .bool false) rfl ?_); show wpAny _ _ (field (.ref z) 3 >>= _) _ _ _
  refine wpAny_bind (wpAny_field hz rfl (x := .ref TI) rfl ?_); refine wpAny_bind (wpAny_seqItems hI rfl ?_)
  show wpAny _ _ (Builtin.SmallTypes.ownedTupleIsFree (.ref z) >>= _) _ _ _; refine wpAny_bind (wpAny_tupleHeld_zip hz hT fun g0 hz0 k0 => ?_)
  simp only [Bool.false_eq_true, if_false]; refine wpAny_bind ?_
  rw [← Array.forIn_toList]; simp only [List.forIn_cons, List.forIn_nil]
  replace k0 : Heap.SameBut z hp g0 := k0
  refine wpAny_bind (wpAny_bind (wpAny_holding ?_)); show wpAny _ _ (Builtin.SmallTypes.nextOf (.ref i1) >>= _) _ _ ⟨g0, gs, dr, tk0, os⟩
  refine wpAny_bind (D1.item i _ _ _ lt1 (D1.over st1 k0 Sp.zf1) fun x1 g1 tk1 e1 u1 k1 => wpAny_pure ?_); refine wpAny_pure ?_
  replace k1 : Heap.SameBut i1 g0 g1 := k1
  refine wpAny_bind (wpAny_bind (wpAny_holding ?_)); show wpAny _ _ (Builtin.SmallTypes.nextOf (.ref i2) >>= _) _ _ ⟨g1, gs, dr, tk1, os⟩
  refine wpAny_bind (D2.item i _ _ _ lt2 (D2.over (D2.over st2 k0 Sp.zf2) k1 Sp.sep1_2) fun x2 g2 tk2 e2 u2 k2 => wpAny_pure ?_); refine wpAny_pure ?_
  replace k2 : Heap.SameBut i2 g1 g2 := k2
  refine wpAny_bind (wpAny_bind (wpAny_holding ?_)); show wpAny _ _ (Builtin.SmallTypes.nextOf (.ref i3) >>= _) _ _ ⟨g2, gs, dr, tk2, os⟩
  refine wpAny_bind (D3.item i _ _ _ lt3 (D3.over (D3.over (D3.over st3 k0 Sp.zf3) k1 Sp.sep1_3) k2 Sp.sep2_3) fun x3 g3 tk3 e3 u3 k3 => wpAny_pure ?_); refine wpAny_pure (wpAny_pure ?_)
  replace k3 : Heap.SameBut i3 g2 g3 := k3
  show wpAny _ _ (newTuple [x1, x2, x3] >>= _) _ _ _
  refine wpAny_bind (wpAny_newTuple ?_)
  have hsz : g3.objs.size = hp.objs.size := by rw [k3.1, k2.1, k1.1, k0.1]
  have hz3 : IsZipHeld g3 z TI TO T true := k3.extBut _ _ Sp.zi3 (k2.extBut _ _ Sp.zi2 (k1.extBut _ _ Sp.zi1 hz0))
  have kp : Kp z i1 i2 i3 hp g3 := fun c o c0 c1 c2 c3 e => k3.extBut _ _ c3 (k2.extBut _ _ c2 (k1.extBut _ _ c1 (k0.extBut _ _ c0 e)))
  have up : ∀ c o, g3.get? c = some o → (g3.push { cls := .type "tuple", data := .seq #[x1, x2, x3] }).get? c = some o := fun c o e => Heap.get?_push_of_some _ e
  have nt : IsTupOf3 (g3.push { cls := .type "tuple", data := .seq #[x1, x2, x3] }) g3.objs.size x1 x2 x3 := Heap.get?_push_size _ rfl
  refine wpAny_pure ⟨_, rfl, ?_⟩
  show Q (.ref g3.objs.size) _
  rw [hsz] at nt ⊢
  exact q x1 x2 x3 _ tk3 e1 e2 e3 (up _ _ hz3) (D1.frame _ _ _ (D1.over (D1.over u1 k2 Sp.sep2_1) k3 Sp.sep3_1) fun b _ o e => up b o e) (D2.frame _ _ _ (D2.over u2 k3 Sp.sep3_2) fun b _ o e => up b o e) (D3.frame _ _ _ u3 fun b _ o e => up b o e) nt
    fun c o c0 c1 c2 c3 e => up c o (kp c o c0 c1 c2 c3 e)
/-- the end, where all three end -/
theorem held_end (Sp : ZipSep3 z TI TO i1 i2 i3 fp1 fp2 fp3) (D1 : Draws prog w A i1 fp1 n1 P1 St1) {Q : Fin → Shared → Prop}
    (hz : IsZipHeld s.heap z TI TO T f) (hT : s.heap.get? T = some oT) (hI : IsTupOf3 s.heap TI (.ref i1) (.ref i2) (.ref i3)) (st1 : St1 n1 s.heap)
    (hE : ∀ h' tk e, Kp z i1 i2 i3 s.heap h' → (∃ o, h'.get? e = some o ∧ o.cls = .type "StopIteration") → E (.ref e) { s with heap := h', toks := tk }) :
    wpAny (model prog w) A (Builtin.«zip.__next__» ⟨[.ref z], []⟩) Q E s := by
  obtain ⟨hp, gs, dr, tk0, os⟩ := s
  show wpAny _ _ (field (.ref z) 2 >>= _) _ _ _
  refine wpAny_bind (wpAny_field hz rfl (x := .bool false) rfl ?_); show wpAny _ _ (field (.ref z) 3 >>= _) _ _ _
  refine wpAny_bind (wpAny_field hz rfl (x := .ref TI) rfl ?_); refine wpAny_bind (wpAny_seqItems hI rfl ?_)
  show wpAny _ _ (Builtin.SmallTypes.ownedTupleIsFree (.ref z) >>= _) _ _ _; refine wpAny_bind (wpAny_tupleHeld_zip hz hT fun g0 hz0 k0 => ?_)
  simp only [Bool.false_eq_true, if_false]; refine wpAny_bind ?_
  rw [← Array.forIn_toList]; simp only [List.forIn_cons, List.forIn_nil]
  replace k0 : Heap.SameBut z hp g0 := k0
  refine wpAny_bind (wpAny_bind (wpAny_holding ?_)); show wpAny _ _ (Builtin.SmallTypes.nextOf (.ref i1) >>= _) _ _ ⟨g0, gs, dr, tk0, os⟩
  refine wpAny_bind (D1.done ⟨g0, gs, dr, tk0, os⟩ _ _ (D1.over st1 k0 Sp.zf1) fun g1 e k1 he => ?_)
  replace k1 : Heap.ExtBut i1 g0 g1 := k1
  exact hE g1 tk0 e (fun c o c0 c1 c2 c3 x => k1 _ _ c1 (k0.extBut _ _ c0 x)) he
theorem zip_typeIs {h : Heap} {fs : Array Value} (e : h.get? z = some { cls := .type "zip", data := .fields fs }) (s : Shared) (es : s.heap = h) : s.TypeIs (.ref z) "zip" := ⟨_, es ▸ e, rfl⟩
theorem next_held (Sp : ZipSep3 z TI TO i1 i2 i3 fp1 fp2 fp3) (D1 : Draws prog w A.in1 i1 fp1 n1 P1 St1) (D2 : Draws prog w A.in1 i2 fp2 n2 P2 St2) (D3 : Draws prog w A.in1 i3 fp3 n3 P3 St3) {Q : Option Value → Shared → Prop}
    (hz : IsZipHeld s.heap z TI TO T f) (hT : s.heap.get? T = some oT) (hI : IsTupOf3 s.heap TI (.ref i1) (.ref i2) (.ref i3)) (st1 : St1 i s.heap) (st2 : St2 i s.heap) (st3 : St3 i s.heap) (lt1 : i < n1) (lt2 : i < n2) (lt3 : i < n3)
    (q : ∀ x1 x2 x3 h' tk, P1 i x1 → P2 i x2 → P3 i x3 → IsZipHeld h' z TI TO T true → St1 (i + 1) h' → St2 (i + 1) h' → St3 (i + 1) h' → IsTupOf3 h' s.heap.objs.size x1 x2 x3 → Kp z i1 i2 i3 s.heap h' → Q (some (.ref s.heap.objs.size)) { s with heap := h', toks := tk }) :
    wpAny (model prog w) A (pyNext (.ref z)) Q E s := by
  have ty := zip_typeIs hz s rfl
  unfold pyNext
  refine wpAny_bind (wpAny_attempt (wpAny_callSpecial?_slot (name := Str.ofString "__next__") ty F.slot_zip_next (wpAny_call_entry F.slot_zip_next ty F.entry_zip_next ?_ (F.args_zip_next_1 _))))
  exact held_item Sp D1 D2 D3 hz hT hI st1 st2 st3 lt1 lt2 lt3 fun x1 x2 x3 h' tk a1 a2 a3 a4 a5 a6 a7 a8 a9 => wpAny_pure (q x1 x2 x3 h' tk a1 a2 a3 a4 a5 a6 a7 a8 a9)
theorem next_heldEnd (Sp : ZipSep3 z TI TO i1 i2 i3 fp1 fp2 fp3) (D1 : Draws prog w A.in1 i1 fp1 n1 P1 St1) {Q : Option Value → Shared → Prop}
    (hz : IsZipHeld s.heap z TI TO T f) (hT : s.heap.get? T = some oT) (hI : IsTupOf3 s.heap TI (.ref i1) (.ref i2) (.ref i3)) (st1 : St1 n1 s.heap)
    (q : ∀ h' tk, Kp z i1 i2 i3 s.heap h' → Q none { s with heap := h', toks := tk }) : wpAny (model prog w) A (pyNext (.ref z)) Q E s := by
  have ty := zip_typeIs hz s rfl
  unfold pyNext
  refine wpAny_bind (wpAny_attempt (wpAny_callSpecial?_slot (name := Str.ofString "__next__") ty F.slot_zip_next (wpAny_call_entry F.slot_zip_next ty F.entry_zip_next ?_ (F.args_zip_next_1 _))))
  refine held_end Sp D1 hz hT hI st1 fun h' tk e hk ⟨o, ho, hc⟩ => ?_
  exact wpAny_bind (wpAny_isInstance (T := "StopIteration") (b := true) ⟨o, ho, hc⟩ isSubtype_stop (wpAny_pure (q _ _ hk)))
end
/-- the tuples that were given out -/
def Outs (N S : Addr) (xs ys zs : List Value) (h : Heap) (Ts : List Addr) : Prop := ∀ (j : Nat) (T : Addr), Ts[j]? = some T → N ≤ T ∧ T ≠ S ∧ ∃ x y u, xs[j]? = some x ∧ ys[j]? = some y ∧ zs[j]? = some u ∧ IsTupOf3 h T x y u
theorem Outs.keep {N S : Addr} {xs ys zs : List Value} {h h' : Heap} {Ts : List Addr} (o : Outs N S xs ys zs h Ts) (k : ∀ T o, T ∈ Ts → h.get? T = some o → h'.get? T = some o) : Outs N S xs ys zs h' Ts := fun j T e => by
  obtain ⟨a, b, x, y, u, c1, c2, c3, c4⟩ := o j T e
  exact ⟨a, b, x, y, u, c1, c2, c3, k T _ (List.mem_of_getElem? e) c4⟩
theorem Outs.snoc {N S T : Addr} {xs ys zs : List Value} {x y u : Value} {h : Heap} {Ts : List Addr} (o : Outs N S xs ys zs h Ts) (h1 : N ≤ T) (h2 : T ≠ S) (e1 : xs[Ts.length]? = some x) (e2 : ys[Ts.length]? = some y) (e3 : zs[Ts.length]? = some u) (ht : IsTupOf3 h T x y u) : Outs N S xs ys zs h (Ts ++ [T]) := fun j T' e => by
  by_cases hj : j < Ts.length
  · rw [List.getElem?_append_left hj] at e
    exact o j T' e
  · rw [List.getElem?_append_right (by omega)] at e
    have hj' : j - Ts.length = 0 := by
      have := (List.getElem?_eq_some_iff.mp e).1
      simp at this; omega
    rw [hj'] at e
    cases e
    have : j = Ts.length := by omega
    subst this
    exact ⟨h1, h2, x, y, u, e1, e2, e3, ht⟩
section
variable {prog : Program} {w : World} {A : Around} {s : Shared} {R : Result → Shared → Prop} {xs ys zs : List Value} {St1 St2 St3 : Nat → Heap → Prop} {fp1 fp2 fp3 : List Addr} {N S z TI TO T0 i1 i2 i3 : Addr}
abbrev AtL (xs : List Value) (i : Nat) (v : Value) : Prop := xs[i]? = some v
abbrev IsLs (h : Heap) (S : Addr) (acc : Array Value) (c : Nat) : Prop := h.get? S = some { cls := .type "list", dict := none, data := .seq acc c, slots := #[] }
/-- list.extend, from the second tuple on -/
theorem loop_held (Sp : ZipSep3 z TI TO i1 i2 i3 fp1 fp2 fp3) (D1 : Draws prog w A.in1.in1 i1 fp1 xs.length (AtL xs) St1) (D2 : Draws prog w A.in1.in1 i2 fp2 ys.length (AtL ys) St2) (D3 : Draws prog w A.in1.in1 i3 fp3 zs.length (AtL zs) St3) (l2 : ys.length = xs.length) (l3 : zs.length = xs.length) (hn : xs.length ≤ sizeLine)
    (hS1 : S ∉ fp1) (hS2 : S ∉ fp2) (hS3 : S ∉ fp3) (hSz : S ≠ z) (hSI : S ≠ TI) (hST : S ≠ T0) (sep : ∀ T, N ≤ T → T ≠ S → (T = z ∨ T = i1 ∨ T = i2 ∨ T = i3) → False) (res : Value) :
    ∀ (k i : Nat) (s : Shared) (Ts : List Addr) (c : Nat) (f : Bool) (oT : Obj), xs.length - i = k → i ≤ xs.length → IsZipHeld s.heap z TI TO T0 f → s.heap.get? T0 = some oT → IsTupOf3 s.heap TI (.ref i1) (.ref i2) (.ref i3) → St1 i s.heap → St2 i s.heap → St3 i s.heap → IsLs s.heap S (Ts.map Value.ref).toArray c → Ts.length = i →
      N ≤ s.heap.objs.size → Outs N S xs ys zs s.heap Ts → (T0 ≠ z ∧ T0 ≠ i1 ∧ T0 ≠ i2 ∧ T0 ≠ i3) → (TI ≠ z ∧ TI ≠ i1 ∧ TI ≠ i2 ∧ TI ≠ i3) → (S ≠ i1 ∧ S ≠ i2 ∧ S ≠ i3) →
      (∀ h' tk Ts' c', (∀ b o, b ≠ S → b ≠ z → b ≠ i1 → b ≠ i2 → b ≠ i3 → s.heap.get? b = some o → h'.get? b = some o) → IsLs h' S (Ts'.map Value.ref).toArray c' → Ts'.length = xs.length → Outs N S xs ys zs h' Ts' → R (.ok (.ret res)) { s with heap := h', toks := tk }) →
      codeAny (model prog w) A (.builtin "list.extend.loop" ⟨[.ref S, .ref z, res], []⟩) R s := by
  intro k
  induction k with
  | zero =>
    intro i s Ts c f oT hk hi hz hT hI st1 st2 st3 hS hl hN ho t0 ti si q
    have hin : i = xs.length := by omega
    subst hin
    refine codeAny_builtin F.entry_extend_loop ?_; rw [Around.under_plainId F.plain_extend_loop _]
    show wpAny _ A.in1 (pyNext (.ref z) >>= _) _ _ s
    refine wpAny_bind (next_heldEnd Sp D1 hz hT hI st1 fun h' tk kp => wpAny_pure ?_)
    have kT : ∀ T o, T ∈ Ts → s.heap.get? T = some o → h'.get? T = some o := fun T o m e => by
      obtain ⟨j, ej⟩ := List.getElem?_of_mem m
      obtain ⟨a, b, _⟩ := ho j T ej
      have sp := sep T a b
      exact kp T o (fun e => sp (.inl e)) (fun e => sp (.inr (.inl e))) (fun e => sp (.inr (.inr (.inl e)))) (fun e => sp (.inr (.inr (.inr e)))) e
    exact q h' tk Ts c (fun b o _ b1 b2 b3 b4 e => kp b o b1 b2 b3 b4 e) (kp S _ hSz si.1 si.2.1 si.2.2 hS) hl (ho.keep kT)
  | succ k ih =>
    intro i s Ts c f oT hk hi hz hT hI st1 st2 st3 hS hl hN ho t0 ti si q
    have hlt : i < xs.length := by omega
    refine codeAny_builtin F.entry_extend_loop ?_; rw [Around.under_plainId F.plain_extend_loop _]
    show wpAny _ A.in1 (pyNext (.ref z) >>= _) _ _ s
    refine wpAny_bind (next_held Sp D1 D2 D3 hz hT hI st1 st2 st3 hlt (by omega) (by omega) fun x1 x2 x3 h' tk e1 e2 e3 hz' u1 u2 u3 nt kp => ?_)
    have hS' : IsLs h' S (Ts.map Value.ref).toArray c := kp S _ hSz si.1 si.2.1 si.2.2 hS
    have hSn : s.heap.objs.size ≠ S := Nat.ne_of_gt (Heap.lt_size hS)
    show wpAny _ A.in1 (updateSeq S (·.push (.ref s.heap.objs.size)) >>= _) _ _ _
    have kT : ∀ T o, T ∈ Ts → s.heap.get? T = some o → h'.get? T = some o := fun T o m e => by
      obtain ⟨j, ej⟩ := List.getElem?_of_mem m
      obtain ⟨a, b, _⟩ := ho j T ej
      have sp := sep T a b
      exact kp T o (fun e => sp (.inl e)) (fun e => sp (.inr (.inl e))) (fun e => sp (.inr (.inr (.inl e)))) (fun e => sp (.inr (.inr (.inr e)))) e
    have pw : ((Ts.map Value.ref).toArray.push (.ref s.heap.objs.size)) = ((Ts ++ [s.heap.objs.size]).map Value.ref).toArray := by simp
    have up : ∀ (b : Addr) o, b ≠ S → h'.get? b = some o → (h'.update S (Obj.mapSeq (·.push (.ref s.heap.objs.size)))).get? b = some o := fun b o hb e => (Heap.get?_update_other _ _ (Ne.symm hb)).trans e
    have hS'' : ∃ c', IsLs (h'.update S (Obj.mapSeq (·.push (.ref s.heap.objs.size)))) S ((Ts ++ [s.heap.objs.size]).map Value.ref).toArray c' := by
      rw [← pw]
      exact ⟨_, Heap.get?_update_self (Obj.mapSeq (·.push (Value.ref s.heap.objs.size))) hS' rfl⟩
    obtain ⟨c2, hS''⟩ := hS''
    refine wpAny_bind (wpAny_updateSeq hS' rfl (wpAny_pure ⟨plainId_quiet F.plain_extend_loop _, ?_⟩) (by rw [List.size_toArray, List.length_map]; omega) (by show ((Ts.map Value.ref).toArray.push _).size ≤ sizeLine + 1; rw [Array.size_push, List.size_toArray, List.length_map]; omega))
    refine ih (i + 1) _ (Ts ++ [s.heap.objs.size]) c2 true oT (by omega) (by omega) (up _ _ (Ne.symm hSz) hz') (up _ _ (Ne.symm hST) (kp T0 _ t0.1 t0.2.1 t0.2.2.1 t0.2.2.2 hT)) (up _ _ (Ne.symm hSI) (kp TI _ ti.1 ti.2.1 ti.2.2.1 ti.2.2.2 hI))
      (D1.frame _ _ _ u1 fun b hb o e => up b o (fun q => hS1 (q ▸ hb)) e) (D2.frame _ _ _ u2 fun b hb o e => up b o (fun q => hS2 (q ▸ hb)) e) (D3.frame _ _ _ u3 fun b hb o e => up b o (fun q => hS3 (q ▸ hb)) e) hS'' (by simp [hl]) ?_ ?_ t0 ti si ?_
    · exact Nat.le_trans hN (Nat.le_of_lt (Heap.lt_size (up _ _ hSn nt)))
    · refine ((ho.keep kT).snoc hN hSn (by rw [hl]; exact e1) (by rw [hl]; exact e2) (by rw [hl]; exact e3) nt).keep fun T o m e => up T o (fun q => ?_) e
      subst q
      rcases List.mem_append.mp m with m | m
      · obtain ⟨j, ej⟩ := List.getElem?_of_mem m
        exact (ho j _ ej).2.1 rfl
      · simp at m; exact hSn m.symm
    · intro h2 tk2 Ts' c' k2 a1 a2 a3
      exact q h2 tk2 Ts' c' (fun b o b0 b1 b2 b3 b4 e => k2 b o b0 b1 b2 b3 b4 (up b o b0 (kp b o b1 b2 b3 b4 e))) a1 a2 a3
end
theorem zip_no_len : typeLookup (.type "zip") "__len__" = pure none := by rw [typeLookup_type, builtinLookup_eq_fast]; kernel_rfl
theorem zip_no_hint : typeLookup (.type "zip") "__length_hint__" = pure none := by rw [typeLookup_type, builtinLookup_eq_fast]; kernel_rfl
/-- where a zip of three lies: N the first of its cells -/
structure ZAt (N : Nat) (xs ys zs : List Value) (St1 St2 St3 : Nat → Heap → Prop) (fp1 fp2 fp3 : List Addr) (h : Heap) : Prop where
  z : IsZip h (N + 5) (N + 3) (N + 4) .none
  ti : IsTupOf3 h (N + 3) (.ref N) (.ref (N + 1)) (.ref (N + 2))
  to : ∃ a1 a2 a3, IsTupOf3 h (N + 4) a1 a2 a3
  s1 : St1 0 h
  s2 : St2 0 h
  s3 : St3 0 h
section
variable {prog : Program} {w : World} {A : Around} {s : Shared} {R : Result → Shared → Prop} {xs ys zs : List Value} {St1 St2 St3 : Nat → Heap → Prop} {fp1 fp2 fp3 : List Addr} {N : Nat} {S : Addr}
theorem ZAt.keep {h h' : Heap} (Z : ZAt N xs ys zs St1 St2 St3 fp1 fp2 fp3 h) (D1 : Draws prog w A N (N :: fp1) xs.length (AtL xs) St1) (D2 : Draws prog w A (N + 1) ((N + 1) :: fp2) ys.length (AtL ys) St2) (D3 : Draws prog w A (N + 2) ((N + 2) :: fp3) zs.length (AtL zs) St3)
    (b1 : ∀ b ∈ fp1, b < N) (b2 : ∀ b ∈ fp2, b < N) (b3 : ∀ b ∈ fp3, b < N) (k : ∀ b o, b < N + 6 → h.get? b = some o → h'.get? b = some o) : ZAt N xs ys zs St1 St2 St3 fp1 fp2 fp3 h' where
  z := k _ _ (by omega) Z.z
  ti := k _ _ (by omega) Z.ti
  to := let ⟨a1, a2, a3, e⟩ := Z.to; ⟨a1, a2, a3, k _ _ (by omega) e⟩
  s1 := D1.frame _ _ _ Z.s1 fun b hb o e => k b o (by
    rcases List.mem_cons.mp hb with r | r
    · rw [r]; omega
    · exact Nat.lt_of_lt_of_le (b1 b r) (Nat.le_add_right N 6)) e
  s2 := D2.frame _ _ _ Z.s2 fun b hb o e => k b o (by
    rcases List.mem_cons.mp hb with r | r
    · rw [r]; omega
    · exact Nat.lt_of_lt_of_le (b2 b r) (Nat.le_add_right N 6)) e
  s3 := D3.frame _ _ _ Z.s3 fun b hb o e => k b o (by
    rcases List.mem_cons.mp hb with r | r
    · rw [r]; omega
    · exact Nat.lt_of_lt_of_le (b3 b r) (Nat.le_add_right N 6)) e
theorem loop_zip (D1 : Draws prog w A.in1.in1 N (N :: fp1) xs.length (AtL xs) St1) (D2 : Draws prog w A.in1.in1 (N + 1) ((N + 1) :: fp2) ys.length (AtL ys) St2) (D3 : Draws prog w A.in1.in1 (N + 2) ((N + 2) :: fp3) zs.length (AtL zs) St3)
    (b1 : ∀ b ∈ fp1, b < N) (b2 : ∀ b ∈ fp2, b < N) (b3 : ∀ b ∈ fp3, b < N) (l2 : ys.length = xs.length) (l3 : zs.length = xs.length) (hn : xs.length ≤ sizeLine) (Z : ZAt N xs ys zs St1 St2 St3 fp1 fp2 fp3 s.heap) {c : Nat} (hS : IsLs s.heap (N + 6) #[] c) (res : Value)
    (q : ∀ h' tk Ts c', (∀ b o, b < N → s.heap.get? b = some o → h'.get? b = some o) → IsLs h' (N + 6) (Ts.map Value.ref).toArray c' → Ts.length = xs.length → Outs (N + 7) (N + 6) xs ys zs h' Ts → R (.ok (.ret res)) { s with heap := h', toks := tk }) :
    codeAny (model prog w) A (.builtin "list.extend.loop" ⟨[.ref (N + 6), .ref (N + 5), res], []⟩) R s := by
  have Sp := zip_sep3 (N := N) b1 b2 b3
  obtain ⟨hz, hI, ⟨a1, a2, a3, hO⟩, u1, u2, u3⟩ := Z
  have nz : ∀ {a b : Nat}, a ≠ b → (a : Addr) ≠ b := fun h => h
  refine codeAny_builtin F.entry_extend_loop ?_; rw [Around.under_plainId F.plain_extend_loop _]
  show wpAny _ A.in1 (pyNext (.ref (N + 5)) >>= _) _ _ s
  by_cases h0 : xs.length = 0
  · refine wpAny_bind (wpAny_pyNext_zipD3_end Sp D1 D2 D3 hz hI hO u1 u2 u3 (Nat.zero_le _) (Nat.zero_le _) (Nat.zero_le _) (.inl h0.symm) fun h' tk kp => wpAny_pure ?_)
    refine q h' tk [] c (fun b o hb e => kp b o ?_ ?_ ?_ ?_ ?_ e) (kp _ _ ?_ ?_ ?_ ?_ ?_ hS) (by simp [h0]) fun j T e => by simp at e
    all_goals (apply nz; omega)
  · have hlt : 0 < xs.length := Nat.pos_of_ne_zero h0
    refine wpAny_bind (wpAny_pyNext_zipD3_item Sp D1 D2 D3 hz hI hO u1 u2 u3 hlt (by omega) (by omega) fun x1 x2 x3 h' tk e1 e2 e3 hz' hO' v1 v2 v3 nt hsz kp => ?_)
    have hSl : N + 6 < s.heap.objs.size := Heap.lt_size hS
    have hS' : IsLs h' (N + 6) #[] c := kp _ _ (nz (by omega)) (nz (by omega)) (nz (by omega)) (nz (by omega)) (nz (by omega)) hS
    have hI' : IsTupOf3 h' (N + 3) (.ref N) (.ref (N + 1)) (.ref (N + 2)) := kp _ _ (nz (by omega)) (nz (by omega)) (nz (by omega)) (nz (by omega)) (nz (by omega)) hI
    have hSn : s.heap.objs.size ≠ N + 6 := by omega
    show wpAny _ A.in1 (updateSeq (N + 6) (·.push (.ref s.heap.objs.size)) >>= _) _ _ _
    have up : ∀ (b : Addr) o, b ≠ N + 6 → h'.get? b = some o → (h'.update (N + 6) (Obj.mapSeq (·.push (.ref s.heap.objs.size)))).get? b = some o := fun b o hb e => (Heap.get?_update_other _ _ (Ne.symm hb)).trans e
    have hS'' : ∃ c', IsLs (h'.update (N + 6) (Obj.mapSeq (·.push (.ref s.heap.objs.size)))) (N + 6) ([s.heap.objs.size].map Value.ref).toArray c' := ⟨_, Heap.get?_update_self (Obj.mapSeq (·.push (Value.ref s.heap.objs.size))) hS' rfl⟩
    obtain ⟨c2, hS''⟩ := hS''
    refine wpAny_bind (wpAny_updateSeq hS' rfl (wpAny_pure ⟨plainId_quiet F.plain_extend_loop _, ?_⟩) (by simp) (by simp))
    have nf : ∀ {fp : List Addr} {a : Nat}, (∀ b ∈ fp, b < N) → N + 6 ≠ a → (N + 6 : Addr) ∉ a :: fp := fun h ha hm => by
      rcases List.mem_cons.mp hm with r | r
      · exact ha r
      · exact absurd (show N + 6 < N from h _ r) (by omega)
    refine loop_held (N := N + 7) (S := N + 6) (T0 := s.heap.objs.size) Sp D1 D2 D3 l2 l3 hn (nf b1 (by omega)) (nf b2 (by omega)) (nf b3 (by omega)) (nz (by omega)) (nz (by omega)) (Ne.symm hSn) ?_ res (xs.length - 1) 1 _ [s.heap.objs.size] c2 false _ rfl hlt (up _ _ (nz (by omega)) hz') (up _ _ hSn nt) (up _ _ (nz (by omega)) hI')
      (D1.frame _ _ _ v1 fun b hb o e => up b o (fun q => nf b1 (show N + 6 ≠ N by omega) (q ▸ hb)) e) (D2.frame _ _ _ v2 fun b hb o e => up b o (fun q => nf b2 (show N + 6 ≠ N + 1 by omega) (q ▸ hb)) e) (D3.frame _ _ _ v3 fun b hb o e => up b o (fun q => nf b3 (show N + 6 ≠ N + 2 by omega) (q ▸ hb)) e) hS'' rfl ?_ ?_ ?_ ?_ ?_ ?_
    · intro T h1 h2 h3
      rcases h3 with r | r | r | r
      · rw [r] at h1; exact absurd (show N + 7 ≤ N + 5 from h1) (by omega)
      · rw [r] at h1; exact absurd (show N + 7 ≤ N from h1) (by omega)
      · rw [r] at h1; exact absurd (show N + 7 ≤ N + 1 from h1) (by omega)
      · rw [r] at h1; exact absurd (show N + 7 ≤ N + 2 from h1) (by omega)
    · have : s.heap.objs.size < (h'.update (N + 6) (Obj.mapSeq (·.push (.ref s.heap.objs.size)))).objs.size := Heap.lt_size (up _ _ hSn nt)
      exact Nat.le_trans (show N + 7 ≤ s.heap.objs.size by omega) (Nat.le_of_lt this)
    · have o0 : Outs (N + 7) (N + 6) xs ys zs (h'.update (N + 6) (Obj.mapSeq (·.push (.ref s.heap.objs.size)))) [] := fun j T e => by simp at e
      exact o0.snoc (T := s.heap.objs.size) (show N + 7 ≤ s.heap.objs.size by omega) hSn e1 e2 e3 (up _ _ hSn nt)
    · exact ⟨nz (by omega), nz (by omega), nz (by omega), nz (by omega)⟩
    · exact ⟨nz (by omega), nz (by omega), nz (by omega), nz (by omega)⟩
    · exact ⟨nz (by omega), nz (by omega), nz (by omega)⟩
    · intro h2 tk2 Ts' c' k2 r1 r2 r3
      refine q h2 tk2 Ts' c' (fun b o hb e => k2 b o ?_ ?_ ?_ ?_ ?_ (up b o ?_ (kp b o ?_ ?_ ?_ ?_ ?_ e))) r1 r2 r3
      all_goals (apply nz; omega)
end
section
variable {prog : Program} {w : World} {A : Around} {s : Shared} {xs ys zs : List Value} {St1 St2 St3 : Nat → Heap → Prop} {fp1 fp2 fp3 : List Addr} {N : Nat}
/-- list(z), z just made: N its first cell, S the list -/
theorem list_zip0 {z S : Addr} {ok K : Heap → Prop} {E : Value → Shared → Prop} {Q : Value → Shared → Prop} (hsz : s.heap.objs.size = S) (hzS : z ≠ S) (hlt : ∀ b : Addr, b < S → b ≠ S) (ho : ok s.heap) (hk : ∀ h h', ok h → (∀ b o, b ≠ S → h.get? b = some o → h'.get? b = some o) → ok h') (hI : ∀ h, ok h → ∃ TI TO, IsZip h z TI TO .none)
    (hh : A.handled = none) (loop : ∀ {A : Around} {R : Result → Shared → Prop} {s' : Shared} {c : Nat}, A.handled = none → ok s'.heap → IsLs s'.heap S #[] c → (∀ b o, b < S → s.heap.get? b = some o → s'.heap.get? b = some o) → (∀ h' tk, K h' → R (.ok (.ret .none)) { s' with heap := h', toks := tk }) → codeAny (model prog w) A (.builtin "list.extend.loop" ⟨[.ref S, .ref z, .none], []⟩) R s')
    (q : ∀ h' tk, K h' → Q (.ref S) { s with heap := h', toks := tk }) :
    wpAny (model prog w) A (call (.type "list") [.ref z]) Q E s := by
  refine callType_codes (Q₁ := fun obj s₁ => obj = .ref s.heap.objs.size ∧ s₁ = { s with heap := s.heap.push { cls := .type "list", data := .seq #[] } }) F.called_list (F.typeCall_list_1 _) F.entry_list_init (code_list_new _ ⟨rfl, rfl⟩) ?_
  rintro obj s₁ ⟨rfl, rfl⟩
  rw [hsz]
  have hS : IsLs (s.heap.push { cls := .type "list", data := .seq #[] }) S #[] 0 := by rw [← hsz]; exact Heap.get?_push_size _ rfl
  refine ⟨⟨_, hS, rfl⟩, F.args_list_init_2 _ _, ?_⟩
  show wpAny _ A.in1.in1 (do let old ← Builtin.List.listItems (.ref S); Builtin.List.listUpdate (.ref S) (fun _ => #[]); letGo old.toList.reverse; Builtin.List.listExtendWith (.ref S) (.ref z) .none) _ _ _
  refine wpAny_bind ?_; unfold Builtin.List.listItems
  refine wpAny_bind (wpAny_seqItems hS rfl (wpAny_pure ?_))
  show wpAny _ A.in1.in1 (updateSeq S (fun _ => #[]) >>= fun _ => letGo (#[] : Array Value).toList.reverse >>= fun _ => Builtin.List.listExtendWith (.ref S) (.ref z) .none) _ _ _
  refine wpAny_bind (wpAny_updateSeq hS rfl ?_)
  have hS2 := Heap.get?_update_self (Obj.mapSeq (fun _ => (#[] : Array Value))) hS rfl
  have o2 : ∀ b o, b ≠ S → s.heap.get? b = some o → ((s.heap.push { cls := .type "list", data := .seq #[] }).update S (Obj.mapSeq (fun _ => (#[] : Array Value)))).get? b = some o := fun b o hb e => (Heap.get?_update_other _ _ (Ne.symm hb)).trans (Heap.get?_push_of_some _ e)
  refine wpAny_bind (wpAny_letGo ?_)
  have Z2 := hk _ _ ho o2
  have tz : ∀ h : Heap, ok h → ∀ t : Shared, t.heap = h → t.TypeIs (.ref z) "zip" := fun h Zh t e => let ⟨_, _, y⟩ := hI h Zh; zip_typeIs y t e
  unfold Builtin.List.listExtendWith
  refine wpAny_bind (wpAny_typeOf (tz _ Z2 _ rfl) ?_)
  have n1 : Builtin.List.listSameRef (.ref S) (.ref z) = false := by
    simp [Builtin.List.listSameRef, Ne.symm hzS]
  have n2 : (Value.type "zip" == Value.type "list") = false := by decide
  have n3 : (Value.type "zip" == Value.type "tuple") = false := by decide
  simp only [n1, n2, n3, Bool.or_false, Bool.false_eq_true, if_false]
  obtain ⟨TI, TO, hz2⟩ := hI _ Z2
  refine wpAny_bind (wpAny_pyIter_zip hz2 ?_); refine wpAny_bind (wpAny_holding ?_)
  unfold Builtin.List.listLengthHint
  refine wpAny_bind (wpAny_specialOf (tz _ Z2 _ rfl) zip_no_len ?_)
  show wpAny _ A.in1.in1 (specialOf (Value.ref z) (Str.ofString "__length_hint__") >>= _) _ _ _
  refine wpAny_bind (wpAny_specialOf (tz _ Z2 _ rfl) zip_no_hint ?_); refine wpAny_pure ?_
  show wpAny _ A.in1.in1 (rule "list.extend.makes-room" >>= fun _ => Builtin.List.listTouch (.ref S) >>= fun _ => again (.builtin "list.extend.loop" ⟨[.ref S, .ref z, .none], []⟩)) _ _ _
  refine wpAny_bind (wpAny_rule ?_); refine wpAny_bind ?_
  show wpAny _ A.in1.in1 (updateSeq S (·.push .none) >>= fun _ => updateSeq S (·.pop)) _ _ _
  refine wpAny_bind (wpAny_updateSeq hS2 rfl ?_)
  have hS3 := Heap.get?_update_self (Obj.mapSeq (·.push Value.none)) hS2 rfl
  refine wpAny_updateSeq (hz := by seq_fits) hS3 rfl ?_
  have hS4 := Heap.get?_update_self (Obj.mapSeq (·.pop)) hS3 rfl
  have o4 : ∀ b o, b ≠ S → s.heap.get? b = some o → ((((s.heap.push { cls := .type "list", data := .seq #[] }).update S (Obj.mapSeq (fun _ => (#[] : Array Value)))).update S (Obj.mapSeq (·.push Value.none))).update S (Obj.mapSeq (·.pop))).get? b = some o :=
    fun b o hb e => (Heap.get?_update_other _ _ (Ne.symm hb)).trans ((Heap.get?_update_other _ _ (Ne.symm hb)).trans (o2 b o hb e))
  refine wpAny_pure ⟨plainId_quiet F.plain_extend_loop _, loop hh (hk _ _ ho o4) hS4 (fun b o hb e => o4 b o (hlt b hb) e) fun h' tk r => ?_⟩
  exact ⟨rfl, q h' tk r⟩
end
end MirR
/-! Mir: list(zip(a, b, c)); many new things at once. -/
namespace Mir
open PySem PySem.Spec PyProof.Rows L2
/-- all of what is new is laid at once -/
theorem laid_many {X : Cx} {pins : List (Addr × Obj)} {σ : L2.St} {H H' : Hp} {s : Shared} {h' : Heap} {t' : Nat} (I : Inv X pins σ H s) (k : ∀ b u, s.heap.get? b = some u → h'.get? b = some u) (hx : ∀ b, b < s.heap.objs.size → H' b = H b)
    (new : ∀ b o, s.heap.objs.size ≤ b → H' b = some o → ObjOk X.prog X.w H' h' b o) : Inv X pins σ H' { s with heap := h', toks := t' } := by
  have keepH : ∀ b o, H b = some o → H' b = some o := fun b o e => by rw [hx b (I.hok.lt e)]; exact e
  refine I.un ⟨fun b u q _ _ _ => k b u q, fun b u q _ _ _ => ⟨u.slots, k b u q⟩, fun b u q n _ => by rw [hx b (Heap.lt_size q)]; exact n, fun b u q _ => ⟨u, k b u q⟩, fun b xs q => keepH _ _ q, fun b u xs q => keepH _ _ q, fun b ps q => ⟨#[], by rw [keepH _ _ q]; simp⟩⟩ ?_
  intro b o e
  by_cases hb : b < s.heap.objs.size
  · rw [hx b hb] at e
    exact (I.hok b o e).stay (fun c v _ q => k c v q) (fun c q => keepH _ _ q) fun c xs q => keepH _ _ q
  · exact new b o (Nat.le_of_not_lt hb) e
/-- the heap with the things of a list of pairs -/
def more (H : Hp) (l : List (Addr × HO)) : Hp := fun b => match l.find? fun p => p.1 == b with
  | some p => some p.2
  | none => H b
theorem more_not {H : Hp} {l : List (Addr × HO)} {b : Addr} (h : ∀ p ∈ l, p.1 ≠ b) : more H l b = H b := by
  unfold more
  have : l.find? (fun p => p.1 == b) = none := List.find?_eq_none.mpr fun p hp => by simpa using h p hp
  rw [this]
theorem more_some {H : Hp} {l : List (Addr × HO)} {b : Addr} {o : HO} (h : more H l b = some o) (hn : H b = none) : ∃ p ∈ l, p.1 = b ∧ p.2 = o := by
  unfold more at h
  cases e : l.find? (fun p => p.1 == b) with
  | none => rw [e] at h; rw [hn] at h; cases h
  | some p =>
    rw [e] at h
    have hm := List.mem_of_find?_eq_some e
    have he := List.find?_some e
    exact ⟨p, hm, by simpa using he, Option.some.inj h⟩
theorem more_in {H : Hp} {l : List (Addr × HO)} {b : Addr} (h : ∃ p ∈ l, p.1 = b) : ∃ p ∈ l, p.1 = b ∧ more H l b = some p.2 := by
  unfold more
  cases e : l.find? (fun p => p.1 == b) with
  | none =>
    obtain ⟨p, hp, eb⟩ := h
    exact absurd (List.find?_eq_none.mp e p hp) (by simp [eb])
  | some p =>
    have hm := List.mem_of_find?_eq_some e
    have he := List.find?_some e
    exact ⟨p, hm, by simpa using he, rfl⟩
def tZ3 (K : PySem.W.Frag) (ta : TA) : TE := fun σ H Q => ta σ H fun vs H1 => ∃ k1 k2 k3 a b c xs ys zs, vs = [.ref a, .ref b, .ref c] ∧ HSK k1 K H1 a xs ∧ HSK k2 K H1 b ys ∧ HSK k3 K H1 c zs ∧ ys.length = xs.length ∧ zs.length = xs.length ∧
  ∀ (H' : Hp) (p : Addr) (Ts : List Addr), (∀ a o, H1 a = some o → H' a = some o) → H1 p = none → H' p = some (.lst (Ts.map V.ref)) → Ts.length = xs.length →
    (∀ (j : Nat) (T : Addr), Ts[j]? = some T → ∃ x y z, xs[j]? = some x ∧ ys[j]? = some y ∧ zs[j]? = some z ∧ H' T = some (.tup [x, y, z])) → Q (.ref p) H'
theorem ltk_draws {prog : Program} {w : World} {A : Around} (hh : A.handled = none) (k : Bool) (it a : Addr) (hne : a ≠ it) (items : List Value) : Draws prog w A it [it, a] items.length (MirR.AtL items) (fun i h => LtK k it a i h ∧ SrK k a items.toArray h) := by
  have d := srk_draws (prog := prog) (w := w) hh k it a hne items.toArray
  simpa using d
theorem vals3 {x y z : V} {us : List Value} (r : Vals [x, y, z] us) : ∃ u v t, us = [u, v, t] ∧ RelV x u ∧ RelV y v ∧ RelV z t := by
  cases r with
  | cons r1 r => cases r with
    | cons r2 r => cases r with
      | cons r3 r => cases r; exact ⟨_, _, _, rfl, r1, r2, r3⟩
theorem srk_at {k : Bool} {a : Addr} {items : Array Value} {h h' : Heap} (s : SrK k a items h) (q : ∀ o, h.get? a = some o → h'.get? a = some o) : SrK k a items h' := by
  cases k with
  | true => exact Heap.IsList.at s q
  | false => exact Heap.IsTuple.at s q
theorem pe_listZip3 {X : Cx} {e e2 e3 : Expr} {ta : TA} {p1 p2 p3 pos : Pos} (hc : X.calm = true) (hg0 : Gl X "list") (hm0 : X.mg "list" = none) (hg : Gl X "zip") (hm : X.mg "zip" = none) (ha : PA X [e, e2, e3] ta)
    (hs0 : starEach [.Call (.Name "zip" p2) [e, e2, e3] [] p3] X.env = [(false, eval (.Call (.Name "zip" p2) [e, e2, e3] [] p3) X.env)] := by rfl)
    (hs : starEach [e, e2, e3] X.env = (false, eval e X.env) :: starEach [e2, e3] X.env := by rfl) (hpl : (backTo p3 (starEach [e2, e3] X.env)).any (·.1) = false := by rfl) :
    PE X (.Call (.Name "list" p1) [.Call (.Name "zip" p2) [e, e2, e3] [] p3] [] pos) (tZ3 X.K ta) := by
  refine ⟨fun pins s σ H Q I h => ?_⟩
  refine Call_ (ld_blt (u := .type "list") I hg0 hm0 (by decide +kernel) ?_)
  refine PyProof.Rows.callWith_type1 ?_ (by rw [hs0]; rfl) (by rfl)
  rw [hs0]
  refine Calls.spliced_cons ?_
  refine wpAny_mono (Q := fun u s1 => wpAny (model X.prog X.w) X.A (call (.type "list") [u]) (EP X pins σ Q) X.xe s1) ?_ (fun u s1 q => Calls.spliced_nil q) fun _ _ x => x
  refine Call_ (ld_blt I hg hm boot_zip (PyProof.Rows.callWith_type1 (thn (ha.run p3 pins s σ H _ I h) fun us s1 ⟨vs, H1, I1, r1, q1⟩ => ?_) hs hpl))
  obtain ⟨k1, k2, k3, a, b, c, xs, ys, zs, ex, q1a, q1b, q1c, hl2, hl3, q⟩ := q1
  subst ex
  obtain ⟨u1, u2, u3, rfl, ru1, ru2, ru3⟩ := vals3 r1
  cases ru1; cases ru2; cases ru3
  obtain ⟨is1, rv1, sr1, z1⟩ := srk_of I1 q1a
  obtain ⟨is2, rv2, sr2, _⟩ := srk_of I1 q1b
  obtain ⟨is3, rv3, sr3, _⟩ := srk_of I1 q1c
  refine zip_begins3 (srk_begins k1 a is1.toArray) (srk_begins k2 b is2.toArray) (srk_begins k3 c is3.toArray) sr1 sr2 sr3 fun h' g1 g2 g3 g4 g5 g6 gz gk => ?_
  have la := srk_lt sr1
  have lb := srk_lt sr2
  have lc := srk_lt sr3
  have l1 := rv1.length
  have l2 := rv2.length
  have l3 := rv3.length
  generalize hN : s1.heap.objs.size = N at g1 g2 g3 g4 g5 g6 gz la lb lc ⊢
  have hh : ∀ A : Around, A.handled = none → Draws X.prog X.w A N [N, a] is1.length (MirR.AtL is1) (fun i h => LtK k1 N a i h ∧ SrK k1 a is1.toArray h) := fun A h => ltk_draws h k1 N a (Nat.ne_of_lt la) is1
  have hd := I1.ok.hd hc
  have ne6 : ∀ b : Addr, b < N + 6 → b ≠ N + 6 := fun b h => Nat.ne_of_lt h
  have D1 : ∀ A : Around, A.handled = none → Draws X.prog X.w A N (N :: [a]) is1.length (MirR.AtL is1) (fun i h => LtK k1 N a i h ∧ SrK k1 a is1.toArray h) := fun A h => ltk_draws h k1 N a (Nat.ne_of_lt la) is1
  have D2 : ∀ A : Around, A.handled = none → Draws X.prog X.w A (N + 1) ((N + 1) :: [b]) is2.length (MirR.AtL is2) (fun i h => LtK k2 (N + 1) b i h ∧ SrK k2 b is2.toArray h) := fun A h => ltk_draws h k2 (N + 1) b (Nat.ne_of_lt (Nat.lt_of_lt_of_le lb (Nat.le_add_right N 1))) is2
  have D3 : ∀ A : Around, A.handled = none → Draws X.prog X.w A (N + 2) ((N + 2) :: [c]) is3.length (MirR.AtL is3) (fun i h => LtK k3 (N + 2) c i h ∧ SrK k3 c is3.toArray h) := fun A h => ltk_draws h k3 (N + 2) c (Nat.ne_of_lt (Nat.lt_of_lt_of_le lc (Nat.le_add_right N 2))) is3
  have ba : ∀ b ∈ [a], b < N := by intro b hb; rw [List.mem_singleton.mp hb]; exact la
  have bb : ∀ x ∈ [b], x < N := by intro x hb; rw [List.mem_singleton.mp hb]; exact lb
  have bc : ∀ b ∈ [c], b < N := by intro b hb; rw [List.mem_singleton.mp hb]; exact lc
  have Z0 : MirR.ZAt N is1 is2 is3 (fun i h => LtK k1 N a i h ∧ SrK k1 a is1.toArray h) (fun i h => LtK k2 (N + 1) b i h ∧ SrK k2 b is2.toArray h) (fun i h => LtK k3 (N + 2) c i h ∧ SrK k3 c is3.toArray h) [a] [b] [c] h' :=
    ⟨g1, g2, ⟨_, _, _, g3⟩, ⟨ltk_new g4, srk_at sr1 (gk _)⟩, ⟨ltk_new g5, srk_at sr2 (gk _)⟩, ⟨ltk_new g6, srk_at sr3 (gk _)⟩⟩
  refine MirR.list_zip0 (z := N + 5) (S := N + 6) (ok := MirR.ZAt N is1 is2 is3 (fun i h => LtK k1 N a i h ∧ SrK k1 a is1.toArray h) (fun i h => LtK k2 (N + 1) b i h ∧ SrK k2 b is2.toArray h) (fun i h => LtK k3 (N + 2) c i h ∧ SrK k3 c is3.toArray h) [a] [b] [c])
    (K := fun h2 => ∃ Ts c', (∀ b o, b < N → h'.get? b = some o → h2.get? b = some o) ∧ MirR.IsLs h2 (N + 6) (Ts.map Value.ref).toArray c' ∧ Ts.length = is1.length ∧ MirR.Outs (N + 7) (N + 6) is1 is2 is3 h2 Ts)
    gz (Nat.ne_of_lt (Nat.lt_succ_self _)) ne6 Z0 (fun h h2 Z k => Z.keep (D1 _ hd) (D2 _ hd) (D3 _ hd) ba bb bc fun b o hb e => k b o (ne6 b hb) e) (fun h Z => ⟨_, _, Z.z⟩) hd ?_ ?_
  · intro A R s' c' hA Z hS k2 hR
    exact MirR.loop_zip (D1 _ hA) (D2 _ hA) (D3 _ hA) ba bb bc (by omega) (by omega) (by omega) Z hS .none fun h2 tk Ts c2 kk r1 r2 r3 => hR h2 tk ⟨Ts, c2, fun b o hb e => kk b o hb (k2 b o (Nat.lt_of_lt_of_le hb (Nat.le_add_right N 6)) e), r1, r2, r3⟩
  · rintro h2 tk ⟨Ts, c2, kk, hS, hl, ho⟩
    have kS : ∀ b o, s1.heap.get? b = some o → h2.get? b = some o := fun b o e => kk b o (by rw [← hN]; exact Heap.lt_size e) (gk b o e)
    have tv : ∀ (j : Nat) (T : Addr), Ts[j]? = some T → ∃ x y u, xs[j]? = some x ∧ ys[j]? = some y ∧ zs[j]? = some u ∧ ∃ x' y' u', RelV x x' ∧ RelV y y' ∧ RelV u u' ∧ IsTupOf3 h2 T x' y' u' := fun j T e => by
      obtain ⟨_, _, x', y', u', e1, e2, e3, e4⟩ := ho j T e
      have j1 := (List.getElem?_eq_some_iff.mp e1).1
      have j2 := (List.getElem?_eq_some_iff.mp e2).1
      have j3 := (List.getElem?_eq_some_iff.mp e3).1
      obtain ⟨v1, f1, g1⟩ := rv1.get (List.getElem?_eq_getElem (show j < xs.length by omega))
      obtain ⟨v2, f2, g2⟩ := rv2.get (List.getElem?_eq_getElem (show j < ys.length by omega))
      obtain ⟨v3, f3, g3⟩ := rv3.get (List.getElem?_eq_getElem (show j < zs.length by omega))
      rw [e1] at f1; cases f1
      rw [e2] at f2; cases f2
      rw [e3] at f3; cases f3
      exact ⟨_, _, _, List.getElem?_eq_getElem _, List.getElem?_eq_getElem _, List.getElem?_eq_getElem _, _, _, _, g1, g2, g3, e4⟩
    let tp : Nat → HO := fun j => .tup [xs.getD j .non, ys.getD j .non, zs.getD j .non]
    let l : List (Addr × HO) := (N + 6, .lst (Ts.map V.ref)) :: (Ts.zipIdx.map fun p => (p.1, tp p.2))
    have lm : ∀ p ∈ l, p = (N + 6, HO.lst (Ts.map V.ref)) ∨ ∃ j T, Ts[j]? = some T ∧ p = (T, tp j) := fun p hp => by
      rcases List.mem_cons.mp hp with r | r
      · exact .inl r
      · obtain ⟨⟨T, j⟩, hq, rfl⟩ := List.mem_map.mp r
        rw [List.mem_zipIdx_iff_getElem?] at hq
        exact .inr ⟨j, T, hq, rfl⟩
    have new : ∀ b o, H1 b = none → more H1 l b = some o → ObjOk X.prog X.w (more H1 l) h2 b o := fun b o hn e => by
      obtain ⟨p, hp, rfl, rfl⟩ := more_some e hn
      rcases lm p hp with rfl | ⟨j, T, hj, rfl⟩
      · exact ⟨by rw [List.length_map, hl]; omega, Ts.map Value.ref, c2, vals_refs Ts, hS⟩
      · obtain ⟨x, y, u, e1, e2, e3, x', y', u', r1, r2, r3, e4⟩ := tv j T hj
        refine ⟨by show 3 ≤ sizeLine; decide, [x', y', u'], ?_, ⟨_, e4, rfl, _, rfl⟩⟩
        show Vals [xs.getD j .non, ys.getD j .non, zs.getD j .non] _
        rw [List.getD_eq_getElem?_getD, List.getD_eq_getElem?_getD, List.getD_eq_getElem?_getD, e1, e2, e3]
        exact .cons r1 (.cons r2 (.cons r3 .nil))
    have lo : ∀ p ∈ l, N ≤ p.1 := fun p hp => by
      rcases lm p hp with rfl | ⟨j, T, hj, rfl⟩
      · exact Nat.le_add_right N 6
      · obtain ⟨a1, _⟩ := ho j T hj
        exact Nat.le_trans (Nat.le_add_right N 7) a1
    have fresh : ∀ b, N ≤ b → H1 b = none := fun b hb => I1.hok.fresh (by rw [hN]; exact hb)
    have I2 : Inv X pins σ (more H1 l) { s1 with heap := h2, toks := tk } := laid_many I1 kS (fun b hb => more_not fun p hp q => by
      have h1 := lo p hp
      rw [q] at h1
      rw [hN] at hb
      exact absurd hb (Nat.not_lt_of_le h1)) fun b o hb e => new b o (fresh b (by rw [← hN]; exact hb)) e
    refine ⟨.ref (N + 6), more H1 l, I2, rfl, q (more H1 l) (N + 6) Ts (fun a o e => ?_) (fresh _ (Nat.le_add_right N 6)) ?_ (by omega) fun j T hj => ?_⟩
    · rw [more_not fun p hp q => ?_]
      · exact e
      · have h1 := lo p hp
        rw [q, ← hN] at h1
        exact absurd (I1.hok.lt e) (Nat.not_lt_of_le h1)
    · unfold more
      show (match List.find? _ ((N + 6, HO.lst (Ts.map V.ref)) :: _) with | some p => some p.2 | none => H1 (N + 6)) = _
      rw [List.find?_cons_of_pos (by simp)]
    · obtain ⟨p, hp, e1, e2⟩ := more_in (H := H1) (l := l) (b := T) ⟨(T, tp j), List.mem_cons_of_mem _ (List.mem_map.mpr ⟨(T, j), List.mem_zipIdx_iff_getElem?.mpr hj, rfl⟩), rfl⟩
      obtain ⟨x, y, u, f1, f2, f3, x', y', u', r1, r2, r3, e4⟩ := tv j T hj
      refine ⟨x, y, u, f1, f2, f3, ?_⟩
      rw [e2]
      rcases lm p hp with rfl | ⟨j', T', hj', rfl⟩
      · exact absurd e1 (Ne.symm (ho j T hj).2.1)
      · have e1' : T' = T := e1
        obtain ⟨x2, y2, u2, f1', f2', f3', x2', y2', u2', r1', r2', r3', e4'⟩ := tv j' T' hj'
        rw [e1', show IsTupOf3 h2 T x2' y2' u2' = (_ = _) from rfl, e4] at e4'
        simp at e4'
        obtain ⟨rfl, rfl, rfl⟩ := e4'
        have h1 := r1.inj r1'
        have h2 := r2.inj r2'
        have h3 := r3.inj r3'
        subst h1; subst h2; subst h3
        show some (HO.tup [xs.getD j' .non, ys.getD j' .non, zs.getD j' .non]) = _
        rw [List.getD_eq_getElem?_getD, List.getD_eq_getElem?_getD, List.getD_eq_getElem?_getD, f1', f2', f3']
        rfl
theorem fr_ext {φ : List Addr} {S : Sto} {H H' : Hp} (e : ∀ a o, H a = some o → H' a = some o) : Fr φ S H φ S H' := ⟨⟨[], by simp⟩, fun a o h _ => e a o h, fun _ l => .inl l, fun a o h => ⟨o, e a o h⟩⟩
theorem Ag.ext {K : PySem.W.Frag} {B : Addr → Prop} {φ : List Addr} {S : Sto} {H H' : Hp} (g : Ag K B φ S H) (e : ∀ a o, H a = some o → H' a = some o) : Ag K B φ S H' :=
  ⟨g.len, g.nd, fun a m => let ⟨o, h⟩ := g.trk a m; ⟨o, e a o h⟩, fun a m => let ⟨o, h⟩ := g.bt a m; ⟨o, e a o h⟩, g.dis, fun n o a e1 e2 => RO.lean ((fr_ext e).lean g) (fun u h => e a u h) (g.obj n o a e1 e2)⟩
def zip3P (xs ys zs : List PV) : List PV := (xs.zip (ys.zip zs)).map fun p => .tup [p.1, p.2.1, p.2.2]
def eZip3 (r : AM) : EM := fun ρ S => (r ρ S).bind fun vs S1 => match vs with
  | [u, v, w] => (match seqL S1 u, seqL S1 v, seqL S1 w with
    | some xs, some ys, some zs => if ys.length = xs.length ∧ zs.length = xs.length then .ok (.lst (zip3P xs ys zs)) S1 else .fail
    | _, _, _ => .fail)
  | _ => .fail
theorem hsk_of {K : PySem.W.Frag} {H : Hp} {a : Addr} {vs : List V} (h : SqL K H a vs ∨ SqT K H a vs) : ∃ k, HSK k K H a vs := by
  rcases h with h | h
  · exact ⟨true, h⟩
  · exact ⟨false, h⟩
theorem zip3P_get {xs ys zs : List PV} {j : Nat} {p : PV} (h : (zip3P xs ys zs)[j]? = some p) : ∃ x y z, xs[j]? = some x ∧ ys[j]? = some y ∧ zs[j]? = some z ∧ p = .tup [x, y, z] := by
  unfold zip3P at h
  rw [List.getElem?_map] at h
  obtain ⟨⟨x, y, z⟩, hq, rfl⟩ := Option.map_eq_some_iff.mp h
  rw [List.getElem?_zip_eq_some, List.getElem?_zip_eq_some] at hq
  exact ⟨x, y, z, hq.1, hq.2.1, hq.2.2, rfl⟩
theorem zip3P_len {xs ys zs : List PV} (h : ys.length = xs.length) (h2 : zs.length = xs.length) : (zip3P xs ys zs).length = xs.length := by simp [zip3P, h, h2]
section
variable {X : Cx} {W : WX} {pos : Pos}
theorem se_zip3 {e e2 e3 : Expr} {r : AM} {p1 p2 p3 : Pos} (hc : X.calm = true) (hg0 : Gl X "list") (hm0 : X.mg "list" = none) (hg : Gl X "zip") (hm : X.mg "zip" = none) (ha : SA X W [e, e2, e3] r)
    (hs0 : starEach [.Call (.Name "zip" p2) [e, e2, e3] [] p3] X.env = [(false, eval (.Call (.Name "zip" p2) [e, e2, e3] [] p3) X.env)] := by rfl)
    (hs : starEach [e, e2, e3] X.env = (false, eval e X.env) :: starEach [e2, e3] X.env := by rfl) (hpl : (backTo p3 (starEach [e2, e3] X.env)).any (·.1) = false := by rfl) :
    SE X W (.Call (.Name "list" p1) [.Call (.Name "zip" p2) [e, e2, e3] [] p3] [] pos) (eZip3 r) := by
  refine PE.via (pe_listZip3 hc hg0 hm0 hg hm ha hs0 hs hpl) fun σ H Q ⟨B, φ, ρ, S, g, q⟩ => ?_
  refine tA.of g (APost.bind q) fun vs' H1 ⟨φ1, S1, vs, m1, t, q1⟩ => ?_
  split at q1
  · rename_i u v w
    obtain ⟨u', ws, rfl, h1, t1⟩ := t.uncons
    obtain ⟨v', ws2, rfl, h2, t2⟩ := t1.uncons
    obtain ⟨w', ws3, rfl, h3, t3⟩ := t2.uncons
    unfold RVs at t3
    subst t3
    split at q1
    · rename_i xs ys zs e1 e2 e3
      split at q1
      · rename_i hl
        obtain ⟨a, va, rfl, s1, r1⟩ := seqL_ok m1.rel.ag h1 e1
        obtain ⟨b, vb, rfl, s2, r2⟩ := seqL_ok m1.rel.ag h2 e2
        obtain ⟨c, vc, rfl, s3, r3⟩ := seqL_ok m1.rel.ag h3 e3
        obtain ⟨k1, s1⟩ := hsk_of s1
        obtain ⟨k2, s2⟩ := hsk_of s2
        obtain ⟨k3, s3⟩ := hsk_of s3
        refine ⟨k1, k2, k3, a, b, c, va, vb, vc, rfl, s1, s2, s3, by rw [← r1.length, ← r2.length]; exact hl.1, by rw [← r1.length, ← r3.length]; exact hl.2, fun H' p Ts ex hp hL hT hj => ?_⟩
        have L := (fr_ext (φ := φ1) (S := S1) ex).lean m1.rel.ag
        refine q1 φ1 (.ref p) H' (fr_ext ex) (m1.rel.stay (fr_ext ex) (m1.rel.ag.ext ex)) ?_
        unfold RV
        refine ⟨p, _, rfl, ⟨m1.rel.ag.none_notMu hp, hL⟩, RVs.of_get (by rw [zip3P_len hl.1 hl.2, List.length_map, hT, r1.length]) fun j p v f1 f2 => ?_⟩
        obtain ⟨x, y, z, j1, j2, j3, rfl⟩ := zip3P_get f1
        rw [List.getElem?_map] at f2
        obtain ⟨T, hT', rfl⟩ := Option.map_eq_some_iff.mp f2
        obtain ⟨x', y', z', i1, i2, i3, i4⟩ := hj j T hT'
        obtain ⟨x2, w1, w2⟩ := r1.get j1
        obtain ⟨y2, w3, w4⟩ := r2.get j2
        obtain ⟨z2, w5, w6⟩ := r3.get j3
        rw [i1] at w1; cases w1
        rw [i2] at w3; cases w3
        rw [i3] at w5; cases w5
        unfold RV
        exact ⟨T, _, rfl, i4, .cons (RV.lean L _ w2) (.cons (RV.lean L _ w4) (.cons (RV.lean L _ w6) .nil))⟩
      · exact q1.elim
    · exact q1.elim
  · exact q1.elim
end
end Mir
/-! Mir: walks over dicts, dict comprehensions, list(d), len(d). -/
namespace Mir
open PySem PySem.Spec PyProof.Rows L2
/-! ### a dict under lock -/
def isDO : HO → Prop
  | .dK _ => True
  | .dT _ => True
  | _ => False
theorem DcO.isDO {t : Bool} {ks : List PV} {ws : List V} {u : HO} (d : DcO t ks ws u) : isDO u := by
  cases t with
  | false => obtain ⟨kvs, rfl, _⟩ := d; exact trivial
  | true => obtain ⟨kvs, rfl, _⟩ := d; exact trivial
/-- the same but for the lock at d -/
structure Lk (d : Addr) (u : HO) (H H' : Hp) : Prop where
  o : isDO u
  off : ∀ b, b ≠ d → H' b = H b
  h : Rd H d u
  h' : Rd H' d u
theorem Lk.symm {d : Addr} {u : HO} {H H' : Hp} (k : Lk d u H H') : Lk d u H' H := ⟨k.o, fun b n => (k.off b n).symm, k.h', k.h⟩
theorem Lk.no {d : Addr} {u v : HO} {H H' : Hp} (k : Lk d u H H') (e : H d = some v) : isDO v ∨ ∃ o w, v = .frz o w ∧ isDO w := by
  rcases k.h with r | ⟨o, r⟩
  · rw [r] at e; cases e; exact .inl k.o
  · rw [r] at e; cases e; exact .inr ⟨o, _, rfl, k.o⟩
theorem Lk.noTup {d : Addr} {u : HO} {vs : List V} {H H' : Hp} (k : Lk d u H H') (e : H d = some (.tup vs)) : False := by
  rcases k.no e with h | ⟨o, w, h, _⟩
  · exact h
  · cases h
theorem Lk.noLst {d : Addr} {u : HO} {vs : List V} {H H' : Hp} (k : Lk d u H H') (e : H d = some (.lst vs)) : False := by
  rcases k.no e with h | ⟨o, w, h, _⟩
  · exact h
  · cases h
theorem Lk.noFls {d : Addr} {u : HO} {o : Obj} {vs : List V} {H H' : Hp} (k : Lk d u H H') (e : H d = some (.frz o (.lst vs))) : False := by
  rcases k.no e with h | ⟨o, w, h, h2⟩
  · exact h
  · cases h; exact h2
theorem Lk.rd {d : Addr} {u u' : HO} {H H' : Hp} (k : Lk d u H H') (hd : isDO u') {b : Addr} (r : Rd H b u') : Rd H' b u' := by
  by_cases e : b = d
  · subst e
    have : u' = u := by
      rcases k.h with q | ⟨o, q⟩ <;> rcases r with r | ⟨o', r⟩ <;> rw [q] at r <;> cases r <;> first | rfl | exact (show False from hd).elim | exact (show False from k.o).elim
    rw [this]; exact k.h'
  · unfold Rd; rw [k.off b e]; exact r
section
variable {K : PySem.W.Frag} {M : Addr → Prop} {B : Addr → Prop} {φ : List Addr} {S : Sto} {H H' : Hp} {d : Addr} {u : HO}
mutual
theorem RV.lk (k : Lk d u H H') : ∀ (p : PV) {v : V}, RV K M φ H p v → RV K M φ H' p v
  | .non, _, h => h
  | .bl _, _, h => h
  | .int _, _, h => h
  | .str _, _, h => h
  | .tup ps, _, h => by
    unfold RV at h ⊢
    obtain ⟨a, vs, e, q, r⟩ := h
    refine ⟨a, vs, e, ?_, RVs.lk k ps r⟩
    rw [k.off a fun z => k.noTup (z ▸ q)]; exact q
  | .lst ps, _, h => by
    unfold RV at h ⊢
    obtain ⟨a, vs, e, ⟨m, q⟩, r⟩ := h
    refine ⟨a, vs, e, ⟨m, ?_⟩, RVs.lk k ps r⟩
    rw [k.off a fun z => k.noLst (z ▸ q)]; exact q
  | .fls ps, _, h => by
    unfold RV at h ⊢
    obtain ⟨a, vs, e, q, r⟩ := h
    refine ⟨a, vs, e, ?_, RVs.lk k ps r⟩
    rcases q with ⟨o, q⟩ | q
    · left
      refine ⟨o, ?_⟩
      rw [k.off a fun z => k.noFls (z ▸ q)]; exact q
    · exact .inr q
  | .dct t ks ps, _, h => by
    unfold RV at h ⊢
    obtain ⟨a, vs, e, n, ⟨w, q, x⟩, r⟩ := h
    exact ⟨a, vs, e, n, ⟨w, k.rd x.isDO q, x⟩, RVs.lk k ps r⟩
  | .loc n, _, h => by unfold RV at h ⊢; exact h
theorem RVs.lk (k : Lk d u H H') : ∀ (ps : List PV) {vs : List V}, RVs K M φ H ps vs → RVs K M φ H' ps vs
  | [], _, h => h
  | p :: ps, _, h => by
    unfold RVs at h ⊢
    obtain ⟨v, ws, e, h1, h2⟩ := h
    exact ⟨v, ws, e, RV.lk k p h1, RVs.lk k ps h2⟩
end
theorem Lk.there (k : Lk d u H H') {a : Addr} (h : ∃ o, H a = some o) : ∃ o, H' a = some o := by
  by_cases e : a = d
  · subst e
    rcases k.h' with r | ⟨o, r⟩
    · exact ⟨_, r⟩
    · exact ⟨_, r⟩
  · rw [k.off a e]; exact h
theorem Ag.lk (g : Ag K B φ S H) (k : Lk d u H H') (nl : ¬ live φ S d) : Ag K B φ S H' where
  len := g.len
  nd := g.nd
  trk := fun a m => k.there (g.trk a m)
  bt := fun a m => k.there (g.bt a m)
  dis := g.dis
  obj := fun n o a e1 e2 => by
    have q := g.obj n o a e1 e2
    have ne : a ≠ d := fun e => nl (e ▸ live_ref e2 e1)
    cases o with
    | lst ps => obtain ⟨vs, h, t⟩ := q; exact ⟨vs, by rw [k.off a ne]; exact h, RVs.lk k _ t⟩
    | dct t ks ps => obtain ⟨vs, w, h, x, r⟩ := q; exact ⟨vs, w, by rw [k.off a ne]; exact h, x, RVs.lk k _ r⟩
end
section
variable {X : Cx} {W : WX} {pos : Pos}
theorem Rel.lk {B : Addr → Prop} {φ : List Addr} {ρ : En} {S : Sto} {σ : L2.St} {H H' : Hp} {d : Addr} {u : HO} (g : Rel (km X) B φ ρ S σ H) (k : Lk d u H H') (nl : ¬ live φ S d) : Rel (km X) B φ ρ S σ H' :=
  ⟨g.ag.lk k nl, ⟨g.env.len, fun i p e => let ⟨v, e1, r⟩ := g.env.get i p e; ⟨v, e1, RV.lk k p r⟩⟩⟩
/-- the keys of the dict in a name's place -/
def iKeysV (i : Nat) : AM := fun ρ S => match ρ[i]? with
  | some (some (.dct _ ks _)) => .ok ks S
  | _ => .fail
theorem rvs_keys {K : PySem.W.Frag} {M : Addr → Prop} {φ : List Addr} {H : Hp} : ∀ {ps : List PV} {k : List Key}, keyL ps = some k → RVs K M φ H ps (k.map kV)
  | [], k, e => by unfold keyL at e; cases e; exact .nil
  | p :: ps, k, e => by
    unfold keyL at e
    cases e1 : keyOf p with
    | none => rw [e1] at e; cases e
    | some k0 =>
      cases e2 : keyL ps with
      | none => rw [e1, e2] at e; cases e
      | some l =>
        rw [e1, e2] at e; cases e
        refine .cons ?_ (rvs_keys e2)
        cases p with
        | int i => unfold keyOf at e1; cases e1; exact .int i
        | str i => unfold keyOf at e1; cases e1; exact .str i
        | _ => cases e1
theorem map_get {α β γ : Type} {f : α → γ} {g : β → γ} {xs : List α} {ys : List β} (e : xs.map f = ys.map g) {i : Nat} {x : α} {y : β} (h1 : xs[i]? = some x) (h2 : ys[i]? = some y) : f x = g y := by
  have := congrArg (·[i]?) e
  simp only [List.getElem?_map, h1, h2, Option.map_some, Option.some.injEq] at this
  exact this
/-- the walk over the keys, the dict locked -/
theorem keys_walk {K : PySem.W.Frag} {B : Addr → Prop} {φ : List Addr} {S : Sto} {H : Hp} {d : Addr} {o : Obj} {t : Bool} {ks : List PV} {ws : List V} {u : HO} (g : Ag K B φ S H) (x : DcO t ks ws u) (h : H d = some (.frz o u)) :
    ∃ J, Yld K B φ S H ks J ∧ ((∃ kvs, H d = some (.frz o (.dK kvs)) ∧ J = Itk d o kvs) ∨ ∃ kvs, H d = some (.frz o (.dT kvs)) ∧ J = Itkt d o kvs) := by
  cases t with
  | false =>
    obtain ⟨kvs, rfl, ek, _⟩ := x
    have hl : ks.length = kvs.length := by simpa using congrArg List.length ek
    refine ⟨Itk d o kvs, fun B1 φ1 S1 H1 ex a1 i => ⟨fun hi => ⟨(ex.lean g).frz d o _ h, by omega⟩, fun hi => ⟨(ex.lean g).frz d o _ h, by omega⟩, fun p hp v H2 y => ?_⟩, .inl ⟨kvs, h, rfl⟩⟩
    obtain ⟨rfl, k, w, hk, rfl⟩ := y
    refine ⟨Fr.refl _ _ _, a1, ?_⟩
    have e := map_get ek hp hk
    cases p with
    | int i => unfold keyOf at e; cases e; exact .int i
    | str i => unfold keyOf at e; cases e; exact .str i
    | _ => cases e
  | true =>
    obtain ⟨kvs, rfl, ek, _⟩ := x
    have hl : ks.length = kvs.length := by simpa using congrArg List.length ek
    refine ⟨Itkt d o kvs, fun B1 φ1 S1 H1 ex a1 i => ⟨fun hi => ⟨(ex.lean g).frz d o _ h, by omega⟩, fun hi => ⟨(ex.lean g).frz d o _ h, by omega⟩, fun p hp v H2 y => ?_⟩, .inr ⟨kvs, h, rfl⟩⟩
    obtain ⟨rfl, k, w, q, hk, rfl, hq⟩ := y
    refine ⟨Fr.refl _ _ _, a1, ?_⟩
    have e := map_get ek hp hk
    cases p with
    | tup ps =>
      unfold keyT at e
      unfold RV
      exact ⟨q, _, rfl, hq, rvs_keys e⟩
    | _ => cases e
theorem keys_src {B : Addr → Prop} {φ : List Addr} {ρ : En} {S : Sto} {σ : L2.St} {H : Hp} {i : Nat} {d : Addr} {o : Obj} {t : Bool} {ks ps : List PV} {ws : List V} {u : HO} (g : Rel (km X) B φ ρ S σ H) (hi : σ[i]? = some (some (.ref d))) (x : DcO t ks ws u) (h : H d = some (.frz o u))
    (hρ : ρ[i]? = some (some (.dct t ks ps))) (R : It → Hp → Prop) (q : IPost (km X) W B φ ρ S σ H (iKeysV i ρ S) R) : iKeys (tVar i) σ H R := by
  unfold iKeysV at q
  rw [hρ] at q
  obtain ⟨J, hy, hJ⟩ := keys_walk g.ag x h
  have r := q φ H J (Fr.refl _ _ _) g hy
  refine ⟨.ref d, hi, d, o, rfl, ?_⟩
  rcases hJ with ⟨kvs, h1, rfl⟩ | ⟨kvs, h1, rfl⟩
  · exact .inl ⟨kvs, h1, r⟩
  · exact .inr ⟨kvs, h1, r⟩
/-- the run over a dict's keys, under lock or not -/
theorem lck_run {nw : Bool} {i : Nat} {vs : List Nat} {g : TG} {t : CM} {c : TM} {m : EM} {σ : L2.St} {H : Hp} {Q : VK} (hg : CT X vs g t) (q : tE (km X) W (eLc nw (iKeysV i) vs t c m) σ H Q) :
    tLockE (tLc (iKeys (tVar i)) g (tT (km X) WF c) (tE (km X) WF m) vs) σ H Q ∨ tLc (iKeys (tVar i)) g (tT (km X) WF c) (tE (km X) WF m) vs σ H Q := by
  obtain ⟨B, φ, ρ, S, gr, q⟩ := q
  have hq : ∃ t' ks ps, ρ[i]? = some (some (.dct t' ks ps)) := by
    unfold eLc iKeysV at q
    split at q
    · rename_i t' ks ps e; exact ⟨t', ks, ps, e⟩
    · exact q.elim
  obtain ⟨t', ks, ps, hρ⟩ := hq
  obtain ⟨v, hσ, rv⟩ := gr.env.get i _ hρ
  unfold RV at rv
  obtain ⟨d, ws, rfl, nm, ⟨u, hd, x⟩, r⟩ := rv
  have nl : ¬ live φ S d := fun l => nm (.inr l)
  rcases hd with hd | ⟨o, hd⟩
  · left
    refine ⟨d, u, hd, ?_, fun od => ?_⟩
    · cases t' with
      | false => obtain ⟨kvs, rfl, _⟩ := x; exact trivial
      | true => obtain ⟨kvs, rfl, _⟩ := x; exact trivial
    · have k : Lk d u H (upd H d (.frz od u)) := ⟨x.isDO, fun b n => upd_ne n, .inl hd, .inr ⟨od, upd_same⟩⟩
      have g1 := gr.lk k nl
      refine lc_runG (nw := nw) (W := W) hg g1 (fun R h => keys_src (o := od) g1 hσ x upd_same hρ R h) ?_
      cases e : eLc nw (iKeysV i) vs t c m ρ S with
      | fail => rw [e] at q; exact q
      | exc cc a S1 =>
        exfalso
        unfold eLc iKeysV at e
        rw [hρ] at e
        simp only [R.bind] at e
        cases e2 : lcL t c m (wipeE ρ vs) ks S with
        | ok a S1 =>
          rw [e2] at e
          simp only [R.nx] at e
          split at e
          · cases nw <;> simp at e
          · cases e
        | exc cc a S1 => rw [e2] at e; cases e
        | fail => rw [e2] at e; cases e
      | ok w S1 =>
        rw [e] at q
        intro φ' w' H' f g2 rw'
        have hd' : H' d = some (.frz od u) := f.keep d _ upd_same nl
        refine ⟨hd', ?_⟩
        have nl' : ¬ live φ' S1 d := fun l => by
          rcases f.new d l with l | l
          · exact nl l
          · rw [upd_same] at l; cases l
        have k2 : Lk d u H' (upd H' d u) := ⟨x.isDO, fun b n => upd_ne n, .inr ⟨od, hd'⟩, .inl upd_same⟩
        refine q φ' w' (upd H' d u) ⟨f.pre, fun a o h n => ?_, fun a l => ?_, fun a o h => ?_⟩ (g2.lk k2 nl') (RV.lk k2 w rw')
        · by_cases e : a = d
          · subst e; rw [hd] at h; cases h; exact upd_same
          · rw [upd_ne e]; exact f.keep a o (by rw [upd_ne e]; exact h) n
        · rcases f.new a l with l | l
          · exact .inl l
          · by_cases e : a = d
            · subst e; rw [upd_same] at l; cases l
            · rw [upd_ne e] at l; exact .inr l
        · obtain ⟨o2, h2⟩ := k.there ⟨o, h⟩
          exact k2.there (f.trk a o2 h2)
  · right
    exact lc_runG (nw := nw) (W := W) hg gr (fun R h => keys_src (o := o) gr hσ x hd hρ R h) q
theorem se_lcK {nw : Bool} {i : Nat} {elt tg iter : Expr} {ifs : List Expr} {scope : Scope} {own : List (Str × Nat)} {g : TG} {t : CM} {c : TM} {m : EM} (hc : X.calm = true) (hN : X.N.Nodup) (hi : PE X iter (tVar i)) (ok : BlkOk X.N X.env.scope scope own)
    (hg : ∀ (s : Shared) (H : Hp) (C : Addr) (cl : List (Str × Addr)) (fp : List Addr), PG (X.blk s H scope (compEnvC scope cl C X.env) fp) tg g)
    (ht : ∀ (s : Shared) (H : Hp) (C : Addr) (cl : List (Str × Addr)) (fp : List Addr), PTs (X.blk s H scope (compEnvC scope cl C X.env) fp) ifs (tT (km X) WF c))
    (he : ∀ (s : Shared) (H : Hp) (C : Addr) (cl : List (Str × Addr)) (fp : List Addr), SE (X.blk s H scope (compEnvC scope cl C X.env) fp) WF elt m) (hct : CT X (own.map (·.2)) g t) (hs : ∀ x, foldedSetIterable iter X.env x = pure x := by intro _; rfl) :
    SE X W (.ListComp elt [⟨tg, iter, ifs, 0⟩] scope pos) (eLc nw (iKeysV i) (own.map (·.2)) t c m) :=
  have h := pe_lc (pos := pos) (te := tE (km X) WF m) (tt := tT (km X) WF c) hc hN (pi_keys (tg := tg) hi) ok hg ht he hs
  PE.via (pe_or (pe_lock h) h) fun _ _ _ q => lck_run hct q
/-! ### name += e, of ints -/
def fAdd : Int → Int → Option PV := fun i j => some (.int (i + j))
theorem o2_ipadd : Op2 X (ipI fun i j => i + j) (pI fAdd) := op2_int fun i j p H Q e => by
  cases e; exact ⟨rfl, fun q => ⟨i, j, rfl, rfl, q⟩⟩
/-! ### list(d), len(d) -/
theorem u1 {A : Around} {k : Nat} (hr : Room k A) : A.units + 1 < cLine := by have := hr.un; omega
def rListA (K : PySem.W.Frag) : List V → Hp → VK → Prop := fun xs H Q => rListD xs H Q ∨ (∃ d kvs, xs = [V.ref d] ∧ Rd H d (.dT kvs) ∧ ∀ p bs, H p = none → IsKeys H kvs bs → Q (.ref p) (upd H p (.lst (bs.map V.ref))))
theorem call_listD (hc : X.calm = true) : CallR X (.type "list") (rListA X.K) := callR_or (call_list_dK hc) (call_list_dT hc)
/-- the keys of a dict that may change, as a new list -/
def pListD : PM := fun vs S => match vs with
  | [.loc n] => (match S[n]? with
    | some (some (.dct _ ks _)) => .ok (.lst ks) S
    | _ => .fail)
  | _ => .fail
theorem rvs_keyK {K : PySem.W.Frag} {M : Addr → Prop} {φ : List Addr} {H : Hp} : ∀ {ks : List PV} {kvs : List (Key × V)}, ks.map keyOf = kvs.map (fun p => some p.1) → RVs K M φ H ks (kvs.map fun kv => kV kv.1)
  | [], [], _ => .nil
  | [], _ :: _, e => by simp at e
  | _ :: _, [], e => by simp at e
  | p :: ks, q :: kvs, e => by
    rw [List.map_cons, List.map_cons] at e
    injection e with e1 e2
    refine .cons ?_ (rvs_keyK e2)
    cases p with
    | int i => unfold keyOf at e1; cases q; cases e1; exact .int i
    | str i => unfold keyOf at e1; cases q; cases e1; exact .str i
    | _ => cases e1
theorem rvs_keyT {K : PySem.W.Frag} {M : Addr → Prop} {φ : List Addr} {H : Hp} : ∀ {ks : List PV} {kvs : List (List Key × V)} {bs : List Addr}, ks.map keyT = kvs.map (fun p => some p.1) → IsKeys H kvs bs → RVs K M φ H ks (bs.map V.ref)
  | [], [], _, _, .nil => .nil
  | [], _ :: _, _, e, _ => by simp at e
  | _ :: _, [], _, e, _ => by simp at e
  | p :: ks, q :: kvs, b :: bs, e, .cons h t => by
    rw [List.map_cons, List.map_cons] at e
    injection e with e1 e2
    refine .cons ?_ (rvs_keyT e2 t)
    cases p with
    | tup ps =>
      unfold keyT at e1
      unfold RV
      exact ⟨b, _, rfl, h, rvs_keys e1⟩
    | _ => cases e1
theorem ok_listD : OkC X (rListA X.K) pListD := fun W B φ ρ S σ H vs vs' Q g t q => by
  unfold pListD at q
  split at q
  · rename_i n
    obtain ⟨v, rfl, r⟩ := rv1 t
    split at q
    · rename_i tt ks ps e
      unfold RV at r
      obtain ⟨a, ha, rfl⟩ := r
      obtain ⟨ws, u, h, d, r2⟩ := g.ag.obj n _ a e ha
      cases tt with
      | false =>
        obtain ⟨kvs, rfl, ek, _⟩ := d
        exact .inl ⟨a, kvs, rfl, h, fun p hp => new_lst g (rvs_keyK ek) q hp⟩
      | true =>
        obtain ⟨kvs, rfl, ek, _⟩ := d
        exact .inr ⟨a, kvs, rfl, .inl h, fun p bs hp hb => new_lst g (rvs_keyT ek hb) q hp⟩
    · exact q.elim
  · exact q.elim
/-! ### len(d) -/
def rLenA : List V → Hp → VK → Prop := fun xs H Q => (∃ a kvs, xs = [V.ref a] ∧ Rd H a (.dK kvs) ∧ Q (.int kvs.length) H) ∨ rLenT xs H Q
theorem call_lenAll : CallR X (.builtin "len") rLenA := callR_or (fun pins s σ H xs us Q I r h => by
  obtain ⟨a, kvs, rfl, ha, q⟩ := h
  obtain ⟨u, rfl, ru⟩ := vals1 r
  cases ru
  exact d_len I ha fun t s' I' => ⟨V.int kvs.length, H, I', ⟨t, rfl⟩, q⟩) call_len_dT
def pLenD : PM := fun vs S => match vs with
  | [x] => (match dctAt S x with
    | some (false, ks, _) => .ok (.int ks.length) S
    | _ => .fail)
  | _ => .fail
theorem ok_lenD : OkC X rLenA pLenD := fun W B φ ρ S σ H vs vs' Q g t q => by
  unfold pLenD at q
  split at q
  · rename_i x
    obtain ⟨v, rfl, r⟩ := rv1 t
    split at q
    · rename_i ks ps e
      obtain ⟨a, ws, u, rfl, h, d, r2⟩ := dctAt_ok g.ag r e
      obtain ⟨kvs, rfl, ek, _⟩ := d
      have hl : ks.length = kvs.length := by simpa using congrArg List.length ek
      rw [hl] at q
      exact .inl ⟨a, kvs, rfl, h, q.here g (.int _)⟩
    · exact q.elim
  · exact q.elim
/-! ### a comprehension over a list of the store that is read on: its steps see no thing of the store -/
def wipeL (ρ : En) : En := ρ.map fun o => match o with
  | some p => if noL p then some p else none
  | none => none
def eLcI (nw : Bool) (i : Nat) (vs : List Nat) (t : CM) (c : TM) (m : EM) : EM := fun ρ S => match ρ[i]? with
  | some (some (.loc n)) => (match S[n]? with
    | some (some (.lst qs)) => if noLs qs then (lcL t c m (wipeE (wipeL ρ) vs) qs []).nx fun ws _ => if qs.length ≤ lim ∧ noLs ws = true then (if nw then .ok (.loc S.length) (S ++ [some (.lst ws)]) else .ok (.lst ws) S) else .fail else .fail
    | _ => .fail)
  | _ => .fail
theorem Rel.inner {B : Addr → Prop} {φ : List Addr} {ρ : En} {S : Sto} {σ : L2.St} {H : Hp} (g : Rel (km X) B φ ρ S σ H) : Rel (km X) (Mu B φ S) [] (wipeL ρ) [] σ H := by
  have L : Leaf (Mu B φ S) (Mu (Mu B φ S) [] []) H := ⟨fun a o h n m => by
    rcases m with m | m
    · exact n m
    · obtain ⟨k, o', e1, _⟩ := m; simp at e1⟩
  refine ⟨⟨rfl, List.nodup_nil, fun a m => by simp at m, fun a m => ?_, fun a m => by simp at m, fun n o a e1 e2 => by simp at e2⟩, ⟨by simp [wipeL, g.env.len], fun i p e => ?_⟩⟩
  · rcases m with m | m
    · exact g.ag.bt a m
    · exact g.ag.trk a (live_mem m)
  · unfold wipeL at e
    rw [List.getElem?_map] at e
    cases e1 : ρ[i]? with
    | none => rw [e1] at e; cases e
    | some o =>
      rw [e1] at e
      cases o with
      | none => cases e
      | some q =>
        dsimp only [Option.map_some] at e
        split at e
        · rename_i hn
          cases e
          obtain ⟨v, h1, r⟩ := g.env.get i p e1
          exact ⟨v, h1, RV.leaf L p hn r⟩
        · cases e
theorem lci_run {nw : Bool} {i : Nat} {vs : List Nat} {g : TG} {t : CM} {c : TM} {m : EM} {σ : L2.St} {H : Hp} {Q : VK} (hg : CT X vs g t) (q : tE (km X) W (eLcI nw i vs t c m) σ H Q) :
    tLc (iList X.K (tVar i)) g (tT (km X) WF c) (tE (km X) WF m) vs σ H Q := by
  obtain ⟨B, φ, ρ, S, gr, q⟩ := q
  unfold eLcI at q
  split at q
  · rename_i n e1
    split at q
    · rename_i qs e2
      split at q
      · rename_i hn
        obtain ⟨v, hσ, rv⟩ := gr.env.get i _ e1
        unfold RV at rv
        obtain ⟨a, ha, rfl⟩ := rv
        obtain ⟨ws, hl, r⟩ := gr.ag.obj n _ a e2 ha
        have g1 := gr.inner
        have L1 : Leaf (Mu B φ S) (Mu (Mu B φ S) [] []) H := ⟨fun a o h n m => by
          rcases m with m | m
          · exact n m
          · obtain ⟨k, o', e1, _⟩ := m; simp at e1⟩
        refine lc_runG (nw := true) (W := W) (mi := fun _ S => .ok qs S) hg g1 (fun R h => ?_) ?_
        · refine ⟨.ref a, hσ, a, rfl, ⟨ws, .of hl⟩, h [] H _ (Fr.refl _ _ _) g1 (yld_items g1.ag (RVs.leaf L1 qs hn r) fun B2 φ2 S2 H2 x i => ?_)⟩
          have h2 : SqL X.K H2 a ws := .of (x.fr.keep a _ hl fun l => by obtain ⟨k, o', e1, _⟩ := l; simp at e1)
          exact ⟨fun hi => ⟨ws, ws[i], h2, List.getElem?_eq_getElem hi⟩, fun hi => ⟨ws, h2, hi⟩, fun z H3 y => ⟨y.1, fun _ => y.2 ws h2⟩⟩
        · cases e3 : lcL t c m (wipeE (wipeL ρ) vs) qs [] with
          | exc cc aa S1 => rw [e3] at q; exact q.elim
          | fail => rw [e3] at q; exact q.elim
          | ok us S1 =>
            rw [e3] at q
            simp only [R.nx] at q
            by_cases hc : qs.length ≤ lim ∧ noLs us = true
            · rw [if_pos hc] at q
              have ee : eLc true (fun _ S => .ok qs S) vs t c m (wipeL ρ) [] = .ok (.loc S1.length) (S1 ++ [some (.lst us)]) := by
                simp only [eLc, R.bind, e3, R.nx, if_pos hc.1, if_true]
              rw [ee]
              intro φ' v' H' f g2 rw'
              unfold RV at rw'
              obtain ⟨D, hD, rfl⟩ := rw'
              have hS : (S1 ++ [some (Ob.lst us)])[S1.length]? = some (some (.lst us)) := by simp
              obtain ⟨uv, hl2, r2⟩ := g2.ag.obj _ _ D hS hD
              have hlive : live φ' (S1 ++ [some (Ob.lst us)]) D := ⟨_, _, hD, hS⟩
              have hDn : H D = none := by
                rcases f.new D hlive with l | l
                · obtain ⟨k, o', e1, _⟩ := l; simp at e1
                · exact l
              have nl0 : ∀ b, ¬ live [] [] b := fun b l => by obtain ⟨k, o', e1, _⟩ := l; simp at e1
              have ext : ∀ b o, H b = some o → H' b = some o := fun b o h => f.keep b o h (nl0 b)
              cases nw with
              | false =>
                simp only [Bool.false_eq_true, if_false] at q
                refine q φ (.ref D) H' (fr_ext ext) (gr.stay (fr_ext ext) (gr.ag.ext ext)) ?_
                unfold RV
                refine ⟨D, uv, rfl, ⟨gr.ag.none_notMu hDn, hl2⟩, RVs.leaf ⟨fun b o h n m => n (.inl m)⟩ us hc.2 r2⟩
              | true =>
                simp only [if_true] at q
                have L : Lean0 (Mu B φ S) (Mu B (φ ++ [D]) (S ++ [some (.lst us)])) φ (φ ++ [D]) H H' := by
                  have L0 := (fr_ext (φ := φ) (S := S) ext).lean gr.ag
                  refine ⟨⟨[D], rfl⟩, L0.tup, L0.frz, L0.keep, fun b o h n m => ?_⟩
                  rcases m with m | m
                  · exact n (.inl m)
                  · rcases (live_push gr.ag.len).mp m with m | m
                    · exact n (.inr m)
                    · subst m; rw [hDn] at h; cases h
                have fr2 : Fr φ S H (φ ++ [D]) (S ++ [some (.lst us)]) H' := ⟨⟨[D], rfl⟩, fun b o h _ => ext b o h, fun b l => by
                  rcases (live_push gr.ag.len).mp l with l | l
                  · exact .inl l
                  · subst l; exact .inr hDn, fun b o h => ⟨o, ext b o h⟩⟩
                have nD : D ∉ φ := fun m => by
                  obtain ⟨o, e⟩ := gr.ag.trk D m
                  rw [hDn] at e; cases e
                have ag2 : Ag X.K B (φ ++ [D]) (S ++ [some (.lst us)]) H' := by
                  refine ⟨by simp [gr.ag.len], ?_, fun b m => ?_, fun b m => let ⟨o, h⟩ := gr.ag.bt b m; ⟨o, ext b o h⟩, fun b m => ?_, fun k ob b f1 f2 => ?_⟩
                  · rw [List.nodup_append]
                    exact ⟨gr.ag.nd, by simp, fun x hx y hy e => by simp at hy; subst hy; subst e; exact nD hx⟩
                  · rcases List.mem_append.mp m with m | m
                    · obtain ⟨o, h⟩ := gr.ag.trk b m; exact ⟨o, ext b o h⟩
                    · simp at m; subst m; exact ⟨_, hl2⟩
                  · rcases List.mem_append.mp m with m | m
                    · exact gr.ag.dis b m
                    · simp at m; subst m; exact gr.ag.none_notB hDn
                  · by_cases hk : k < S.length
                    · rw [List.getElem?_append_left hk] at f1
                      rw [List.getElem?_append_left (by rw [gr.ag.len]; exact hk)] at f2
                      exact RO.lean L (fun u h => ext b u h) (gr.ag.obj k ob b f1 f2)
                    · have hk' : k = S.length := by
                        have := (List.getElem?_eq_some_iff.mp f1).1
                        simp at this; omega
                      subst hk'
                      simp at f1
                      subst f1
                      rw [← gr.ag.len] at f2
                      simp at f2
                      subst f2
                      refine ⟨uv, hl2, RVs.leaf ⟨fun b o h n m => n ?_⟩ us hc.2 r2⟩
                      rcases m with m | m
                      · exact .inl (.inl m)
                      · rcases (live_push gr.ag.len).mp m with m | m
                        · exact .inl (.inr m)
                        · subst m; exact .inr hlive
                refine q (φ ++ [D]) (.ref D) H' fr2 ⟨ag2, gr.env.lean L⟩ ?_
                unfold RV
                exact ⟨D, by rw [← gr.ag.len]; simp, rfl⟩
            · rw [if_neg hc] at q; exact q.elim
      · exact q.elim
    · exact q.elim
  · exact q.elim
theorem se_lcI {nw : Bool} {i : Nat} {elt tg iter : Expr} {ifs : List Expr} {scope : Scope} {own : List (Str × Nat)} {g : TG} {t : CM} {c : TM} {m : EM} (hc : X.calm = true) (hN : X.N.Nodup) (hi : PE X iter (tVar i)) (ok : BlkOk X.N X.env.scope scope own)
    (hg : ∀ (s : Shared) (H : Hp) (C : Addr) (cl : List (Str × Addr)) (fp : List Addr), PG (X.blk s H scope (compEnvC scope cl C X.env) fp) tg g)
    (ht : ∀ (s : Shared) (H : Hp) (C : Addr) (cl : List (Str × Addr)) (fp : List Addr), PTs (X.blk s H scope (compEnvC scope cl C X.env) fp) ifs (tT (km X) WF c))
    (he : ∀ (s : Shared) (H : Hp) (C : Addr) (cl : List (Str × Addr)) (fp : List Addr), SE (X.blk s H scope (compEnvC scope cl C X.env) fp) WF elt m) (hct : CT X (own.map (·.2)) g t) (hs : ∀ x, foldedSetIterable iter X.env x = pure x := by intro _; rfl) :
    SE X W (.ListComp elt [⟨tg, iter, ifs, 0⟩] scope pos) (eLcI nw i (own.map (·.2)) t c m) :=
  PE.via (pe_lc (pos := pos) (te := tE (km X) WF m) (tt := tT (km X) WF c) hc hN (pi_list (tg := tg) hi) ok hg ht he hs) fun _ _ _ q => lci_run hct q
theorem ss_lcI {nw : Bool} {i j : Nat} {y : Str} {py spos : Pos} {elt tg iter : Expr} {ifs : List Expr} {scope : Scope} {own : List (Str × Nat)} {g : TG} {t : CM} {c : TM} {m : EM} (hc : X.calm = true) (hN : X.N.Nodup) (hy : X.N[i]? = some y) (hyl : X.env.scope.names.lookup y = some .local)
    (hsw : swapsWith (.ListComp elt [⟨tg, iter, ifs, 0⟩] scope pos) (some (.Name y py)) spos.line X.env = pure true) (hi : PE X iter (tVar j)) (ok : BlkOk X.N X.env.scope scope own)
    (hg : ∀ (s : Shared) (H : Hp) (C : Addr) (cl : List (Str × Addr)) (fp : List Addr), PG (X.blk s H scope (compEnvC scope cl C X.env) fp) tg g)
    (ht : ∀ (s : Shared) (H : Hp) (C : Addr) (cl : List (Str × Addr)) (fp : List Addr), PTs (X.blk s H scope (compEnvC scope cl C X.env) fp) ifs (tT (km X) WF c))
    (he : ∀ (s : Shared) (H : Hp) (C : Addr) (cl : List (Str × Addr)) (fp : List Addr), SE (X.blk s H scope (compEnvC scope cl C X.env) fp) WF elt m) (hct : CT X (own.map (·.2)) g t) (hs : ∀ x, foldedSetIterable iter X.env x = pure x := by intro _; rfl) :
    SS X W (.Assign [.Name y py] (.ListComp elt [⟨tg, iter, ifs, 0⟩] scope pos) spos) (sNm i (eLcI nw j (own.map (·.2)) t c m)) :=
  PS.via (ps_setLc (te := tE (km X) WF m) (tt := tT (km X) WF c) hc hN hy hyl hsw (pi_list (tg := tg) hi) ok hg ht he hs) fun D σ H ⟨B, φ, ρ, S, gr, q⟩ =>
    lci_run (W := W) (Q := fun x H1 => gName i x σ H1 D.nx) hct ⟨B, φ, ρ, S, gr, (RPost.bindS q).mono fun v' H1 ⟨φ1, S1, v, m1, rv, q1⟩ => q1 φ1 _ H1 (Fr.refl _ _ _) (m1.rel.set rv i)⟩
end
end Mir
/-! Mir: dict comprehensions, chains of comparisons, constants of the module. -/
namespace Mir
open PySem PySem.Spec PyProof.Rows L2
section
variable {X : Cx} {W : WX} {pos : Pos}
/-! ### {k: v for ..} -/
theorem ps_setDc {i : Nat} {y : Str} {py spos : Pos} {kx vx tg iter : Expr} {ifs : List Expr} {scope : Scope} {own : List (Str × Nat)} {wi : TI} {g : TG} {tt : TT} {tk tv : TE} (hc : X.calm = true) (hN : X.N.Nodup) (hy : X.N[i]? = some y) (hyl : X.env.scope.names.lookup y = some .local)
    (hsw : swapsWith (.DictComp kx vx [⟨tg, iter, ifs, 0⟩] scope pos) (some (.Name y py)) spos.line X.env = pure true) (hi : PI X tg iter wi) (ok : BlkOk X.N X.env.scope scope own)
    (hg : ∀ (s : Shared) (H : Hp) (C : Addr) (cl : List (Str × Addr)) (fp : List Addr), PG (X.blk s H scope (compEnvC scope cl C X.env) fp) tg g) (ht : ∀ (s : Shared) (H : Hp) (C : Addr) (cl : List (Str × Addr)) (fp : List Addr), PTs (X.blk s H scope (compEnvC scope cl C X.env) fp) ifs tt)
    (hk : ∀ (s : Shared) (H : Hp) (C : Addr) (cl : List (Str × Addr)) (fp : List Addr), PE (X.blk s H scope (compEnvC scope cl C X.env) fp) kx tk) (he : ∀ (s : Shared) (H : Hp) (C : Addr) (cl : List (Str × Addr)) (fp : List Addr), PE (X.blk s H scope (compEnvC scope cl C X.env) fp) vx tv) (hs : ∀ x, foldedSetIterable iter X.env x = pure x := by intro _; rfl) :
    PS X (.Assign [.Name y py] (.DictComp kx vx [⟨tg, iter, ifs, 0⟩] scope pos) spos) (tAsg (tDc wi g tt tk tv (own.map (·.2))) (gName i)) := ⟨fun pins s σ H D I h => by
  rw [exec_Assign_Name_used _ _ _ _ hsw]
  refine wpAny_bind (wpAny_standAt (wpAny_bind ?_))
  show wpAny _ X.A (do let _ ← comprehension (.DictComp kx vx [⟨tg, iter, ifs, 0⟩] scope pos) scope X.env (firstIterPos [⟨tg, iter, ifs, 0⟩] pos) newDict false (eval iter X.env) (some (assign (.Name y py) X.env))) _ _ s
  have h0 : tDc wi g tt tk tv (own.map (·.2)) σ H (fun x H1 => gName i x σ H1 D.nx) := h
  refine wpAny_bind (thn (dc_core (Qf := fun _ s' => SP X pins D .next s') hc hN I hi ok hg ht hk he hs h0 fun L C s' m H' I' q hn f => ?_) fun _ s' hq => wpAny_pure (wpAny_pure hq))
  show wpAny _ _ (assign (.Name y py) X.env (.ref L)) _ _ _
  refine wpAny_assign_Name (store_ok2 (v := V.ref L) I' hN hy (.inl hyl) rfl (fun s2 I2 ⟨a, sb, ha⟩ => ?_) (.inr hyl))
  obtain ⟨f0, f1, f2, f3, f4, f5⟩ := f
  have hne : C ≠ a := ha.elim (fun z => z ▸ f1) fun z e => f4 y a z e.symm
  exact ⟨m, hn.sameBut sb hne, fun h3 sb3 => ⟨_, H', I2.turned (t' := s2.toks) (fun b o hb e => (sb3.2 b hb).trans e) f0 f1 f3 f4 f5, q⟩⟩⟩
theorem sw_dict {kx vx : Expr} {gs : List Comprehension} {scope : Scope} {py : Pos} {y : Str} {l : Nat} {env : Env} (hk : env.scope.kind = .function) (hy : env.scope.names.lookup y = some .local) (hl : (py.line == pos.line) = true)
    (ha : (scope.names.any fun (n, k) => n == y && (k == .local || k == .cell)) = false) : swapsWith (.DictComp kx vx gs scope pos) (some (.Name y py)) l env = pure true := by
  have e1 : env.kindOf y = some .local := hy
  have e2 : env.blockKind = .function := by unfold Env.blockKind; rw [hk]; rfl
  unfold swapsWith
  simp only [e2, e1, ha, Expr.pos, hl]; rfl
def dcL (t : CM) (c : TM) (mk mv : EM) (ρ : En) : List PV → List PV → List PV → Sto → R (List PV × List PV)
  | [], ks, vs, S => .ok (ks, vs) S
  | p :: r, ks, vs, S => match t p ρ with
    | some ρ1 => (c ρ1 S).nx fun d S2 => if d then ((mk ρ1 S2).nx fun k S3 => (mv ρ1 S3).nx fun v S4 => match dStore false ks vs k v with
      | some q => dcL t c mk mv ρ r q.1 q.2 S4
      | none => .fail) else dcL t c mk mv ρ r ks vs S2
    | none => .fail
def eDc (mi : AM) (vs : List Nat) (t : CM) (c : TM) (mk mv : EM) : EM := fun ρ S => (mi ρ S).bind fun ps S1 => if ps.length < lim then (dcL t c mk mv (wipeE ρ vs) ps [] [] S1).nx fun q S2 => .ok (.dct false q.1 q.2) S2 else .fail
theorem lean_Dk {B : Addr → Prop} {φ : List Addr} {S : Sto} {H : Hp} {D : Addr} {o : HO} {K : PySem.W.Frag} (g : Ag K (fun a => B a ∨ a = D) φ S H) {xs : List (Key × V)} (hD : H D = some (.dK xs)) :
    Lean0 (Mu (fun a => B a ∨ a = D) φ S) (Mu (fun a => B a ∨ a = D) φ S) φ φ H (upd H D o) := by
  refine ⟨⟨[], by simp⟩, fun a vs h => ?_, fun a ob u h => ?_, fun a u h n => ?_, fun a u h n => n⟩
  · rw [upd_ne (ne_of h hD (by intro z; cases z))]; exact h
  · rw [upd_ne (ne_of h hD (by intro z; cases z))]; exact h
  · rw [upd_ne (fun e => n (.inl (.inr e)))]; exact h
theorem Rel.putDk {B : Addr → Prop} {φ : List Addr} {ρ : En} {S : Sto} {σ : L2.St} {H : Hp} {D : Addr} {o : HO} {xs : List (Key × V)} (g : Rel (km X) (fun a => B a ∨ a = D) φ ρ S σ H) (hD : H D = some (.dK xs)) : Rel (km X) (fun a => B a ∨ a = D) φ ρ S σ (upd H D o) := by
  have L := lean_Dk (o := o) g.ag hD
  have tr : ∀ a, (∃ u, H a = some u) → ∃ u, (upd H D o) a = some u := fun a ⟨u, e⟩ => by
    by_cases q : a = D
    · subst q; exact ⟨o, upd_same⟩
    · exact ⟨u, by rw [upd_ne q]; exact e⟩
  refine ⟨⟨g.ag.len, g.ag.nd, fun a h => tr a (g.ag.trk a h), fun a h => tr a (g.ag.bt a h), g.ag.dis, fun n ob a e1 e2 => ?_⟩, g.env.lean L⟩
  have na : a ≠ D := fun e => g.ag.dis a (List.mem_of_getElem? e2) (.inr e)
  exact RO.lean L (fun u e => by rw [upd_ne na]; exact e) (g.ag.obj n ob a e1 e2)
theorem dStore_len {ks vs : List PV} {k v : PV} {q : List PV × List PV} (e : dStore false ks vs k v = some q) : q.1.length ≤ ks.length + 1 := by
  unfold dStore at e
  rw [if_neg Bool.false_ne_true] at e
  cases ek : keyOf k with
  | none => rw [ek] at e; cases e
  | some kk =>
    rw [ek] at e
    cases e
    show (gPut keyOf kk k v ks vs).1.length ≤ _
    unfold gPut
    split
    · exact Nat.le_succ _
    · simp
theorem dc_runG {wi : TI} {mi : AM} {vs : List Nat} {g : TG} {t : CM} {c : TM} {mk mv : EM} {σ : L2.St} {H : Hp} {Q : VK} {B : Addr → Prop} {φ : List Addr} {ρ : En} {S : Sto} (hg : CT X vs g t) (gr : Rel (km X) B φ ρ S σ H) (hw : ∀ R, IPost (km X) W B φ ρ S σ H (mi ρ S) R → wi σ H R)
    (q : RPost (km X) W B φ ρ S σ H (eDc mi vs t c mk mv ρ S) Q) : tDc wi g (tT (km X) WF c) (tE (km X) WF mk) (tE (km X) WF mv) vs σ H Q := by
  refine hw _ ?_
  unfold eDc at q
  cases e0 : mi ρ S with
  | fail => rw [e0] at q; exact q
  | exc x a S1 => rw [e0] at q; exact q
  | ok ps S1 =>
    rw [e0] at q
    simp only [R.bind] at q
    intro φ1 H1 J f1 g1 y D hD
    have q := RPost.shift f1 q
    split at q
    case isFalse => exact q.elim
    rename_i hlim
    cases e1 : dcL t c mk mv (wipeE ρ vs) ps [] [] S1 with
    | exc x a S2 => rw [e1] at q; exact q.elim
    | fail => rw [e1] at q; exact q.elim
    | ok ws S2 =>
      rw [e1] at q
      simp only [R.nx] at q
      let B' : Addr → Prop := fun a => B a ∨ a = D
      refine ⟨fun i n H => n = ps.length - i ∧ i ≤ ps.length ∧ ∃ φ2 S3 ks us kvs, Fr φ1 S1 H1 φ2 S3 H ∧ Rel (km X) B' φ2 ρ S3 σ H ∧ H D = some (.dK kvs) ∧ DcO false ks (kvs.map (·.2)) (.dK kvs) ∧ RVs X.K (Mu B' φ2 S3) φ2 H us (kvs.map (·.2)) ∧ ks.length ≤ i ∧ dcL t c mk mv (wipeE ρ vs) (ps.drop i) ks us S3 = .ok ws S2,
        ⟨ps.length, by simp, Nat.zero_le _, φ1, S1, [], [], [], (Fr.refl _ _ _).putD hD, g1.hide hD, upd_same, ⟨[], rfl, rfl, rfl⟩, .nil, Nat.zero_le _, e1⟩, ?_⟩
      rintro i n H2 ⟨rfl, hi, φ2, S3, ks, us, kvs, f2, g2, hD2, dco, ta, hal, e2⟩
      have bx : ∀ a o, H1 a = some o → B' a → B a := fun a o h b => b.resolve_right (ne_of_none h hD)
      obtain ⟨yg, ys, yy⟩ := y B' φ2 S3 H2 ⟨f2, bx⟩ g2.ag i
      by_cases hlt : i < ps.length
      · refine .inr ⟨yg hlt, fun H => ∃ φ2 S3 ks us kvs, Fr φ1 S1 H1 φ2 S3 H ∧ Rel (km X) B' φ2 ρ S3 σ H ∧ H D = some (.dK kvs) ∧ DcO false ks (kvs.map (·.2)) (.dK kvs) ∧ RVs X.K (Mu B' φ2 S3) φ2 H us (kvs.map (·.2)) ∧ ks.length ≤ i + 1 ∧ dcL t c mk mv (wipeE ρ vs) (ps.drop (i + 1)) ks us S3 = .ok ws S2,
          fun H' h => ⟨ps.length - (i + 1), by omega, rfl, hlt, h⟩, fun x H3 hy => ?_⟩
        obtain ⟨f3, a3, r3⟩ := yy ps[i] (List.getElem?_eq_getElem hlt) x H3 hy
        rw [List.drop_eq_getElem_cons hlt] at e2
        unfold dcL at e2
        have g3 := g2.stay f3 a3
        have hD3 := f3.atD g2.ag hD2
        have ta3 := ta.stay g2.ag f3
        cases e3 : t ps[i] (wipeE ρ vs) with
        | none => rw [e3] at e2; cases e2
        | some ρ1 =>
          rw [e3] at e2
          dsimp only at e2
          refine hg x _ H3 _ B' φ2 _ ρ1 S3 ps[i] (g3.wipe vs) r3 e3 fun σ4 g4 w4 => ⟨w4.trans (wipe_idem σ vs vs fun _ h => h), B', φ2, ρ1, S3, g4, ?_⟩
          cases e4 : c ρ1 S3 with
          | exc x a S4 => rw [e4] at e2; cases e2
          | fail => rw [e4] at e2; cases e2
          | ok d S4 =>
            rw [e4] at e2
            simp only [R.nx] at e2
            intro φ5 H5 f5 g5
            have hD5 := f5.atD g3.ag hD3
            have ta5 := ta3.stay g3.ag f5
            have g5' := g3.stay f5 g5.ag
            cases d with
            | true =>
              rw [if_pos rfl] at e2 ⊢
              refine ⟨B', φ5, ρ1, S4, g5, ?_⟩
              cases e5 : mk ρ1 S4 with
              | exc x a S4 => rw [e5] at e2; cases e2
              | fail => rw [e5] at e2; cases e2
              | ok kv S5 =>
                rw [e5] at e2
                simp only [R.nx] at e2
                intro φ6 k' H6 f6 g6 r6
                have hD6 := f6.atD g5.ag hD5
                have ta6 := ta5.stay g5.ag f6
                have g6' := g5'.stay f6 g6.ag
                refine ⟨B', φ6, ρ1, S5, g6, ?_⟩
                cases e6 : mv ρ1 S5 with
                | exc x a S4 => rw [e6] at e2; cases e2
                | fail => rw [e6] at e2; cases e2
                | ok vv S6 =>
                  rw [e6] at e2
                  simp only [R.nx] at e2
                  intro φ7 v' H7 f7 g7 r7
                  have hD7 := f7.atD g6.ag hD6
                  have ta7 := ta6.stay g6.ag f7
                  have g7' := g6'.stay f7 g7.ag
                  have r6' := r6.stay g6.ag f7
                  cases e7 : dStore false ks us kv vv with
                  | none => rw [e7] at e2; cases e2
                  | some z =>
                    rw [e7] at e2
                    have hkl : ks.length < lim := by omega
                    obtain ⟨kvs0, hk0, hk1, _⟩ := dco
                    cases hk0
                    have e7' := e7
                    unfold dStore at e7
                    rw [if_neg Bool.false_ne_true] at e7
                    cases ek : keyOf kv with
                    | none => rw [ek] at e7; cases e7
                    | some kk =>
                      rw [ek] at e7
                      cases e7
                      obtain ⟨p1, p2⟩ := gPut_ok hk1 ta7 ek r7
                      have hkk : kvs.length < sizeLine := by
                        have := congrArg List.length hk1
                        rw [List.length_map, List.length_map] at this
                        rw [← this, szl]; exact hkl
                      refine ⟨kvs, kk, keyOf_rv r6' ek, hD7, hkk, φ7, S6, _, _, putK kvs kk v', ((((f2.trans f3).trans f5).trans f6).trans f7).putD hD, g7'.putDk hD7, upd_same, ⟨_, rfl, p1, rfl⟩, RVs.lean (lean_Dk (o := _) g7.ag hD7) _ p2, ?_, e2⟩
                      exact Nat.le_trans (dStore_len e7') (Nat.succ_le_succ hal)
            | false =>
              rw [if_neg Bool.false_ne_true] at e2 ⊢
              exact ⟨φ5, S4, ks, us, kvs, (f2.trans f3).trans f5, g5', hD5, dco, ta5, Nat.le_succ_of_le hal, e2⟩
      · have hi' : i = ps.length := by omega
        subst hi'
        rw [List.drop_length] at e2
        unfold dcL at e2
        cases e2
        refine .inl ⟨ys (Nat.le_refl _), ?_⟩
        refine q φ2 (.ref D) H2 f2 g2.show ?_
        unfold RV
        refine ⟨D, _, rfl, fun mm => ?_, ⟨_, .inl hD2, dco⟩, ta.show⟩
        rcases mm with mm | mm
        · exact g1.ag.none_notB hD mm
        · exact g2.ag.dis D (live_mem mm) (.inr rfl)
theorem se_dc {kx vx tg iter : Expr} {ifs : List Expr} {scope : Scope} {own : List (Str × Nat)} {mi : AM} {g : TG} {t : CM} {c : TM} {mk mv : EM} (hc : X.calm = true) (hN : X.N.Nodup) (hi : SI X W tg iter mi) (ok : BlkOk X.N X.env.scope scope own)
    (hg : ∀ (s : Shared) (H : Hp) (C : Addr) (cl : List (Str × Addr)) (fp : List Addr), PG (X.blk s H scope (compEnvC scope cl C X.env) fp) tg g)
    (ht : ∀ (s : Shared) (H : Hp) (C : Addr) (cl : List (Str × Addr)) (fp : List Addr), PTs (X.blk s H scope (compEnvC scope cl C X.env) fp) ifs (tT (km X) WF c))
    (hk : ∀ (s : Shared) (H : Hp) (C : Addr) (cl : List (Str × Addr)) (fp : List Addr), SE (X.blk s H scope (compEnvC scope cl C X.env) fp) WF kx mk)
    (he : ∀ (s : Shared) (H : Hp) (C : Addr) (cl : List (Str × Addr)) (fp : List Addr), SE (X.blk s H scope (compEnvC scope cl C X.env) fp) WF vx mv) (hct : CT X (own.map (·.2)) g t) (hs : ∀ x, foldedSetIterable iter X.env x = pure x := by intro _; rfl) :
    SE X W (.DictComp kx vx [⟨tg, iter, ifs, 0⟩] scope pos) (eDc mi (own.map (·.2)) t c mk mv) :=
  PE.via (pe_dc (tk := tE (km X) WF mk) (tv := tE (km X) WF mv) (tt := tT (km X) WF c) hc hN hi ok hg ht hk he hs) fun _ _ _ ⟨B, φ, ρ, S, gr, q⟩ => dc_runG (W := W) hct gr (fun R h => ⟨B, φ, ρ, S, gr, h⟩) q
theorem ss_dc {i : Nat} {y : Str} {py spos : Pos} {kx vx tg iter : Expr} {ifs : List Expr} {scope : Scope} {own : List (Str × Nat)} {mi : AM} {g : TG} {t : CM} {c : TM} {mk mv : EM} (hc : X.calm = true) (hN : X.N.Nodup) (hy : X.N[i]? = some y) (hyl : X.env.scope.names.lookup y = some .local)
    (hsw : swapsWith (.DictComp kx vx [⟨tg, iter, ifs, 0⟩] scope pos) (some (.Name y py)) spos.line X.env = pure true) (hi : SI X W tg iter mi) (ok : BlkOk X.N X.env.scope scope own)
    (hg : ∀ (s : Shared) (H : Hp) (C : Addr) (cl : List (Str × Addr)) (fp : List Addr), PG (X.blk s H scope (compEnvC scope cl C X.env) fp) tg g)
    (ht : ∀ (s : Shared) (H : Hp) (C : Addr) (cl : List (Str × Addr)) (fp : List Addr), PTs (X.blk s H scope (compEnvC scope cl C X.env) fp) ifs (tT (km X) WF c))
    (hk : ∀ (s : Shared) (H : Hp) (C : Addr) (cl : List (Str × Addr)) (fp : List Addr), SE (X.blk s H scope (compEnvC scope cl C X.env) fp) WF kx mk)
    (he : ∀ (s : Shared) (H : Hp) (C : Addr) (cl : List (Str × Addr)) (fp : List Addr), SE (X.blk s H scope (compEnvC scope cl C X.env) fp) WF vx mv) (hct : CT X (own.map (·.2)) g t) (hs : ∀ x, foldedSetIterable iter X.env x = pure x := by intro _; rfl) :
    SS X W (.Assign [.Name y py] (.DictComp kx vx [⟨tg, iter, ifs, 0⟩] scope pos) spos) (sNm i (eDc mi (own.map (·.2)) t c mk mv)) :=
  PS.via (ps_setDc (tk := tE (km X) WF mk) (tv := tE (km X) WF mv) (tt := tT (km X) WF c) hc hN hy hyl hsw hi ok hg ht hk he hs) fun D σ H ⟨B, φ, ρ, S, gr, q⟩ =>
    dc_runG (W := W) (Q := fun x H1 => gName i x σ H1 D.nx) hct gr (fun R h => ⟨B, φ, ρ, S, gr, h⟩) ((RPost.bindS q).mono fun v' H1 ⟨φ1, S1, v, m1, rv, q1⟩ => q1 φ1 _ H1 (Fr.refl _ _ _) (m1.rel.set rv i))
/-! ### a < b < c -/
def eChain (f f' : P2) (a b c : EM) : EM := fun ρ S => (a ρ S).bind fun x S1 => (b ρ S1).bind fun y S2 => (f x y S2).bind fun z S3 => match z with
  | .bl true => (c ρ S3).bind fun w S4 => f' y w S4
  | .bl false => .ok (.bl false) S3
  | _ => .fail
theorem chain_run {r r' : R2} {f f' : P2} {ma mb mc : EM} {σ : L2.St} {H : Hp} {Q : VK} (h : Op2 X r f) (h' : Op2 X r' f') (q : tE (km X) W (eChain f f' ma mb mc) σ H Q) : tChain r r' (tE (km X) W ma) (tE (km X) W mb) (tE (km X) W mc) σ H Q := by
  obtain ⟨B, φ, ρ, S, g, q⟩ := q
  refine tE.of g (RPost.bind q) fun x' H1 ⟨φ1, S1, x, m1, rx, q1⟩ => ?_
  refine tE.of m1.rel (RPost.bind q1) fun y' H2 ⟨φ2, S2, y, m2, ry, q2⟩ => ?_
  refine h W B φ2 ρ S2 σ H2 x y x' y' _ m2.rel (rx.stay m1.rel.ag m2.fr) ry ?_
  refine (RPost.bind q2).mono fun z' H3 ⟨φ3, S3, z, m3, rz, q3⟩ => ?_
  cases z with
  | bl k =>
    cases rz.bl_eq
    refine ⟨k, rfl, ?_⟩
    cases k with
    | true =>
      rw [if_pos rfl]
      refine tE.of m3.rel (RPost.bind q3) fun w' H4 ⟨φ4, S4, w, m4, rw', q4⟩ => ?_
      exact h' W B φ4 ρ S4 σ H4 y w y' w' _ m4.rel ((ry.stay m2.rel.ag m3.fr).stay m3.rel.ag m4.fr) rw' q4
    | false =>
      rw [if_neg Bool.false_ne_true]
      exact q3.here m3.rel (.bl _)
  | _ => exact q3.elim
theorem se_chain {op op' : CmpOp} {r r' : R2} {f f' : P2} {a b c : Expr} {ma mb mc : EM} (ho : OpR X (compareOp op) r) (h : Op2 X r f) (ho' : OpR X (compareOp op') r') (h' : Op2 X r' f') (ha : SE X W a ma) (hb : SE X W b mb) (hc : SE X W c mc)
    (hm : lastMarks [op, op'] [b, c] = false := by with_unfolding_all rfl) : SE X W (.Compare a [op, op'] [b, c] pos) (eChain f f' ma mb mc) := PE.via (pe_chain ho ho' ha hb hc hm) fun _ _ _ q => chain_run h h' q
def tChainM (f f' : P2) (a b c : EM) : TM := fun ρ S => (eChain f f' a b c ρ S).bind fun v S1 => match v with
  | .bl k => .ok k S1
  | _ => .fail
theorem st_chain {op op' : CmpOp} {r r' : R2} {f f' : P2} {a b c : Expr} {ma mb mc : EM} (ho : OpR X (compareOp op) r) (h : Op2 X r f) (ho' : OpR X (compareOp op') r') (h' : Op2 X r' f') (ha : SE X W a ma) (hb : SE X W b mb) (hc : SE X W c mc)
    (hm : lastMarks [op, op'] [b, c] = false := by with_unfolding_all rfl) : ST X W (.Compare a [op, op'] [b, c] pos) (tChainM f f' ma mb mc) := PT.via (pt_chain ho ho' ha hb hc hm) fun σ H Q ⟨B, φ, ρ, S, g, q⟩ => by
  refine chain_run h h' ⟨B, φ, ρ, S, g, (RPost.bindT q).mono fun v' H1 ⟨φ1, S1, v, m1, rv, q1⟩ => ?_⟩
  cases v with
  | bl c => cases rv.bl_eq; exact ⟨c, rfl, q1.here m1.rel⟩
  | _ => exact q1.elim
/-! ### a constant of the module -/
theorem se_globI {x : Str} {i : Int} {tk : Tok} (hg : Gl X x) (hm : X.mg x = some (.int i tk)) (hd : (x == ("__debug__" : Str)) = false := by decide) : SE X W (.Name x pos) (eC (.int i)) :=
  PE.via (pe_glob (v := .int i) hg hm ⟨_, rfl⟩ hd) fun σ H Q ⟨B, φ, ρ, S, r, q⟩ => q.here r (.int i)
theorem se_globS {x y : Str} {tk : Tok} (hg : Gl X x) (hm : X.mg x = some (.str y tk)) (hd : (x == ("__debug__" : Str)) = false := by decide) : SE X W (.Name x pos) (eC (.str y)) :=
  PE.via (pe_glob (v := .str y) hg hm ⟨_, rfl⟩ hd) fun σ H Q ⟨B, φ, ρ, S, r, q⟩ => q.here r (.str y)
end
end Mir
/-! isinstance of a caught error that has a field. -/
namespace MirI2
open PySem PySem.W PySem.Spec PySem.Calls PyProof.Rows
section
variable {prog : Program} {w : World} {A : Around} {E : Value → Shared → Prop} {s : Shared} {K : Frag} {x D : Addr} {ox : Obj} {od : Option Obj}
theorem find_dat {C : Addr} {nm : Str} {a g : Value} (h0 : (clsIn K C).isSome = true) (h1 : findIn K (.ref C) nm = some (some a)) (h2 : specialIn K a "__get__" = some (some g)) (h3 : takesIn K a = some true) : findObj K C od nm = some (.bind g a) := by
  obtain ⟨cd, hcd⟩ := Option.isSome_iff_exists.mp h0
  simp [findObj, hcd, h1, h2, h3]
/-- e.__class__ -/
theorem cls_of (EC : L2.ExcC K D) (KX : K.In s.heap) (J : InstAt s.heap x ox D od) {Q : Option Value → Shared → Prop} (q : Q (some (.ref D)) { s with toks := s.toks + 1 }) : wpAny (model prog w) A (getAttr? (.ref x) "__class__") Q E s := by
  have fo : findObj K D od "__class__" = some (.bind (.builtin "getset_descriptor.__get__") (.builtin "object.__class__")) := find_dat (by obtain ⟨cd, hc, _⟩ := any_some EC.hd; rw [hc]; rfl) EC.ha EC.hn EC.ht
  obtain ⟨hp, gs, dr, tk, os⟩ := s
  have M0 := J.type (M := model prog w); have M1 := looks_findIn (M := model prog w) KX EC.hg; have M2 := looks_findIn (M := model prog w) KX EC.hk; have M3 := looks_find (M := model prog w) KX J fo
  have below : Looks (model prog w) hp (isInstance (.ref x) (.type "BaseException")) true := M0.andThen (looks_subIn KX EC.hs)
  have z0 : (false && onTheHeap (Value.builtin "BaseException.__getattribute__")) = false := rfl; have z2 : (Value.builtin "BaseException.__getattribute__" == Value.builtin "object.__getattribute__") = false := by decide +kernel
  have z1 : (onTheHeap (Value.ref D) && Value.builtin "BaseException.__getattribute__" == Value.builtin "object.__getattribute__") = false := by rw [z2]; rfl
  unfold getAttr? getAttrBy? getAttrBy; refine wpAny_bind (wpAny_mkText (wpAny_bind (wpAny_attempt (wpAny_holding (wpAny_bind (M0.at (wpAny_bind (M1.at ?_))))))))
  show wpAny _ _ (if (onTheHeap (Value.ref D) && (Value.builtin "BaseException.__getattribute__" == Value.builtin "object.__getattribute__")) = true then _ else _) _ _ _
  rw [z1, if_neg Bool.false_ne_true]; unfold getAttrByItsOwn hookBefore; refine wpAny_bind ?_
  rw [if_pos (show onTheHeap (Value.ref D) = true from rfl)]; refine M2.at ?_; refine wpAny_bind (wpAny_attempt (wpAny_holding ?_))
  unfold callGetattribute; rw [z0, if_neg Bool.false_ne_true]; unfold boundAndCalled
  rw [PySem.F.excAttr_ValueError.ga.bind (.ref x)]; refine wpAny_bind (wpAny_pure ?_)
  show wpAny _ _ (call (.builtin "BaseException.__getattribute__") [.ref x, .str "__class__" tk]) _ _ _
  refine wpAny_call (codeAny_call_builtin PySem.F.excAttr_ValueError.ga.plain PySem.F.entry_bexc_ga (@check_slot (model prog w) _ _ ⟨hp, gs, dr, tk + 1, os⟩ "BaseException.__getattribute__" "BaseException" "__getattribute__" (.ref x) [.str "__class__" tk] [] _ (by decide +kernel) (by decide +kernel) below (PySem.F.args_bexc_ga (.ref x) (.str "__class__" tk)) ?_))
  unfold Builtin.«object.__getattribute__»; refine wpAny_bind (wpAny_of_eq (a := ((Value.ref x : Value), [Value.str "__class__" tk])) (by first | rfl | (simp only [slotArgs]; rfl)) ?_)
  refine wpAny_bind (wpAny_pure (wpAny_bind (M0.at (wpAny_bind (M3.at ?_)))))
  show wpAny _ _ (holding [Value.builtin "object.__class__"] (call (.builtin "getset_descriptor.__get__") [.builtin "object.__class__", .ref x, .ref D]) >>= ret) _ _ _
  refine wpAny_bind (wpAny_holding (wpAny_call (class_get (s := ⟨hp, gs, dr, tk + 1, os⟩) (ox := ox) (od := od) KX J EC.hm ?_)))
  refine wpAny_pure ?_; show wpAny _ _ (handedOut (.ref D)) _ _ _; rw [handedOut_of (v := .ref D) rfl]
  first | exact wpAny_pure (wpAny_pure q) | exact wpAny_pure q | exact wpAny_pure (wpAny_bind (wpAny_pure (wpAny_pure q)))
theorem cls_obj (EC : L2.ExcC K D) : ∃ c' d' cd' sl', K.lookup D = some ⟨c', d', .cls cd', sl'⟩ := by
  obtain ⟨cd, hcd, _⟩ := any_some EC.hd
  unfold clsIn at hcd
  split at hcd
  · rename_i c' d' cd' sl' ho; exact ⟨c', d', cd', sl', ho⟩
  · cases hcd
theorem kit_exc (EC : L2.ExcC K D) : KitX K (.ref x) (.ref D) (fun h => ∃ od, InstAt h x ox D od) where
  ty := fun _ _ _ ⟨_, J⟩ => J.type
  it := fun _ _ KX _ => by
    obtain ⟨c', d', cd', sl', ho⟩ := cls_obj EC
    intro A' Q' E' s' k q; unfold isType loadHead
    exact wpAny_bind (wpAny_loadPart (k _ _ (KX _ _ ho)) (wpAny_pure q))
  ne := fun h tp dd its n sl KX htp => Bool.eq_false_iff.mpr fun q => by
    obtain ⟨c', d', cd', sl', ho⟩ := cls_obj EC
    have e : D = tp := Value.ref.inj (beq_iff_eq.mp q)
    rw [e] at ho; have z := (KX _ _ ho).symm.trans htp; cases z
  ca := fun KX ⟨_, J⟩ q => cls_of EC KX J q
end
end MirI2
/-! Mir: except C0 as e: if isinstance(e, (..)) or not isinstance(e, C): return ('..',); return ('..', e.f). -/
namespace Mir
open PySem PySem.Spec PyProof.Rows L2
theorem kit_not {K : PySem.W.Frag} {C Y : Addr} {cs : List Value} (h1 : PySem.W.hasDictIn K Y = true) (ht : PySem.W.typeIn K (.ref Y) = some (.type "type")) (h4 : PySem.W.subIn K (.ref C) (.ref Y) = some false) (hs : PySem.W.subIn K (.ref C) (.ref C) = some true) (r : PySem.W.kitAny K (.ref C) cs = some false) : PySem.W.kitAny K (.ref C) (.ref Y :: cs) = some false := by
  have hne : (Value.ref C == Value.ref Y) = false := by
    rw [beq_eq_false_iff_ne]
    intro e
    cases e
    rw [hs] at h4; cases h4
  obtain ⟨cd, hc, _⟩ := PySem.W.any_some h1
  have e2 : ((PySem.W.clsIn K Y).isSome && PySem.W.typeIn K (.ref Y) == some (.type "type")) = true := by rw [hc, ht] <;> rfl
  refine kitAny_cons (b := false) ?_ (fun _ => r) (fun z => by cases z)
  unfold PySem.W.kitOne
  rw [hne, if_neg Bool.false_ne_true]
  show (if ((PySem.W.clsIn K Y).isSome && PySem.W.typeIn K (.ref Y) == some (.type "type")) = true then PySem.W.subIn K (.ref C) (.ref Y) else none) = some false
  rw [if_pos e2]
  exact h4
section
variable {X : Cx} {a D O : Addr} {oe : Obj} {pn : List (Addr × Obj)} {cls : Value} {d : Option Addr}
theorem inst_exc {pins : List (Addr × Obj)} {σ : L2.St} {H : Hp} {s : Shared} {dd : Addr} {fs : List (Str × V)} (hz : Zc cls d oe) (hf : ∃ vs, oe.data = .fields vs) (I : Inv (X.suite a ((a, oe) :: pn)) pins σ H s) (hc : cls = .ref D) (hd : d = some dd) (h : H dd = some (.xd fs)) : ∃ od, PySem.W.InstAt s.heap a oe D od := by
  obtain ⟨hget, _⟩ := I.pin (a, oe) (List.mem_append.mpr (.inl List.mem_cons_self))
  obtain ⟨mA, ⟨od, es, ep, e, c⟩, r⟩ := (show ∃ mA, s.heap.Ns1 dd mA ∧ ∀ f, RelO (fs.lookup f) (mA f) from I.hok dd _ h)
  obtain ⟨vs, hv⟩ := hf
  obtain ⟨oc, odi, oda, osl⟩ := oe
  obtain ⟨h1, h2⟩ := hz
  dsimp only at h1 h2 hv
  subst hc; subst hd; subst h1 h2 hv
  exact ⟨some od, hget, rfl, rfl, e⟩
/-- the error that the suite holds -/
def XS1 (D : Addr) (cls : Value) (d : Option Addr) (H : Hp) : Prop := ∃ dd fs, cls = .ref D ∧ d = some dd ∧ H dd = some (.xd fs)
theorem call_isX (EC : ExcC X.K D) (hz : Zc cls d oe) (hf : ∃ vs, oe.data = .fields vs) : CallR (X.suite a ((a, oe) :: pn)) (.builtin "isinstance") (fun xs H Q => ∃ (c : Addr) (b : Bool), XS1 D cls d H ∧ xs = [.ref a, .ref c] ∧ PySem.W.kitOne X.K (.ref D) (.ref c) = some b ∧ Q (.bl b) H) := by
  intro pins s σ H xs us Q I r h
  obtain ⟨c, b, ⟨dd, fs, h1, h2, h3⟩, rfl, e, q⟩ := h
  obtain ⟨u1, u2, rfl, r1, r2⟩ := vals2 r
  cases r1; cases r2
  exact PySem.W.kia_one (MirI2.kit_exc EC) I.kIn (inst_exc hz hf I h1 h2 h3) e (fun z => nomatch z) fun tk => ⟨.bl b, H, I.tok tk, rfl, q⟩
theorem call_isXT (EC : ExcC X.K D) (hz : Zc cls d oe) (hf : ∃ vs, oe.data = .fields vs) : CallR (X.suite a ((a, oe) :: pn)) (.builtin "isinstance") (fun xs H Q => ∃ (tp : Addr) (cs : List Addr) (b : Bool), XS1 D cls d H ∧ xs = [.ref a, .ref tp] ∧ H tp = some (.tup (cs.map V.ref)) ∧ PySem.W.kitAny X.K (.ref D) (cs.map Value.ref) = some b ∧ Q (.bl b) H) := by
  intro pins s σ H xs us Q I r h
  obtain ⟨tp, cs, b, ⟨dd, fs, h1, h2, h3⟩, rfl, hT, e, q⟩ := h
  obtain ⟨u1, u2, rfl, r1, r2⟩ := vals2 r
  cases r1; cases r2
  obtain ⟨_, its, rv, o, g1, g2, n, g3⟩ := (show ObjOk X.prog X.w H s.heap tp (.tup (cs.map V.ref)) from I.hok tp _ hT)
  have ei : its = cs.map Value.ref := by
    have : ∀ {cs : List Addr} {its : List Value}, Vals (cs.map V.ref) its → its = cs.map Value.ref := by
      intro cs
      induction cs with
      | nil => intro its r; cases r; rfl
      | cons c cs ih => intro its r; cases r with | cons r1 r2 => cases r1; rw [ih r2]; rfl
    exact this rv
  subst ei
  obtain ⟨oc, od, dt, sl⟩ := o
  simp only at g2 g3
  subst g2 g3
  exact PySem.W.kia_tup (MirI2.kit_exc EC) I.kIn (inst_exc hz hf I h1 h2 h3) g1 e (fun z => nomatch z) fun tk => ⟨.bl b, H, I.tok tk, rfl, q⟩
/-- names of classes -/
def tRefs (cs : List Addr) : TA := fun σ H Q => Q (cs.map V.ref) H
theorem pa_refs0 {Y : Cx} : PA Y [] (tRefs []) := pa_nil
theorem pa_refs1 {Y : Cx} {x : Str} {p : Pos} {c : Addr} {es : List Expr} {cs : List Addr} (hg : Gl Y x) (hm : Y.mg x = some (.ref c)) (h : PA Y es (tRefs cs)) (hd : (x == ("__debug__" : Str)) = false := by decide) (hs : starEach (.Name x p :: es) Y.env = (false, eval (.Name x p) Y.env) :: starEach es Y.env := by rfl) : PA Y (.Name x p :: es) (tRefs (c :: cs)) :=
  PA.via (pa_cons (pe_glob (v := .ref c) hg hm rfl hd) h hs) fun _ _ _ q => q
end
/-- what the suite does -/
def hIT (X : Cx) (C a : Addr) (cls : Value) (d : Option Addr) (i : Nat) (s0 s : Str) (f : Bool) (cs : List Addr) : TS :=
  tSeq (tIfS (tOr (fun σ H Q => tCB (fun xs H Q => ∃ (tp : Addr) (cs : List Addr) (b : Bool), XS1 C cls d H ∧ xs = [.ref a, .ref tp] ∧ H tp = some (.tup (cs.map V.ref)) ∧ PySem.W.kitAny X.K (.ref C) (cs.map Value.ref) = some b ∧ Q (.bl b) H) (tCons (tVar i) (tCons (tTup (tRefs cs)) tNil)) σ H fun x H' => ∃ k, TruV X.K x H' k ∧ Q k H')
    (tNot fun σ H Q => tCB (fun xs H Q => ∃ (c : Addr) (b : Bool), XS1 C cls d H ∧ xs = [.ref a, .ref c] ∧ PySem.W.kitOne X.K (.ref C) (.ref c) = some b ∧ Q (.bl b) H) (tCons (tVar i) (tCons (tC (.ref C)) tNil)) σ H fun x H' => ∃ k, TruV X.K x H' k ∧ Q k H'))
    (tRet (tTup (tCons (tC (.str s0)) tNil))) tNext)
    (tRet (tTup (tCons (tC (.str s)) (tCons (tXf a cls d C (MirX.fnm f) (tVar i)) tNil))))
section
variable {X : Cx} {W : WX} {pos : Pos} {C fI O : Addr} {cn c0 tx qual : Str} {f : Bool} {body : List Stmt} {mb : SM} {n : Str} {i : Nat} {np pos' p1 p2 p3 p4 p5 p6 q1 q2 q3 q4 q5 q6 q7 q8 q9 q10 r1 r2 r3 r4 : Pos} {s s0 : Str} {k0 k1 k2 : Nat} {ns : List Expr} {cs : List Addr}
theorem ss_tryI (hc : X.calm = true) (hs : X.stack = X.env :: X.outer) (hf : X.env.frame = some X.env.locals) (hN : X.N.Nodup) (hi : X.N[i]? = some n) (hln : X.env.kindOf n = some .local) (T : MirX.Txt X.prog X.K X.mg cn (MirX.fnm f) tx qual C fI) (hfo : fieldOf cn = MirX.fnm f) (hg : Gl X cn)
    (hg0 : Gl X c0) (gO : X.mg c0 = some (.ref O)) (hdb0 : (c0 == ("__debug__" : Str)) = false) (exO : PySem.W.exmOne X.K (.ref C) (.ref O) = some true) (EC : ExcC X.K C) (hgi : Gl X "isinstance") (hmi : X.mg "isinstance" = none) (hns : ∀ (a : Addr) (oe : Obj) (pn : List (Addr × Obj)), PA (X.suite a ((a, oe) :: pn)) ns (tRefs cs)) (hk : PySem.W.kitAny X.K (.ref C) (cs.map Value.ref) = some false) (hdb : (cn == ("__debug__" : Str)) = false) (tk : Takes X W)
    (hb : ∀ (W2 : WX) (pn : List (Addr × Obj)) (xe : Value → Shared → Prop), Takes (X.tr pn xe) W2 → PassesOwn (model X.prog X.w) X.A X.env xe → SB (X.tr pn xe) W2 body mb)
    (hcl : cs.length ≤ 100) (hd : (n == ("__debug__" : Str)) = false) (hcd : (n == ("__classdict__" : Str)) = false) (hab : attributeBase (.Name n p2) (MirX.fnm f) X.env (eval (.Name n p2) X.env) = eval (.Name n p2) X.env := by rfl)
    (hs1 : starEach [.Name n q2, .Tuple ns k0 q3] X.env = (false, eval (.Name n q2) X.env) :: starEach [.Tuple ns k0 q3] X.env := by rfl) (hs2 : starEach [.Tuple ns k0 q3] X.env = (false, eval (.Tuple ns k0 q3) X.env) :: starEach [] X.env := by rfl) (hpl : (backTo q4 (starEach [.Tuple ns k0 q3] X.env)).any (·.1) = false := by rfl) :
    SS X W (.Try body [.ExceptHandler (some (.Name c0 np)) (some n) [.If (.BoolOp .Or [.Call (.Name "isinstance" q1) [.Name n q2, .Tuple ns k0 q3] [] q4, .UnaryOp .Not (.Call (.Name "isinstance" q5) [.Name n q6, .Name cn q7] [] q8) q9] q10) [.Return (some (.Tuple [.Constant (.str s0) 0 r1] k1 r2)) r3] [] r4, .Return (some (.Tuple [.Constant (.str s) 0 p1, .Attribute (.Name n p2) (MirX.fnm f) p3] k2 p4)) p5] pos'] [] [] pos) (tryM mb (hRet cn i s)) := by
  have hsu : ∀ (a : Addr) (oe : Obj) (cls : Value) (d : Option Addr) (pn : List (Addr × Obj)), Zc cls d oe → (∃ vs, oe.data = .fields vs) → PSs (X.suite a ((a, oe) :: pn)) [.If (.BoolOp .Or [.Call (.Name "isinstance" q1) [.Name n q2, .Tuple ns k0 q3] [] q4, .UnaryOp .Not (.Call (.Name "isinstance" q5) [.Name n q6, .Name cn q7] [] q8) q9] q10) [.Return (some (.Tuple [.Constant (.str s0) 0 r1] k1 r2)) r3] [] r4, .Return (some (.Tuple [.Constant (.str s) 0 p1, .Attribute (.Name n p2) (MirX.fnm f) p3] k2 p4)) p5] (hIT X C a cls d i s0 s f cs) := fun a oe cls d pn hz hv =>
    have ev := fun (p : Pos) => pe_var (X := X.suite a ((a, oe) :: pn)) (pos := p) hi (.inl hln) hd hcd
    have t1 := pt_truth (pe_callB (pos := q4) (p := q1) (call_isXT (pn := pn) EC hz hv) hgi hmi (by decide +kernel) (pa_cons (ev q2) (pa_cons (pe_tup (pos := q3) (x1 := k0) (hns a oe pn)) pa_nil hs2) hs1) (by decide) (by decide) hs1 hpl) (by intro _; rfl)
    have t2 := pt_not (pos := q9) (pt_truth (pe_callB (pos := q8) (p := q5) (call_isX (pn := pn) EC hz hv) hgi hmi (by decide +kernel) (pa_cons (ev q6) (pa_cons (pe_glob (v := .ref C) (pos := q7) hg T.gC rfl hdb) pa_nil (by rfl)) (by rfl)) (by decide) (by decide) (by rfl) (by rfl)) (by intro _; rfl))
    pss_cons (ps_if (pos := r4) (PW.pt (pw_or (pos := q10) t1 (pw_or1 t2))) (pss_one (ps_ret (pos := r3) (pe_tup (pos := r2) (x1 := k1) (pa_cons (pe_str (x := s0) (j := 0) (pos := r1)) pa_nil (by rfl))))) pss_nil) (pss_one (ps_ret (pos := p5) (pe_tup (pos := p4) (x1 := k2) (pa_cons (pe_str (x := s) (j := 0) (pos := p1)) (pa_cons (pe_xf (pos := p3) T.xf T.noN hz hv (ev p2) hab) pa_nil (by rfl)) (by rfl)))))
  refine PS.via (ps_try_as (tb := fun W2 => tS (km X) W2 mb) hs hf hN hi hln ⟨hg0, hdb0, .inl gO⟩ tk (fun W2 pn xe t o => hb W2 pn xe t o) hsu) fun D σ H q => ?_
  refine tryM_run q fun c a ρ S B φ S0 H0 q1 φ' σ' H' cls d fr g x => ?_
  unfold hRet at q1
  split at q1
  · rename_i hcn
    obtain ⟨rfl, hl⟩ := hcn
    have hlen : i < σ'.length := by rw [← g.env.len]; exact hl
    have hC : cls = .ref C ∧ XS1 C cls d H' := by
      obtain ⟨C2, dd, v, h1, h2, h3, h4, h5⟩ := x
      have := h3.symm.trans T.gC
      cases this
      exact ⟨h1, dd, _, h1, h2, h4⟩
    obtain ⟨rfl, hxs⟩ := hC
    refine ⟨true, exO, fun _ e he => ?_, fun z => by cases z⟩
    have sig : (σ'.set i (some (V.ref e)))[i]? = some (some (V.ref e)) := List.getElem?_set_self hlen
    show hIT X C e (.ref C) d i s0 s f cs _ (σ'.set i (some (V.ref e))) H'
    unfold hIT
    show ∃ v, (σ'.set i (some (V.ref e)))[i]? = some (some v) ∧ _
    refine ⟨.ref e, sig, ?_⟩
    dsimp only [tCons, tTup, tRefs]
    show (cs.map V.ref).length ≤ sizeLine ∧ _
    refine ⟨by rw [List.length_map]; exact Nat.le_trans hcl (by decide), fun p hp => ?_⟩
    have xs2 : XS1 C (.ref C) d (upd H' p (.tup (cs.map V.ref))) := by
      obtain ⟨dd, fs, h1, h2, h3⟩ := hxs
      exact ⟨dd, fs, h1, h2, by rw [upd_ne (ne_of_none h3 hp)]; exact h3⟩
    refine ⟨p, cs, false, xs2, rfl, upd_same, hk, false, rfl, ?_⟩
    rw [if_neg (by decide)]
    refine ⟨.ref e, sig, C, true, xs2, rfl, by simp [PySem.W.kitOne], true, rfl, ?_⟩
    dsimp only
    rw [if_neg (by decide)]
    have fr1 := fr_upd (φ := φ') (S := S) (o := HO.tup (cs.map V.ref)) hp
    have g1 := g.stay fr1 (g.ag.upd hp)
    obtain ⟨C2, dd, v, h1, h2, h3, h4, h5⟩ := x
    have x1 : ExcAt X.K X.mg (Mu B φ' S) φ' (upd H' p (.tup (cs.map V.ref))) c a (.ref C) d := ⟨C2, dd, v, h1, h2, h3, by rw [upd_ne (ne_of_none h4 hp)]; exact h4, h5.stay g.ag fr1⟩
    refine (pair_go T hfo g1 x1 hlen fun v p2 hp2 rv => ?_).2
    have fr2 := fr_upd (φ := φ') (S := S) (o := HO.tup [.str s, v]) hp2
    refine q1 φ' (.ref p2) _ (fr.trans (fr1.trans fr2)) (g1.ag.upd hp2) ?_
    unfold RV
    exact ⟨p2, _, rfl, upd_same, .cons (.str s) (.cons (rv.stay g1.ag fr2) .nil)⟩
  · exact q1.elim
end
end Mir
/-! t[::-1] of a tuple. -/
namespace Mir
open PySem PySem.Spec PyProof.Rows HT L2
section
variable {prog : Program} {w : World} {A : Around} {E : Value → Shared → Prop} {s : Shared}
theorem places_rev (n : Nat) : Builtin.Slice.slicePlaces ((n : Int) - 1) (-1) (-1) = n := by
  unfold Builtin.Slice.slicePlaces
  have h1 : ¬ ((-1 : Int) > 0) := by omega
  have h2 : (-(-1 : Int)) = 1 := rfl
  rw [if_neg h1, h2, Int.ediv_one]
  split <;> omega
theorem sliceApplied_rev {sl : Addr} {vl vu vs : Value} {n : Nat} {Q : Int × Int × Nat → Shared → Prop} (hs : s.heap.IsSliceOf sl vl vu vs) (pl : IsPart vl none) (pu : IsPart vu none) (ps : IsPart vs (some (-1)))
    (h : Q ((n : Int) - 1, -1, n) s) : wpAny (model prog w) A (Builtin.Slice.sliceApplied (.ref sl) (pure (n : Int))) Q E s := by
  obtain ⟨os, hos, hcs, hds⟩ := id hs
  unfold Builtin.Slice.sliceApplied Builtin.Slice.sliceFields
  refine wpAny_bind (wpAny_bind (wpAny_field hos hds (x := vl) rfl (wpAny_bind (wpAny_field hos hds (x := vu) rfl (wpAny_bind (wpAny_field hos hds (x := vs) rfl (wpAny_pure ?_)))))))
  refine wpAny_bind (slicePart_ ps ?_)
  show wpAny _ _ (if ((-1 : Int) == 0) = true then _ else _) _ _ s
  rw [if_neg (by decide)]
  refine wpAny_bind (slicePart_ pl (wpAny_bind (slicePart_ pu (wpAny_bind (wpAny_pure ?_)))))
  show wpAny _ _ (pure ((n : Int) - 1, (-1 : Int), Builtin.Slice.slicePlaces ((n : Int) - 1) (-1) (-1))) _ _ s
  rw [places_rev]
  exact wpAny_pure h
theorem fm_congr {α β : Type} {f g : α → Option β} : ∀ {l : List α}, (∀ a ∈ l, f a = g a) → l.filterMap f = l.filterMap g
  | [], _ => rfl
  | a :: r, h => by rw [List.filterMap_cons, List.filterMap_cons, h a List.mem_cons_self, fm_congr fun b hb => h b (List.mem_cons_of_mem _ hb)]
theorem pick_rev (xs : Array Value) : ((List.range xs.size).filterMap fun (m : Nat) => xs[(((xs.size : Int) - 1) + (m : Int) * (-1)).toNat]?) = xs.toList.reverse := by
  have e : (List.range xs.size).filterMap (fun (m : Nat) => xs[(((xs.size : Int) - 1) + (m : Int) * (-1)).toNat]?) = (List.range xs.size).filterMap fun m => xs[xs.size - 1 - m]? := by
    refine fm_congr fun m hm => ?_
    have hm := List.mem_range.mp hm
    have : (((xs.size : Int) - 1) + (m : Int) * (-1)).toNat = xs.size - 1 - m := by omega
    rw [this]
  rw [e]
  have h := PySem.W.krv_range xs.size
  have e2 : (List.range xs.size).filterMap (fun m => xs[xs.size - 1 - m]?) = ((List.range xs.size).map fun k => xs.size - 1 - k).filterMap (xs[·]?) := by
    rw [List.filterMap_map]; rfl
  rw [e2, h, List.filterMap_reverse, PySem.W.krv_all]
theorem getItem_tuple_rev {t sl : Addr} {items : Array Value} {vl vu vs : Value} {Q : Value → Shared → Prop} (ht : IsTup s.heap t items) (hs : s.heap.IsSliceOf sl vl vu vs) (pl : IsPart vl none) (pu : IsPart vu none) (ps : IsPart vs (some (-1)))
    (h : Q (.ref s.heap.objs.size) { s with heap := s.heap.push { cls := .type "tuple", data := .seq items.toList.reverse.toArray } })
    (hsz : items.size ≤ sizeLine) : wpAny (model prog w) A (getItem (.ref t) (.ref sl)) Q E s := by
  have htake : sizeOk (.seq items.toList.reverse.toArray) := by
    show items.toList.reverse.toArray.size ≤ sizeLine
    rw [List.size_toArray, List.length_reverse, Array.length_toList]
    omega
  obtain ⟨os, hos, hcs, hds⟩ := id hs
  have hTs : s.TypeIs (.ref sl) "slice" := ⟨os, hos, hcs⟩
  unfold getItem
  try with_reducible refine wpAny_holding ?_
  first | refine wpAny_bind (wpAny_pure ?_) | skip
  refine wpAny_bind (wpAny_sequenceKey ht.typeIs (by decide) ?_)
  refine wpAny_bind (wpAny_callSpecial?_slot (name := Str.ofString "__getitem__") ht.typeIs PyProof.Rows.slot_tuple_getitem
    (wpAny_call_entry PyProof.Rows.slot_tuple_getitem ht.typeIs entry_tuple_getitem ?_ (args_tuple_getitem _ _)))
  show wpAny _ _ (Builtin.Tuple.tupleItemsOf (.ref t) >>= _) _ _ s
  refine wpAny_bind (tupleItemsOf_ ht ?_)
  refine wpAny_bind (wpAny_typeOf hTs ?_)
  rw [if_pos (by decide)]
  refine wpAny_bind (sliceApplied_rev hs pl pu ps ?_)
  have hno : ¬ ((((items.size : Int) - 1) == 0 && (-1 : Int) == 1 && items.size == items.size) = true) := by
    intro q
    rw [Bool.and_eq_true, Bool.and_eq_true] at q
    have q1 : (-1 : Int) = 1 := eq_of_beq q.1.2
    omega
  show wpAny _ _ (if (((items.size : Int) - 1) == 0 && (-1 : Int) == 1 && items.size == items.size) = true then _ else _) _ _ s
  rw [if_neg hno, pick_rev]
  first
    | exact wpAny_bind (m := Builtin.Tuple.tupleExact _) (wpAny_newObj_type (wpAny_pure ⟨_, rfl, wpAny_pure h⟩) htake)
    | exact wpAny_bind (m := Builtin.Tuple.tupleExact _) (wpAny_newObj_type (wpAny_bind (wpAny_pure (wpAny_pure ⟨_, rfl, wpAny_pure h⟩))) htake)
    | exact wpAny_bind (wpAny_bind (m := Builtin.Tuple.tupleExact _) (wpAny_newObj_type (wpAny_pure (wpAny_pure ⟨_, rfl, wpAny_pure h⟩)) htake))
    | exact wpAny_bind (wpAny_bind (m := Builtin.Tuple.tupleExact _) (wpAny_newObj_type (wpAny_pure ⟨_, rfl, wpAny_pure h⟩) htake))
end
section
variable {X : Cx} {W : WX} {pos : Pos}
def tRevT (K : PySem.W.Frag) (te : TE) : TE := fun σ H Q => te σ H fun x H1 => ∃ a xs, x = .ref a ∧ SqT K H1 a xs ∧ ∀ p, H1 p = none → Q (.ref p) (upd H1 p (.tup xs.reverse))
theorem pe_revT {e : Expr} {te : TE} {k : Nat} {p1 p2 p3 pos : Pos} (he : PE X e te) : PE X (.Subscript e (.Slice none none (some (.UnaryOp .USub (.Constant (.int 1) k p1) p2)) p3) pos) (tRevT X.K te) := by
  refine ⟨fun pins s σ H Q I h => ?_⟩
  refine Subscript_ (thn (he.run pins s σ H _ I h) fun v s1 ⟨x, H1, I1, r1, q1⟩ => ?_)
  obtain ⟨a, xs, ex, hx, q⟩ := q1
  subst ex
  cases r1
  have hst : PO X (some (.UnaryOp .USub (.Constant (.int 1) k p1) p2)) (tPart (tUn (rU fun i => .int (-i)) (tC (.int 1)))) := po_some (pe_un un_neg pe_int)
  refine wpAny_Slice (thn (po_none.run pins s1 σ H1 (fun o H2 => o = none ∧ H2 = H1) I1 ⟨rfl, rfl⟩) fun vl s2 ⟨l, H2, I2, pl, el, e2⟩ => ?_)
  subst el e2
  refine thn (po_none.run pins s2 σ H2 (fun o H3 => o = none ∧ H3 = H2) I2 ⟨rfl, rfl⟩) fun vu s3 ⟨u, H3, I3, pu, eu, e3⟩ => ?_
  subst eu e3
  refine thn (hst.run pins s3 σ H3 (fun o H4 => o = some (-1) ∧ H4 = H3) I3 ⟨1, rfl, -1, rfl, rfl, rfl⟩) fun vs s4 ⟨o, H4, I4, ps, eo, e4⟩ => ?_
  subst eo e4
  have I5 : Inv X pins σ H4 { s4 with heap := s4.heap.push { cls := .type "slice", data := .fields #[vl, vu, vs] } } := I4.kept (t' := s4.toks) fun b ob q => Heap.get?_push_of_some _ q
  obtain ⟨its, r, ht, hz⟩ := I5.tuple hx
  have hlen := r.length
  show wpAny (model X.prog X.w) X.A (subscriptTail e (.Slice none none (some (.UnaryOp .USub (.Constant (.int 1) k p1) p2)) p3) (.ref a) (.ref s4.heap.objs.size)) (EP X pins σ Q) X.xe { s4 with heap := s4.heap.push { cls := .type "slice", data := .fields #[vl, vu, vs] } }
  refine tail_any (ops := [.ref a, .ref s4.heap.objs.size]) ht.typeIs (PyProof.Rows.slot_tuple_getitem.lookup) ?_ (by with_unfolding_all rfl)
  refine getItem_tuple_rev ht (Heap.IsSliceOf.new _ vl vu vs) pl pu ps ?_ (by rw [List.size_toArray]; omega)
  refine ⟨.ref _, _, I5.laid (t' := s4.toks) (o := .tup xs.reverse) (fun b ob q => Heap.get?_push_of_some _ q) (Nat.le_refl _) ?_, rfl, q _ (I5.hok.fresh (Nat.le_refl _))⟩
  exact ⟨by rw [List.length_reverse]; exact hz, _, r.reverse, IsTup.new _ _⟩
def eRevT (a : EM) : EM := fun ρ S => (a ρ S).bind fun x S1 => match x with
  | .tup ps => .ok (.tup ps.reverse) S1
  | _ => .fail
theorem rvs_rev {K : PySem.W.Frag} {M : Addr → Prop} {φ : List Addr} {H : Hp} : ∀ {ps : List PV} {vs : List V}, RVs K M φ H ps vs → RVs K M φ H ps.reverse vs.reverse := by
  have app : ∀ {ps qs : List PV} {vs us : List V}, RVs K M φ H ps vs → RVs K M φ H qs us → RVs K M φ H (ps ++ qs) (vs ++ us) := by
    intro ps
    induction ps with
    | nil => intro qs vs us a b; unfold RVs at a; subst a; exact b
    | cons p ps ih =>
      intro qs vs us a b
      obtain ⟨v, ws, rfl, r1, r2⟩ := a.uncons
      exact .cons r1 (ih r2 b)
  intro ps
  induction ps with
  | nil => intro vs a; unfold RVs at a; subst a; exact .nil
  | cons p ps ih =>
    intro vs a
    obtain ⟨v, ws, rfl, r1, r2⟩ := a.uncons
    rw [List.reverse_cons, List.reverse_cons]
    exact app (ih r2) (.cons r1 .nil)
theorem se_revT {e : Expr} {a : EM} {k : Nat} {p1 p2 p3 : Pos} (ha : SE X W e a) : SE X W (.Subscript e (.Slice none none (some (.UnaryOp .USub (.Constant (.int 1) k p1) p2)) p3) pos) (eRevT a) := by
  refine PE.via (pe_revT ha) fun σ H Q ⟨B, φ, ρ, S, g, q⟩ => ?_
  refine tE.of g (RPost.bind q) fun v' H1 ⟨φ1, S1, v, m1, rv, q1⟩ => ?_
  cases v with
  | tup ps =>
    unfold RV at rv
    obtain ⟨a, vs, rfl, hT, t⟩ := rv
    exact ⟨a, vs, rfl, .inl (.of hT), fun p hp => new_tup m1.rel (rvs_rev t) q1 hp⟩
  | _ => exact q1.elim
/-! ### {k: True} -/
def eD1 (i : Nat) : EM := fun ρ S => match ρ[i]? with
  | some (some k) => (match keyOf k with
    | some _ => .ok (.loc S.length) (S ++ [some (.dct false [k] [.bl true])])
    | none => .fail)
  | _ => .fail
theorem upd_upd {H : Hp} {p : Addr} {a b : HO} : upd (upd H p a) p b = upd H p b := by
  funext q
  by_cases h : q = p
  · subst h; rw [upd_same, upd_same]
  · rw [upd_ne h, upd_ne h, upd_ne h]
theorem se_d1 {i : Nat} {x : Str} {p1 p2 : Pos} {k2 : Nat} (h : PE X (.Name x p1) (tVar i)) : SE X W (.Dict [some (.Name x p1)] [.Constant (.bool true) k2 p2] pos) (eD1 i) := by
  refine PE.via (pe_disp (pps_cons h pe_bl pps_nil) rfl rfl (by simp) (by simp)) fun σ H Q ⟨B, φ, ρ, S, g, q⟩ p hp => ?_
  unfold eD1 at q
  split at q
  · rename_i k e1
    split at q
    · rename_i key e2
      obtain ⟨v', e3, rv⟩ := g.env.get i k e1
      have hk : v' = kV key := keyOf_rv rv e2
      show ∃ v, σ[i]? = some (some v) ∧ _
      refine ⟨v', e3, upd_same, [(key, .bl true)], by rw [hk]; rfl, by simp, ?_⟩
      rw [upd_upd]
      exact new_obj (ob := .dct false [k] [.bl true]) g ⟨[.bl true], .dK [(key, .bl true)], upd_same, ⟨[(key, .bl true)], rfl, by simp [e2], rfl⟩, .cons (.bl true) .nil⟩ q hp
    · exact q.elim
  · exact q.elim
end
end Mir
/-! End parts, with no program in sight. -/
namespace Ec
structure Wb where
  n : Nat
  m : Nat
  src : Nat → Nat
  dst : Nat → Nat
  ch : Nat → Bool
structure Wb.Ok (w : Wb) : Prop where
  s : ∀ k, k < w.m → w.src k < w.n
  d : ∀ k, k < w.m → w.dst k < w.n
  o : ∀ p, p < w.n → ∃ k, k < w.m ∧ w.src k = p
variable (w : Wb)
inductive Rch (R : List Nat) : Nat → Nat → Prop where
  | refl (p : Nat) : Rch R p p
  | tail {p q k : Nat} : Rch R p q → k ∈ R → w.src k = q → Rch R p (w.dst k)
variable {w}
theorem Rch.one {R : List Nat} {k : Nat} (h : k ∈ R) : Rch w R (w.src k) (w.dst k) := .tail (.refl _) h rfl
theorem Rch.trans {R : List Nat} {p q r : Nat} (a : Rch w R p q) (b : Rch w R q r) : Rch w R p r := by
  induction b with
  | refl => exact a
  | tail _ h e ih => exact .tail ih h e
theorem Rch.mono {R R' : List Nat} (hs : ∀ k ∈ R, k ∈ R') {p q : Nat} (a : Rch w R p q) : Rch w R' p q := by
  induction a with
  | refl => exact .refl _
  | tail _ h e ih => exact .tail ih (hs _ h) e
theorem Rch.mem {R P : List Nat} (hR : ∀ k ∈ R, w.dst k ∈ P) {p q : Nat} (hp : p ∈ P) (a : Rch w R p q) : q ∈ P := by
  cases a with
  | refl => exact hp
  | tail _ h e => exact hR _ h
variable (w)
def outs (p : Nat) : List Nat := (List.range w.m).filter fun k => decide (w.src k = p)
def within (P R : List Nat) : List Nat := R.filter fun k => decide (w.src k ∈ P) && decide (w.dst k ∈ P)
def stay (R : List Nat) (p : Nat) : Bool := if w.ch p then (outs w p).all (fun k => decide (k ∈ R)) else (outs w p).any (fun k => decide (k ∈ R))
structure IsPart (P R : List Nat) : Prop where
  ne : P ≠ []
  win : ∀ k ∈ R, w.src k ∈ P ∧ w.dst k ∈ P
  ex : ∀ p ∈ P, ∃ k, k < w.m ∧ k ∈ R ∧ w.src k = p
  al : ∀ p ∈ P, w.ch p = true → ∀ k, k < w.m → w.src k = p → k ∈ R
  con : ∀ p ∈ P, ∀ q ∈ P, Rch w R p q
variable {w}
theorem mem_outs {p k : Nat} : k ∈ outs w p ↔ k < w.m ∧ w.src k = p := by simp [outs]
theorem mem_within {P R : List Nat} {k : Nat} : k ∈ within w P R ↔ k ∈ R ∧ w.src k ∈ P ∧ w.dst k ∈ P := by simp [within]
theorem stay_iff (ok : w.Ok) {R : List Nat} {p : Nat} (hp : p < w.n) : stay w R p = true ↔ (∃ k, k < w.m ∧ k ∈ R ∧ w.src k = p) ∧ (w.ch p = true → ∀ k, k < w.m → w.src k = p → k ∈ R) := by
  unfold stay
  split
  · rename_i hc
    rw [List.all_eq_true]
    constructor
    · intro h
      have h' : ∀ k, k < w.m → w.src k = p → k ∈ R := fun k hk e => of_decide_eq_true (h k (mem_outs.mpr ⟨hk, e⟩))
      obtain ⟨k, hk, e⟩ := ok.o p hp
      exact ⟨⟨k, hk, h' k hk e, e⟩, fun _ => h'⟩
    · rintro ⟨_, h⟩ k hk
      obtain ⟨h1, h2⟩ := mem_outs.mp hk
      exact decide_eq_true (h hc k h1 h2)
  · rename_i hc
    rw [List.any_eq_true]
    constructor
    · rintro ⟨k, hk, e⟩
      obtain ⟨h1, h2⟩ := mem_outs.mp hk
      exact ⟨⟨k, h1, of_decide_eq_true e, h2⟩, fun z => absurd z hc⟩
    · rintro ⟨⟨k, h1, h2, h3⟩, _⟩
      exact ⟨k, mem_outs.mpr ⟨h1, h3⟩, decide_eq_true h2⟩
/-! ### groups -/
def gr (rb : Nat → Nat → Bool) (P : List Nat) (p : Nat) : List Nat := P.filter fun q => rb p q && rb q p
def groups (rb : Nat → Nat → Bool) (P : List Nat) : List Nat → List Nat → List (List Nat)
  | _, [] => []
  | seen, p :: r => if p ∈ seen then groups rb P seen r else gr rb P p :: groups rb P (seen ++ gr rb P p) r
structure Eqv (rb : Nat → Nat → Bool) (P : List Nat) : Prop where
  refl : ∀ p ∈ P, rb p p = true
  trans : ∀ p ∈ P, ∀ q ∈ P, ∀ r ∈ P, rb p q = true → rb q r = true → rb p r = true
variable {rb : Nat → Nat → Bool} {P : List Nat}
theorem mem_gr {p q : Nat} : q ∈ gr rb P p ↔ q ∈ P ∧ rb p q = true ∧ rb q p = true := by simp [gr]
theorem groups_of : ∀ {rest seen : List Nat} {g : List Nat}, g ∈ groups rb P seen rest → ∃ p ∈ rest, p ∉ seen ∧ g = gr rb P p
  | [], seen, g, h => by cases h
  | p :: r, seen, g, h => by
    unfold groups at h
    split at h
    · obtain ⟨q, h1, h2, h3⟩ := groups_of h
      exact ⟨q, List.mem_cons_of_mem _ h1, h2, h3⟩
    · rename_i hp
      rcases List.mem_cons.mp h with rfl | h
      · exact ⟨p, List.mem_cons_self, hp, rfl⟩
      · obtain ⟨q, h1, h2, h3⟩ := groups_of h
        exact ⟨q, List.mem_cons_of_mem _ h1, fun z => h2 (List.mem_append_left _ z), h3⟩
theorem groups_all (E : Eqv rb P) : ∀ {rest seen : List Nat}, (∀ p ∈ rest, p ∈ P) → ∀ p ∈ rest, p ∈ seen ∨ ∃ g ∈ groups rb P seen rest, p ∈ g
  | [], seen, _, p, h => by cases h
  | q :: r, seen, hP, p, h => by
    have hq := hP q List.mem_cons_self
    have hr : ∀ p ∈ r, p ∈ P := fun p hp => hP p (List.mem_cons_of_mem _ hp)
    unfold groups
    split
    · rename_i hs
      rcases List.mem_cons.mp h with rfl | h
      · exact .inl hs
      · exact groups_all E hr p h
    · rename_i hs
      have hqq : q ∈ gr rb P q := mem_gr.mpr ⟨hq, E.refl q hq, E.refl q hq⟩
      rcases List.mem_cons.mp h with rfl | h
      · exact .inr ⟨_, List.mem_cons_self, hqq⟩
      · rcases groups_all E (seen := seen ++ gr rb P q) hr p h with h | ⟨g, h1, h2⟩
        · rcases List.mem_append.mp h with h | h
          · exact .inl h
          · exact .inr ⟨_, List.mem_cons_self, h⟩
        · exact .inr ⟨g, List.mem_cons_of_mem _ h1, h2⟩
/-- seen is made of whole classes -/
def Cl (rb : Nat → Nat → Bool) (P seen : List Nat) : Prop := ∀ p ∈ seen, ∀ q ∈ P, rb p q = true → rb q p = true → q ∈ seen
def Dj (a b : List Nat) : Prop := ∀ x ∈ a, x ∉ b
theorem groups_pw (E : Eqv rb P) : ∀ {rest seen : List Nat}, (∀ p ∈ rest, p ∈ P) → (∀ p ∈ seen, p ∈ P) → Cl rb P seen → (groups rb P seen rest).Pairwise Dj ∧ ∀ g ∈ groups rb P seen rest, Dj g seen
  | [], seen, _, _, _ => ⟨.nil, fun g h => by cases h⟩
  | q :: r, seen, hP, hS, hC => by
    have hq := hP q List.mem_cons_self
    have hr : ∀ p ∈ r, p ∈ P := fun p hp => hP p (List.mem_cons_of_mem _ hp)
    unfold groups
    split
    · exact groups_pw E hr hS hC
    · rename_i hs
      have hS' : ∀ p ∈ seen ++ gr rb P q, p ∈ P := fun p hp => (List.mem_append.mp hp).elim (hS p) fun h => (mem_gr.mp h).1
      have hd : Dj (gr rb P q) seen := fun x hx hs' => by
        obtain ⟨h1, h2, h3⟩ := mem_gr.mp hx
        exact hs (hC x hs' q hq h3 h2)
      have hC' : Cl rb P (seen ++ gr rb P q) := fun p hp x hx h1 h2 => by
        rcases List.mem_append.mp hp with h | h
        · exact List.mem_append_left _ (hC p h x hx h1 h2)
        · obtain ⟨g1, g2, g3⟩ := mem_gr.mp h
          exact List.mem_append_right _ (mem_gr.mpr ⟨hx, E.trans q hq p g1 x hx g2 h1, E.trans x hx p g1 q hq h2 g3⟩)
      obtain ⟨ih1, ih2⟩ := groups_pw E hr hS' hC'
      refine ⟨List.pairwise_cons.mpr ⟨fun g hg x hx hx' => ih2 g hg x hx' (List.mem_append_right _ hx), ih1⟩, fun g hg => ?_⟩
      rcases List.mem_cons.mp hg with rfl | hg
      · exact hd
      · exact fun x hx hx' => ih2 g hg x hx (List.mem_append_left _ hx')
theorem gr_sub {p : Nat} : (gr rb P p).Sublist P := List.filter_sublist
/-- one group alone: all are joined -/
theorem groups_one (E : Eqv rb P) (h : groups rb P [] P = [P]) : ∀ p ∈ P, ∀ q ∈ P, rb p q = true := by
  obtain ⟨p0, h1, _, h3⟩ := groups_of (show P ∈ groups rb P [] P by rw [h]; exact List.mem_cons_self)
  have hp : ∀ q ∈ P, rb p0 q = true ∧ rb q p0 = true := fun q hq => by
    rw [h3] at hq; exact (mem_gr.mp hq).2
  exact fun p hp' q hq => E.trans p hp' p0 h1 q hq (hp p hp').2 (hp q hq).1
theorem groups_joined (E : Eqv rb P) (hne : P ≠ []) (h : ∀ p ∈ P, ∀ q ∈ P, rb p q = true) : groups rb P [] P = [P] := by
  have hg : ∀ p ∈ P, gr rb P p = P := fun p hp => List.filter_eq_self.mpr fun q hq => by rw [h p hp q hq, h q hq p hp]; rfl
  have hs : ∀ (rest seen : List Nat), (∀ p ∈ rest, p ∈ seen) → groups rb P seen rest = [] := by
    intro rest
    induction rest with
    | nil => intro _ _; rfl
    | cons a r ih =>
      intro seen hs
      unfold groups
      rw [if_pos (hs a List.mem_cons_self)]
      exact ih seen fun p hp => hs p (List.mem_cons_of_mem _ hp)
  have key : ∀ l, l = P → groups rb P [] l = [P] := by
    intro l hl
    cases l with
    | nil => exact absurd hl.symm hne
    | cons a r =>
      unfold groups
      rw [if_neg (by simp), hg a (by rw [← hl]; exact List.mem_cons_self), hs r ([] ++ P) fun p hp => by rw [← hl]; exact List.mem_cons_of_mem _ hp]
  exact key P rfl
end Ec
/-! The greatest end parts, by splitting. -/
namespace Ec
variable {w : Wb}
abbrev Pt := List Nat × List Nat
/-- in order, all below n -/
def Asc (n : Nat) (l : List Nat) : Prop := l.Pairwise (· < ·) ∧ ∀ x ∈ l, x < n
theorem Asc.filter {n : Nat} {l : List Nat} (h : Asc n l) (f : Nat → Bool) : Asc n (l.filter f) := ⟨h.1.sublist List.filter_sublist, fun x hx => h.2 x (List.mem_filter.mp hx).1⟩
theorem Asc.ext {l l' : List Nat} (h : l.Pairwise (· < ·)) (h' : l'.Pairwise (· < ·)) (e : ∀ x, x ∈ l ↔ x ∈ l') : l = l' := by
  induction l generalizing l' with
  | nil =>
    cases l' with
    | nil => rfl
    | cons a r => exact absurd ((e a).mpr List.mem_cons_self) (by simp)
  | cons a r ih =>
    cases l' with
    | nil => exact absurd ((e a).mp List.mem_cons_self) (by simp)
    | cons b t =>
      obtain ⟨h1, h2⟩ := List.pairwise_cons.mp h
      obtain ⟨g1, g2⟩ := List.pairwise_cons.mp h'
      have hab : a = b := by
        rcases List.mem_cons.mp ((e a).mp List.mem_cons_self) with x | x
        · exact x
        · rcases List.mem_cons.mp ((e b).mpr List.mem_cons_self) with y | y
          · exact y.symm
          · have := g1 a x; have := h1 b y; omega
      subst hab
      rw [ih h2 g2 fun x => ?_]
      constructor
      · intro hx
        rcases List.mem_cons.mp ((e x).mp (List.mem_cons_of_mem _ hx)) with y | y
        · have := h1 x hx; omega
        · exact y
      · intro hx
        rcases List.mem_cons.mp ((e x).mpr (List.mem_cons_of_mem _ hx)) with y | y
        · have := g1 x hx; omega
        · exact y
/-- what the splitting needs of a test of reach -/
def RbOk (w : Wb) (rb : List Nat → Nat → Nat → Bool) : Prop := ∀ R p q, rb R p q = true ↔ Rch w R p q
def parts (w : Wb) (rb : List Nat → Nat → Nat → Bool) (P R : List Nat) : List Pt :=
  let kept := P.filter (stay w R)
  let inner := within w kept R
  (groups (rb inner) kept [] kept).map fun g => (g, within w g inner)
structure Good (w : Wb) (R0 : List Nat) (x : Pt) : Prop where
  ne : x.1 ≠ []
  asc : Asc w.n x.1
  rd : x.2 = within w x.1 R0
structure St (w : Wb) (R0 : List Nat) (line found : List Pt) : Prop where
  good : ∀ x ∈ line ++ found, Good w R0 x
  part : ∀ x ∈ found, IsPart w x.1 x.2
  dj : (line ++ found).Pairwise fun a b => Dj a.1 b.1
  cov : ∀ P R, IsPart w P R → (∀ k ∈ R, k ∈ R0) → ∃ x ∈ line ++ found, ∀ p ∈ P, p ∈ x.1
def mu (x : Pt) : Nat := 2 * x.1.length + x.2.length - 1
def Mu (line : List Pt) : Nat := (line.map mu).sum
section
variable {rb : List Nat → Nat → Nat → Bool} {R0 : List Nat}
theorem eqv_rb (hr : RbOk w rb) (R P : List Nat) : Eqv (rb R) P := ⟨fun p _ => (hr R p p).mpr (.refl p), fun p _ q _ r _ a b => (hr R p r).mpr (((hr R p q).mp a).trans ((hr R q r).mp b))⟩
theorem within_within {P P' R : List Nat} (h : ∀ p ∈ P, p ∈ P') : within w P (within w P' R) = within w P R := by
  unfold within
  rw [List.filter_filter]
  refine List.filter_congr fun k _ => ?_
  by_cases h1 : w.src k ∈ P <;> by_cases h2 : w.dst k ∈ P <;> simp [h1, h2]
  exact ⟨h _ h1, h _ h2⟩
theorem parts_good (hr : RbOk w rb) {x : Pt} (g : Good w R0 x) : ∀ y ∈ parts w rb x.1 x.2, Good w R0 y ∧ ∀ p ∈ y.1, p ∈ x.1 := by
  intro y hy
  obtain ⟨gp, hg, rfl⟩ := List.mem_map.mp hy
  obtain ⟨p, hp, _, rfl⟩ := groups_of hg
  have hk : ∀ q ∈ gr (rb (within w (x.1.filter (stay w x.2)) x.2)) (x.1.filter (stay w x.2)) p, q ∈ x.1.filter (stay w x.2) := fun q hq => (mem_gr.mp hq).1
  have hk2 : ∀ q ∈ x.1.filter (stay w x.2), q ∈ x.1 := fun q hq => (List.mem_filter.mp hq).1
  refine ⟨⟨?_, ?_, ?_⟩, fun q hq => hk2 q (hk q hq)⟩
  · have : p ∈ gr (rb (within w (x.1.filter (stay w x.2)) x.2)) (x.1.filter (stay w x.2)) p := mem_gr.mpr ⟨hp, (hr _ _ _).mpr (.refl _), (hr _ _ _).mpr (.refl _)⟩
    exact List.ne_nil_of_mem this
  · exact (g.asc.filter _).filter _
  · exact (within_within hk).trans ((congrArg (within w _) g.rd).trans (within_within fun q hq => hk2 q (hk q hq)))
theorem parts_dj (hr : RbOk w rb) {x : Pt} : (parts w rb x.1 x.2).Pairwise fun a b => Dj a.1 b.1 := by
  unfold parts
  rw [List.pairwise_map]
  exact (groups_pw (eqv_rb hr _ _) (fun p h => h) (fun p h => by cases h) (fun p h => by cases h)).1
/-- each end part within lies in a part -/
theorem parts_cov (ok : w.Ok) (hr : RbOk w rb) {x : Pt} (g : Good w R0 x) {P R : List Nat} (hE : IsPart w P R) (hR : ∀ k ∈ R, k ∈ R0) (hP : ∀ p ∈ P, p ∈ x.1) : ∃ y ∈ parts w rb x.1 x.2, ∀ p ∈ P, p ∈ y.1 := by
  have hRx : ∀ k ∈ R, k ∈ x.2 := fun k hk => by
    rw [g.rd]
    exact mem_within.mpr ⟨hR k hk, hP _ (hE.win k hk).1, hP _ (hE.win k hk).2⟩
  have hK : ∀ p ∈ P, p ∈ x.1.filter (stay w x.2) := fun p hp => by
    refine List.mem_filter.mpr ⟨hP p hp, (stay_iff ok (g.asc.2 p (hP p hp))).mpr ⟨?_, fun hc k hk e => hRx k (hE.al p hp hc k hk e)⟩⟩
    obtain ⟨k, h1, h2, h3⟩ := hE.ex p hp
    exact ⟨k, h1, hRx k h2, h3⟩
  have hI : ∀ k ∈ R, k ∈ within w (x.1.filter (stay w x.2)) x.2 := fun k hk => mem_within.mpr ⟨hRx k hk, hK _ (hE.win k hk).1, hK _ (hE.win k hk).2⟩
  obtain ⟨p0, hp0⟩ := List.exists_mem_of_ne_nil P hE.ne
  rcases groups_all (eqv_rb hr (within w (x.1.filter (stay w x.2)) x.2) (x.1.filter (stay w x.2))) (seen := []) (rest := x.1.filter (stay w x.2)) (fun p h => h) p0 (hK p0 hp0) with h | ⟨gp, hg, hm⟩
  · cases h
  · refine ⟨_, List.mem_map.mpr ⟨gp, hg, rfl⟩, fun p hp => ?_⟩
    obtain ⟨q, hq, _, rfl⟩ := groups_of hg
    obtain ⟨h1, h2, h3⟩ := mem_gr.mp hm
    have a := (hE.con p0 hp0 p hp).mono hI
    have b := (hE.con p hp p0 hp0).mono hI
    exact mem_gr.mpr ⟨hK p hp, (hr _ _ _).mpr (((hr _ _ _).mp h2).trans a), (hr _ _ _).mpr (b.trans ((hr _ _ _).mp h3))⟩
/-- one that does not split is an end part -/
theorem parts_fix (ok : w.Ok) (hr : RbOk w rb) {x : Pt} (g : Good w R0 x) (h : parts w rb x.1 x.2 = [x]) : IsPart w x.1 x.2 := by
  obtain ⟨P, R⟩ := x
  unfold parts at h
  dsimp only at h g ⊢
  have hk : ∀ q ∈ P.filter (stay w R), q ∈ P := fun q hq => (List.mem_filter.mp hq).1
  have hmem : (P, R) ∈ (groups (rb (within w (P.filter (stay w R)) R)) (P.filter (stay w R)) [] (P.filter (stay w R))).map fun g => (g, within w g (within w (P.filter (stay w R)) R)) := by rw [h]; exact List.mem_cons_self
  obtain ⟨gp, hg, e⟩ := List.mem_map.mp hmem
  have e1 : gp = P := congrArg Prod.fst e
  have e2 : within w gp (within w (P.filter (stay w R)) R) = R := congrArg Prod.snd e
  subst e1
  obtain ⟨p0, hp0, _, e3⟩ := groups_of hg
  have hkept : gp.filter (stay w R) = gp := by
    refine List.filter_eq_self.mpr fun q hq => ?_
    rw [e3] at hq
    exact (List.mem_filter.mp (mem_gr.mp hq).1).2
  rw [hkept] at e2 h
  have hRR : within w gp R = R := by rw [← e2]; rw [within_within fun p h => h, within_within fun p h => h]
  rw [hRR] at h
  have h1 : groups (rb R) gp [] gp = [gp] := by
    have := congrArg (List.map Prod.fst) h
    rw [List.map_map] at this
    have e4 : (Prod.fst ∘ fun g => (g, within w g R)) = fun g : List Nat => g := rfl
    rw [e4, List.map_id'] at this
    exact this
  have hone := groups_one (eqv_rb hr R gp) h1
  have hst : ∀ p ∈ gp, stay w R p = true := fun p hp => by
    rw [← hkept] at hp
    exact (List.mem_filter.mp hp).2
  exact ⟨g.ne, fun k hk => by rw [← hRR] at hk; exact (mem_within.mp hk).2, fun p hp => ((stay_iff ok (g.asc.2 p hp)).mp (hst p hp)).1, fun p hp => ((stay_iff ok (g.asc.2 p hp)).mp (hst p hp)).2, fun p hp q hq => (hr R p q).mp (hone p hp q hq)⟩
end
end Ec
namespace Ec
variable {w : Wb}
/-! ### how much is left -/
theorem len_split {α : Type} (f : α → Bool) : ∀ L : List α, (L.filter f).length + (L.filter fun x => !f x).length = L.length
  | [] => rfl
  | a :: r => by
    have ih := len_split f r
    cases h : f a <;> simp [List.filter_cons, h] <;> omega
theorem sum_key (key : Nat → Nat) : ∀ (gs : List (List Nat)), gs.Pairwise Dj → ∀ L : List Nat, (gs.map fun g => (L.filter fun x => decide (key x ∈ g)).length).sum ≤ L.length
  | [], _, L => by simp
  | g :: gs, h, L => by
    obtain ⟨h1, h2⟩ := List.pairwise_cons.mp h
    have ih := sum_key key gs h2 (L.filter fun x => !decide (key x ∈ g))
    have e : (gs.map fun g' => ((L.filter fun x => !decide (key x ∈ g)).filter fun x => decide (key x ∈ g')).length) = gs.map fun g' => (L.filter fun x => decide (key x ∈ g')).length := by
      refine List.map_congr_left fun g' hg' => ?_
      rw [List.filter_filter]
      congr 1
      refine List.filter_congr fun x _ => ?_
      by_cases a : key x ∈ g'
      · have : key x ∉ g := fun b => h1 g' hg' _ b a
        simp [a, this]
      · simp [a]
    rw [e] at ih
    have := len_split (fun x => decide (key x ∈ g)) L
    rw [List.map_cons, List.sum_cons]
    omega
theorem filter_len {α : Type} {f g : α → Bool} (h : ∀ x, f x = true → g x = true) : ∀ l : List α, (l.filter f).length ≤ (l.filter g).length
  | [] => Nat.le_refl _
  | a :: r => by
    have ih := filter_len h r
    cases c : f a with
    | false => cases d : g a <;> simp [List.filter_cons, c, d] <;> omega
    | true => simp [List.filter_cons, c, h a c]; exact ih
theorem sum_le {α : Type} (f g : α → Nat) : ∀ (l : List α), (∀ x ∈ l, f x ≤ g x) → (l.map f).sum ≤ (l.map g).sum
  | [], _ => by simp
  | a :: r, h => by
    have := sum_le f g r fun x hx => h x (List.mem_cons_of_mem _ hx)
    have := h a List.mem_cons_self
    simp; omega
theorem sum_add {α : Type} (f g : α → Nat) : ∀ (l : List α), (l.map fun x => f x + g x).sum = (l.map f).sum + (l.map g).sum
  | [] => rfl
  | a :: r => by have := sum_add f g r; simp at this ⊢; omega
theorem sum_sub : ∀ (l : List Pt), (∀ x ∈ l, 1 ≤ x.1.length) → Mu l + l.length = (l.map fun x => 2 * x.1.length + x.2.length).sum
  | [], _ => rfl
  | a :: r, h => by
    have ih := sum_sub r fun x hx => h x (List.mem_cons_of_mem _ hx)
    have h1 := h a List.mem_cons_self
    unfold Mu mu at ih ⊢
    simp only [List.map_cons, List.sum_cons, List.length_cons] at ih ⊢
    omega
section
variable {rb : List Nat → Nat → Nat → Bool} {R0 : List Nat}
theorem parts_mu (hr : RbOk w rb) {x : Pt} (g : Good w R0 x) (h : parts w rb x.1 x.2 ≠ [x]) : Mu (parts w rb x.1 x.2) < mu x := by
  have hxl : 1 ≤ x.1.length := by have := List.length_pos_iff.mpr g.ne; omega
  have hne : ∀ y ∈ parts w rb x.1 x.2, 1 ≤ y.1.length := fun y hy => by
    have := List.length_pos_iff.mpr (parts_good hr g y hy).1.ne; omega
  have hsum := sum_sub _ hne
  -- the parts
  have hform : ∃ gs : List (List Nat), gs.Pairwise Dj ∧ parts w rb x.1 x.2 = gs.map (fun g => (g, within w g (within w (x.1.filter (stay w x.2)) x.2))) ∧ ∀ g ∈ gs, g.Sublist x.1 ∧ g = (x.1.filter (stay w x.2)).filter fun q => decide (q ∈ g) := by
    refine ⟨_, (groups_pw (eqv_rb hr (within w (x.1.filter (stay w x.2)) x.2) (x.1.filter (stay w x.2))) (fun p h => h) (fun p h => by cases h) (fun p h => by cases h)).1, rfl, fun g hg => ?_⟩
    obtain ⟨p, hp, _, rfl⟩ := groups_of hg
    refine ⟨gr_sub.trans List.filter_sublist, ?_⟩
    conv => lhs; unfold gr
    refine List.filter_congr fun q hq => ?_
    rw [Bool.eq_iff_iff, decide_eq_true_eq, mem_gr]
    simp only [Bool.and_eq_true]
    exact ⟨fun e => ⟨hq, e⟩, fun e => e.2⟩
  obtain ⟨gs, hd, hp, hg⟩ := hform
  have hP : (gs.map List.length).sum ≤ x.1.length := by
    refine Nat.le_trans (Nat.le_trans (sum_le _ (fun g => ((x.1.filter (stay w x.2)).filter fun q => decide (id q ∈ g)).length) gs fun g hg' => ?_) (sum_key id gs hd (x.1.filter (stay w x.2)))) (List.length_filter_le _ _)
    conv => lhs; rw [(hg g hg').2]
    exact Nat.le_refl _
  have hR : (gs.map fun g => (within w g (within w (x.1.filter (stay w x.2)) x.2)).length).sum ≤ x.2.length := by
    refine Nat.le_trans (Nat.le_trans (sum_le _ (fun g => ((within w (x.1.filter (stay w x.2)) x.2).filter fun k => decide (w.src k ∈ g)).length) gs fun g _ => ?_) (sum_key w.src gs hd _)) (List.length_filter_le _ _)
    exact filter_len (fun k hk => (Bool.and_eq_true_iff.mp hk).1) _
  rw [hp] at hsum hne h ⊢
  rw [List.map_map, List.length_map] at hsum
  have e : ((fun x : Pt => 2 * x.1.length + x.2.length) ∘ fun g => (g, within w g (within w (x.1.filter (stay w x.2)) x.2))) = fun g => 2 * g.length + (within w g (within w (x.1.filter (stay w x.2)) x.2)).length := rfl
  rw [e, sum_add] at hsum
  have e2 : (gs.map fun g => 2 * g.length).sum = 2 * (gs.map List.length).sum := by
    clear hsum hd hp hg hP hR hne h
    induction gs with
    | nil => rfl
    | cons a r ih => simp at ih ⊢; omega
  rw [e2] at hsum
  unfold mu
  rcases gs with _ | ⟨a, _ | ⟨b, r⟩⟩
  · simp [Mu]; omega
  · simp only [List.map_cons, List.map_nil, List.sum_cons, List.sum_nil, List.length_cons, List.length_nil, Nat.add_zero] at hsum hP hR h ⊢
    by_cases c : a.length = x.1.length ∧ (within w a (within w (x.1.filter (stay w x.2)) x.2)).length = x.2.length
    · exfalso
      obtain ⟨c1, c2⟩ := c
      have ha : a = x.1 := (hg a List.mem_cons_self).1.eq_of_length c1
      have hs : (within w a (within w (x.1.filter (stay w x.2)) x.2)).Sublist x.2 := (show (within w a _).Sublist _ from List.filter_sublist).trans (show (within w _ x.2).Sublist x.2 from List.filter_sublist)
      have hb := hs.eq_of_length c2
      exact h (by rw [hb, ha])
    · omega
  · simp only [List.length_cons] at hsum
    omega
theorem dj_symm {a b : List Nat} (h : Dj a b) : Dj b a := fun x hx hx' => h x hx' hx
theorem dj_sub {a a' b b' : List Nat} (h : Dj a b) (ha : ∀ x ∈ a', x ∈ a) (hb : ∀ x ∈ b', x ∈ b) : Dj a' b' := fun x hx hx' => h x (ha x hx) (hb x hx')
theorem Mu_app (l r : List Pt) : Mu (l ++ r) = Mu l + Mu r := by unfold Mu; rw [List.map_append, List.sum_append]
theorem Mu_one (x : Pt) : Mu [x] = mu x := by unfold Mu; simp
theorem mu_pos {x : Pt} (g : Good w R0 x) : 1 ≤ mu x := by
  have := List.length_pos_iff.mpr g.ne
  unfold mu; omega
theorem St.init (ok : w.Ok) (hn : 0 < w.n) (hR : ∀ k ∈ R0, k < w.m) : St w R0 [(List.range w.n, R0)] [] where
  good := fun x hx => by
    rw [List.append_nil, List.mem_singleton] at hx
    subst hx
    refine ⟨?_, ⟨List.pairwise_lt_range, fun x hx => List.mem_range.mp hx⟩, ?_⟩
    · exact List.ne_nil_of_mem (List.mem_range.mpr hn)
    · refine (List.filter_eq_self.mpr fun k hk => ?_).symm
      have := ok.s k (hR k hk); have := ok.d k (hR k hk)
      simp; omega
  part := fun x hx => by cases hx
  dj := by simp
  cov := fun P R hE hR' => ⟨_, List.mem_cons_self, fun p hp => by
    obtain ⟨k, h1, _, h3⟩ := hE.ex p hp
    exact List.mem_range.mpr (h3 ▸ ok.s k h1)⟩
theorem St.found (ok : w.Ok) (hr : RbOk w rb) {l found : List Pt} {x : Pt} (s : St w R0 (l ++ [x]) found) (h : parts w rb x.1 x.2 = [x]) : St w R0 l (found ++ [x]) ∧ Mu l < Mu (l ++ [x]) := by
  have gx := s.good x (by simp)
  have hm : ∀ y, y ∈ l ++ (found ++ [x]) ↔ y ∈ l ++ [x] ++ found := fun y => by simp; constructor <;> (rintro (h | h | h) <;> simp [h])
  refine ⟨⟨fun y hy => s.good y ((hm y).mp hy), fun y hy => ?_, ?_, fun P R hE hR => ?_⟩, ?_⟩
  · rcases List.mem_append.mp hy with hy | hy
    · exact s.part y hy
    · rw [List.mem_singleton] at hy; subst hy; exact parts_fix ok hr gx h
  · have d := s.dj
    rw [List.append_assoc] at d
    refine d.perm ?_ fun {a b} h => dj_symm h
    exact List.Perm.append_left l (List.perm_append_comm)
  · obtain ⟨y, hy, h⟩ := s.cov P R hE hR
    exact ⟨y, (hm y).mpr hy, h⟩
  · rw [Mu_app, Mu_one]; have := mu_pos gx; omega
theorem St.split (ok : w.Ok) (hr : RbOk w rb) {l found : List Pt} {x : Pt} (s : St w R0 (l ++ [x]) found) (h : parts w rb x.1 x.2 ≠ [x]) : St w R0 (l ++ parts w rb x.1 x.2) found ∧ Mu (l ++ parts w rb x.1 x.2) < Mu (l ++ [x]) := by
  have gx := s.good x (by simp)
  have hg := parts_good hr gx
  have hin : ∀ y, y ∈ l ++ found → y ∈ l ++ [x] ++ found := fun y hy => by
    rcases List.mem_append.mp hy with h | h <;> simp [h]
  have hcase : ∀ y, y ∈ l ++ parts w rb x.1 x.2 ++ found → y ∈ l ++ found ∨ y ∈ parts w rb x.1 x.2 := fun y hy => by
    rw [List.append_assoc, List.mem_append, List.mem_append] at hy
    rcases hy with h | h | h
    · exact .inl (List.mem_append_left _ h)
    · exact .inr h
    · exact .inl (List.mem_append_right _ h)
  refine ⟨⟨fun y hy => ?_, s.part, ?_, fun P R hE hR => ?_⟩, ?_⟩
  · rcases hcase y hy with h | h
    · exact s.good y (hin y h)
    · exact (hg y h).1
  · have d := s.dj
    rw [List.append_assoc, List.pairwise_append] at d ⊢
    obtain ⟨d1, d2, d3⟩ := d
    rw [List.pairwise_append] at d2
    obtain ⟨_, d4, d5⟩ := d2
    refine ⟨d1, ?_, fun a ha b hb => ?_⟩
    · rw [List.pairwise_append]
      exact ⟨parts_dj hr, d4, fun a ha b hb => dj_sub (d5 x List.mem_cons_self b hb) (hg a ha).2 fun _ h => h⟩
    · rcases List.mem_append.mp hb with hb | hb
      · exact dj_sub (d3 a ha x (by simp)) (fun _ h => h) (hg b hb).2
      · exact d3 a ha b (by simp [hb])
  · obtain ⟨y, hy, hP⟩ := s.cov P R hE hR
    rw [List.append_assoc, List.mem_append, List.mem_append, List.mem_singleton] at hy
    rcases hy with hy | rfl | hy
    · exact ⟨y, by simp [hy], hP⟩
    · obtain ⟨z, hz, hz2⟩ := parts_cov ok hr gx hE hR hP
      exact ⟨z, by simp [hz], hz2⟩
    · exact ⟨y, by simp [hy], hP⟩
  · rw [Mu_app, Mu_app, Mu_one]; have := parts_mu hr gx h; omega
/-! ### the end -/
def starts (w : Wb) (R : List Nat) : List Nat := (List.range w.n).filter fun p => R.any fun k => decide (w.src k = p)
theorem mem_starts (ok : w.Ok) {R : List Nat} (hR : ∀ k ∈ R, k < w.m) {p : Nat} : p ∈ starts w R ↔ ∃ k ∈ R, w.src k = p := by
  unfold starts
  simp only [List.mem_filter, List.mem_range, List.any_eq_true, decide_eq_true_eq]
  exact ⟨fun h => h.2, fun ⟨k, hk, e⟩ => ⟨e ▸ ok.s k (hR k hk), k, hk, e⟩⟩
/-- one that is listed -/
def Cand (w : Wb) (R0 : List Nat) (x : Pt) : Prop := Asc w.m x.2 ∧ x.1 = starts w x.2 ∧ IsPart w x.1 x.2 ∧ ∀ k ∈ x.2, k ∈ R0
def Lies (x y : Pt) : Prop := (∀ p ∈ x.1, p ∈ y.1) ∧ ∀ k ∈ x.2, k ∈ y.2
theorem St.done (ok : w.Ok) (hR : Asc w.m R0) {found : List Pt} (s : St w R0 [] found) (x : Pt) : x ∈ found ↔ Cand w R0 x ∧ ∀ y, Cand w R0 y → Lies x y → y = x := by
  have hin : ∀ y ∈ found, y ∈ ([] : List Pt) ++ found := fun y h => h
  have cand : ∀ y ∈ found, Cand w R0 y := fun y hy => by
    have g := s.good y hy
    have p := s.part y hy
    have a2 : Asc w.m y.2 := by rw [g.rd]; exact hR.filter _
    refine ⟨a2, Asc.ext g.asc.1 (List.pairwise_lt_range.sublist List.filter_sublist) fun q => ?_, p, fun k hk => ?_⟩
    · show q ∈ y.1 ↔ q ∈ starts w y.2
      rw [mem_starts ok a2.2]
      exact ⟨fun h => by obtain ⟨k, _, h2, h3⟩ := p.ex q h; exact ⟨k, h2, h3⟩, fun ⟨k, h1, h2⟩ => h2 ▸ (p.win k h1).1⟩
    · rw [g.rd] at hk; exact (mem_within.mp hk).1
  -- each candidate lies in one that is found
  have cover : ∀ y, Cand w R0 y → ∃ z ∈ found, Lies y z := fun y hy => by
    obtain ⟨z, hz, h⟩ := s.cov y.1 y.2 hy.2.2.1 hy.2.2.2
    have g := s.good z hz
    refine ⟨z, hz, h, fun k hk => ?_⟩
    rw [g.rd]
    have := hy.2.2.1.win k hk
    exact mem_within.mpr ⟨hy.2.2.2 k hk, h _ this.1, h _ this.2⟩
  have eqv : ∀ y z, Cand w R0 y → Cand w R0 z → Lies y z → Lies z y → y = z := fun y z hy hz a b => by
    have e2 : y.2 = z.2 := Asc.ext hy.1.1 hz.1.1 fun k => ⟨a.2 k, b.2 k⟩
    have e1 : y.1 = z.1 := by rw [hy.2.1, hz.2.1, e2]
    exact Prod.ext e1 e2
  have same : ∀ y ∈ found, ∀ z ∈ found, (∃ p, p ∈ y.1 ∧ p ∈ z.1) → y = z := by
    have d := s.dj
    rw [List.nil_append] at d
    intro y hy z hz ⟨p, h1, h2⟩
    obtain ⟨i, hi, rfl⟩ := List.mem_iff_getElem.mp hy
    obtain ⟨j, hj, rfl⟩ := List.mem_iff_getElem.mp hz
    rcases Nat.lt_trichotomy i j with c | c | c
    · exact absurd h2 (List.pairwise_iff_getElem.mp d i j hi hj c p h1)
    · subst c; rfl
    · exact absurd h1 (List.pairwise_iff_getElem.mp d j i hj hi c p h2)
  constructor
  · intro hx
    refine ⟨cand x hx, fun y hy hl => ?_⟩
    obtain ⟨z, hz, hyz⟩ := cover y hy
    obtain ⟨p, hp⟩ := List.exists_mem_of_ne_nil _ (s.good x hx).ne
    have hxz := same x hx z hz ⟨p, hp, hyz.1 p (hl.1 p hp)⟩
    subst hxz
    exact eqv y x hy (cand x hx) hyz hl
  · rintro ⟨hc, hmax⟩
    obtain ⟨z, hz, h⟩ := cover x hc
    rw [← hmax z (cand z hz) h]; exact hz
end
end Ec
namespace Lw
open PySem PySem.Spec PyProof.Rows L2 Mir
def topS (i : Nat) : Stmt := PySem.Challenge.pw_bellsagain_k79_end_parts_by_listing.main.body.getD i (.Pass ⟨0, 0, 0, 0⟩)
/-! #### _law_box -/
abbrev s__law_box : Stmt := topS 20
theorem sc__law_box : FnScope ["script", "k", "cell"] ["script", "k"] (defScope s__law_box) := ⟨rfl, rfl, rfl, by decide +kernel, rfl, by decide +kernel, by decide +kernel⟩
def b__law_box : SM := (sSeq (sNm 2 (eBin pAdd (eBin (pI fMul) (eC (.int 7907)) (eVar 1)) (eC (.int 5101)))) (sSeq (sIf (tBin (pI fLt) (eVar 1) (ePrim pLen (aCons (eVar 0) aNil))) (sSeq (sNm 2 (ePrim pAbs (aCons (ePrim pInt (aCons (eBin pIx (eVar 0) (eVar 1)) aNil)) aNil))) sNil) (sSeq (sIf (tBin (pI fGt) (ePrim pLen (aCons (eVar 0) aNil)) (eC (.int 0))) (sSeq (sNm 2 (eBin pAdd (eVar 2) (eBin (pI fMul) (eBin (pI fMod) (ePrim pInt (aCons (ePrim pAbs (aCons (ePrim pInt (aCons (eBin pIx (eVar 0) (eBin (pI fMod) (ePrim pInt (aCons (eVar 1) aNil)) (ePrim pLen (aCons (eVar 0) aNil)))) aNil)) aNil)) aNil)) (eC (.int 2147483563))) (eC (.int 60107))))) sNil) sNil) sNil)) (sSeq (sRet (eNew (aCons (eIf (tBin (pI fGe) (eVar 2) (eBin (pI fPow) (eC (.int 10)) (eC (.int 18)))) (eVar 2) (eC (.int 0))) (aCons (eBin pAdd (eBin (pI fMod) (ePrim pInt (aCons (eBin pAdd (eBin (pI fMul) (eBin (pI fMod) (ePrim pInt (aCons (eVar 2) aNil)) (eC (.int 2147483563))) (eC (.int 40014))) (eBin (pI fMul) (eC (.int 5101)) (eVar 1))) aNil)) (eC (.int 2147483563))) (eC (.int 1))) aNil)))) sNil)))
def m__law_box : FM := runM 3 b__law_box
/-! #### _law_take -/
abbrev s__law_take : Stmt := topS 21
theorem sc__law_take : FnScope ["box", "many", "raw", "digit"] ["box", "many"] (defScope s__law_take) := ⟨rfl, rfl, rfl, by decide +kernel, rfl, by decide +kernel, by decide +kernel⟩
def b__law_take : SM := (sSeq (sIf (tBin (pI fGt) (eBin pIx (eVar 0) (eC (.int 0))) (eC (.int 0))) (sSeq (sNm 3 (eBin (pI fMod) (ePrim pInt (aCons (eBin pIx (eVar 0) (eC (.int 0))) aNil)) (eVar 1))) (sSeq (sSet (eBin (pI fDiv) (eBin pIx (eVar 0) (eC (.int 0))) (eVar 1)) (gSb (eVar 0) (eC (.int 0)))) (sSeq (sRet (eVar 3)) sNil))) sNil) (sSeq (sNm 2 (eBin (pI fMod) (ePrim pInt (aCons (eBin pAdd (eBin (pI fMul) (eBin pIx (eVar 0) (eC (.int 1))) (eC (.int 39373))) (eC (.int 179))) aNil)) (eC (.int 2147483647)))) (sSeq (sSet (eBin pAdd (eBin (pI fMod) (ePrim pInt (aCons (eBin pAdd (eBin (pI fMul) (eVar 2) (eC (.int 40692))) (eC (.int 53))) aNil)) (eC (.int 2147483399))) (eC (.int 1))) (gSb (eVar 0) (eC (.int 1)))) (sSeq (sRet (eBin (pI fMod) (ePrim pInt (aCons (eBin (pI fDiv) (eBin pAdd (eBin (pI fMul) (eVar 2) (eC (.int 2147483629))) (eBin pIx (eVar 0) (eC (.int 1)))) (eC (.int 8209))) aNil)) (eVar 1))) sNil))))
def m__law_take : FM := runM 4 b__law_take
/-! #### _law_pick -/
abbrev s__law_pick : Stmt := topS 22
theorem sc__law_pick : FnScope ["box", "some"] ["box", "some"] (defScope s__law_pick) := ⟨rfl, rfl, rfl, by decide +kernel, rfl, by decide +kernel, by decide +kernel⟩
def b__law_pick : SM := (sSeq (sRet (eBin pIx (eVar 1) (eCall false m__law_take 2 (aCons (eVar 0) (aCons (ePrim pLen (aCons (eVar 1) aNil)) aNil)) []))) sNil)
def m__law_pick : FM := runM 2 b__law_pick
/-! #### _law_road -/
abbrev s__law_road : Stmt := topS 25
theorem sc__law_road : FnScope ["box", "start", "places", "bells", "owner", "end", "lot", "bell"] ["box", "start", "places", "bells", "owner"] (defScope s__law_road) := ⟨rfl, rfl, rfl, by decide +kernel, rfl, by decide +kernel, by decide +kernel⟩
def b__law_road : SM := (sSeq (sNm 5 (eCall false m__law_take 2 (aCons (eVar 0) (aCons (eVar 2) aNil)) [])) (sSeq (sNm 6 (ePrim pTuple (aCons (eLc false (iRange1 (aCons (eVar 3) aNil)) [7] (cNm 7) (tBin (pEq false) (eCall false m__law_take 2 (aCons (eVar 0) (aCons (eVar 3) aNil)) []) (eC (.int 0))) (eVar 7)) aNil))) (sSeq (sIf (tAndM (tBin (pEq false) (eVar 6) (eTup aNil)) (tBin (pI fLe) (eVar 5) (eVar 1))) (sSeq (sNm 6 (eTup (aCons (eCall false m__law_take 2 (aCons (eVar 0) (aCons (eVar 3) aNil)) []) aNil))) sNil) sNil) (sSeq (sRet (eTup (aCons (eVar 1) (aCons (eVar 5) (aCons (eVar 6) (aCons (eIf (tBin (pEq false) (eVar 4) (eC (.int 0))) (eC (.int 0)) (eBin pAdd (eC (.int 1)) (eCall false m__law_take 2 (aCons (eVar 0) (aCons (eCall false m__law_pick 2 (aCons (eVar 0) (aCons (eLst (aCons (eC (.int 1)) (aCons (eC (.int 3)) (aCons (eC (.int 20)) aNil)))) aNil)) []) aNil)) []))) aNil)))))) sNil))))
def m__law_road : FM := runM 8 b__law_road
/-! #### _law_web -/
abbrev s__law_web : Stmt := topS 26
theorem sc__law_web : FnScope ["box", "places", "more", "bells", "owners", "roads", "turn", "order", "start", "place", "number", "one"] ["box", "places", "more", "bells"] (defScope s__law_web) := ⟨rfl, rfl, rfl, by decide +kernel, rfl, by decide +kernel, by decide +kernel⟩
def b__law_web : SM := (sSeq (sNm 4 (ePrim pTuple (aCons (eLc false (iRange1 (aCons (eVar 1) aNil)) [9] (cNm 9) tTrue (eCall false m__law_pick 2 (aCons (eVar 0) (aCons (eLst (aCons (eC (.int 0)) (aCons (eC (.int 0)) (aCons (eC (.int 2)) aNil)))) aNil)) [])) aNil))) (sSeq (sNm 5 (eLc true (iRange1 (aCons (eVar 1) aNil)) [9] (cNm 9) tTrue (eCall false m__law_road 5 (aCons (eVar 0) (aCons (eVar 9) (aCons (eVar 1) (aCons (eVar 3) (aCons (eBin pIx (eVar 4) (eVar 9)) aNil))))) []))) (sSeq (sFor (iRange1 (aCons (eCall false m__law_take 2 (aCons (eVar 0) (aCons (eBin pAdd (eVar 2) (eC (.int 1))) aNil)) []) aNil)) (gNm 6) (sSeq (sNm 8 (eCall false m__law_take 2 (aCons (eVar 0) (aCons (eVar 1) aNil)) [])) (sSeq (sExpr (eMeL mAppend (eVar 5) (aCons (eCall false m__law_road 5 (aCons (eVar 0) (aCons (eVar 8) (aCons (eVar 1) (aCons (eVar 3) (aCons (eBin pIx (eVar 4) (eVar 8)) aNil))))) []) aNil))) sNil))) (sSeq (sNm 7 (ePrim pSrt (aCons (eLc false (iRange1 (aCons (ePrim pLen (aCons (eVar 5) aNil)) aNil)) [10] (cNm 10) tTrue (eTup (aCons (eCall false m__law_take 2 (aCons (eVar 0) (aCons (eC (.int 1000)) aNil)) []) (aCons (eVar 10) aNil)))) aNil))) (sSeq (sRet (eTup (aCons (eVar 4) (aCons (ePrim pTuple (aCons (eLc false (iSeq (eVar 7)) [11] (cNm 11) tTrue (eBin pIx (eVar 5) (eBin pIx (eVar 11) (eC (.int 1))))) aNil)) aNil)))) sNil)))))
def m__law_web : FM := runM 12 b__law_web
/-! #### _law_lots -/
abbrev s__law_lots : Stmt := topS 24
theorem sc__law_lots : FnScope ["bells", "found", "bell", "lot"] ["bells"] (defScope s__law_lots) := ⟨rfl, rfl, rfl, by decide +kernel, rfl, by decide +kernel, by decide +kernel⟩
def b__law_lots : SM := (sSeq (sNm 1 (eLst (aCons (eTup aNil) aNil))) (sSeq (sFor (iRange1 (aCons (eVar 0) aNil)) (gNm 2) (sSeq (sNm 1 (eBin pAdd (eVar 1) (eLc false (iSeq (eVar 1)) [3] (cNm 3) tTrue (eBin pAdd (eVar 3) (eTup (aCons (eVar 2) aNil)))))) sNil)) (sSeq (sRet (eSl (ePrim pSrt (aCons (eVar 1) aNil)) (oSome (eC (.int 1))) oNone)) sNil)))
def m__law_lots : FM := runM 4 b__law_lots
/-! #### _law_starts -/
abbrev s__law_starts : Stmt := topS 33
theorem sc__law_starts : FnScope ["web", "roads", "found", "number"] ["web", "roads"] (defScope s__law_starts) := ⟨rfl, rfl, rfl, by decide +kernel, rfl, by decide +kernel, by decide +kernel⟩
def b__law_starts : SM := (sSeq (sNm 2 (eNew aNil)) (sSeq (sFor (iSeq (eVar 1)) (gNm 3) (sSeq (sIf (tBin (pIn true) (eBin pIx (eBin pIx (eBin pIx (eVar 0) (eC (.int 1))) (eVar 3)) (eC (.int 0))) (eVar 2)) (sSeq (sExpr (eMeL mAppend (eVar 2) (aCons (eBin pIx (eBin pIx (eBin pIx (eVar 0) (eC (.int 1))) (eVar 3)) (eC (.int 0))) aNil))) sNil) sNil) sNil)) (sSeq (sRet (ePrim pTuple (aCons (ePrim pSrt (aCons (eVar 2) aNil)) aNil))) sNil)))
def m__law_starts : FM := runM 4 b__law_starts
/-! #### _law_road_lots -/
abbrev s__law_road_lots : Stmt := topS 32
theorem sc__law_road_lots : FnScope ["web", "found", "number", "lot"] ["web"] (defScope s__law_road_lots) := ⟨rfl, rfl, rfl, by decide +kernel, rfl, by decide +kernel, by decide +kernel⟩
def b__law_road_lots : SM := (sSeq (sNm 1 (eLst (aCons (eTup aNil) aNil))) (sSeq (sFor (iRange1 (aCons (ePrim pLen (aCons (eBin pIx (eVar 0) (eC (.int 1))) aNil)) aNil)) (gNm 2) (sSeq (sNm 1 (eBin pAdd (eVar 1) (eLc false (iSeq (eVar 1)) [3] (cNm 3) tTrue (eBin pAdd (eVar 3) (eTup (aCons (eVar 2) aNil)))))) sNil)) (sSeq (sRet (eVar 1)) sNil)))
def m__law_road_lots : FM := runM 4 b__law_road_lots
/-! #### _law_outs -/
abbrev s__law_outs : Stmt := topS 27
theorem sc__law_outs : FnScope ["web", "place", "number", "road"] ["web", "place"] (defScope s__law_outs) := ⟨rfl, rfl, rfl, by decide +kernel, rfl, by decide +kernel, by decide +kernel⟩
def b__law_outs : SM := (sSeq (sRet (eLc false (iEnumM (aCons (eBin pIx (eVar 0) (eC (.int 1))) aNil)) [2, 3] (cTp 2 (csCons (cNm 2) (csCons (cNm 3) csNil))) (tBin (pEq false) (eBin pIx (eVar 3) (eC (.int 0))) (eVar 1)) (eVar 2))) sNil)
def m__law_outs : FM := runM 4 b__law_outs
/-! #### _law_ends -/
abbrev s__law_ends : Stmt := topS 29
theorem sc__law_ends : FnScope ["web", "place", "roads", "found", "number"] ["web", "place", "roads"] (defScope s__law_ends) := ⟨rfl, rfl, rfl, by decide +kernel, rfl, by decide +kernel, by decide +kernel⟩
def b__law_ends : SM := (sSeq (sNm 3 (eNew aNil)) (sSeq (sFor (iSeq (eVar 2)) (gNm 4) (sSeq (sIf (tAndM (tBin (pEq false) (eBin pIx (eBin pIx (eBin pIx (eVar 0) (eC (.int 1))) (eVar 4)) (eC (.int 0))) (eVar 1)) (tBin (pIn true) (eBin pIx (eBin pIx (eBin pIx (eVar 0) (eC (.int 1))) (eVar 4)) (eC (.int 1))) (eVar 3))) (sSeq (sExpr (eMeL mAppend (eVar 3) (aCons (eBin pIx (eBin pIx (eBin pIx (eVar 0) (eC (.int 1))) (eVar 4)) (eC (.int 1))) aNil))) sNil) sNil) sNil)) (sSeq (sRet (eVar 3)) sNil)))
def m__law_ends : FM := runM 5 b__law_ends
/-! #### _law_behind -/
abbrev s__law_behind : Stmt := topS 28
theorem sc__law_behind : FnScope ["web", "place", "roads", "found", "at", "one"] ["web", "place", "roads"] (defScope s__law_behind) := ⟨rfl, rfl, rfl, by decide +kernel, rfl, by decide +kernel, by decide +kernel⟩
def b__law_behind : SM := (sSeq (sSet (eTup (aCons (eLst (aCons (eVar 1) aNil)) (aCons (eC (.int 0)) aNil))) (gTp 2 (gsCons (gNm 3) (gsCons (gNm 4) gsNil)))) (sSeq (sWhl (tBin (pI fLt) (eVar 4) (ePrim pLen (aCons (eVar 3) aNil))) (sSeq (sNm 3 (eBin pAdd (eVar 3) (eLc false (iSeq (eCall false m__law_ends 3 (aCons (eVar 0) (aCons (eBin pIx (eVar 3) (eVar 4)) (aCons (eVar 2) aNil))) [])) [5] (cNm 5) (tBin (pIn true) (eVar 5) (eVar 3)) (eVar 5)))) (sSeq (sAug 4 (pI fAdd) (eC (.int 1))) sNil))) (sSeq (sRet (eVar 3)) sNil)))
def m__law_behind : FM := runM 6 b__law_behind
/-! #### _law_is_part -/
abbrev s__law_is_part : Stmt := topS 31
theorem sc__law_is_part : FnScope ["web", "places", "roads", "place", "some", "number", "other"] ["web", "places", "roads"] (defScope s__law_is_part) := ⟨rfl, rfl, rfl, by decide +kernel, rfl, by decide +kernel, by decide +kernel⟩
def b__law_is_part : SM := (sSeq (sIf (tOrM (tBin (pEq false) (ePrim pLen (aCons (eVar 1) aNil)) (eC (.int 0))) (tBin (pEq true) (eLc false (iSeq (eVar 2)) [5] (cNm 5) (tOrM (tBin (pIn true) (eBin pIx (eBin pIx (eBin pIx (eVar 0) (eC (.int 1))) (eVar 5)) (eC (.int 0))) (eVar 1)) (tBin (pIn true) (eBin pIx (eBin pIx (eBin pIx (eVar 0) (eC (.int 1))) (eVar 5)) (eC (.int 1))) (eVar 1))) (eVar 5)) (eLst aNil))) (sSeq (sRet (eC (.bl false))) sNil) sNil) (sSeq (sFor (iSeq (eVar 1)) (gNm 3) (sSeq (sNm 4 (eLc false (iSeq (eCall false m__law_outs 2 (aCons (eVar 0) (aCons (eVar 3) aNil)) [])) [5] (cNm 5) (tBin (pIn false) (eVar 5) (eVar 2)) (eVar 5))) (sSeq (sIf (tOrM (tBin (pEq false) (eVar 4) (eLst aNil)) (tAndM (tBin (pEq false) (eBin pIx (eBin pIx (eVar 0) (eC (.int 0))) (eVar 3)) (eC (.int 2))) (tBin (pI fLt) (ePrim pLen (aCons (eVar 4) aNil)) (ePrim pLen (aCons (eCall false m__law_outs 2 (aCons (eVar 0) (aCons (eVar 3) aNil)) []) aNil))))) (sSeq (sRet (eC (.bl false))) sNil) sNil) (sSeq (sIf (tBin (pEq true) (eLc false (iSeq (eVar 1)) [6] (cNm 6) (tBin (pIn true) (eVar 6) (eCall false m__law_behind 3 (aCons (eVar 0) (aCons (eVar 3) (aCons (eVar 2) aNil))) [])) (eVar 6)) (eLst aNil)) (sSeq (sRet (eC (.bl false))) sNil) sNil) sNil)))) (sSeq (sRet (eC (.bl true))) sNil)))
def m__law_is_part : FM := runM 7 b__law_is_part
/-! #### _law_same -/
abbrev s__law_same : Stmt := topS 23
theorem sc__law_same : FnScope ["told", "due", "k"] ["told", "due"] (defScope s__law_same) := ⟨rfl, rfl, rfl, by decide +kernel, rfl, by decide +kernel, by decide +kernel⟩
def b__law_same (mm : FM) : SM := (sSeq (sIf (tTru (eIsi (isTyEq "tuple") (eVar 1))) (sSeq (sRet (eAnd (eIsi (isTyEq "tuple") (eVar 0)) (eAnd (eBin (pEq false) (ePrim pLen (aCons (eVar 0) aNil)) (ePrim pLen (aCons (eVar 1) aNil))) (eBin (pEq false) (eLc false (iRange1 (aCons (ePrim pLen (aCons (eVar 1) aNil)) aNil)) [2] (cNm 2) (tNotT (tTru (eCall false mm 2 (aCons (eBin pIx (eVar 0) (eVar 2)) (aCons (eBin pIx (eVar 1) (eVar 2)) aNil)) []))) (eVar 2)) (eLst aNil))))) sNil) sNil) (sSeq (sIf (tBin (pIs false) (eVar 1) (eC .non)) (sSeq (sRet (eBin (pIs false) (eVar 0) (eC .non))) sNil) sNil) (sSeq (sIf (tTru (eIsi (isTyEq "str") (eVar 1))) (sSeq (sRet (eAnd (eIsi (isTyEq "str") (eVar 0)) (eBin (pEq false) (eVar 0) (eVar 1)))) sNil) sNil) (sSeq (sRet (eAnd (eIsi isTyInt (eVar 0)) (eAnd (eBin (pEq false) (eIsi (isTyEq "bool") (eVar 0)) (eIsi (isTyEq "bool") (eVar 1))) (eBin (pEq false) (eVar 0) (eVar 1))))) sNil))))
def m__law_same : Nat → FM
  | 0 => fun _ _ => .fail
  | n + 1 => runM 3 (b__law_same (m__law_same n))
/-! #### _law_bent -/
abbrev s__law_bent : Stmt := topS 35
theorem sc__law_bent : FnScope ["box", "web", "part", "places", "roads", "some"] ["box", "web", "part"] (defScope s__law_bent) := ⟨rfl, rfl, rfl, by decide +kernel, rfl, by decide +kernel, by decide +kernel⟩
def b__law_bent : SM := (sSeq (sSet (eVar 2) (gTp 2 (gsCons (gNm 3) (gsCons (gNm 4) gsNil)))) (sSeq (sNm 5 (eLst (aCons (eTup (aCons (eSl (eVar 3) (oSome (eC (.int 1))) oNone) (aCons (eVar 4) aNil))) (aCons (eTup (aCons (eVar 3) (aCons (eSl (eVar 4) (oSome (eC (.int 1))) oNone) aNil))) (aCons (eTup (aCons (eRevT (eVar 3)) (aCons (eVar 4) aNil))) (aCons (eTup (aCons (eVar 3) (aCons (eBin pAdd (eVar 4) (eSl (eVar 4) (oSome (eNeg (eC (.int 1)))) oNone)) aNil))) (aCons (eTup (aCons (eBin pAdd (eVar 3) (eTup (aCons (ePrim pLen (aCons (eBin pIx (eVar 1) (eC (.int 0))) aNil)) aNil))) (aCons (eVar 4) aNil))) aNil))))))) (sSeq (sNm 5 (eBin pAdd (eVar 5) (eLst (aCons (eTup (aCons (eVar 3) (aCons (eBin pAdd (eVar 4) (eTup (aCons (ePrim pLen (aCons (eBin pIx (eVar 1) (eC (.int 1))) aNil)) aNil))) aNil))) (aCons (eTup (aCons (ePrim pList (aCons (eVar 3) aNil)) (aCons (eVar 4) aNil))) (aCons (eTup (aCons (eVar 3) (aCons (ePrim pList (aCons (eVar 4) aNil)) aNil))) (aCons (eTup (aCons (eVar 3) aNil)) (aCons (eTup (aCons (eVar 3) (aCons (eVar 4) (aCons (eTup aNil) aNil)))) (aCons (eLst (aCons (eVar 3) (aCons (eVar 4) aNil))) (aCons (eC .non) (aCons (eC (.int 0)) aNil))))))))))) (sSeq (sNm 5 (eBin pAdd (eVar 5) (eLst (aCons (eTup (aCons (eTup aNil) (aCons (eTup aNil) aNil))) (aCons (eTup (aCons (eVar 3) (aCons (eTup aNil) aNil))) (aCons (eTup (aCons (eTupR (rgA1 (ePrim pLen (aCons (eBin pIx (eVar 1) (eC (.int 0))) aNil)))) (aCons (eVar 4) aNil))) (aCons (eTup (aCons (eVar 3) (aCons (eTupR (rgA1 (ePrim pLen (aCons (eBin pIx (eVar 1) (eC (.int 1))) aNil)))) aNil))) (aCons (eTup (aCons (eTup (aCons (eC (.bl true)) aNil)) (aCons (eVar 4) aNil))) aNil)))))))) (sSeq (sRet (eCall false m__law_pick 2 (aCons (eVar 0) (aCons (eVar 5) aNil)) [])) sNil)))))
def m__law_bent : FM := runM 6 b__law_bent
/-! #### roads_by_place -/
abbrev s_roads_by_place : Stmt := topS 8
theorem sc_roads_by_place : FnScope ["web", "outs", "number", "road", "owner"] ["web"] (defScope s_roads_by_place) := ⟨rfl, rfl, rfl, by decide +kernel, rfl, by decide +kernel, by decide +kernel⟩
def b_roads_by_place : SM := (sSeq (sNm 1 (eLc true (iSeq (eBin pIx (eVar 0) (eC (.int 0)))) [4] (cNm 4) tTrue (eNew aNil))) (sSeq (sFor (iEnumM (aCons (eBin pIx (eVar 0) (eC (.int 1))) aNil)) (gTp 2 (gsCons (gNm 2) (gsCons (gNm 3) gsNil))) (sSeq (sExpr (eMeL mAppend (eBin pIx (eVar 1) (eBin pIx (eVar 3) (eC (.int 0)))) (aCons (eVar 2) aNil))) sNil)) (sSeq (sRet (eVar 1)) sNil)))
def m_roads_by_place : FM := runM 5 b_roads_by_place
/-! #### roads_within -/
abbrev s_roads_within : Stmt := topS 13
theorem sc_roads_within : FnScope ["web", "group", "roads", "number"] ["web", "group", "roads"] (defScope s_roads_within) := ⟨rfl, rfl, rfl, by decide +kernel, rfl, by decide +kernel, by decide +kernel⟩
def b_roads_within : SM := (sSeq (sRet (ePrim pTuple (aCons (eLc false (iSeq (eVar 2)) [3] (cNm 3) (tAndM (tBin (pIn false) (eBin pIx (eBin pIx (eBin pIx (eVar 0) (eC (.int 1))) (eVar 3)) (eC (.int 0))) (eVar 1)) (tBin (pIn false) (eBin pIx (eBin pIx (eBin pIx (eVar 0) (eC (.int 1))) (eVar 3)) (eC (.int 1))) (eVar 1))) (eVar 3)) aNil))) sNil)
def m_roads_within : FM := runM 4 b_roads_within
/-! #### led_from -/
abbrev s_led_from : Stmt := topS 11
theorem sc_led_from : FnScope ["web", "place", "roads", "found", "line", "here", "number", "start", "end"] ["web", "place", "roads"] (defScope s_led_from) := ⟨rfl, rfl, rfl, by decide +kernel, rfl, by decide +kernel, by decide +kernel⟩
def b_led_from : SM := (sSeq (sPar 3 4 (aCons (eD1 1) (aCons (eNew (aCons (eVar 1) aNil)) aNil))) (sSeq (sWhl (tBin (pI fGt) (ePrim pLen (aCons (eVar 4) aNil)) (eC (.int 0))) (sSeq (sNm 5 (eMeL mPop (eVar 4) aNil)) (sSeq (sFor (iSeq (eVar 2)) (gNm 6) (sSeq (sSet (eSl (eBin pIx (eBin pIx (eVar 0) (eC (.int 1))) (eVar 6)) oNone (oSome (eC (.int 2)))) (gTp 2 (gsCons (gNm 7) (gsCons (gNm 8) gsNil)))) (sSeq (sIf (tAndM (tBin (pEq false) (eVar 7) (eVar 5)) (tBin (pInD true) (eVar 8) (eVar 3))) (sSeq (sDSet (eC (.bl true)) (eVar 3) (eVar 8)) (sSeq (sExpr (eMeL mAppend (eVar 4) (aCons (eVar 8) aNil))) sNil)) sNil) sNil))) sNil))) (sSeq (sRet (eVar 3)) sNil)))
def m_led_from : FM := runM 9 b_led_from
/-! #### joined_groups -/
abbrev s_joined_groups : Stmt := topS 12
theorem sc_joined_groups : FnScope ["web", "places", "roads", "behind", "groups", "seen", "place", "group", "other"] ["web", "places", "roads"] (defScope s_joined_groups) := ⟨rfl, rfl, rfl, by decide +kernel, rfl, by decide +kernel, by decide +kernel⟩
def b_joined_groups : SM := (sSeq (sNm 3 (eDc (iSeq (eVar 1)) [6] (cNm 6) tTrue (eVar 6) (eCall false m_led_from 3 (aCons (eVar 0) (aCons (eVar 6) (aCons (eVar 2) aNil))) []))) (sSeq (sPar 4 5 (aCons (eNew aNil) (aCons (eDNew false) aNil))) (sSeq (sFor (iSeq (eVar 1)) (gNm 6) (sSeq (sIf (tBin (pInD true) (eVar 6) (eVar 5)) (sSeq (sNm 7 (eLc false (iSeq (eVar 1)) [8] (cNm 8) (tAndM (tBin (pInD false) (eVar 8) (eBin pIxD (eVar 3) (eVar 6))) (tBin (pInD false) (eVar 6) (eBin pIxD (eVar 3) (eVar 8)))) (eVar 8))) (sSeq (sFor (iSeq (eVar 7)) (gNm 8) (sSeq (sDSet (eC (.bl true)) (eVar 5) (eVar 8)) sNil)) (sSeq (sExpr (eMeL mAppend (eVar 4) (aCons (ePrim pTuple (aCons (eVar 7) aNil)) aNil))) sNil))) sNil) sNil)) (sSeq (sRet (eVar 4)) sNil))))
def m_joined_groups : FM := runM 9 b_joined_groups
/-! #### can_stay -/
abbrev s_can_stay : Stmt := topS 14
theorem sc_can_stay : FnScope ["web", "place", "outs", "roads", "stays", "number"] ["web", "place", "outs", "roads"] (defScope s_can_stay) := ⟨rfl, rfl, rfl, by decide +kernel, rfl, by decide +kernel, by decide +kernel⟩
def b_can_stay : SM := (sSeq (sNm 4 (eLc false (iSeq (eBin pIx (eVar 2) (eVar 1))) [5] (cNm 5) tTrue (eBin (pIn false) (eVar 5) (eVar 3)))) (sSeq (sRet (eIf (tBin (pEq false) (eBin pIx (eBin pIx (eVar 0) (eC (.int 0))) (eVar 1)) (eC (.int 2))) (ePrim (pBls fun bs => bs.all id) (aCons (eVar 4) aNil)) (ePrim (pBls fun bs => bs.any id) (aCons (eVar 4) aNil)))) sNil))
def m_can_stay : FM := runM 6 b_can_stay
/-! #### split_once -/
abbrev s_split_once : Stmt := topS 15
theorem sc_split_once : FnScope ["web", "outs", "places", "roads", "kept", "inner", "group", "place"] ["web", "outs", "places", "roads"] (defScope s_split_once) := ⟨rfl, rfl, rfl, by decide +kernel, rfl, by decide +kernel, by decide +kernel⟩
def b_split_once : SM := (sSeq (sNm 4 (ePrim pTuple (aCons (eLc false (iSeq (eVar 2)) [7] (cNm 7) (tTru (eCall false m_can_stay 4 (aCons (eVar 0) (aCons (eVar 7) (aCons (eVar 1) (aCons (eVar 3) aNil)))) [])) (eVar 7)) aNil))) (sSeq (sNm 5 (eCall false m_roads_within 3 (aCons (eVar 0) (aCons (eVar 4) (aCons (eVar 3) aNil))) [])) (sSeq (sRet (eLc false (iSeq (eCall false m_joined_groups 3 (aCons (eVar 0) (aCons (eVar 4) (aCons (eVar 5) aNil))) [])) [6] (cNm 6) tTrue (eTup (aCons (eVar 6) (aCons (eCall false m_roads_within 3 (aCons (eVar 0) (aCons (eVar 6) (aCons (eVar 5) aNil))) []) aNil))))) sNil)))
def m_split_once : FM := runM 8 b_split_once
/-! #### is_within -/
abbrev s_is_within : Stmt := topS 5
theorem sc_is_within : FnScope ["one", "two", "entry"] ["one", "two"] (defScope s_is_within) := ⟨rfl, rfl, rfl, by decide +kernel, rfl, by decide +kernel, by decide +kernel⟩
def b_is_within : SM := (sSeq (sFor (iSeq (eVar 0)) (gNm 2) (sSeq (sIf (tBin (pIn true) (eVar 2) (eVar 1)) (sSeq (sRet (eC (.bl false))) sNil) sNil) sNil)) (sSeq (sRet (eC (.bl true))) sNil))
def m_is_within : FM := runM 3 b_is_within
/-! #### greatest_parts -/
abbrev s_greatest_parts : Stmt := topS 16
theorem sc_greatest_parts : FnScope ["web", "lot", "roads", "line", "outs", "found", "places", "inner", "parts", "number", "road"] ["web", "lot"] (defScope s_greatest_parts) := ⟨rfl, rfl, rfl, by decide +kernel, rfl, by decide +kernel, by decide +kernel⟩
def b_greatest_parts : SM := (sSeq (sNm 2 (ePrim pTuple (aCons (eLc false (iEnumM (aCons (eBin pIx (eVar 0) (eC (.int 1))) aNil)) [9, 10] (cTp 2 (csCons (cNm 9) (csCons (cNm 10) csNil))) (tTru (eCall false m_is_within 2 (aCons (eBin pIx (eVar 10) (eC (.int 2))) (aCons (eVar 1) aNil)) [])) (eVar 9)) aNil))) (sSeq (sPar3 3 4 5 (aCons (eNew (aCons (eTup (aCons (eTupR (rgA1 (ePrim pLen (aCons (eBin pIx (eVar 0) (eC (.int 0))) aNil)))) (aCons (eVar 2) aNil))) aNil)) (aCons (eCall false m_roads_by_place 1 (aCons (eVar 0) aNil) []) (aCons (eNew aNil) aNil)))) (sSeq (sWhl (tBin (pI fGt) (ePrim pLen (aCons (eVar 3) aNil)) (eC (.int 0))) (sSeq (sSet (eMeL mPop (eVar 3) aNil) (gTp 2 (gsCons (gNm 6) (gsCons (gNm 7) gsNil)))) (sSeq (sNm 8 (eCall false m_split_once 4 (aCons (eVar 0) (aCons (eVar 4) (aCons (eVar 6) (aCons (eVar 7) aNil)))) [])) (sSeq (sIf (tBin (pEq false) (eVar 8) (eLst (aCons (eTup (aCons (eVar 6) (aCons (eVar 7) aNil))) aNil))) (sSeq (sExpr (eMeL mAppend (eVar 5) (aCons (eTup (aCons (eVar 6) (aCons (eVar 7) aNil))) aNil))) sNil) (sSeq (sExpr (eMeL mExtend (eVar 3) (aCons (eVar 8) aNil))) sNil)) sNil)))) (sSeq (sRet (ePrim pTuple (aCons (ePrim pSrt (aCons (eVar 5) aNil)) aNil))) sNil))))
def m_greatest_parts : FM := runM 11 b_greatest_parts
/-! #### joined_lots -/
abbrev s_joined_lots : Stmt := topS 6
theorem sc_joined_lots : FnScope ["lots", "found", "lot", "entry"] ["lots"] (defScope s_joined_lots) := ⟨rfl, rfl, rfl, by decide +kernel, rfl, by decide +kernel, by decide +kernel⟩
def b_joined_lots : SM := (sSeq (sNm 1 (eDNew false)) (sSeq (sFor (iSeq (eVar 0)) (gNm 2) (sSeq (sFor (iSeq (eVar 2)) (gNm 3) (sSeq (sDSet (eC (.bl true)) (eVar 1) (eVar 3)) sNil)) sNil)) (sSeq (sRet (ePrim pTuple (aCons (ePrim pSrt (aCons (ePrim pListD (aCons (eVar 1) aNil)) aNil)) aNil))) sNil)))
def m_joined_lots : FM := runM 4 b_joined_lots
/-! #### part_rings -/
abbrev s_part_rings : Stmt := topS 17
theorem sc_part_rings : FnScope ["web", "part", "number"] ["web", "part"] (defScope s_part_rings) := ⟨rfl, rfl, rfl, by decide +kernel, rfl, by decide +kernel, by decide +kernel⟩
def b_part_rings : SM := (sSeq (sRet (eCall false m_joined_lots 1 (aCons (eLc false (iSeq (eBin pIx (eVar 1) (eC (.int 1)))) [2] (cNm 2) tTrue (eBin pIx (eBin pIx (eBin pIx (eVar 0) (eC (.int 1))) (eVar 2)) (eC (.int 2)))) aNil) [])) sNil)
def m_part_rings : FM := runM 3 b_part_rings
/-! #### _law_rung -/
abbrev s__law_rung : Stmt := topS 30
theorem sc__law_rung : FnScope ["web", "roads", "found", "number", "bell"] ["web", "roads"] (defScope s__law_rung) := ⟨rfl, rfl, rfl, by decide +kernel, rfl, by decide +kernel, by decide +kernel⟩
def b__law_rung : SM := (sSeq (sNm 2 (eLst aNil)) (sSeq (sFor (iSeq (eVar 1)) (gNm 3) (sSeq (sNm 2 (eBin pAdd (eVar 2) (eLc false (iSeq (eBin pIx (eBin pIx (eBin pIx (eVar 0) (eC (.int 1))) (eVar 3)) (eC (.int 2)))) [4] (cNm 4) (tBin (pIn true) (eVar 4) (eVar 2)) (eVar 4)))) sNil)) (sSeq (sRet (ePrim pTuple (aCons (ePrim pSrt (aCons (eVar 2) aNil)) aNil))) sNil)))
def m__law_rung : FM := runM 5 b__law_rung
/-! #### is_tuple -/
abbrev s_is_tuple : Stmt := topS 3
theorem sc_is_tuple : FnScope ["value", "many"] ["value", "many"] (defScope s_is_tuple) := ⟨rfl, rfl, rfl, by decide +kernel, rfl, by decide +kernel, by decide +kernel⟩
def b_is_tuple : SM := (sSeq (sRet (eAnd (eIsi (isTyEq "tuple") (eVar 0)) (eOr (eBin (pIs false) (eVar 1) (eC .non)) (eBin (pEq false) (ePrim pLen (aCons (eVar 0) aNil)) (eVar 1))))) sNil)
def m_is_tuple : FM := runM 2 b_is_tuple
/-! #### is_int -/
abbrev s_is_int : Stmt := topS 1
theorem sc_is_int : FnScope ["value"] ["value"] (defScope s_is_int) := ⟨rfl, rfl, rfl, by decide +kernel, rfl, by decide +kernel, by decide +kernel⟩
def b_is_int : SM := (sSeq (sRet (eAnd (eIsi isTyInt (eVar 0)) (eNot (eIsi (isTyEq "bool") (eVar 0))))) sNil)
def m_is_int : FM := runM 1 b_is_int
/-! #### is_number -/
abbrev s_is_number : Stmt := topS 2
theorem sc_is_number : FnScope ["value", "least", "most"] ["value", "least", "most"] (defScope s_is_number) := ⟨rfl, rfl, rfl, by decide +kernel, rfl, by decide +kernel, by decide +kernel⟩
def b_is_number : SM := (sSeq (sRet (eAnd (eCall false m_is_int 1 (aCons (eVar 0) aNil) []) (eAnd (eBin (pI fGe) (eVar 0) (eVar 1)) (eOr (eBin (pIs false) (eVar 2) (eC .non)) (eBin (pI fLe) (eVar 0) (eVar 2)))))) sNil)
def m_is_number : FM := runM 3 b_is_number
/-! #### is_lot -/
abbrev s_is_lot : Stmt := topS 4
theorem sc_is_lot : FnScope ["value", "most", "least", "one"] ["value", "most", "least"] (defScope s_is_lot) := ⟨rfl, rfl, rfl, by decide +kernel, rfl, by decide +kernel, by decide +kernel⟩
def b_is_lot : SM := (sSeq (sIf (tNotT (tTru (eIsi (isTyEq "tuple") (eVar 0)))) (sSeq (sRet (eC (.bl false))) sNil) sNil) (sSeq (sFor (iSeq (eVar 0)) (gNm 3) (sSeq (sIf (tNotT (tTru (eCall false m_is_number 3 (aCons (eVar 3) (aCons (eVar 2) (aCons (eVar 1) aNil))) []))) (sSeq (sRet (eC (.bl false))) sNil) sNil) (sSeq (sNm 2 (eBin pAdd (eVar 3) (eC (.int 1)))) sNil))) (sSeq (sRet (eC (.bl true))) sNil)))
def m_is_lot : FM := runM 4 b_is_lot
/-! #### part_serves -/
abbrev s_part_serves : Stmt := topS 18
theorem sc_part_serves : FnScope ["web", "told", "places", "roads", "outs", "place"] ["web", "told"] (defScope s_part_serves) := ⟨rfl, rfl, rfl, by decide +kernel, rfl, by decide +kernel, by decide +kernel⟩
def b_part_serves : SM := (sSeq (sIf (tOrM (tNotT (tTru (eCall false m_is_tuple 2 (aCons (eVar 1) (aCons (eC (.int 2)) aNil)) []))) (tOrM (tNotT (tTru (eCall false m_is_lot 3 (aCons (eBin pIx (eVar 1) (eC (.int 0))) (aCons (eBin (pI fSub) (ePrim pLen (aCons (eBin pIx (eVar 0) (eC (.int 0))) aNil)) (eC (.int 1))) aNil)) [(.int 0)]))) (tNotT (tTru (eCall false m_is_lot 3 (aCons (eBin pIx (eVar 1) (eC (.int 1))) (aCons (eBin (pI fSub) (ePrim pLen (aCons (eBin pIx (eVar 0) (eC (.int 1))) aNil)) (eC (.int 1))) aNil)) [(.int 0)]))))) (sSeq (sRet (eC (.bl false))) sNil) sNil) (sSeq (sSet (eVar 1) (gTp 2 (gsCons (gNm 2) (gsCons (gNm 3) gsNil)))) (sSeq (sIf (tOrM (tBin (pEq false) (ePrim pLen (aCons (eVar 2) aNil)) (eC (.int 0))) (tBin (pEq true) (eCall false m_roads_within 3 (aCons (eVar 0) (aCons (eVar 2) (aCons (eVar 3) aNil))) []) (eVar 3))) (sSeq (sRet (eC (.bl false))) sNil) sNil) (sSeq (sNm 4 (eCall false m_roads_by_place 1 (aCons (eVar 0) aNil) [])) (sSeq (sIf (tNotT (tTru (ePrim (pBls fun bs => bs.all id) (aCons (eLc false (iSeq (eVar 2)) [5] (cNm 5) tTrue (eCall false m_can_stay 4 (aCons (eVar 0) (aCons (eVar 5) (aCons (eVar 4) (aCons (eVar 3) aNil)))) [])) aNil)))) (sSeq (sRet (eC (.bl false))) sNil) sNil) (sSeq (sRet (eBin (pEq false) (eCall false m_joined_groups 3 (aCons (eVar 0) (aCons (eVar 2) (aCons (eVar 3) aNil))) []) (eLst (aCons (eVar 2) aNil)))) sNil))))))
def m_part_serves : FM := runM 6 b_part_serves
/-! #### _law_is_one -/
abbrev s__law_is_one : Stmt := topS 36
theorem sc__law_is_one : FnScope ["web", "value", "lot", "most", "one", "two"] ["web", "value"] (defScope s__law_is_one) := ⟨rfl, rfl, rfl, by decide +kernel, rfl, by decide +kernel, by decide +kernel⟩
def b__law_is_one : SM := (sSeq (sIf (tOrM (tNotT (tTru (eIsi (isTyEq "tuple") (eVar 1)))) (tBin (pEq true) (ePrim pLen (aCons (eVar 1) aNil)) (eC (.int 2)))) (sSeq (sRet (eC (.bl false))) sNil) sNil) (sSeq (sFor (iZipM (aCons (eVar 1) (aCons (eLst (aCons (ePrim pLen (aCons (eBin pIx (eVar 0) (eC (.int 0))) aNil)) (aCons (ePrim pLen (aCons (eBin pIx (eVar 0) (eC (.int 1))) aNil)) aNil))) aNil))) (gTp 2 (gsCons (gNm 2) (gsCons (gNm 3) gsNil))) (sSeq (sIf (tOrM (tNotT (tTru (eIsi (isTyEq "tuple") (eVar 2)))) (tBin (pEq true) (eLc false (iSeq (eVar 2)) [4] (cNm 4) (tOrM (tNotT (tTru (eIsi isTyInt (eVar 4)))) (tOrM (tTru (eIsi (isTyEq "bool") (eVar 4))) (tNotT (tChainM (pI fLe) (pI fLt) (eC (.int 0)) (eVar 4) (eVar 3))))) (eVar 4)) (eLst aNil))) (sSeq (sRet (eC (.bl false))) sNil) sNil) (sSeq (sIf (tBin (pEq true) (eLc false (iZipM (aCons (eVar 2) (aCons (eSl (eVar 2) (oSome (eC (.int 1))) oNone) aNil))) [4, 5] (cTp 2 (csCons (cNm 4) (csCons (cNm 5) csNil))) (tBin (pI fGe) (eVar 4) (eVar 5)) (eC (.int 1))) (eLst aNil)) (sSeq (sRet (eC (.bl false))) sNil) sNil) sNil))) (sSeq (sRet (eCall false m__law_is_part 3 (aCons (eVar 0) (aCons (eBin pIx (eVar 1) (eC (.int 0))) (aCons (eBin pIx (eVar 1) (eC (.int 1))) aNil))) [])) sNil)))
def m__law_is_one : FM := runM 6 b__law_is_one
/-! #### _law_lies_in -/
abbrev s__law_lies_in : Stmt := topS 34
theorem sc__law_lies_in : FnScope ["one", "two", "entry"] ["one", "two"] (defScope s__law_lies_in) := ⟨rfl, rfl, rfl, by decide +kernel, rfl, by decide +kernel, by decide +kernel⟩
def b__law_lies_in : SM := (sSeq (sRet (eAnd (eBin (pEq false) (eLc false (iSeq (eBin pIx (eVar 0) (eC (.int 0)))) [2] (cNm 2) (tBin (pIn true) (eVar 2) (eBin pIx (eVar 1) (eC (.int 0)))) (eC (.int 1))) (eLst aNil)) (eBin (pEq false) (eLc false (iSeq (eBin pIx (eVar 0) (eC (.int 1)))) [2] (cNm 2) (tBin (pIn true) (eVar 2) (eBin pIx (eVar 1) (eC (.int 1)))) (eC (.int 1))) (eLst aNil)))) sNil)
def m__law_lies_in : FM := runM 3 b__law_lies_in
/-! #### law -/
abbrev s_law : Stmt := topS 37
theorem sc_law : FnScope ["script", "k", "box", "bells", "places", "web", "parts", "lot", "turn", "some", "due", "part", "roads", "value", "bell", "other"] ["script"] (defScope s_law) := ⟨rfl, rfl, rfl, by decide +kernel, rfl, by decide +kernel, by decide +kernel⟩
def b_law : SM := (sSeq (sFor (iRange1 (aCons (eC (.int 2)) aNil)) (gNm 1) (sSeq (sNm 2 (eCall true m__law_box 2 (aCons (eVar 0) (aCons (eVar 1) aNil)) [])) (sSeq (sPar 3 4 (aCons (eBin pAdd (eC (.int 1)) (eCall false m__law_take 2 (aCons (eVar 2) (aCons (eC (.int 3)) aNil)) [])) (aCons (eBin pAdd (eC (.int 1)) (eCall false m__law_take 2 (aCons (eVar 2) (aCons (eC (.int 4)) aNil)) [])) aNil))) (sSeq (sNm 5 (eCall false m__law_web 4 (aCons (eVar 2) (aCons (eVar 4) (aCons (eBin (pI fSub) (eC (.int 7)) (eVar 4)) (aCons (eVar 3) aNil)))) [])) (sSeq (sNm 6 (eLc false (iSeq (eCall false m__law_road_lots 1 (aCons (eVar 5) aNil) [])) [12] (cNm 12) tTrue (eTup (aCons (eCall false m__law_starts 2 (aCons (eVar 5) (aCons (eVar 12) aNil)) []) (aCons (eVar 12) aNil))))) (sSeq (sNm 6 (eLc false (iSeq (eVar 6)) [11] (cNm 11) (tTru (eCall false m__law_is_part 3 (aCons (eVar 5) (aCons (eBin pIx (eVar 11) (eC (.int 0))) (aCons (eBin pIx (eVar 11) (eC (.int 1))) aNil))) [])) (eVar 11))) (sSeq (sFor (iSeq (eBin pAdd (eLst (aCons (eTup aNil) aNil)) (eCall false m__law_lots 1 (aCons (eVar 3) aNil) []))) (gNm 7) (sSeq (sNm 9 (eLc false (iSeq (eVar 6)) [11] (cNm 11) (tBin (pEq false) (eLc false (iSeq (eCall false m__law_rung 2 (aCons (eVar 5) (aCons (eBin pIx (eVar 11) (eC (.int 1))) aNil)) [])) [14] (cNm 14) (tBin (pIn true) (eVar 14) (eVar 7)) (eVar 14)) (eLst aNil)) (eVar 11))) (sSeq (sNm 10 (ePrim pSrt (aCons (eLc false (iSeq (eVar 9)) [11] (cNm 11) (tBin (pEq false) (eLc false (iSeq (eVar 9)) [15] (cNm 15) (tAndM (tBin (pEq true) (eVar 15) (eVar 11)) (tTru (eCall false m__law_lies_in 2 (aCons (eVar 11) (aCons (eVar 15) aNil)) []))) (eVar 15)) (eLst aNil)) (eVar 11)) aNil))) (sSeq (sIf (tNotT (tTru (eCall false (m__law_same 8) 2 (aCons (eCall false m_greatest_parts 2 (aCons (eVar 5) (aCons (eVar 7) aNil)) []) (aCons (ePrim pTuple (aCons (eVar 10) aNil)) aNil)) []))) (sSeq (sRet (eC (.bl false))) sNil) sNil) (sSeq (sFor (iSeq (eVar 10)) (gNm 11) (sSeq (sIf (tNotT (tTru (eCall false (m__law_same 8) 2 (aCons (eCall false m_part_rings 2 (aCons (eVar 5) (aCons (eVar 11) aNil)) []) (aCons (eCall false m__law_rung 2 (aCons (eVar 5) (aCons (eBin pIx (eVar 11) (eC (.int 1))) aNil)) []) aNil)) []))) (sSeq (sRet (eC (.bl false))) sNil) sNil) sNil)) sNil))))) (sSeq (sFor (iRange1 (aCons (eC (.int 6)) aNil)) (gNm 8) (sSeq (sNm 12 (eCall false m__law_pick 2 (aCons (eVar 2) (aCons (eCall false m__law_road_lots 1 (aCons (eVar 5) aNil) []) aNil)) [])) (sSeq (sNm 11 (eIf (tAndM (tBin (pEq true) (eVar 6) (eLst aNil)) (tBin (pEq false) (eCall false m__law_take 2 (aCons (eVar 2) (aCons (eC (.int 2)) aNil)) []) (eC (.int 0)))) (eCall false m__law_pick 2 (aCons (eVar 2) (aCons (eVar 6) aNil)) []) (eTup (aCons (eCall false m__law_starts 2 (aCons (eVar 5) (aCons (eVar 12) aNil)) []) (aCons (eVar 12) aNil))))) (sSeq (sFor (iSeq (eLst (aCons (eVar 11) (aCons (eCall false m__law_bent 3 (aCons (eVar 2) (aCons (eVar 5) (aCons (eVar 11) aNil))) []) aNil)))) (gNm 13) (sSeq (sIf (tNotT (tTru (eCall false (m__law_same 8) 2 (aCons (eCallK false m_part_serves 2 2 (aCons (eVar 13) (aCons (eVar 5) aNil)) [1, 0] []) (aCons (eCall false m__law_is_one 2 (aCons (eVar 5) (aCons (eVar 13) aNil)) []) aNil)) []))) (sSeq (sRet (eC (.bl false))) sNil) sNil) sNil)) sNil)))) sNil)))))))) (sSeq (sRet (eC (.bl true))) sNil))
def m_law : FM := runM 16 b_law
structure GF (P : Program) (w : World) (K : PySem.W.Frag) (mg : Str → Option Value) (base : Heap) where
  a__law_box : Addr
  d__law_box : FuncData
  f__law_box : Fun K "_law_box" "_law_box" s__law_box a__law_box d__law_box
  b__law_box : Binds K d__law_box ["script", "k"] []
  g__law_box : mg "_law_box" = some (.ref a__law_box)
  k__law_box : PySem.W.keepIn K (.ref a__law_box) = true
  a__law_take : Addr
  d__law_take : FuncData
  f__law_take : Fun K "_law_take" "_law_take" s__law_take a__law_take d__law_take
  b__law_take : Binds K d__law_take ["box", "many"] []
  g__law_take : mg "_law_take" = some (.ref a__law_take)
  k__law_take : PySem.W.keepIn K (.ref a__law_take) = true
  a__law_pick : Addr
  d__law_pick : FuncData
  f__law_pick : Fun K "_law_pick" "_law_pick" s__law_pick a__law_pick d__law_pick
  b__law_pick : Binds K d__law_pick ["box", "some"] []
  g__law_pick : mg "_law_pick" = some (.ref a__law_pick)
  k__law_pick : PySem.W.keepIn K (.ref a__law_pick) = true
  a__law_road : Addr
  d__law_road : FuncData
  f__law_road : Fun K "_law_road" "_law_road" s__law_road a__law_road d__law_road
  b__law_road : Binds K d__law_road ["box", "start", "places", "bells", "owner"] []
  g__law_road : mg "_law_road" = some (.ref a__law_road)
  k__law_road : PySem.W.keepIn K (.ref a__law_road) = true
  a__law_web : Addr
  d__law_web : FuncData
  f__law_web : Fun K "_law_web" "_law_web" s__law_web a__law_web d__law_web
  b__law_web : Binds K d__law_web ["box", "places", "more", "bells"] []
  g__law_web : mg "_law_web" = some (.ref a__law_web)
  k__law_web : PySem.W.keepIn K (.ref a__law_web) = true
  a__law_lots : Addr
  d__law_lots : FuncData
  f__law_lots : Fun K "_law_lots" "_law_lots" s__law_lots a__law_lots d__law_lots
  b__law_lots : Binds K d__law_lots ["bells"] []
  g__law_lots : mg "_law_lots" = some (.ref a__law_lots)
  k__law_lots : PySem.W.keepIn K (.ref a__law_lots) = true
  a__law_starts : Addr
  d__law_starts : FuncData
  f__law_starts : Fun K "_law_starts" "_law_starts" s__law_starts a__law_starts d__law_starts
  b__law_starts : Binds K d__law_starts ["web", "roads"] []
  g__law_starts : mg "_law_starts" = some (.ref a__law_starts)
  k__law_starts : PySem.W.keepIn K (.ref a__law_starts) = true
  a__law_road_lots : Addr
  d__law_road_lots : FuncData
  f__law_road_lots : Fun K "_law_road_lots" "_law_road_lots" s__law_road_lots a__law_road_lots d__law_road_lots
  b__law_road_lots : Binds K d__law_road_lots ["web"] []
  g__law_road_lots : mg "_law_road_lots" = some (.ref a__law_road_lots)
  k__law_road_lots : PySem.W.keepIn K (.ref a__law_road_lots) = true
  a__law_outs : Addr
  d__law_outs : FuncData
  f__law_outs : Fun K "_law_outs" "_law_outs" s__law_outs a__law_outs d__law_outs
  b__law_outs : Binds K d__law_outs ["web", "place"] []
  g__law_outs : mg "_law_outs" = some (.ref a__law_outs)
  k__law_outs : PySem.W.keepIn K (.ref a__law_outs) = true
  a__law_ends : Addr
  d__law_ends : FuncData
  f__law_ends : Fun K "_law_ends" "_law_ends" s__law_ends a__law_ends d__law_ends
  b__law_ends : Binds K d__law_ends ["web", "place", "roads"] []
  g__law_ends : mg "_law_ends" = some (.ref a__law_ends)
  k__law_ends : PySem.W.keepIn K (.ref a__law_ends) = true
  a__law_behind : Addr
  d__law_behind : FuncData
  f__law_behind : Fun K "_law_behind" "_law_behind" s__law_behind a__law_behind d__law_behind
  b__law_behind : Binds K d__law_behind ["web", "place", "roads"] []
  g__law_behind : mg "_law_behind" = some (.ref a__law_behind)
  k__law_behind : PySem.W.keepIn K (.ref a__law_behind) = true
  a__law_is_part : Addr
  d__law_is_part : FuncData
  f__law_is_part : Fun K "_law_is_part" "_law_is_part" s__law_is_part a__law_is_part d__law_is_part
  b__law_is_part : Binds K d__law_is_part ["web", "places", "roads"] []
  g__law_is_part : mg "_law_is_part" = some (.ref a__law_is_part)
  k__law_is_part : PySem.W.keepIn K (.ref a__law_is_part) = true
  a__law_same : Addr
  d__law_same : FuncData
  f__law_same : Fun K "_law_same" "_law_same" s__law_same a__law_same d__law_same
  b__law_same : Binds K d__law_same ["told", "due"] []
  g__law_same : mg "_law_same" = some (.ref a__law_same)
  k__law_same : PySem.W.keepIn K (.ref a__law_same) = true
  a__law_bent : Addr
  d__law_bent : FuncData
  f__law_bent : Fun K "_law_bent" "_law_bent" s__law_bent a__law_bent d__law_bent
  b__law_bent : Binds K d__law_bent ["box", "web", "part"] []
  g__law_bent : mg "_law_bent" = some (.ref a__law_bent)
  k__law_bent : PySem.W.keepIn K (.ref a__law_bent) = true
  a_roads_by_place : Addr
  d_roads_by_place : FuncData
  f_roads_by_place : Fun K "roads_by_place" "roads_by_place" s_roads_by_place a_roads_by_place d_roads_by_place
  b_roads_by_place : Binds K d_roads_by_place ["web"] []
  g_roads_by_place : mg "roads_by_place" = some (.ref a_roads_by_place)
  k_roads_by_place : PySem.W.keepIn K (.ref a_roads_by_place) = true
  a_roads_within : Addr
  d_roads_within : FuncData
  f_roads_within : Fun K "roads_within" "roads_within" s_roads_within a_roads_within d_roads_within
  b_roads_within : Binds K d_roads_within ["web", "group", "roads"] []
  g_roads_within : mg "roads_within" = some (.ref a_roads_within)
  k_roads_within : PySem.W.keepIn K (.ref a_roads_within) = true
  a_led_from : Addr
  d_led_from : FuncData
  f_led_from : Fun K "led_from" "led_from" s_led_from a_led_from d_led_from
  b_led_from : Binds K d_led_from ["web", "place", "roads"] []
  g_led_from : mg "led_from" = some (.ref a_led_from)
  k_led_from : PySem.W.keepIn K (.ref a_led_from) = true
  a_joined_groups : Addr
  d_joined_groups : FuncData
  f_joined_groups : Fun K "joined_groups" "joined_groups" s_joined_groups a_joined_groups d_joined_groups
  b_joined_groups : Binds K d_joined_groups ["web", "places", "roads"] []
  g_joined_groups : mg "joined_groups" = some (.ref a_joined_groups)
  k_joined_groups : PySem.W.keepIn K (.ref a_joined_groups) = true
  a_can_stay : Addr
  d_can_stay : FuncData
  f_can_stay : Fun K "can_stay" "can_stay" s_can_stay a_can_stay d_can_stay
  b_can_stay : Binds K d_can_stay ["web", "place", "outs", "roads"] []
  g_can_stay : mg "can_stay" = some (.ref a_can_stay)
  k_can_stay : PySem.W.keepIn K (.ref a_can_stay) = true
  a_split_once : Addr
  d_split_once : FuncData
  f_split_once : Fun K "split_once" "split_once" s_split_once a_split_once d_split_once
  b_split_once : Binds K d_split_once ["web", "outs", "places", "roads"] []
  g_split_once : mg "split_once" = some (.ref a_split_once)
  k_split_once : PySem.W.keepIn K (.ref a_split_once) = true
  a_is_within : Addr
  d_is_within : FuncData
  f_is_within : Fun K "is_within" "is_within" s_is_within a_is_within d_is_within
  b_is_within : Binds K d_is_within ["one", "two"] []
  g_is_within : mg "is_within" = some (.ref a_is_within)
  k_is_within : PySem.W.keepIn K (.ref a_is_within) = true
  a_greatest_parts : Addr
  d_greatest_parts : FuncData
  f_greatest_parts : Fun K "greatest_parts" "greatest_parts" s_greatest_parts a_greatest_parts d_greatest_parts
  b_greatest_parts : Binds K d_greatest_parts ["web", "lot"] []
  g_greatest_parts : mg "greatest_parts" = some (.ref a_greatest_parts)
  k_greatest_parts : PySem.W.keepIn K (.ref a_greatest_parts) = true
  a_joined_lots : Addr
  d_joined_lots : FuncData
  f_joined_lots : Fun K "joined_lots" "joined_lots" s_joined_lots a_joined_lots d_joined_lots
  b_joined_lots : Binds K d_joined_lots ["lots"] []
  g_joined_lots : mg "joined_lots" = some (.ref a_joined_lots)
  k_joined_lots : PySem.W.keepIn K (.ref a_joined_lots) = true
  a_part_rings : Addr
  d_part_rings : FuncData
  f_part_rings : Fun K "part_rings" "part_rings" s_part_rings a_part_rings d_part_rings
  b_part_rings : Binds K d_part_rings ["web", "part"] []
  g_part_rings : mg "part_rings" = some (.ref a_part_rings)
  k_part_rings : PySem.W.keepIn K (.ref a_part_rings) = true
  a__law_rung : Addr
  d__law_rung : FuncData
  f__law_rung : Fun K "_law_rung" "_law_rung" s__law_rung a__law_rung d__law_rung
  b__law_rung : Binds K d__law_rung ["web", "roads"] []
  g__law_rung : mg "_law_rung" = some (.ref a__law_rung)
  k__law_rung : PySem.W.keepIn K (.ref a__law_rung) = true
  a_is_tuple : Addr
  d_is_tuple : FuncData
  f_is_tuple : FunD K "is_tuple" "is_tuple" (defArgs s_is_tuple) (defBody s_is_tuple) (defScope s_is_tuple) [.non] [] a_is_tuple d_is_tuple
  b_is_tuple : Binds K d_is_tuple ["value", "many"] []
  g_is_tuple : mg "is_tuple" = some (.ref a_is_tuple)
  k_is_tuple : PySem.W.keepIn K (.ref a_is_tuple) = true
  a_is_int : Addr
  d_is_int : FuncData
  f_is_int : Fun K "is_int" "is_int" s_is_int a_is_int d_is_int
  b_is_int : Binds K d_is_int ["value"] []
  g_is_int : mg "is_int" = some (.ref a_is_int)
  k_is_int : PySem.W.keepIn K (.ref a_is_int) = true
  a_is_number : Addr
  d_is_number : FuncData
  f_is_number : FunD K "is_number" "is_number" (defArgs s_is_number) (defBody s_is_number) (defScope s_is_number) [.int 0, .non] [] a_is_number d_is_number
  b_is_number : Binds K d_is_number ["value", "least", "most"] []
  g_is_number : mg "is_number" = some (.ref a_is_number)
  k_is_number : PySem.W.keepIn K (.ref a_is_number) = true
  a_is_lot : Addr
  d_is_lot : FuncData
  f_is_lot : FunD K "is_lot" "is_lot" (defArgs s_is_lot) (defBody s_is_lot) (defScope s_is_lot) [.non, .int 0] [] a_is_lot d_is_lot
  b_is_lot : Binds K d_is_lot ["value", "most", "least"] []
  b_is_lot_2 : ∃ ds, Vals [.int 0] ds ∧ Binds K d_is_lot ["value", "most", "least"] ds
  g_is_lot : mg "is_lot" = some (.ref a_is_lot)
  k_is_lot : PySem.W.keepIn K (.ref a_is_lot) = true
  a_part_serves : Addr
  d_part_serves : FuncData
  f_part_serves : Fun K "part_serves" "part_serves" s_part_serves a_part_serves d_part_serves
  b_part_serves : Binds K d_part_serves ["web", "told"] []
  g_part_serves : mg "part_serves" = some (.ref a_part_serves)
  k_part_serves : PySem.W.keepIn K (.ref a_part_serves) = true
  a__law_is_one : Addr
  d__law_is_one : FuncData
  f__law_is_one : Fun K "_law_is_one" "_law_is_one" s__law_is_one a__law_is_one d__law_is_one
  b__law_is_one : Binds K d__law_is_one ["web", "value"] []
  g__law_is_one : mg "_law_is_one" = some (.ref a__law_is_one)
  k__law_is_one : PySem.W.keepIn K (.ref a__law_is_one) = true
  a__law_lies_in : Addr
  d__law_lies_in : FuncData
  f__law_lies_in : Fun K "_law_lies_in" "_law_lies_in" s__law_lies_in a__law_lies_in d__law_lies_in
  b__law_lies_in : Binds K d__law_lies_in ["one", "two"] []
  g__law_lies_in : mg "_law_lies_in" = some (.ref a__law_lies_in)
  k__law_lies_in : PySem.W.keepIn K (.ref a__law_lies_in) = true
  a_law : Addr
  d_law : FuncData
  f_law : Fun K "law" "law" s_law a_law d_law
  b_law : Binds K d_law ["script"] []
  g_law : mg "law" = some (.ref a_law)
  k_law : PySem.W.keepIn K (.ref a_law) = true
  v_CHANCE : Tok
  o_CHANCE : mg "CHANCE" = some (.int (2) v_CHANCE)
  z_abs : mg "abs" = none
  z_all : mg "all" = none
  z_any : mg "any" = none
  z_bool : mg "bool" = none
  z_enumerate : mg "enumerate" = none
  z_int : mg "int" = none
  z_isinstance : mg "isinstance" = none
  z_len : mg "len" = none
  z_list : mg "list" = none
  z_range : mg "range" = none
  z_sorted : mg "sorted" = none
  z_str : mg "str" = none
  z_tuple : mg "tuple" = none
  z_zip : mg "zip" = none
section
variable {P : Program} {w : World} {K : PySem.W.Frag} {mg : Str → Option Value} {base : Heap}
theorem kb_part_serves_told_web (G : GF P w K mg base) : KwB K G.d_part_serves ["web", "told"] ["told", "web"] [1, 0] [] := by
  obtain ⟨_, _, _, _, _, _, _, _, _, e, _⟩ := G.f_part_serves.ex
  rw [e]; exact fun s ws _ hl => match ws, hl with | [_, _], _ => .of_eq rfl
theorem ok__law_box (G : GF P w K mg base) : FnOk P w K mg base (L2.CX P w) 1 G.a__law_box G.d__law_box ["script", "k"] (spM ⟨K, mg⟩ 2 m__law_box) := by
  refine fn_mir' (b := b__law_box) G.f__law_box sc__law_box fun cdv A outer s H E hr => ?_
  exact (sb_cons (ss_set (ps_set (i := 2) sc__law_box.nd rfl (by first | exact .inl rfl | exact .inr rfl) (se_bin or_add o2_add (se_bin op_mulW o2_mul se_int (se_var (pv 1))) se_int)))
  (sb_cons (ss_if (st_cmp op_lt o2_lt (nomark _) (se_var (pv 1)) (se_prim (pe_callB call_len (by rfl) G.z_len (by rfl) (sa_cons (se_var (pv 0)) sa_nil)) ok_len))
  (sb_cons (ss_set (ps_set (i := 2) sc__law_box.nd rfl (by first | exact .inl rfl | exact .inr rfl) (se_prim (pe_callB call_abs (by rfl) G.z_abs (by rfl) (sa_cons (se_prim (pe_callTy call_int1 (by rfl) G.z_int (by rfl) (sa_cons (se_ix (se_var (pv 0)) (se_var (pv 1))) sa_nil)) ok_int) sa_nil)) ok_abs)))
  sb_nil)
  (sb_cons (ss_if (st_cmp op_gt o2_gt (nomark _) (se_prim (pe_callB call_len (by rfl) G.z_len (by rfl) (sa_cons (se_var (pv 0)) sa_nil)) ok_len) se_int)
  (sb_cons (ss_set (ps_set (i := 2) sc__law_box.nd rfl (by first | exact .inl rfl | exact .inr rfl) (se_bin or_add o2_add (se_var (pv 2)) (se_bin op_mulW o2_mul (se_bin op_mod o2_mod (se_prim (pe_callTy call_int1 (by rfl) G.z_int (by rfl) (sa_cons (se_prim (pe_callB call_abs (by rfl) G.z_abs (by rfl) (sa_cons (se_prim (pe_callTy call_int1 (by rfl) G.z_int (by rfl) (sa_cons (se_ix (se_var (pv 0)) (se_bin op_mod o2_mod (se_prim (pe_callTy call_int1 (by rfl) G.z_int (by rfl) (sa_cons (se_var (pv 1)) sa_nil)) ok_int) (se_prim (pe_callB call_len (by rfl) G.z_len (by rfl) (sa_cons (se_var (pv 0)) sa_nil)) ok_len))) sa_nil)) ok_int) sa_nil)) ok_abs) sa_nil)) ok_int) se_int) se_int))))
  sb_nil)
  sb_nil)
  sb_nil))
  (sb_cons (ss_ret (se_new (sa_cons (se_if (st_cmp op_ge o2_ge (nomark _) (se_var (pv 2)) (se_bin op_pow o2_pow se_int se_int)) (se_var (pv 2)) se_int) (sa_cons (se_bin or_add o2_add (se_bin op_mod o2_mod (se_prim (pe_callTy call_int1 (by rfl) G.z_int (by rfl) (sa_cons (se_bin or_add o2_add (se_bin op_mulW o2_mul (se_bin op_mod o2_mod (se_prim (pe_callTy call_int1 (by rfl) G.z_int (by rfl) (sa_cons (se_var (pv 2)) sa_nil)) ok_int) se_int) se_int) (se_bin op_mulW o2_mul se_int (se_var (pv 1)))) sa_nil)) ok_int) se_int) se_int) sa_nil))))
  sb_nil)))
theorem ok__law_take (G : GF P w K mg base) : FnOk P w K mg base (L2.CX P w) 1 G.a__law_take G.d__law_take ["box", "many"] (spM ⟨K, mg⟩ 2 m__law_take) := by
  refine fn_mir' (b := b__law_take) G.f__law_take sc__law_take fun cdv A outer s H E hr => ?_
  exact (sb_cons (ss_if (st_cmp op_gt o2_gt (nomark _) (se_ix (se_var (pv 0)) se_int) se_int)
  (sb_cons (ss_set (ps_set (i := 3) sc__law_take.nd rfl (by first | exact .inl rfl | exact .inr rfl) (se_bin op_mod o2_mod (se_prim (pe_callTy call_int1 (by rfl) G.z_int (by rfl) (sa_cons (se_ix (se_var (pv 0)) se_int) sa_nil)) ok_int) (se_var (pv 1)))))
  (sb_cons (ss_asg (se_bin op_fdivW o2_div (se_ix (se_var (pv 0)) se_int) (se_var (pv 1))) (sg_sub (se_var (pv 0)) se_int))
  (sb_cons (ss_ret (se_var (pv 3)))
  sb_nil)))
  sb_nil)
  (sb_cons (ss_set (ps_set (i := 2) sc__law_take.nd rfl (by first | exact .inl rfl | exact .inr rfl) (se_bin op_mod o2_mod (se_prim (pe_callTy call_int1 (by rfl) G.z_int (by rfl) (sa_cons (se_bin or_add o2_add (se_bin op_mulW o2_mul (se_ix (se_var (pv 0)) se_int) se_int) se_int) sa_nil)) ok_int) se_int)))
  (sb_cons (ss_asg (se_bin or_add o2_add (se_bin op_mod o2_mod (se_prim (pe_callTy call_int1 (by rfl) G.z_int (by rfl) (sa_cons (se_bin or_add o2_add (se_bin op_mulW o2_mul (se_var (pv 2)) se_int) se_int) sa_nil)) ok_int) se_int) se_int) (sg_sub (se_var (pv 0)) se_int))
  (sb_cons (ss_ret (se_bin op_mod o2_mod (se_prim (pe_callTy call_int1 (by rfl) G.z_int (by rfl) (sa_cons (se_bin op_fdivW o2_div (se_bin or_add o2_add (se_bin op_mulW o2_mul (se_var (pv 2)) se_int) (se_ix (se_var (pv 0)) se_int)) se_int) sa_nil)) ok_int) (se_var (pv 1))))
  sb_nil))))
theorem ok__law_pick (G : GF P w K mg base) : FnOk P w K mg base (L2.CX P w) 2 G.a__law_pick G.d__law_pick ["box", "some"] (spM ⟨K, mg⟩ 2 m__law_pick) := by
  refine fn_mir' (b := b__law_pick) G.f__law_pick sc__law_pick fun cdv A outer s H E hr => ?_
  exact (sb_cons (ss_ret (se_ix (se_var (pv 1)) (se_call (ad := false) ((ok__law_take G).mono (by decide)) hr (by rfl) G.g__law_take G.k__law_take (takes_of rfl rfl rfl rfl) G.b__law_take .nil rfl (sa_cons (se_var (pv 0)) (sa_cons (se_prim (pe_callB call_len (by rfl) G.z_len (by rfl) (sa_cons (se_var (pv 1)) sa_nil)) ok_len) sa_nil)))))
  sb_nil)
theorem ok__law_road (G : GF P w K mg base) : FnOk P w K mg base (L2.CX P w) 3 G.a__law_road G.d__law_road ["box", "start", "places", "bells", "owner"] (spM ⟨K, mg⟩ 5 m__law_road) := by
  refine fn_mir' (b := b__law_road) G.f__law_road sc__law_road fun cdv A outer s H E hr => ?_
  exact (sb_cons (ss_set (ps_set (i := 5) sc__law_road.nd rfl (by first | exact .inl rfl | exact .inr rfl) (se_call (ad := false) ((ok__law_take G).mono (by decide)) hr (by rfl) G.g__law_take G.k__law_take (takes_of rfl rfl rfl rfl) G.b__law_take .nil rfl (sa_cons (se_var (pv 0)) (sa_cons (se_var (pv 2)) sa_nil)))))
  (sb_cons (ss_set (ps_set (i := 6) sc__law_road.nd rfl (by first | exact .inl rfl | exact .inr rfl) (se_prim (pe_callTy call_tuple_of (by rfl) G.z_tuple (by rfl) (sa_cons (se_lc (own := [("bell", 7)]) rfl sc__law_road.nd (si_range1 (by rfl) G.z_range (sa_cons (se_var (pv 3)) sa_nil)) (blkOk_by (by rfl)) (fun _ _ _ _ _ => (pg_name (i := 7) sc__law_road.nd rfl (by first | exact .inl rfl | exact .inr rfl))) (fun _ _ _ _ _ => (pts_if (st_cmp (op_eqD hr.units) o2_eq (nomark _) (se_call (ad := false) ((ok__law_take G).mono (by decide)) hr (by rfl) G.g__law_take G.k__law_take takes_F G.b__law_take .nil rfl (sa_cons (se_var (pv 0)) (sa_cons (se_var (pv 3)) sa_nil))) se_int))) (fun _ _ _ _ _ => (se_var (pv 7))) (ct_name (by decide))) sa_nil)) ok_tuple)))
  (sb_cons (ss_if (st_w (sw_and (st_cmp (op_eqD hr.units) o2_eq (nomark _) (se_var (pv 6)) (se_tup sa_nil)) (sw_and1 (st_cmp op_le o2_le (nomark _) (se_var (pv 5)) (se_var (pv 1))))))
  (sb_cons (ss_set (ps_set (i := 6) sc__law_road.nd rfl (by first | exact .inl rfl | exact .inr rfl) (se_tup (sa_cons (se_call (ad := false) ((ok__law_take G).mono (by decide)) hr (by rfl) G.g__law_take G.k__law_take (takes_of rfl rfl rfl rfl) G.b__law_take .nil rfl (sa_cons (se_var (pv 0)) (sa_cons (se_var (pv 3)) sa_nil))) sa_nil))))
  sb_nil)
  sb_nil)
  (sb_cons (ss_ret (se_tup (sa_cons (se_var (pv 1)) (sa_cons (se_var (pv 5)) (sa_cons (se_var (pv 6)) (sa_cons (se_if (st_cmp (op_eqD hr.units) o2_eq (nomark _) (se_var (pv 4)) se_int) se_int (se_bin or_add o2_add se_int (se_call (ad := false) ((ok__law_take G).mono (by decide)) hr (by rfl) G.g__law_take G.k__law_take (takes_of rfl rfl rfl rfl) G.b__law_take .nil rfl (sa_cons (se_var (pv 0)) (sa_cons (se_call (ad := false) ((ok__law_pick G).mono (by decide)) hr (by rfl) G.g__law_pick G.k__law_pick (takes_of rfl rfl rfl rfl) G.b__law_pick .nil rfl (sa_cons (se_var (pv 0)) (sa_cons (se_lst (sa_cons se_int (sa_cons se_int (sa_cons se_int sa_nil)))) sa_nil))) sa_nil))))) sa_nil))))))
  sb_nil))))
theorem ok__law_web (G : GF P w K mg base) : FnOk P w K mg base (L2.CX P w) 4 G.a__law_web G.d__law_web ["box", "places", "more", "bells"] (spM ⟨K, mg⟩ 4 m__law_web) := by
  refine fn_mir' (b := b__law_web) G.f__law_web sc__law_web fun cdv A outer s H E hr => ?_
  exact (sb_cons (ss_set (ps_set (i := 4) sc__law_web.nd rfl (by first | exact .inl rfl | exact .inr rfl) (se_prim (pe_callTy call_tuple_of (by rfl) G.z_tuple (by rfl) (sa_cons (se_lc (own := [("place", 9)]) rfl sc__law_web.nd (si_range1 (by rfl) G.z_range (sa_cons (se_var (pv 1)) sa_nil)) (blkOk_by (by rfl)) (fun _ _ _ _ _ => (pg_name (i := 9) sc__law_web.nd rfl (by first | exact .inl rfl | exact .inr rfl))) (fun _ _ _ _ _ => pts_yes) (fun _ _ _ _ _ => (se_call (ad := false) ((ok__law_pick G).mono (by decide)) hr (by rfl) G.g__law_pick G.k__law_pick takes_F G.b__law_pick .nil rfl (sa_cons (se_var (pv 0)) (sa_cons (se_lst (sa_cons se_int (sa_cons se_int (sa_cons se_int sa_nil)))) sa_nil)))) (ct_name (by decide))) sa_nil)) ok_tuple)))
  (sb_cons (ss_set (ps_set (i := 5) sc__law_web.nd rfl (by first | exact .inl rfl | exact .inr rfl) (se_lc (own := [("place", 9)]) rfl sc__law_web.nd (si_range1 (by rfl) G.z_range (sa_cons (se_var (pv 1)) sa_nil)) (blkOk_by (by rfl)) (fun _ _ _ _ _ => (pg_name (i := 9) sc__law_web.nd rfl (by first | exact .inl rfl | exact .inr rfl))) (fun _ _ _ _ _ => pts_yes) (fun _ _ _ _ _ => (se_call (ad := false) ((ok__law_road G).mono (by decide)) hr (by rfl) G.g__law_road G.k__law_road takes_F G.b__law_road .nil rfl (sa_cons (se_var (pv 0)) (sa_cons (se_var (pv 9)) (sa_cons (se_var (pv 1)) (sa_cons (se_var (pv 3)) (sa_cons (se_ix (se_var (pv 4)) (se_var (pv 9))) sa_nil))))))) (ct_name (by decide)))))
  (sb_cons (ss_for (passes_of rfl) rfl (si_range1 (by rfl) G.z_range (sa_cons (se_call (ad := false) ((ok__law_take G).mono (by decide)) hr (by rfl) G.g__law_take G.k__law_take (takes_of rfl rfl rfl rfl) G.b__law_take .nil rfl (sa_cons (se_var (pv 0)) (sa_cons (se_bin or_add o2_add (se_var (pv 2)) se_int) sa_nil))) sa_nil)) (sg_name (pg_name (i := 6) sc__law_web.nd rfl (by first | exact .inl rfl | exact .inr rfl)))
  (sb_cons (ss_set (ps_set (i := 8) sc__law_web.nd rfl (by first | exact .inl rfl | exact .inr rfl) (se_call (ad := false) ((ok__law_take G).mono (by decide)) hr (by rfl) G.g__law_take G.k__law_take (takes_of rfl rfl rfl rfl) G.b__law_take .nil rfl (sa_cons (se_var (pv 0)) (sa_cons (se_var (pv 1)) sa_nil)))))
  (sb_cons (ss_expr (se_methL (pe_bm PySem.F.plainAttrs_list PySem.F.slot_list_append PySem.F.type_list_append mt_append (se_var (pv 5)) (sa_cons (se_call (ad := false) ((ok__law_road G).mono (by decide)) hr (by rfl) G.g__law_road G.k__law_road (takes_of rfl rfl rfl rfl) G.b__law_road .nil rfl (sa_cons (se_var (pv 0)) (sa_cons (se_var (pv 8)) (sa_cons (se_var (pv 1)) (sa_cons (se_var (pv 3)) (sa_cons (se_ix (se_var (pv 4)) (se_var (pv 8))) sa_nil)))))) sa_nil)) om_append))
  sb_nil)))
  (sb_cons (ss_set (ps_set (i := 7) sc__law_web.nd rfl (by first | exact .inl rfl | exact .inr rfl) (se_prim (pe_callB (cr_sortM (u10 hr)) (by rfl) G.z_sorted (by rfl) (sa_cons (se_lc (own := [("number", 10)]) rfl sc__law_web.nd (si_range1 (by rfl) G.z_range (sa_cons (se_prim (pe_callB call_len (by rfl) G.z_len (by rfl) (sa_cons (se_var (pv 5)) sa_nil)) ok_len) sa_nil)) (blkOk_by (by rfl)) (fun _ _ _ _ _ => (pg_name (i := 10) sc__law_web.nd rfl (by first | exact .inl rfl | exact .inr rfl))) (fun _ _ _ _ _ => pts_yes) (fun _ _ _ _ _ => (se_tup (sa_cons (se_call (ad := false) ((ok__law_take G).mono (by decide)) hr (by rfl) G.g__law_take G.k__law_take takes_F G.b__law_take .nil rfl (sa_cons (se_var (pv 0)) (sa_cons se_int sa_nil))) (sa_cons (se_var (pv 10)) sa_nil)))) (ct_name (by decide))) sa_nil)) ok_srt)))
  (sb_cons (ss_ret (se_tup (sa_cons (se_var (pv 4)) (sa_cons (se_prim (pe_callTy call_tuple_of (by rfl) G.z_tuple (by rfl) (sa_cons (se_lc (own := [("one", 11)]) rfl sc__law_web.nd (si_seq (se_var (pv 7))) (blkOk_by (by rfl)) (fun _ _ _ _ _ => (pg_name (i := 11) sc__law_web.nd rfl (by first | exact .inl rfl | exact .inr rfl))) (fun _ _ _ _ _ => pts_yes) (fun _ _ _ _ _ => (se_ix (se_var (pv 5)) (se_ix (se_var (pv 11)) se_int))) (ct_name (by decide))) sa_nil)) ok_tuple) sa_nil))))
  sb_nil)))))
theorem ok__law_lots (G : GF P w K mg base) : FnOk P w K mg base (L2.CX P w) 1 G.a__law_lots G.d__law_lots ["bells"] (spM ⟨K, mg⟩ 1 m__law_lots) := by
  refine fn_mir' (b := b__law_lots) G.f__law_lots sc__law_lots fun cdv A outer s H E hr => ?_
  exact (sb_cons (ss_set (ps_set (i := 1) sc__law_lots.nd rfl (by first | exact .inl rfl | exact .inr rfl) (se_lst (sa_cons (se_tup sa_nil) sa_nil))))
  (sb_cons (ss_for (passes_of rfl) rfl (si_range1 (by rfl) G.z_range (sa_cons (se_var (pv 0)) sa_nil)) (sg_name (pg_name (i := 2) sc__law_lots.nd rfl (by first | exact .inl rfl | exact .inr rfl)))
  (sb_cons (ss_set (ps_set (i := 1) sc__law_lots.nd rfl (by first | exact .inl rfl | exact .inr rfl) (se_bin or_add o2_add (se_var (pv 1)) (se_lc (own := [("lot", 3)]) rfl sc__law_lots.nd (si_seq (se_var (pv 1))) (blkOk_by (by rfl)) (fun _ _ _ _ _ => (pg_name (i := 3) sc__law_lots.nd rfl (by first | exact .inl rfl | exact .inr rfl))) (fun _ _ _ _ _ => pts_yes) (fun _ _ _ _ _ => (se_bin or_add o2_add (se_var (pv 3)) (se_tup (sa_cons (se_var (pv 2)) sa_nil)))) (ct_name (by decide))))))
  sb_nil))
  (sb_cons (ss_ret (se_sl (se_prim (pe_callB (cr_sortM (u10 hr)) (by rfl) G.z_sorted (by rfl) (sa_cons (se_var (pv 1)) sa_nil)) ok_srt) (so_some se_int) so_none))
  sb_nil)))
theorem ok__law_starts (G : GF P w K mg base) : FnOk P w K mg base (L2.CX P w) 1 G.a__law_starts G.d__law_starts ["web", "roads"] (spM ⟨K, mg⟩ 2 m__law_starts) := by
  refine fn_mir' (b := b__law_starts) G.f__law_starts sc__law_starts fun cdv A outer s H E hr => ?_
  exact (sb_cons (ss_set (ps_set (i := 2) sc__law_starts.nd rfl (by first | exact .inl rfl | exact .inr rfl) (se_new sa_nil)))
  (sb_cons (ss_for (passes_of rfl) rfl (si_seq (se_var (pv 1))) (sg_name (pg_name (i := 3) sc__law_starts.nd rfl (by first | exact .inl rfl | exact .inr rfl)))
  (sb_cons (ss_if (st_cmp (or_notIn (u65 hr)) (o2_in (neg := true)) (by rfl) (se_ix (se_ix (se_ix (se_var (pv 0)) se_int) (se_var (pv 3))) se_int) (se_var (pv 2)))
  (sb_cons (ss_expr (se_methL (pe_bm PySem.F.plainAttrs_list PySem.F.slot_list_append PySem.F.type_list_append mt_append (se_var (pv 2)) (sa_cons (se_ix (se_ix (se_ix (se_var (pv 0)) se_int) (se_var (pv 3))) se_int) sa_nil)) om_append))
  sb_nil)
  sb_nil)
  sb_nil))
  (sb_cons (ss_ret (se_prim (pe_callTy call_tuple_of (by rfl) G.z_tuple (by rfl) (sa_cons (se_prim (pe_callB (cr_sortM (u10 hr)) (by rfl) G.z_sorted (by rfl) (sa_cons (se_var (pv 2)) sa_nil)) ok_srt) sa_nil)) ok_tuple))
  sb_nil)))
theorem ok__law_road_lots (G : GF P w K mg base) : FnOk P w K mg base (L2.CX P w) 1 G.a__law_road_lots G.d__law_road_lots ["web"] (spM ⟨K, mg⟩ 1 m__law_road_lots) := by
  refine fn_mir' (b := b__law_road_lots) G.f__law_road_lots sc__law_road_lots fun cdv A outer s H E hr => ?_
  exact (sb_cons (ss_set (ps_set (i := 1) sc__law_road_lots.nd rfl (by first | exact .inl rfl | exact .inr rfl) (se_lst (sa_cons (se_tup sa_nil) sa_nil))))
  (sb_cons (ss_for (passes_of rfl) rfl (si_range1 (by rfl) G.z_range (sa_cons (se_prim (pe_callB call_len (by rfl) G.z_len (by rfl) (sa_cons (se_ix (se_var (pv 0)) se_int) sa_nil)) ok_len) sa_nil)) (sg_name (pg_name (i := 2) sc__law_road_lots.nd rfl (by first | exact .inl rfl | exact .inr rfl)))
  (sb_cons (ss_set (ps_set (i := 1) sc__law_road_lots.nd rfl (by first | exact .inl rfl | exact .inr rfl) (se_bin or_add o2_add (se_var (pv 1)) (se_lc (own := [("lot", 3)]) rfl sc__law_road_lots.nd (si_seq (se_var (pv 1))) (blkOk_by (by rfl)) (fun _ _ _ _ _ => (pg_name (i := 3) sc__law_road_lots.nd rfl (by first | exact .inl rfl | exact .inr rfl))) (fun _ _ _ _ _ => pts_yes) (fun _ _ _ _ _ => (se_bin or_add o2_add (se_var (pv 3)) (se_tup (sa_cons (se_var (pv 2)) sa_nil)))) (ct_name (by decide))))))
  sb_nil))
  (sb_cons (ss_ret (se_var (pv 1)))
  sb_nil)))
theorem ok__law_outs (G : GF P w K mg base) : FnOk P w K mg base (L2.CX P w) 1 G.a__law_outs G.d__law_outs ["web", "place"] (spM ⟨K, mg⟩ 2 m__law_outs) := by
  refine fn_mir' (b := b__law_outs) G.f__law_outs sc__law_outs fun cdv A outer s H E hr => ?_
  exact (sb_cons (ss_ret (se_lc (own := [("number", 2), ("road", 3)]) rfl sc__law_outs.nd (si_enum (by rfl) G.z_enumerate (sa_cons (se_ix (se_var (pv 0)) se_int) sa_nil)) (blkOk_by (by rfl)) (fun _ _ _ _ _ => (pg_tup rfl (pgs_cons (pg_name (i := 2) sc__law_outs.nd rfl (by first | exact .inl rfl | exact .inr rfl)) (pgs_cons (pg_name (i := 3) sc__law_outs.nd rfl (by first | exact .inl rfl | exact .inr rfl)) pgs_nil)))) (fun _ _ _ _ _ => (pts_if (st_cmp (op_eqD hr.units) o2_eq (nomark _) (se_ix (se_var (pv 3)) se_int) (se_var (pv 1))))) (fun _ _ _ _ _ => (se_var (pv 2))) (ct_tup (cts_cons (ct_name (by decide)) (cts_cons (ct_name (by decide)) cts_nil)))))
  sb_nil)
theorem ok__law_ends (G : GF P w K mg base) : FnOk P w K mg base (L2.CX P w) 1 G.a__law_ends G.d__law_ends ["web", "place", "roads"] (spM ⟨K, mg⟩ 3 m__law_ends) := by
  refine fn_mir' (b := b__law_ends) G.f__law_ends sc__law_ends fun cdv A outer s H E hr => ?_
  exact (sb_cons (ss_set (ps_set (i := 3) sc__law_ends.nd rfl (by first | exact .inl rfl | exact .inr rfl) (se_new sa_nil)))
  (sb_cons (ss_for (passes_of rfl) rfl (si_seq (se_var (pv 2))) (sg_name (pg_name (i := 4) sc__law_ends.nd rfl (by first | exact .inl rfl | exact .inr rfl)))
  (sb_cons (ss_if (st_w (sw_and (st_cmp (op_eqD hr.units) o2_eq (nomark _) (se_ix (se_ix (se_ix (se_var (pv 0)) se_int) (se_var (pv 4))) se_int) (se_var (pv 1))) (sw_and1 (st_cmp (or_notIn (u65 hr)) (o2_in (neg := true)) (by rfl) (se_ix (se_ix (se_ix (se_var (pv 0)) se_int) (se_var (pv 4))) se_int) (se_var (pv 3))))))
  (sb_cons (ss_expr (se_methL (pe_bm PySem.F.plainAttrs_list PySem.F.slot_list_append PySem.F.type_list_append mt_append (se_var (pv 3)) (sa_cons (se_ix (se_ix (se_ix (se_var (pv 0)) se_int) (se_var (pv 4))) se_int) sa_nil)) om_append))
  sb_nil)
  sb_nil)
  sb_nil))
  (sb_cons (ss_ret (se_var (pv 3)))
  sb_nil)))
theorem ok__law_behind (G : GF P w K mg base) : FnOk P w K mg base (L2.CX P w) 2 G.a__law_behind G.d__law_behind ["web", "place", "roads"] (spM ⟨K, mg⟩ 3 m__law_behind) := by
  refine fn_mir' (b := b__law_behind) G.f__law_behind sc__law_behind fun cdv A outer s H E hr => ?_
  exact (sb_cons (ss_asg (se_tup (sa_cons (se_lst (sa_cons (se_var (pv 1)) sa_nil)) (sa_cons se_int sa_nil))) (sg_tup rfl (sgs_cons (sg_name (pg_name (i := 3) sc__law_behind.nd rfl (by first | exact .inl rfl | exact .inr rfl))) (sgs_cons (sg_name (pg_name (i := 4) sc__law_behind.nd rfl (by first | exact .inl rfl | exact .inr rfl))) sgs_nil))))
  (sb_cons (ss_while (passes_of rfl) (st_cmp op_lt o2_lt (nomark _) (se_var (pv 4)) (se_prim (pe_callB call_len (by rfl) G.z_len (by rfl) (sa_cons (se_var (pv 3)) sa_nil)) ok_len))
  (sb_cons (ss_set (ps_set (i := 3) sc__law_behind.nd rfl (by first | exact .inl rfl | exact .inr rfl) (se_bin or_add o2_add (se_var (pv 3)) (se_lc (own := [("one", 5)]) rfl sc__law_behind.nd (si_seq (se_call (ad := false) ((ok__law_ends G).mono (by decide)) hr (by rfl) G.g__law_ends G.k__law_ends (takes_of rfl rfl rfl rfl) G.b__law_ends .nil rfl (sa_cons (se_var (pv 0)) (sa_cons (se_ix (se_var (pv 3)) (se_var (pv 4))) (sa_cons (se_var (pv 2)) sa_nil))))) (blkOk_by (by rfl)) (fun _ _ _ _ _ => (pg_name (i := 5) sc__law_behind.nd rfl (by first | exact .inl rfl | exact .inr rfl))) (fun _ _ _ _ _ => (pts_if (st_cmp (or_notIn (u65 hr)) (o2_in (neg := true)) (by rfl) (se_var (pv 5)) (se_var (pv 3))))) (fun _ _ _ _ _ => (se_var (pv 5))) (ct_name (by decide))))))
  (sb_cons (ss_aug (ps_aug (i := 4) sc__law_behind.nd rfl (by first | exact .inl rfl | exact .inr rfl) se_int ip_add) o2_ipadd)
  sb_nil)))
  (sb_cons (ss_ret (se_var (pv 3)))
  sb_nil)))
theorem ok__law_is_part (G : GF P w K mg base) : FnOk P w K mg base (L2.CX P w) 3 G.a__law_is_part G.d__law_is_part ["web", "places", "roads"] (spM ⟨K, mg⟩ 3 m__law_is_part) := by
  refine fn_mir' (b := b__law_is_part) G.f__law_is_part sc__law_is_part fun cdv A outer s H E hr => ?_
  exact (sb_cons (ss_if (st_w (sw_or (st_cmp (op_eqD hr.units) o2_eq (nomark _) (se_prim (pe_callB call_len (by rfl) G.z_len (by rfl) (sa_cons (se_var (pv 1)) sa_nil)) ok_len) se_int) (sw_or1 (st_cmp (op_neD hr.units) o2_ne (nomark _) (se_lc (own := [("number", 5)]) rfl sc__law_is_part.nd (si_seq (se_var (pv 2))) (blkOk_by (by rfl)) (fun _ _ _ _ _ => (pg_name (i := 5) sc__law_is_part.nd rfl (by first | exact .inl rfl | exact .inr rfl))) (fun _ _ _ _ _ => (pts_if (st_w (sw_or (st_cmp (or_notIn (u65 hr)) (o2_in (neg := true)) (by rfl) (se_ix (se_ix (se_ix (se_var (pv 0)) se_int) (se_var (pv 5))) se_int) (se_var (pv 1))) (sw_or1 (st_cmp (or_notIn (u65 hr)) (o2_in (neg := true)) (by rfl) (se_ix (se_ix (se_ix (se_var (pv 0)) se_int) (se_var (pv 5))) se_int) (se_var (pv 1)))))))) (fun _ _ _ _ _ => (se_var (pv 5))) (ct_name (by decide))) (se_lst sa_nil)))))
  (sb_cons (ss_ret se_bl)
  sb_nil)
  sb_nil)
  (sb_cons (ss_for (passes_of rfl) rfl (si_seq (se_var (pv 1))) (sg_name (pg_name (i := 3) sc__law_is_part.nd rfl (by first | exact .inl rfl | exact .inr rfl)))
  (sb_cons (ss_lc (i := 4) (own := [("number", 5)]) rfl sc__law_is_part.nd rfl rfl (by rfl) (si_seq (se_call (ad := false) ((ok__law_outs G).mono (by decide)) hr (by rfl) G.g__law_outs G.k__law_outs (takes_of rfl rfl rfl rfl) G.b__law_outs .nil rfl (sa_cons (se_var (pv 0)) (sa_cons (se_var (pv 3)) sa_nil)))) (blkOk_by (by rfl)) (fun _ _ _ _ _ => (pg_name (i := 5) sc__law_is_part.nd rfl (by first | exact .inl rfl | exact .inr rfl))) (fun _ _ _ _ _ => (pts_if (st_cmp (or_in (u65 hr)) (o2_in (neg := false)) (by rfl) (se_var (pv 5)) (se_var (pv 2))))) (fun _ _ _ _ _ => (se_var (pv 5))) (ct_name (by decide)))
  (sb_cons (ss_if (st_w (sw_or (st_cmp (op_eqD hr.units) o2_eq (nomark _) (se_var (pv 4)) (se_lst sa_nil)) (sw_or1 (st_w (sw_and (st_cmp (op_eqD hr.units) o2_eq (nomark _) (se_ix (se_ix (se_var (pv 0)) se_int) (se_var (pv 3))) se_int) (sw_and1 (st_cmp op_lt o2_lt (nomark _) (se_prim (pe_callB call_len (by rfl) G.z_len (by rfl) (sa_cons (se_var (pv 4)) sa_nil)) ok_len) (se_prim (pe_callB call_len (by rfl) G.z_len (by rfl) (sa_cons (se_call (ad := false) ((ok__law_outs G).mono (by decide)) hr (by rfl) G.g__law_outs G.k__law_outs (takes_of rfl rfl rfl rfl) G.b__law_outs .nil rfl (sa_cons (se_var (pv 0)) (sa_cons (se_var (pv 3)) sa_nil))) sa_nil)) ok_len))))))))
  (sb_cons (ss_ret se_bl)
  sb_nil)
  sb_nil)
  (sb_cons (ss_if (st_cmp (op_neD hr.units) o2_ne (nomark _) (se_lc (own := [("other", 6)]) rfl sc__law_is_part.nd (si_seq (se_var (pv 1))) (blkOk_by (by rfl)) (fun _ _ _ _ _ => (pg_name (i := 6) sc__law_is_part.nd rfl (by first | exact .inl rfl | exact .inr rfl))) (fun _ _ _ _ _ => (pts_if (st_cmp (or_notIn (u65 hr)) (o2_in (neg := true)) (by rfl) (se_var (pv 6)) (se_call (ad := false) ((ok__law_behind G).mono (by decide)) hr (by rfl) G.g__law_behind G.k__law_behind takes_F G.b__law_behind .nil rfl (sa_cons (se_var (pv 0)) (sa_cons (se_var (pv 3)) (sa_cons (se_var (pv 2)) sa_nil))))))) (fun _ _ _ _ _ => (se_var (pv 6))) (ct_name (by decide))) (se_lst sa_nil))
  (sb_cons (ss_ret se_bl)
  sb_nil)
  sb_nil)
  sb_nil))))
  (sb_cons (ss_ret se_bl)
  sb_nil)))
theorem ok__law_same (G : GF P w K mg base) : ∀ n : Nat, FnOk P w K mg base (L2.CX P w) (0 + n) G.a__law_same G.d__law_same ["told", "due"] (spM ⟨K, mg⟩ 2 (m__law_same n))
  | 0 => fn_fail
  | n + 1 => by
    have ih := ok__law_same G n
    refine fn_mir' (b := b__law_same (m__law_same n)) G.f__law_same sc__law_same fun cdv A outer s H E hr => ?_
    exact (sb_cons (ss_if (st_tru (se_isi k_tuple (by rfl) G.z_isinstance (by rfl) G.z_tuple (by rfl) (se_var (pv 1)) (by decide) (by decide)))
  (sb_cons (ss_ret (se_and (se_isi k_tuple (by rfl) G.z_isinstance (by rfl) G.z_tuple (by rfl) (se_var (pv 0)) (by decide) (by decide)) (se_and (se_cmp (op_eqD hr.units) o2_eq (nomark _) (se_prim (pe_callB call_len (by rfl) G.z_len (by rfl) (sa_cons (se_var (pv 0)) sa_nil)) ok_len) (se_prim (pe_callB call_len (by rfl) G.z_len (by rfl) (sa_cons (se_var (pv 1)) sa_nil)) ok_len)) (se_one (se_cmp (op_eqD hr.units) o2_eq (nomark _) (se_lc (own := [("k", 2)]) rfl sc__law_same.nd (si_range1 (by rfl) G.z_range (sa_cons (se_prim (pe_callB call_len (by rfl) G.z_len (by rfl) (sa_cons (se_var (pv 1)) sa_nil)) ok_len) sa_nil)) (blkOk_by (by rfl)) (fun _ _ _ _ _ => (pg_name (i := 2) sc__law_same.nd rfl (by first | exact .inl rfl | exact .inr rfl))) (fun _ _ _ _ _ => (pts_if (st_not (st_tru (se_call (ad := false) ih hr (by rfl) G.g__law_same G.k__law_same takes_F G.b__law_same .nil rfl (sa_cons (se_ix (se_var (pv 0)) (se_var (pv 2))) (sa_cons (se_ix (se_var (pv 1)) (se_var (pv 2))) sa_nil))))))) (fun _ _ _ _ _ => (se_var (pv 2))) (ct_name (by decide))) (se_lst sa_nil))))))
  sb_nil)
  sb_nil)
  (sb_cons (ss_if (st_cmp or_is (o2_is (neg := false)) (nomark _) (se_var (pv 1)) se_non)
  (sb_cons (ss_ret (se_cmp or_is (o2_is (neg := false)) (nomark _) (se_var (pv 0)) se_non))
  sb_nil)
  sb_nil)
  (sb_cons (ss_if (st_tru (se_isi k_str (by rfl) G.z_isinstance (by rfl) G.z_str (by rfl) (se_var (pv 1)) (by decide) (by decide)))
  (sb_cons (ss_ret (se_and (se_isi k_str (by rfl) G.z_isinstance (by rfl) G.z_str (by rfl) (se_var (pv 0)) (by decide) (by decide)) (se_one (se_cmp (op_eqD hr.units) o2_eq (nomark _) (se_var (pv 0)) (se_var (pv 1))))))
  sb_nil)
  sb_nil)
  (sb_cons (ss_ret (se_and (se_isi k_int (by rfl) G.z_isinstance (by rfl) G.z_int (by rfl) (se_var (pv 0)) (by decide) (by decide)) (se_and (se_cmp (op_eqD hr.units) o2_eq (nomark _) (se_isi k_bool (by rfl) G.z_isinstance (by rfl) G.z_bool (by rfl) (se_var (pv 0)) (by decide) (by decide)) (se_isi k_bool (by rfl) G.z_isinstance (by rfl) G.z_bool (by rfl) (se_var (pv 1)) (by decide) (by decide))) (se_one (se_cmp (op_eqD hr.units) o2_eq (nomark _) (se_var (pv 0)) (se_var (pv 1)))))))
  sb_nil))))
theorem ok__law_bent (G : GF P w K mg base) : FnOk P w K mg base (L2.CX P w) 3 G.a__law_bent G.d__law_bent ["box", "web", "part"] (spM ⟨K, mg⟩ 3 m__law_bent) := by
  refine fn_mir' (b := b__law_bent) G.f__law_bent sc__law_bent fun cdv A outer s H E hr => ?_
  exact (sb_cons (ss_asg (se_var (pv 2)) (sg_tup rfl (sgs_cons (sg_name (pg_name (i := 3) sc__law_bent.nd rfl (by first | exact .inl rfl | exact .inr rfl))) (sgs_cons (sg_name (pg_name (i := 4) sc__law_bent.nd rfl (by first | exact .inl rfl | exact .inr rfl))) sgs_nil))))
  (sb_cons (ss_set (ps_set (i := 5) sc__law_bent.nd rfl (by first | exact .inl rfl | exact .inr rfl) (se_lst (sa_cons (se_tup (sa_cons (se_sl (se_var (pv 3)) (so_some se_int) so_none) (sa_cons (se_var (pv 4)) sa_nil))) (sa_cons (se_tup (sa_cons (se_var (pv 3)) (sa_cons (se_sl (se_var (pv 4)) (so_some se_int) so_none) sa_nil))) (sa_cons (se_tup (sa_cons (se_revT (se_var (pv 3))) (sa_cons (se_var (pv 4)) sa_nil))) (sa_cons (se_tup (sa_cons (se_var (pv 3)) (sa_cons (se_bin or_add o2_add (se_var (pv 4)) (se_sl (se_var (pv 4)) (so_some (se_neg se_int)) so_none)) sa_nil))) (sa_cons (se_tup (sa_cons (se_bin or_add o2_add (se_var (pv 3)) (se_tup (sa_cons (se_prim (pe_callB call_len (by rfl) G.z_len (by rfl) (sa_cons (se_ix (se_var (pv 1)) se_int) sa_nil)) ok_len) sa_nil))) (sa_cons (se_var (pv 4)) sa_nil))) sa_nil))))))))
  (sb_cons (ss_set (ps_set (i := 5) sc__law_bent.nd rfl (by first | exact .inl rfl | exact .inr rfl) (se_bin or_add o2_add (se_var (pv 5)) (se_lst (sa_cons (se_tup (sa_cons (se_var (pv 3)) (sa_cons (se_bin or_add o2_add (se_var (pv 4)) (se_tup (sa_cons (se_prim (pe_callB call_len (by rfl) G.z_len (by rfl) (sa_cons (se_ix (se_var (pv 1)) se_int) sa_nil)) ok_len) sa_nil))) sa_nil))) (sa_cons (se_tup (sa_cons (se_prim (pe_callTy call_list_of (by rfl) G.z_list (by rfl) (sa_cons (se_var (pv 3)) sa_nil)) ok_list) (sa_cons (se_var (pv 4)) sa_nil))) (sa_cons (se_tup (sa_cons (se_var (pv 3)) (sa_cons (se_prim (pe_callTy call_list_of (by rfl) G.z_list (by rfl) (sa_cons (se_var (pv 4)) sa_nil)) ok_list) sa_nil))) (sa_cons (se_tup (sa_cons (se_var (pv 3)) sa_nil)) (sa_cons (se_tup (sa_cons (se_var (pv 3)) (sa_cons (se_var (pv 4)) (sa_cons (se_tup sa_nil) sa_nil)))) (sa_cons (se_lst (sa_cons (se_var (pv 3)) (sa_cons (se_var (pv 4)) sa_nil))) (sa_cons se_non (sa_cons se_int sa_nil))))))))))))
  (sb_cons (ss_set (ps_set (i := 5) sc__law_bent.nd rfl (by first | exact .inl rfl | exact .inr rfl) (se_bin or_add o2_add (se_var (pv 5)) (se_lst (sa_cons (se_tup (sa_cons (se_tup sa_nil) (sa_cons (se_tup sa_nil) sa_nil))) (sa_cons (se_tup (sa_cons (se_var (pv 3)) (sa_cons (se_tup sa_nil) sa_nil))) (sa_cons (se_tup (sa_cons (se_tupR1 (te := fun _ _ _ => True) (pe_tupRg rfl (by rfl) G.z_tuple (prg_1 (by rfl) G.z_range (se_prim (pe_callB call_len (by rfl) G.z_len (by rfl) (sa_cons (se_ix (se_var (pv 1)) se_int) sa_nil)) ok_len)))) (sa_cons (se_var (pv 4)) sa_nil))) (sa_cons (se_tup (sa_cons (se_var (pv 3)) (sa_cons (se_tupR1 (te := fun _ _ _ => True) (pe_tupRg rfl (by rfl) G.z_tuple (prg_1 (by rfl) G.z_range (se_prim (pe_callB call_len (by rfl) G.z_len (by rfl) (sa_cons (se_ix (se_var (pv 1)) se_int) sa_nil)) ok_len)))) sa_nil))) (sa_cons (se_tup (sa_cons (se_tup (sa_cons se_bl sa_nil)) (sa_cons (se_var (pv 4)) sa_nil))) sa_nil)))))))))
  (sb_cons (ss_ret (se_call (ad := false) ((ok__law_pick G).mono (by decide)) hr (by rfl) G.g__law_pick G.k__law_pick (takes_of rfl rfl rfl rfl) G.b__law_pick .nil rfl (sa_cons (se_var (pv 0)) (sa_cons (se_var (pv 5)) sa_nil))))
  sb_nil)))))
theorem ok_roads_by_place (G : GF P w K mg base) : FnOk P w K mg base (L2.CX P w) 1 G.a_roads_by_place G.d_roads_by_place ["web"] (spM ⟨K, mg⟩ 1 m_roads_by_place) := by
  refine fn_mir' (b := b_roads_by_place) G.f_roads_by_place sc_roads_by_place fun cdv A outer s H E hr => ?_
  exact (sb_cons (ss_lc (i := 1) (own := [("owner", 4)]) rfl sc_roads_by_place.nd rfl rfl (by rfl) (si_seq (se_ix (se_var (pv 0)) se_int)) (blkOk_by (by rfl)) (fun _ _ _ _ _ => (pg_name (i := 4) sc_roads_by_place.nd rfl (by first | exact .inl rfl | exact .inr rfl))) (fun _ _ _ _ _ => pts_yes) (fun _ _ _ _ _ => (se_new sa_nil)) (ct_name (by decide)))
  (sb_cons (ss_for (passes_of rfl) rfl (si_enum (by rfl) G.z_enumerate (sa_cons (se_ix (se_var (pv 0)) se_int) sa_nil)) (sg_tup rfl (sgs_cons (sg_name (pg_name (i := 2) sc_roads_by_place.nd rfl (by first | exact .inl rfl | exact .inr rfl))) (sgs_cons (sg_name (pg_name (i := 3) sc_roads_by_place.nd rfl (by first | exact .inl rfl | exact .inr rfl))) sgs_nil)))
  (sb_cons (ss_expr (se_methL (pe_bm PySem.F.plainAttrs_list PySem.F.slot_list_append PySem.F.type_list_append mt_append (se_ix (se_var (pv 1)) (se_ix (se_var (pv 3)) se_int)) (sa_cons (se_var (pv 2)) sa_nil)) om_append))
  sb_nil))
  (sb_cons (ss_ret (se_var (pv 1)))
  sb_nil)))
theorem ok_roads_within (G : GF P w K mg base) : FnOk P w K mg base (L2.CX P w) 1 G.a_roads_within G.d_roads_within ["web", "group", "roads"] (spM ⟨K, mg⟩ 3 m_roads_within) := by
  refine fn_mir' (b := b_roads_within) G.f_roads_within sc_roads_within fun cdv A outer s H E hr => ?_
  exact (sb_cons (ss_ret (se_prim (pe_callTy call_tuple_of (by rfl) G.z_tuple (by rfl) (sa_cons (se_lc (own := [("number", 3)]) rfl sc_roads_within.nd (si_seq (se_var (pv 2))) (blkOk_by (by rfl)) (fun _ _ _ _ _ => (pg_name (i := 3) sc_roads_within.nd rfl (by first | exact .inl rfl | exact .inr rfl))) (fun _ _ _ _ _ => (pts_if (st_w (sw_and (st_cmp (or_in (u65 hr)) (o2_in (neg := false)) (by rfl) (se_ix (se_ix (se_ix (se_var (pv 0)) se_int) (se_var (pv 3))) se_int) (se_var (pv 1))) (sw_and1 (st_cmp (or_in (u65 hr)) (o2_in (neg := false)) (by rfl) (se_ix (se_ix (se_ix (se_var (pv 0)) se_int) (se_var (pv 3))) se_int) (se_var (pv 1)))))))) (fun _ _ _ _ _ => (se_var (pv 3))) (ct_name (by decide))) sa_nil)) ok_tuple))
  sb_nil)
theorem ok_led_from (G : GF P w K mg base) : FnOk P w K mg base (L2.CX P w) 1 G.a_led_from G.d_led_from ["web", "place", "roads"] (spM ⟨K, mg⟩ 3 m_led_from) := by
  refine fn_mir' (b := b_led_from) G.f_led_from sc_led_from fun cdv A outer s H E hr => ?_
  exact (sb_cons (ss_par (ps_par rfl sc_led_from.nd rfl rfl (by decide) rfl rfl (sa_cons (se_d1 (pv 1)) (sa_cons (se_new (sa_cons (se_var (pv 1)) sa_nil)) sa_nil)) (by rfl)))
  (sb_cons (ss_while (passes_of rfl) (st_cmp op_gt o2_gt (nomark _) (se_prim (pe_callB call_len (by rfl) G.z_len (by rfl) (sa_cons (se_var (pv 4)) sa_nil)) ok_len) se_int)
  (sb_cons (ss_set (ps_set (i := 5) sc_led_from.nd rfl (by first | exact .inl rfl | exact .inr rfl) (se_methL0 (pe_bm0 PySem.F.plainAttrs_list PySem.F.slot_list_pop PySem.F.type_list_pop mt_pop (se_var (pv 4))) om_pop)))
  (sb_cons (ss_for (passes_of rfl) rfl (si_seq (se_var (pv 2))) (sg_name (pg_name (i := 6) sc_led_from.nd rfl (by first | exact .inl rfl | exact .inr rfl)))
  (sb_cons (ss_asg (se_sl (se_ix (se_ix (se_var (pv 0)) se_int) (se_var (pv 6))) so_none (so_some se_int)) (sg_tup rfl (sgs_cons (sg_name (pg_name (i := 7) sc_led_from.nd rfl (by first | exact .inl rfl | exact .inr rfl))) (sgs_cons (sg_name (pg_name (i := 8) sc_led_from.nd rfl (by first | exact .inl rfl | exact .inr rfl))) sgs_nil))))
  (sb_cons (ss_if (st_w (sw_and (st_cmp (op_eqD hr.units) o2_eq (nomark _) (se_var (pv 7)) (se_var (pv 5))) (sw_and1 (st_notIn (u65 hr) (se_var (pv 8)) (se_var (pv 3)) (by rfl)))))
  (sb_cons (ss_dset (u1 hr) (se_var (pv 3)) (se_var (pv 8)) se_bl)
  (sb_cons (ss_expr (se_methL (pe_bm PySem.F.plainAttrs_list PySem.F.slot_list_append PySem.F.type_list_append mt_append (se_var (pv 4)) (sa_cons (se_var (pv 8)) sa_nil)) om_append))
  sb_nil))
  sb_nil)
  sb_nil)))
  sb_nil)))
  (sb_cons (ss_ret (se_var (pv 3)))
  sb_nil)))
theorem ok_joined_groups (G : GF P w K mg base) : FnOk P w K mg base (L2.CX P w) 2 G.a_joined_groups G.d_joined_groups ["web", "places", "roads"] (spM ⟨K, mg⟩ 3 m_joined_groups) := by
  refine fn_mir' (b := b_joined_groups) G.f_joined_groups sc_joined_groups fun cdv A outer s H E hr => ?_
  exact (sb_cons (ss_set (ps_set (i := 3) sc_joined_groups.nd rfl (by first | exact .inl rfl | exact .inr rfl) (se_dc (own := [("place", 6)]) rfl sc_joined_groups.nd (si_seq (se_var (pv 1))) (blkOk_by (by rfl)) (fun _ _ _ _ _ => (pg_name (i := 6) sc_joined_groups.nd rfl (by first | exact .inl rfl | exact .inr rfl))) (fun _ _ _ _ _ => pts_yes) (fun _ _ _ _ _ => (se_var (pv 6))) (fun _ _ _ _ _ => (se_call (ad := false) ((ok_led_from G).mono (by decide)) hr (by rfl) G.g_led_from G.k_led_from takes_F G.b_led_from .nil rfl (sa_cons (se_var (pv 0)) (sa_cons (se_var (pv 6)) (sa_cons (se_var (pv 2)) sa_nil))))) (ct_name (by decide)))))
  (sb_cons (ss_par (ps_par rfl sc_joined_groups.nd rfl rfl (by decide) rfl rfl (sa_cons (se_new sa_nil) (sa_cons se_dnewK sa_nil)) (by rfl)))
  (sb_cons (ss_for (passes_of rfl) rfl (si_seq (se_var (pv 1))) (sg_name (pg_name (i := 6) sc_joined_groups.nd rfl (by first | exact .inl rfl | exact .inr rfl)))
  (sb_cons (ss_if (st_notIn (u65 hr) (se_var (pv 6)) (se_var (pv 5)) (by rfl))
  (sb_cons (ss_lc (i := 7) (own := [("other", 8)]) rfl sc_joined_groups.nd rfl rfl (by rfl) (si_seq (se_var (pv 1))) (blkOk_by (by rfl)) (fun _ _ _ _ _ => (pg_name (i := 8) sc_joined_groups.nd rfl (by first | exact .inl rfl | exact .inr rfl))) (fun _ _ _ _ _ => (pts_if (st_w (sw_and (st_in (u65 hr) (se_var (pv 8)) (se_ixD (u1 hr) (se_var (pv 3)) (se_var (pv 6))) (by rfl)) (sw_and1 (st_in (u65 hr) (se_var (pv 6)) (se_ixD (u1 hr) (se_var (pv 3)) (se_var (pv 8))) (by rfl))))))) (fun _ _ _ _ _ => (se_var (pv 8))) (ct_name (by decide)))
  (sb_cons (ss_for (passes_of rfl) rfl (si_seq (se_var (pv 7))) (sg_name (pg_name (i := 8) sc_joined_groups.nd rfl (by first | exact .inl rfl | exact .inr rfl)))
  (sb_cons (ss_dset (u1 hr) (se_var (pv 5)) (se_var (pv 8)) se_bl)
  sb_nil))
  (sb_cons (ss_expr (se_methL (pe_bm PySem.F.plainAttrs_list PySem.F.slot_list_append PySem.F.type_list_append mt_append (se_var (pv 4)) (sa_cons (se_prim (pe_callTy call_tuple_of (by rfl) G.z_tuple (by rfl) (sa_cons (se_var (pv 7)) sa_nil)) ok_tuple) sa_nil)) om_append))
  sb_nil)))
  sb_nil)
  sb_nil))
  (sb_cons (ss_ret (se_var (pv 4)))
  sb_nil))))
theorem ok_can_stay (G : GF P w K mg base) : FnOk P w K mg base (L2.CX P w) 1 G.a_can_stay G.d_can_stay ["web", "place", "outs", "roads"] (spM ⟨K, mg⟩ 4 m_can_stay) := by
  refine fn_mir' (b := b_can_stay) G.f_can_stay sc_can_stay fun cdv A outer s H E hr => ?_
  exact (sb_cons (ss_lc (i := 4) (own := [("number", 5)]) rfl sc_can_stay.nd rfl rfl (by rfl) (si_seq (se_ix (se_var (pv 2)) (se_var (pv 1)))) (blkOk_by (by rfl)) (fun _ _ _ _ _ => (pg_name (i := 5) sc_can_stay.nd rfl (by first | exact .inl rfl | exact .inr rfl))) (fun _ _ _ _ _ => pts_yes) (fun _ _ _ _ _ => (se_cmp (or_in (u65 hr)) (o2_in (neg := false)) (by rfl) (se_var (pv 5)) (se_var (pv 3)))) (ct_name (by decide)))
  (sb_cons (ss_ret (se_if (st_cmp (op_eqD hr.units) o2_eq (nomark _) (se_ix (se_ix (se_var (pv 0)) se_int) (se_var (pv 1))) (se_globI (by rfl) G.o_CHANCE (by decide))) (se_prim (pe_callB (cr_all rfl) (by rfl) G.z_all (by rfl) (sa_cons (se_var (pv 4)) sa_nil)) ok_all) (se_prim (pe_callB (cr_any rfl) (by rfl) G.z_any (by rfl) (sa_cons (se_var (pv 4)) sa_nil)) ok_any)))
  sb_nil))
theorem ok_split_once (G : GF P w K mg base) : FnOk P w K mg base (L2.CX P w) 3 G.a_split_once G.d_split_once ["web", "outs", "places", "roads"] (spM ⟨K, mg⟩ 4 m_split_once) := by
  refine fn_mir' (b := b_split_once) G.f_split_once sc_split_once fun cdv A outer s H E hr => ?_
  exact (sb_cons (ss_set (ps_set (i := 4) sc_split_once.nd rfl (by first | exact .inl rfl | exact .inr rfl) (se_prim (pe_callTy call_tuple_of (by rfl) G.z_tuple (by rfl) (sa_cons (se_lc (own := [("place", 7)]) rfl sc_split_once.nd (si_seq (se_var (pv 2))) (blkOk_by (by rfl)) (fun _ _ _ _ _ => (pg_name (i := 7) sc_split_once.nd rfl (by first | exact .inl rfl | exact .inr rfl))) (fun _ _ _ _ _ => (pts_if (st_tru (se_call (ad := false) ((ok_can_stay G).mono (by decide)) hr (by rfl) G.g_can_stay G.k_can_stay takes_F G.b_can_stay .nil rfl (sa_cons (se_var (pv 0)) (sa_cons (se_var (pv 7)) (sa_cons (se_var (pv 1)) (sa_cons (se_var (pv 3)) sa_nil)))))))) (fun _ _ _ _ _ => (se_var (pv 7))) (ct_name (by decide))) sa_nil)) ok_tuple)))
  (sb_cons (ss_set (ps_set (i := 5) sc_split_once.nd rfl (by first | exact .inl rfl | exact .inr rfl) (se_call (ad := false) ((ok_roads_within G).mono (by decide)) hr (by rfl) G.g_roads_within G.k_roads_within (takes_of rfl rfl rfl rfl) G.b_roads_within .nil rfl (sa_cons (se_var (pv 0)) (sa_cons (se_var (pv 4)) (sa_cons (se_var (pv 3)) sa_nil))))))
  (sb_cons (ss_ret (se_lc (own := [("group", 6)]) rfl sc_split_once.nd (si_seq (se_call (ad := false) ((ok_joined_groups G).mono (by decide)) hr (by rfl) G.g_joined_groups G.k_joined_groups (takes_of rfl rfl rfl rfl) G.b_joined_groups .nil rfl (sa_cons (se_var (pv 0)) (sa_cons (se_var (pv 4)) (sa_cons (se_var (pv 5)) sa_nil))))) (blkOk_by (by rfl)) (fun _ _ _ _ _ => (pg_name (i := 6) sc_split_once.nd rfl (by first | exact .inl rfl | exact .inr rfl))) (fun _ _ _ _ _ => pts_yes) (fun _ _ _ _ _ => (se_tup (sa_cons (se_var (pv 6)) (sa_cons (se_call (ad := false) ((ok_roads_within G).mono (by decide)) hr (by rfl) G.g_roads_within G.k_roads_within takes_F G.b_roads_within .nil rfl (sa_cons (se_var (pv 0)) (sa_cons (se_var (pv 6)) (sa_cons (se_var (pv 5)) sa_nil)))) sa_nil)))) (ct_name (by decide))))
  sb_nil)))
theorem ok_is_within (G : GF P w K mg base) : FnOk P w K mg base (L2.CX P w) 1 G.a_is_within G.d_is_within ["one", "two"] (spM ⟨K, mg⟩ 2 m_is_within) := by
  refine fn_mir' (b := b_is_within) G.f_is_within sc_is_within fun cdv A outer s H E hr => ?_
  exact (sb_cons (ss_for (passes_of rfl) rfl (si_seq (se_var (pv 0))) (sg_name (pg_name (i := 2) sc_is_within.nd rfl (by first | exact .inl rfl | exact .inr rfl)))
  (sb_cons (ss_if (st_cmp (or_notIn (u65 hr)) (o2_in (neg := true)) (by rfl) (se_var (pv 2)) (se_var (pv 1)))
  (sb_cons (ss_ret se_bl)
  sb_nil)
  sb_nil)
  sb_nil))
  (sb_cons (ss_ret se_bl)
  sb_nil))
theorem ok_greatest_parts (G : GF P w K mg base) : FnOk P w K mg base (L2.CX P w) 4 G.a_greatest_parts G.d_greatest_parts ["web", "lot"] (spM ⟨K, mg⟩ 2 m_greatest_parts) := by
  refine fn_mir' (b := b_greatest_parts) G.f_greatest_parts sc_greatest_parts fun cdv A outer s H E hr => ?_
  exact (sb_cons (ss_set (ps_set (i := 2) sc_greatest_parts.nd rfl (by first | exact .inl rfl | exact .inr rfl) (se_prim (pe_callTy call_tuple_of (by rfl) G.z_tuple (by rfl) (sa_cons (se_lc (own := [("number", 9), ("road", 10)]) rfl sc_greatest_parts.nd (si_enum (by rfl) G.z_enumerate (sa_cons (se_ix (se_var (pv 0)) se_int) sa_nil)) (blkOk_by (by rfl)) (fun _ _ _ _ _ => (pg_tup rfl (pgs_cons (pg_name (i := 9) sc_greatest_parts.nd rfl (by first | exact .inl rfl | exact .inr rfl)) (pgs_cons (pg_name (i := 10) sc_greatest_parts.nd rfl (by first | exact .inl rfl | exact .inr rfl)) pgs_nil)))) (fun _ _ _ _ _ => (pts_if (st_tru (se_call (ad := false) ((ok_is_within G).mono (by decide)) hr (by rfl) G.g_is_within G.k_is_within takes_F G.b_is_within .nil rfl (sa_cons (se_ix (se_var (pv 10)) se_int) (sa_cons (se_var (pv 1)) sa_nil)))))) (fun _ _ _ _ _ => (se_var (pv 9))) (ct_tup (cts_cons (ct_name (by decide)) (cts_cons (ct_name (by decide)) cts_nil)))) sa_nil)) ok_tuple)))
  (sb_cons (ss_par3 (ps_par3 rfl sc_greatest_parts.nd rfl rfl rfl (by decide) (by decide) (by decide) rfl rfl rfl (sa_cons (se_new (sa_cons (se_tup (sa_cons (se_tupR1 (te := fun _ _ _ => True) (pe_tupRg rfl (by rfl) G.z_tuple (prg_1 (by rfl) G.z_range (se_prim (pe_callB call_len (by rfl) G.z_len (by rfl) (sa_cons (se_ix (se_var (pv 0)) se_int) sa_nil)) ok_len)))) (sa_cons (se_var (pv 2)) sa_nil))) sa_nil)) (sa_cons (se_call (ad := false) ((ok_roads_by_place G).mono (by decide)) hr (by rfl) G.g_roads_by_place G.k_roads_by_place (takes_of rfl rfl rfl rfl) G.b_roads_by_place .nil rfl (sa_cons (se_var (pv 0)) sa_nil)) (sa_cons (se_new sa_nil) sa_nil))) (by rfl)))
  (sb_cons (ss_while (passes_of rfl) (st_cmp op_gt o2_gt (nomark _) (se_prim (pe_callB call_len (by rfl) G.z_len (by rfl) (sa_cons (se_var (pv 3)) sa_nil)) ok_len) se_int)
  (sb_cons (ss_asg (se_methL0 (pe_bm0 PySem.F.plainAttrs_list PySem.F.slot_list_pop PySem.F.type_list_pop mt_pop (se_var (pv 3))) om_pop) (sg_tup rfl (sgs_cons (sg_name (pg_name (i := 6) sc_greatest_parts.nd rfl (by first | exact .inl rfl | exact .inr rfl))) (sgs_cons (sg_name (pg_name (i := 7) sc_greatest_parts.nd rfl (by first | exact .inl rfl | exact .inr rfl))) sgs_nil))))
  (sb_cons (ss_set (ps_set (i := 8) sc_greatest_parts.nd rfl (by first | exact .inl rfl | exact .inr rfl) (se_call (ad := false) ((ok_split_once G).mono (by decide)) hr (by rfl) G.g_split_once G.k_split_once (takes_of rfl rfl rfl rfl) G.b_split_once .nil rfl (sa_cons (se_var (pv 0)) (sa_cons (se_var (pv 4)) (sa_cons (se_var (pv 6)) (sa_cons (se_var (pv 7)) sa_nil)))))))
  (sb_cons (ss_if (st_cmp (op_eqD hr.units) o2_eq (nomark _) (se_var (pv 8)) (se_lst (sa_cons (se_tup (sa_cons (se_var (pv 6)) (sa_cons (se_var (pv 7)) sa_nil))) sa_nil)))
  (sb_cons (ss_expr (se_methL (pe_bm PySem.F.plainAttrs_list PySem.F.slot_list_append PySem.F.type_list_append mt_append (se_var (pv 5)) (sa_cons (se_tup (sa_cons (se_var (pv 6)) (sa_cons (se_var (pv 7)) sa_nil))) sa_nil)) om_append))
  sb_nil)
  (sb_cons (ss_expr (se_methL (pe_bm PySem.F.plainAttrs_list PySem.F.slot_list_extend PySem.F.type_list_extend mt_extend (se_var (pv 3)) (sa_cons (se_var (pv 8)) sa_nil)) om_extend))
  sb_nil))
  sb_nil))))
  (sb_cons (ss_ret (se_prim (pe_callTy call_tuple_of (by rfl) G.z_tuple (by rfl) (sa_cons (se_prim (pe_callB (cr_sortM (u10 hr)) (by rfl) G.z_sorted (by rfl) (sa_cons (se_var (pv 5)) sa_nil)) ok_srt) sa_nil)) ok_tuple))
  sb_nil))))
theorem ok_joined_lots (G : GF P w K mg base) : FnOk P w K mg base (L2.CX P w) 1 G.a_joined_lots G.d_joined_lots ["lots"] (spM ⟨K, mg⟩ 1 m_joined_lots) := by
  refine fn_mir' (b := b_joined_lots) G.f_joined_lots sc_joined_lots fun cdv A outer s H E hr => ?_
  exact (sb_cons (ss_set (ps_set (i := 1) sc_joined_lots.nd rfl (by first | exact .inl rfl | exact .inr rfl) se_dnewK))
  (sb_cons (ss_for (passes_of rfl) rfl (si_seq (se_var (pv 0))) (sg_name (pg_name (i := 2) sc_joined_lots.nd rfl (by first | exact .inl rfl | exact .inr rfl)))
  (sb_cons (ss_for (passes_of rfl) rfl (si_seq (se_var (pv 2))) (sg_name (pg_name (i := 3) sc_joined_lots.nd rfl (by first | exact .inl rfl | exact .inr rfl)))
  (sb_cons (ss_dset (u1 hr) (se_var (pv 1)) (se_var (pv 3)) se_bl)
  sb_nil))
  sb_nil))
  (sb_cons (ss_ret (se_prim (pe_callTy call_tuple_of (by rfl) G.z_tuple (by rfl) (sa_cons (se_prim (pe_callB (cr_sortM (u10 hr)) (by rfl) G.z_sorted (by rfl) (sa_cons (se_prim (pe_callTy (Mir.call_listD rfl) (by rfl) G.z_list (by rfl) (sa_cons (se_var (pv 1)) sa_nil)) ok_listD) sa_nil)) ok_srt) sa_nil)) ok_tuple))
  sb_nil)))
theorem ok_part_rings (G : GF P w K mg base) : FnOk P w K mg base (L2.CX P w) 2 G.a_part_rings G.d_part_rings ["web", "part"] (spM ⟨K, mg⟩ 2 m_part_rings) := by
  refine fn_mir' (b := b_part_rings) G.f_part_rings sc_part_rings fun cdv A outer s H E hr => ?_
  exact (sb_cons (ss_ret (se_call (ad := false) ((ok_joined_lots G).mono (by decide)) hr (by rfl) G.g_joined_lots G.k_joined_lots (takes_of rfl rfl rfl rfl) G.b_joined_lots .nil rfl (sa_cons (se_lc (own := [("number", 2)]) rfl sc_part_rings.nd (si_seq (se_ix (se_var (pv 1)) se_int)) (blkOk_by (by rfl)) (fun _ _ _ _ _ => (pg_name (i := 2) sc_part_rings.nd rfl (by first | exact .inl rfl | exact .inr rfl))) (fun _ _ _ _ _ => pts_yes) (fun _ _ _ _ _ => (se_ix (se_ix (se_ix (se_var (pv 0)) se_int) (se_var (pv 2))) se_int)) (ct_name (by decide))) sa_nil)))
  sb_nil)
theorem ok__law_rung (G : GF P w K mg base) : FnOk P w K mg base (L2.CX P w) 1 G.a__law_rung G.d__law_rung ["web", "roads"] (spM ⟨K, mg⟩ 2 m__law_rung) := by
  refine fn_mir' (b := b__law_rung) G.f__law_rung sc__law_rung fun cdv A outer s H E hr => ?_
  exact (sb_cons (ss_set (ps_set (i := 2) sc__law_rung.nd rfl (by first | exact .inl rfl | exact .inr rfl) (se_lst sa_nil)))
  (sb_cons (ss_for (passes_of rfl) rfl (si_seq (se_var (pv 1))) (sg_name (pg_name (i := 3) sc__law_rung.nd rfl (by first | exact .inl rfl | exact .inr rfl)))
  (sb_cons (ss_set (ps_set (i := 2) sc__law_rung.nd rfl (by first | exact .inl rfl | exact .inr rfl) (se_bin or_add o2_add (se_var (pv 2)) (se_lc (own := [("bell", 4)]) rfl sc__law_rung.nd (si_seq (se_ix (se_ix (se_ix (se_var (pv 0)) se_int) (se_var (pv 3))) se_int)) (blkOk_by (by rfl)) (fun _ _ _ _ _ => (pg_name (i := 4) sc__law_rung.nd rfl (by first | exact .inl rfl | exact .inr rfl))) (fun _ _ _ _ _ => (pts_if (st_cmp (or_notIn (u65 hr)) (o2_in (neg := true)) (by rfl) (se_var (pv 4)) (se_var (pv 2))))) (fun _ _ _ _ _ => (se_var (pv 4))) (ct_name (by decide))))))
  sb_nil))
  (sb_cons (ss_ret (se_prim (pe_callTy call_tuple_of (by rfl) G.z_tuple (by rfl) (sa_cons (se_prim (pe_callB (cr_sortM (u10 hr)) (by rfl) G.z_sorted (by rfl) (sa_cons (se_var (pv 2)) sa_nil)) ok_srt) sa_nil)) ok_tuple))
  sb_nil)))
theorem ok_is_tuple (G : GF P w K mg base) : FnOk P w K mg base (L2.CX P w) 1 G.a_is_tuple G.d_is_tuple ["value", "many"] (spM ⟨K, mg⟩ 2 m_is_tuple) := by
  refine fn_mirD (b := b_is_tuple) G.f_is_tuple sc_is_tuple fun cdv A outer s H E hr => ?_
  exact (sb_cons (ss_ret (se_and (se_isi k_tuple (by rfl) G.z_isinstance (by rfl) G.z_tuple (by rfl) (se_var (pv 0)) (by decide) (by decide)) (se_one (se_or (se_cmp or_is (o2_is (neg := false)) (nomark _) (se_var (pv 1)) se_non) (se_one (se_cmp (op_eqD hr.units) o2_eq (nomark _) (se_prim (pe_callB call_len (by rfl) G.z_len (by rfl) (sa_cons (se_var (pv 0)) sa_nil)) ok_len) (se_var (pv 1))))))))
  sb_nil)
theorem ok_is_int (G : GF P w K mg base) : FnOk P w K mg base (L2.CX P w) 1 G.a_is_int G.d_is_int ["value"] (spM ⟨K, mg⟩ 1 m_is_int) := by
  refine fn_mir' (b := b_is_int) G.f_is_int sc_is_int fun cdv A outer s H E hr => ?_
  exact (sb_cons (ss_ret (se_and (se_isi k_int (by rfl) G.z_isinstance (by rfl) G.z_int (by rfl) (se_var (pv 0)) (by decide) (by decide)) (se_one (se_not (se_isi k_bool (by rfl) G.z_isinstance (by rfl) G.z_bool (by rfl) (se_var (pv 0)) (by decide) (by decide))))))
  sb_nil)
theorem ok_is_number (G : GF P w K mg base) : FnOk P w K mg base (L2.CX P w) 2 G.a_is_number G.d_is_number ["value", "least", "most"] (spM ⟨K, mg⟩ 3 m_is_number) := by
  refine fn_mirD (b := b_is_number) G.f_is_number sc_is_number fun cdv A outer s H E hr => ?_
  exact (sb_cons (ss_ret (se_and (se_call (ad := false) ((ok_is_int G).mono (by decide)) hr (by rfl) G.g_is_int G.k_is_int (takes_of rfl rfl rfl rfl) G.b_is_int .nil rfl (sa_cons (se_var (pv 0)) sa_nil)) (se_and (se_cmp op_ge o2_ge (nomark _) (se_var (pv 0)) (se_var (pv 1))) (se_one (se_or (se_cmp or_is (o2_is (neg := false)) (nomark _) (se_var (pv 2)) se_non) (se_one (se_cmp op_le o2_le (nomark _) (se_var (pv 0)) (se_var (pv 2)))))))))
  sb_nil)
theorem ok_is_lot (G : GF P w K mg base) : FnOk P w K mg base (L2.CX P w) 3 G.a_is_lot G.d_is_lot ["value", "most", "least"] (spM ⟨K, mg⟩ 3 m_is_lot) := by
  refine fn_mirD (b := b_is_lot) G.f_is_lot sc_is_lot fun cdv A outer s H E hr => ?_
  exact (sb_cons (ss_if (st_not (st_tru (se_isi k_tuple (by rfl) G.z_isinstance (by rfl) G.z_tuple (by rfl) (se_var (pv 0)) (by decide) (by decide))))
  (sb_cons (ss_ret se_bl)
  sb_nil)
  sb_nil)
  (sb_cons (ss_for (passes_of rfl) rfl (si_seq (se_var (pv 0))) (sg_name (pg_name (i := 3) sc_is_lot.nd rfl (by first | exact .inl rfl | exact .inr rfl)))
  (sb_cons (ss_if (st_not (st_tru (se_call (ad := false) ((ok_is_number G).mono (by decide)) hr (by rfl) G.g_is_number G.k_is_number (takes_of rfl rfl rfl rfl) G.b_is_number .nil rfl (sa_cons (se_var (pv 3)) (sa_cons (se_var (pv 2)) (sa_cons (se_var (pv 1)) sa_nil))))))
  (sb_cons (ss_ret se_bl)
  sb_nil)
  sb_nil)
  (sb_cons (ss_set (ps_set (i := 2) sc_is_lot.nd rfl (by first | exact .inl rfl | exact .inr rfl) (se_bin or_add o2_add (se_var (pv 3)) se_int)))
  sb_nil)))
  (sb_cons (ss_ret se_bl)
  sb_nil)))
theorem ok_part_serves (G : GF P w K mg base) : FnOk P w K mg base (L2.CX P w) 4 G.a_part_serves G.d_part_serves ["web", "told"] (spM ⟨K, mg⟩ 2 m_part_serves) := by
  refine fn_mir' (b := b_part_serves) G.f_part_serves sc_part_serves fun cdv A outer s H E hr => ?_
  exact (sb_cons (ss_if (st_w (sw_or (st_not (st_tru (se_call (ad := false) ((ok_is_tuple G).mono (by decide)) hr (by rfl) G.g_is_tuple G.k_is_tuple (takes_of rfl rfl rfl rfl) G.b_is_tuple .nil rfl (sa_cons (se_var (pv 1)) (sa_cons se_int sa_nil))))) (sw_or (st_not (st_tru (se_call (ad := false) ((ok_is_lot G).mono (by decide)) hr (by rfl) G.g_is_lot G.k_is_lot (takes_of rfl rfl rfl rfl) (G.b_is_lot_2).choose_spec.2 (G.b_is_lot_2).choose_spec.1 rfl (sa_cons (se_ix (se_var (pv 1)) se_int) (sa_cons (se_bin op_sub o2_sub (se_prim (pe_callB call_len (by rfl) G.z_len (by rfl) (sa_cons (se_ix (se_var (pv 0)) se_int) sa_nil)) ok_len) se_int) sa_nil))))) (sw_or1 (st_not (st_tru (se_call (ad := false) ((ok_is_lot G).mono (by decide)) hr (by rfl) G.g_is_lot G.k_is_lot (takes_of rfl rfl rfl rfl) (G.b_is_lot_2).choose_spec.2 (G.b_is_lot_2).choose_spec.1 rfl (sa_cons (se_ix (se_var (pv 1)) se_int) (sa_cons (se_bin op_sub o2_sub (se_prim (pe_callB call_len (by rfl) G.z_len (by rfl) (sa_cons (se_ix (se_var (pv 0)) se_int) sa_nil)) ok_len) se_int) sa_nil)))))))))
  (sb_cons (ss_ret se_bl)
  sb_nil)
  sb_nil)
  (sb_cons (ss_asg (se_var (pv 1)) (sg_tup rfl (sgs_cons (sg_name (pg_name (i := 2) sc_part_serves.nd rfl (by first | exact .inl rfl | exact .inr rfl))) (sgs_cons (sg_name (pg_name (i := 3) sc_part_serves.nd rfl (by first | exact .inl rfl | exact .inr rfl))) sgs_nil))))
  (sb_cons (ss_if (st_w (sw_or (st_cmp (op_eqD hr.units) o2_eq (nomark _) (se_prim (pe_callB call_len (by rfl) G.z_len (by rfl) (sa_cons (se_var (pv 2)) sa_nil)) ok_len) se_int) (sw_or1 (st_cmp (op_neD hr.units) o2_ne (nomark _) (se_call (ad := false) ((ok_roads_within G).mono (by decide)) hr (by rfl) G.g_roads_within G.k_roads_within (takes_of rfl rfl rfl rfl) G.b_roads_within .nil rfl (sa_cons (se_var (pv 0)) (sa_cons (se_var (pv 2)) (sa_cons (se_var (pv 3)) sa_nil)))) (se_var (pv 3))))))
  (sb_cons (ss_ret se_bl)
  sb_nil)
  sb_nil)
  (sb_cons (ss_set (ps_set (i := 4) sc_part_serves.nd rfl (by first | exact .inl rfl | exact .inr rfl) (se_call (ad := false) ((ok_roads_by_place G).mono (by decide)) hr (by rfl) G.g_roads_by_place G.k_roads_by_place (takes_of rfl rfl rfl rfl) G.b_roads_by_place .nil rfl (sa_cons (se_var (pv 0)) sa_nil))))
  (sb_cons (ss_if (st_not (st_tru (se_prim (pe_callB (cr_all rfl) (by rfl) G.z_all (by rfl) (sa_cons (se_lc (own := [("place", 5)]) rfl sc_part_serves.nd (si_seq (se_var (pv 2))) (blkOk_by (by rfl)) (fun _ _ _ _ _ => (pg_name (i := 5) sc_part_serves.nd rfl (by first | exact .inl rfl | exact .inr rfl))) (fun _ _ _ _ _ => pts_yes) (fun _ _ _ _ _ => (se_call (ad := false) ((ok_can_stay G).mono (by decide)) hr (by rfl) G.g_can_stay G.k_can_stay takes_F G.b_can_stay .nil rfl (sa_cons (se_var (pv 0)) (sa_cons (se_var (pv 5)) (sa_cons (se_var (pv 4)) (sa_cons (se_var (pv 3)) sa_nil)))))) (ct_name (by decide))) sa_nil)) ok_all)))
  (sb_cons (ss_ret se_bl)
  sb_nil)
  sb_nil)
  (sb_cons (ss_ret (se_cmp (op_eqD hr.units) o2_eq (nomark _) (se_call (ad := false) ((ok_joined_groups G).mono (by decide)) hr (by rfl) G.g_joined_groups G.k_joined_groups (takes_of rfl rfl rfl rfl) G.b_joined_groups .nil rfl (sa_cons (se_var (pv 0)) (sa_cons (se_var (pv 2)) (sa_cons (se_var (pv 3)) sa_nil)))) (se_lst (sa_cons (se_var (pv 2)) sa_nil))))
  sb_nil))))))
theorem ok__law_is_one (G : GF P w K mg base) : FnOk P w K mg base (L2.CX P w) 4 G.a__law_is_one G.d__law_is_one ["web", "value"] (spM ⟨K, mg⟩ 2 m__law_is_one) := by
  refine fn_mir' (b := b__law_is_one) G.f__law_is_one sc__law_is_one fun cdv A outer s H E hr => ?_
  exact (sb_cons (ss_if (st_w (sw_or (st_not (st_tru (se_isi k_tuple (by rfl) G.z_isinstance (by rfl) G.z_tuple (by rfl) (se_var (pv 1)) (by decide) (by decide)))) (sw_or1 (st_cmp (op_neD hr.units) o2_ne (nomark _) (se_prim (pe_callB call_len (by rfl) G.z_len (by rfl) (sa_cons (se_var (pv 1)) sa_nil)) ok_len) se_int))))
  (sb_cons (ss_ret se_bl)
  sb_nil)
  sb_nil)
  (sb_cons (ss_for (passes_of rfl) rfl (si_zip (by rfl) G.z_zip (sa_cons (se_var (pv 1)) (sa_cons (se_lst (sa_cons (se_prim (pe_callB call_len (by rfl) G.z_len (by rfl) (sa_cons (se_ix (se_var (pv 0)) se_int) sa_nil)) ok_len) (sa_cons (se_prim (pe_callB call_len (by rfl) G.z_len (by rfl) (sa_cons (se_ix (se_var (pv 0)) se_int) sa_nil)) ok_len) sa_nil))) sa_nil))) (sg_tup rfl (sgs_cons (sg_name (pg_name (i := 2) sc__law_is_one.nd rfl (by first | exact .inl rfl | exact .inr rfl))) (sgs_cons (sg_name (pg_name (i := 3) sc__law_is_one.nd rfl (by first | exact .inl rfl | exact .inr rfl))) sgs_nil)))
  (sb_cons (ss_if (st_w (sw_or (st_not (st_tru (se_isi k_tuple (by rfl) G.z_isinstance (by rfl) G.z_tuple (by rfl) (se_var (pv 2)) (by decide) (by decide)))) (sw_or1 (st_cmp (op_neD hr.units) o2_ne (nomark _) (se_lc (own := [("one", 4)]) rfl sc__law_is_one.nd (si_seq (se_var (pv 2))) (blkOk_by (by rfl)) (fun _ _ _ _ _ => (pg_name (i := 4) sc__law_is_one.nd rfl (by first | exact .inl rfl | exact .inr rfl))) (fun _ _ _ _ _ => (pts_if (st_w (sw_or (st_not (st_tru (se_isi k_int (by rfl) G.z_isinstance (by rfl) G.z_int (by rfl) (se_var (pv 4)) (by decide) (by decide)))) (sw_or (st_tru (se_isi k_bool (by rfl) G.z_isinstance (by rfl) G.z_bool (by rfl) (se_var (pv 4)) (by decide) (by decide))) (sw_or1 (st_not (st_chain op_le o2_le op_lt o2_lt se_int (se_var (pv 4)) (se_var (pv 3)))))))))) (fun _ _ _ _ _ => (se_var (pv 4))) (ct_name (by decide))) (se_lst sa_nil)))))
  (sb_cons (ss_ret se_bl)
  sb_nil)
  sb_nil)
  (sb_cons (ss_if (st_cmp (op_neD hr.units) o2_ne (nomark _) (se_lc (own := [("one", 4), ("two", 5)]) rfl sc__law_is_one.nd (si_zip (by rfl) G.z_zip (sa_cons (se_var (pv 2)) (sa_cons (se_sl (se_var (pv 2)) (so_some se_int) so_none) sa_nil))) (blkOk_by (by rfl)) (fun _ _ _ _ _ => (pg_tup rfl (pgs_cons (pg_name (i := 4) sc__law_is_one.nd rfl (by first | exact .inl rfl | exact .inr rfl)) (pgs_cons (pg_name (i := 5) sc__law_is_one.nd rfl (by first | exact .inl rfl | exact .inr rfl)) pgs_nil)))) (fun _ _ _ _ _ => (pts_if (st_cmp op_ge o2_ge (nomark _) (se_var (pv 4)) (se_var (pv 5))))) (fun _ _ _ _ _ => se_int) (ct_tup (cts_cons (ct_name (by decide)) (cts_cons (ct_name (by decide)) cts_nil)))) (se_lst sa_nil))
  (sb_cons (ss_ret se_bl)
  sb_nil)
  sb_nil)
  sb_nil)))
  (sb_cons (ss_ret (se_call (ad := false) ((ok__law_is_part G).mono (by decide)) hr (by rfl) G.g__law_is_part G.k__law_is_part (takes_of rfl rfl rfl rfl) G.b__law_is_part .nil rfl (sa_cons (se_var (pv 0)) (sa_cons (se_ix (se_var (pv 1)) se_int) (sa_cons (se_ix (se_var (pv 1)) se_int) sa_nil)))))
  sb_nil)))
theorem ok__law_lies_in (G : GF P w K mg base) : FnOk P w K mg base (L2.CX P w) 1 G.a__law_lies_in G.d__law_lies_in ["one", "two"] (spM ⟨K, mg⟩ 2 m__law_lies_in) := by
  refine fn_mir' (b := b__law_lies_in) G.f__law_lies_in sc__law_lies_in fun cdv A outer s H E hr => ?_
  exact (sb_cons (ss_ret (se_and (se_cmp (op_eqD hr.units) o2_eq (nomark _) (se_lc (own := [("entry", 2)]) rfl sc__law_lies_in.nd (si_seq (se_ix (se_var (pv 0)) se_int)) (blkOk_by (by rfl)) (fun _ _ _ _ _ => (pg_name (i := 2) sc__law_lies_in.nd rfl (by first | exact .inl rfl | exact .inr rfl))) (fun _ _ _ _ _ => (pts_if (st_cmp (or_notIn (u65 hr)) (o2_in (neg := true)) (by rfl) (se_var (pv 2)) (se_ix (se_var (pv 1)) se_int)))) (fun _ _ _ _ _ => se_int) (ct_name (by decide))) (se_lst sa_nil)) (se_one (se_cmp (op_eqD hr.units) o2_eq (nomark _) (se_lc (own := [("entry", 2)]) rfl sc__law_lies_in.nd (si_seq (se_ix (se_var (pv 0)) se_int)) (blkOk_by (by rfl)) (fun _ _ _ _ _ => (pg_name (i := 2) sc__law_lies_in.nd rfl (by first | exact .inl rfl | exact .inr rfl))) (fun _ _ _ _ _ => (pts_if (st_cmp (or_notIn (u65 hr)) (o2_in (neg := true)) (by rfl) (se_var (pv 2)) (se_ix (se_var (pv 1)) se_int)))) (fun _ _ _ _ _ => se_int) (ct_name (by decide))) (se_lst sa_nil)))))
  sb_nil)
theorem ok_law (G : GF P w K mg base) : FnOk P w K mg base (L2.CX P w) 9 G.a_law G.d_law ["script"] (spM ⟨K, mg⟩ 1 m_law) := by
  refine fn_mir' (b := b_law) G.f_law sc_law fun cdv A outer s H E hr => ?_
  exact (sb_cons (ss_for (passes_of rfl) rfl (si_range1 (by rfl) G.z_range (sa_cons se_int sa_nil)) (sg_name (pg_name (i := 1) sc_law.nd rfl (by first | exact .inl rfl | exact .inr rfl)))
  (sb_cons (ss_set (ps_set (i := 2) sc_law.nd rfl (by first | exact .inl rfl | exact .inr rfl) (se_call (ad := true) ((ok__law_box G).mono (by decide)) hr (by rfl) G.g__law_box G.k__law_box (takes_of rfl rfl rfl rfl) G.b__law_box .nil rfl (sa_cons (se_var (pv 0)) (sa_cons (se_var (pv 1)) sa_nil)))))
  (sb_cons (ss_par (ps_par rfl sc_law.nd rfl rfl (by decide) rfl rfl (sa_cons (se_bin or_add o2_add se_int (se_call (ad := false) ((ok__law_take G).mono (by decide)) hr (by rfl) G.g__law_take G.k__law_take (takes_of rfl rfl rfl rfl) G.b__law_take .nil rfl (sa_cons (se_var (pv 2)) (sa_cons se_int sa_nil)))) (sa_cons (se_bin or_add o2_add se_int (se_call (ad := false) ((ok__law_take G).mono (by decide)) hr (by rfl) G.g__law_take G.k__law_take (takes_of rfl rfl rfl rfl) G.b__law_take .nil rfl (sa_cons (se_var (pv 2)) (sa_cons se_int sa_nil)))) sa_nil)) (by rfl)))
  (sb_cons (ss_set (ps_set (i := 5) sc_law.nd rfl (by first | exact .inl rfl | exact .inr rfl) (se_call (ad := false) ((ok__law_web G).mono (by decide)) hr (by rfl) G.g__law_web G.k__law_web (takes_of rfl rfl rfl rfl) G.b__law_web .nil rfl (sa_cons (se_var (pv 2)) (sa_cons (se_var (pv 4)) (sa_cons (se_bin op_sub o2_sub se_int (se_var (pv 4))) (sa_cons (se_var (pv 3)) sa_nil)))))))
  (sb_cons (ss_lc (i := 6) (own := [("roads", 12)]) rfl sc_law.nd rfl rfl (by rfl) (si_seq (se_call (ad := false) ((ok__law_road_lots G).mono (by decide)) hr (by rfl) G.g__law_road_lots G.k__law_road_lots (takes_of rfl rfl rfl rfl) G.b__law_road_lots .nil rfl (sa_cons (se_var (pv 5)) sa_nil))) (blkOk_by (by rfl)) (fun _ _ _ _ _ => (pg_name (i := 12) sc_law.nd rfl (by first | exact .inl rfl | exact .inr rfl))) (fun _ _ _ _ _ => pts_yes) (fun _ _ _ _ _ => (se_tup (sa_cons (se_call (ad := false) ((ok__law_starts G).mono (by decide)) hr (by rfl) G.g__law_starts G.k__law_starts takes_F G.b__law_starts .nil rfl (sa_cons (se_var (pv 5)) (sa_cons (se_var (pv 12)) sa_nil))) (sa_cons (se_var (pv 12)) sa_nil)))) (ct_name (by decide)))
  (sb_cons (ss_lc (i := 6) (own := [("part", 11)]) rfl sc_law.nd rfl rfl (by rfl) (si_seq (se_var (pv 6))) (blkOk_by (by rfl)) (fun _ _ _ _ _ => (pg_name (i := 11) sc_law.nd rfl (by first | exact .inl rfl | exact .inr rfl))) (fun _ _ _ _ _ => (pts_if (st_tru (se_call (ad := false) ((ok__law_is_part G).mono (by decide)) hr (by rfl) G.g__law_is_part G.k__law_is_part takes_F G.b__law_is_part .nil rfl (sa_cons (se_var (pv 5)) (sa_cons (se_ix (se_var (pv 11)) se_int) (sa_cons (se_ix (se_var (pv 11)) se_int) sa_nil))))))) (fun _ _ _ _ _ => (se_var (pv 11))) (ct_name (by decide)))
  (sb_cons (ss_for (passes_of rfl) rfl (si_seq (se_bin or_add o2_add (se_lst (sa_cons (se_tup sa_nil) sa_nil)) (se_call (ad := false) ((ok__law_lots G).mono (by decide)) hr (by rfl) G.g__law_lots G.k__law_lots (takes_of rfl rfl rfl rfl) G.b__law_lots .nil rfl (sa_cons (se_var (pv 3)) sa_nil)))) (sg_name (pg_name (i := 7) sc_law.nd rfl (by first | exact .inl rfl | exact .inr rfl)))
  (sb_cons (ss_set (ps_set (i := 9) sc_law.nd rfl (by first | exact .inl rfl | exact .inr rfl) (se_lc (own := [("part", 11)]) rfl sc_law.nd (si_seq (se_var (pv 6))) (blkOk_by (by rfl)) (fun _ _ _ _ _ => (pg_name (i := 11) sc_law.nd rfl (by first | exact .inl rfl | exact .inr rfl))) (fun _ _ _ _ _ => (pts_if (st_cmp (op_eqD hr.units) o2_eq (nomark _) (se_lc (own := [("bell", 14)]) rfl sc_law.nd (si_seq (se_call (ad := false) ((ok__law_rung G).mono (by decide)) hr (by rfl) G.g__law_rung G.k__law_rung takes_F G.b__law_rung .nil rfl (sa_cons (se_var (pv 5)) (sa_cons (se_ix (se_var (pv 11)) se_int) sa_nil)))) (blkOk_by (by rfl)) (fun _ _ _ _ _ => (pg_name (i := 14) sc_law.nd rfl (by first | exact .inl rfl | exact .inr rfl))) (fun _ _ _ _ _ => (pts_if (st_cmp (or_notIn (u65 hr)) (o2_in (neg := true)) (by rfl) (se_var (pv 14)) (se_var (pv 7))))) (fun _ _ _ _ _ => (se_var (pv 14))) (ct_name (by decide))) (se_lst sa_nil)))) (fun _ _ _ _ _ => (se_var (pv 11))) (ct_name (by decide)))))
  (sb_cons (ss_set (ps_set (i := 10) sc_law.nd rfl (by first | exact .inl rfl | exact .inr rfl) (se_prim (pe_callB (cr_sortM (u10 hr)) (by rfl) G.z_sorted (by rfl) (sa_cons (se_lc (own := [("part", 11)]) rfl sc_law.nd (si_seq (se_var (pv 9))) (blkOk_by (by rfl)) (fun _ _ _ _ _ => (pg_name (i := 11) sc_law.nd rfl (by first | exact .inl rfl | exact .inr rfl))) (fun _ _ _ _ _ => (pts_if (st_cmp (op_eqD hr.units) o2_eq (nomark _) (se_lc (own := [("other", 15)]) rfl sc_law.nd (si_seq (se_var (pv 9))) (blkOk_by (by rfl)) (fun _ _ _ _ _ => (pg_name (i := 15) sc_law.nd rfl (by first | exact .inl rfl | exact .inr rfl))) (fun _ _ _ _ _ => (pts_if (st_w (sw_and (st_cmp (op_neD hr.units) o2_ne (nomark _) (se_var (pv 15)) (se_var (pv 11))) (sw_and1 (st_tru (se_call (ad := false) ((ok__law_lies_in G).mono (by decide)) hr (by rfl) G.g__law_lies_in G.k__law_lies_in takes_F G.b__law_lies_in .nil rfl (sa_cons (se_var (pv 11)) (sa_cons (se_var (pv 15)) sa_nil))))))))) (fun _ _ _ _ _ => (se_var (pv 15))) (ct_name (by decide))) (se_lst sa_nil)))) (fun _ _ _ _ _ => (se_var (pv 11))) (ct_name (by decide))) sa_nil)) ok_srt)))
  (sb_cons (ss_if (st_not (st_tru (se_call (ad := false) ((ok__law_same G 8).mono (by decide)) hr (by rfl) G.g__law_same G.k__law_same (takes_of rfl rfl rfl rfl) G.b__law_same .nil rfl (sa_cons (se_call (ad := false) ((ok_greatest_parts G).mono (by decide)) hr (by rfl) G.g_greatest_parts G.k_greatest_parts (takes_of rfl rfl rfl rfl) G.b_greatest_parts .nil rfl (sa_cons (se_var (pv 5)) (sa_cons (se_var (pv 7)) sa_nil))) (sa_cons (se_prim (pe_callTy call_tuple_of (by rfl) G.z_tuple (by rfl) (sa_cons (se_var (pv 10)) sa_nil)) ok_tuple) sa_nil)))))
  (sb_cons (ss_ret se_bl)
  sb_nil)
  sb_nil)
  (sb_cons (ss_for (passes_of rfl) rfl (si_seq (se_var (pv 10))) (sg_name (pg_name (i := 11) sc_law.nd rfl (by first | exact .inl rfl | exact .inr rfl)))
  (sb_cons (ss_if (st_not (st_tru (se_call (ad := false) ((ok__law_same G 8).mono (by decide)) hr (by rfl) G.g__law_same G.k__law_same (takes_of rfl rfl rfl rfl) G.b__law_same .nil rfl (sa_cons (se_call (ad := false) ((ok_part_rings G).mono (by decide)) hr (by rfl) G.g_part_rings G.k_part_rings (takes_of rfl rfl rfl rfl) G.b_part_rings .nil rfl (sa_cons (se_var (pv 5)) (sa_cons (se_var (pv 11)) sa_nil))) (sa_cons (se_call (ad := false) ((ok__law_rung G).mono (by decide)) hr (by rfl) G.g__law_rung G.k__law_rung (takes_of rfl rfl rfl rfl) G.b__law_rung .nil rfl (sa_cons (se_var (pv 5)) (sa_cons (se_ix (se_var (pv 11)) se_int) sa_nil))) sa_nil)))))
  (sb_cons (ss_ret se_bl)
  sb_nil)
  sb_nil)
  sb_nil))
  sb_nil)))))
  (sb_cons (ss_for (passes_of rfl) rfl (si_range1 (by rfl) G.z_range (sa_cons se_int sa_nil)) (sg_name (pg_name (i := 8) sc_law.nd rfl (by first | exact .inl rfl | exact .inr rfl)))
  (sb_cons (ss_set (ps_set (i := 12) sc_law.nd rfl (by first | exact .inl rfl | exact .inr rfl) (se_call (ad := false) ((ok__law_pick G).mono (by decide)) hr (by rfl) G.g__law_pick G.k__law_pick (takes_of rfl rfl rfl rfl) G.b__law_pick .nil rfl (sa_cons (se_var (pv 2)) (sa_cons (se_call (ad := false) ((ok__law_road_lots G).mono (by decide)) hr (by rfl) G.g__law_road_lots G.k__law_road_lots (takes_of rfl rfl rfl rfl) G.b__law_road_lots .nil rfl (sa_cons (se_var (pv 5)) sa_nil)) sa_nil)))))
  (sb_cons (ss_set (ps_set (i := 11) sc_law.nd rfl (by first | exact .inl rfl | exact .inr rfl) (se_if (st_w (sw_and (st_cmp (op_neD hr.units) o2_ne (nomark _) (se_var (pv 6)) (se_lst sa_nil)) (sw_and1 (st_cmp (op_eqD hr.units) o2_eq (nomark _) (se_call (ad := false) ((ok__law_take G).mono (by decide)) hr (by rfl) G.g__law_take G.k__law_take (takes_of rfl rfl rfl rfl) G.b__law_take .nil rfl (sa_cons (se_var (pv 2)) (sa_cons se_int sa_nil))) se_int)))) (se_call (ad := false) ((ok__law_pick G).mono (by decide)) hr (by rfl) G.g__law_pick G.k__law_pick (takes_of rfl rfl rfl rfl) G.b__law_pick .nil rfl (sa_cons (se_var (pv 2)) (sa_cons (se_var (pv 6)) sa_nil))) (se_tup (sa_cons (se_call (ad := false) ((ok__law_starts G).mono (by decide)) hr (by rfl) G.g__law_starts G.k__law_starts (takes_of rfl rfl rfl rfl) G.b__law_starts .nil rfl (sa_cons (se_var (pv 5)) (sa_cons (se_var (pv 12)) sa_nil))) (sa_cons (se_var (pv 12)) sa_nil))))))
  (sb_cons (ss_for (passes_of rfl) rfl (si_seq (se_lst (sa_cons (se_var (pv 11)) (sa_cons (se_call (ad := false) ((ok__law_bent G).mono (by decide)) hr (by rfl) G.g__law_bent G.k__law_bent (takes_of rfl rfl rfl rfl) G.b__law_bent .nil rfl (sa_cons (se_var (pv 2)) (sa_cons (se_var (pv 5)) (sa_cons (se_var (pv 11)) sa_nil)))) sa_nil)))) (sg_name (pg_name (i := 13) sc_law.nd rfl (by first | exact .inl rfl | exact .inr rfl)))
  (sb_cons (ss_if (st_not (st_tru (se_call (ad := false) ((ok__law_same G 8).mono (by decide)) hr (by rfl) G.g__law_same G.k__law_same (takes_of rfl rfl rfl rfl) G.b__law_same .nil rfl (sa_cons (se_callK (ad := false) (ks := ["told", "web"]) (ix := [1, 0]) ((ok_part_serves G).mono (by decide)) hr (by rfl) G.g_part_serves G.k_part_serves (takes_of rfl rfl rfl rfl) (kb_part_serves_told_web G) .nil rfl (sk_cons (se_var (pv 13)) (sk_cons (se_var (pv 5)) sk_nil))) (sa_cons (se_call (ad := false) ((ok__law_is_one G).mono (by decide)) hr (by rfl) G.g__law_is_one G.k__law_is_one (takes_of rfl rfl rfl rfl) G.b__law_is_one .nil rfl (sa_cons (se_var (pv 5)) (sa_cons (se_var (pv 13)) sa_nil))) sa_nil)))))
  (sb_cons (ss_ret se_bl)
  sb_nil)
  sb_nil)
  sb_nil))
  sb_nil))))
  sb_nil))))))))
  (sb_cons (ss_ret se_bl)
  sb_nil))
end
end Lw
namespace Lw
open PySem PySem.Spec PyProof.Rows L2 Mir
/-! ### draws -/
abbrev bxO (x : Int × Int) : Option Ob := some (.lst [.int x.1, .int x.2])
structure Bx (x : Int × Int) : Prop where
  a : 0 ≤ x.1
  b : 0 ≤ x.2
  c : x.2 ≤ 2147483647
theorem small_mul {i j : Int} (h1 : 0 ≤ i) (h2 : i ≤ 4294967296) (h3 : 0 ≤ j) (h4 : j ≤ 4294967296) : i.natAbs.log2 + j.natAbs.log2 < 1000000 := by
  have a : i.natAbs < 2 ^ 33 := by omega
  have b : j.natAbs < 2 ^ 33 := by omega
  have la : ∀ n : Nat, n < 2 ^ 33 → n.log2 < 33 := fun n h => by
    by_cases z : n = 0
    · subst z; decide
    · exact (Nat.log2_lt z).mpr h
  have := la _ a; have := la _ b; omega
theorem fMul_eq {i j : Int} (h1 : 0 ≤ i) (h2 : i ≤ 4294967296) (h3 : 0 ≤ j) (h4 : j ≤ 4294967296) : fMul i j = some (.int (i * j)) := by
  unfold fMul; rw [if_pos (small_mul h1 h2 h3 h4)]
theorem fMod_eq {i j : Int} (h : 0 < j) : fMod i j = some (.int (i % j)) := by unfold fMod; rw [if_pos h]
theorem fDiv_eq {i j : Int} (h : 0 < j) (h2 : j.natAbs.log2 < 9000) : fDiv i j = some (.int (i / j)) := by unfold fDiv; rw [if_pos ⟨h, h2⟩]
theorem noLs_get : ∀ {ps : List PV}, noLs ps = true → ∀ p ∈ ps, noL p = true
  | p :: r, h, q, hq => by
    simp only [noLs, Bool.and_eq_true] at h
    rcases List.mem_cons.mp hq with e | e
    · subst e; exact h.1
    · exact noLs_get h.2 q e
section
variable {ρ : En} {S : Sto} {E : XP} {Q : PV → Sto → Prop} {X : XS} {N : En → Sto → Prop} {T : PV → Sto → Prop}
theorem take_eq {x : Int × Int} {m : Int} (B : Bx x) (hm : 0 < m) (hm2 : m.natAbs.log2 < 9000) : ∃ i x', m__law_take [.loc 0, .int m] [bxO x] = .ok (.int i) [bxO x'] ∧ 0 ≤ i ∧ i < m ∧ Bx x' := by
  obtain ⟨u, v⟩ := x
  obtain ⟨ha, hb, hc⟩ := B
  dsimp only at ha hb hc
  have h1 : fMul v 39373 = some (.int (v * 39373)) := fMul_eq hb (by omega) (by decide) (by decide)
  have hd : ∀ z, fDiv z 8209 = some (.int (z / 8209)) := fun z => fDiv_eq (by decide) (by decide)
  have hr0 := Int.emod_nonneg (v * 39373 + 179) (show (2147483647 : Int) ≠ 0 by decide)
  have hr1 := Int.emod_lt_of_pos (v * 39373 + 179) (show (0 : Int) < 2147483647 by decide)
  generalize hr : (v * 39373 + 179) % 2147483647 = r at hr0 hr1
  have hs0 := Int.emod_nonneg (r * 40692 + 53) (show (2147483399 : Int) ≠ 0 by decide)
  have hs1 := Int.emod_lt_of_pos (r * 40692 + 53) (show (0 : Int) < 2147483399 by decide)
  have h2 : fMul r 40692 = some (.int (r * 40692)) := fMul_eq hr0 (by omega) (by decide) (by decide)
  have h3 : fMul r 2147483629 = some (.int (r * 2147483629)) := fMul_eq hr0 (by omega) (by decide) (by decide)
  by_cases h : 0 < u
  · refine ⟨u % m, (u / m, v), of_W ?_, Int.emod_nonneg _ (by omega), Int.emod_lt_of_pos _ hm, ⟨Int.ediv_nonneg ha (by omega), hb, hc⟩⟩
    simp [m__law_take, runM, b__law_take, fMod_eq hm, fDiv_eq hm hm2, h, ixN]
  · refine ⟨(r * 2147483629 + ((r * 40692 + 53) % 2147483399 + 1)) / 8209 % m, (u, (r * 40692 + 53) % 2147483399 + 1), of_W ?_, Int.emod_nonneg _ (Int.ne_of_gt hm), Int.emod_lt_of_pos _ hm, ⟨ha, by dsimp only; omega, by dsimp only; omega⟩⟩
    simp [m__law_take, runM, b__law_take, fMod_eq, fDiv_eq hm hm2, hm, h, h1, hr, h2, h3, hd, ixN]
theorem noLO_bx {x : Int × Int} : noLO (bxO x) = true := rfl
theorem W_take {b : Nat} {x : Int × Int} {m : Int} (B : Bx x) (h : S[b]? = some (bxO x)) (hm : 0 < m) (hm2 : m.natAbs.log2 < 9000) (q : ∀ i x', 0 ≤ i → i < m → Bx x' → Q (.int i) (S.set b (bxO x'))) : W (callM false m__law_take [.loc b, .int m] S) E Q := by
  obtain ⟨i, x', e, h1, h2, B'⟩ := take_eq B hm hm2
  rw [call_one (xs := [.loc 0, .int m]) (o := .lst [.int x.1, .int x.2]) (o' := .lst [.int x'.1, .int x'.2]) (v := .int i) (rest := []) (by simp [splitA, noL]) h rfl rfl rfl e]
  exact q i x' h1 h2 B'
theorem log2_small {m : Int} (h : 0 < m) (h2 : m < 2 ^ 64) : m.natAbs.log2 < 9000 := by
  have h3 : m.natAbs < 2 ^ 64 := by omega
  have : m.natAbs.log2 < 64 := (Nat.log2_lt (by omega)).mpr h3
  omega
theorem W_pickV {ps : List PV} {b : Nat} {x : Int × Int} (hn : noLs ps = true) (B : Bx x) (h : S[b]? = some (bxO x)) (h1 : 0 < ps.length) (h2 : ps.length < 2 ^ 20) (q : ∀ p x', p ∈ ps → Bx x' → Q p (S.set b (bxO x'))) : W (callM false m__law_pick [.loc b, .lst ps] S) E Q := by
  refine W_one (xs := [.loc 0, .lst ps]) (by simp [splitA, noL, hn]) h rfl ?_
  simp [m__law_pick, runM, b__law_pick]
  refine W_take B rfl (by omega) (log2_small (by omega) (by omega)) fun i x' g1 g2 B' => ?_
  have hi : i.toNat < ps.length := by omega
  simp
  refine ⟨ps[i.toNat], atI_of g1 (by simp [hi]), ?_, rfl, q _ x' (List.getElem_mem _) B'⟩
  exact noLs_get hn _ (List.getElem_mem _)
theorem WS_cut {a b : SM} (I : En → Sto → Prop) (h1 : WS (a ρ S) X I T) (h2 : ∀ ρ S, I ρ S → WS (b ρ S) X N T) : WS (sSeq a b ρ S) X N T := by
  rw [WS_seq]; exact WS_mono h1 h2 fun _ _ h => h
/-! ### a box -/
theorem box_W {ns : List Int} {k : Nat} (hk : k < 64) : W (m__law_box [.fls (ns.map .int), .int k] []) nE (fun v S => ∃ x, v = .loc 0 ∧ S = [bxO x] ∧ Bx x) := by
  have hm1 : fMul 7907 (k : Int) = some (.int (7907 * k)) := fMul_eq (by decide) (by decide) (by omega) (by omega)
  have hm2 : fMul 5101 (k : Int) = some (.int (5101 * k)) := fMul_eq (by decide) (by decide) (by omega) (by omega)
  have hm3 : ∀ z : Int, fMod z 2147483563 = some (.int (z % 2147483563)) := fun z => fMod_eq (by decide)
  have hm4 : ∀ z : Int, fMul (z % 2147483563) 60107 = some (.int (z % 2147483563 * 60107)) := fun z => fMul_eq (by omega) (by omega) (by decide) (by decide)
  have hm5 : ∀ z : Int, fMul (z % 2147483563) 40014 = some (.int (z % 2147483563 * 40014)) := fun z => fMul_eq (by omega) (by omega) (by decide) (by decide)
  have habs : ∀ z : Int, 0 ≤ (if z < 0 then -z else z) := fun z => by split <;> omega
  simp only [m__law_box, runM, b__law_box, W_fin]
  refine WS_cut (fun ρ S => ρ = [some (.fls (ns.map .int)), some (.int k), some (.int (7907 * k + 5101))] ∧ S = []) ?_ ?_
  · simp [hm1]
  rintro ρ S ⟨hρ, hS⟩
  subst hρ
  subst hS
  refine WS_cut (fun ρ S => ∃ c : Int, 0 ≤ c ∧ ρ = [some (.fls (ns.map .int)), some (.int k), some (.int c)] ∧ S = []) ?_ ?_
  · by_cases h : (k : Int) < (ns.length : Int)
    · have hk2 : k < ns.length := by omega
      simp [h, hk2]
      refine ⟨.int ns[k], atI_of (by omega) (by simp [hk2]), ?_⟩
      simp
      exact habs _
    · by_cases h2 : 0 < ns.length
      · have hk2 : ¬ k < ns.length := by omega
        have hl : (0 : Int) < (ns.length : Int) := by omega
        simp [h, hk2, h2, hl, fMod_eq hl, hm3, hm4]
        have e0 := Int.emod_nonneg (k : Int) (show (ns.length : Int) ≠ 0 by omega)
        have e1 := Int.emod_lt_of_pos (k : Int) hl
        have hi : ((k : Int) % (ns.length : Int)).toNat < ns.length := by omega
        refine ⟨.int ns[((k : Int) % (ns.length : Int)).toNat], atI_of e0 (by simp [hi]), ?_⟩
        simp [hm3, hm4]
        omega
      · have hk2 : ¬ k < ns.length := by omega
        have h3 : ns.length = 0 := by omega
        simp [h, hk2, h2, h3]
        omega
  rintro ρ S ⟨c, hc, hρ, hS⟩
  subst hρ
  subst hS
  simp [hm2, hm3, hm5, fPow]
  have hb : 0 ≤ (c % 2147483563 * 40014 + 5101 * (k : Int)) % 2147483563 + 1 ∧ (c % 2147483563 * 40014 + 5101 * (k : Int)) % 2147483563 + 1 ≤ 2147483647 := by omega
  by_cases hg : c < 1000000000000000000
  · exact .inl ⟨hg, by decide, _, _, ⟨rfl, rfl⟩, ⟨Int.le_refl _, hb.1, hb.2⟩⟩
  · exact .inr ⟨by omega, by decide, _, _, ⟨rfl, rfl⟩, ⟨hc, hb.1, hb.2⟩⟩
theorem W_box {ns : List Int} {k : Nat} (hk : k < 64) (hn : noLs (ns.map .int) = true) (q : ∀ x, Bx x → Q (.loc S.length) (S ++ [bxO x])) : W (callM true m__law_box [.fls (ns.map .int), .int k] S) E Q := by
  refine W_new0 (by simp [noLs, noL, hn]) (W_mono (box_W hk) ?_)
  rintro v S' ⟨x, rfl, rfl, B⟩
  exact ⟨0, _, rfl, rfl, rfl, q x B⟩
@[simp] theorem W_isiV {f : String → Bool} {x : PV} {t : String} (h : tyIn S x = t) (h2 : (t == "") = false) : W (pIsi f x S) E Q = Q (.bl (f t)) S := by
  unfold pIsi; rw [h, h2]; rfl
@[simp] theorem W_isiTup {f : String → Bool} {ps : List PV} : W (pIsi f (.tup ps) S) E Q = Q (.bl (f "tuple")) S := W_isiV rfl rfl
@[simp] theorem W_isiInt {f : String → Bool} {i : Int} : W (pIsi f (.int i) S) E Q = Q (.bl (f "int")) S := W_isiV rfl rfl
@[simp] theorem W_isiBl {f : String → Bool} {i : Bool} : W (pIsi f (.bl i) S) E Q = Q (.bl (f "bool")) S := W_isiV rfl rfl
@[simp] theorem W_isiNon {f : String → Bool} : W (pIsi f .non S) E Q = Q (.bl (f "NoneType")) S := W_isiV rfl rfl
@[simp] theorem W_isiStr {f : String → Bool} {i : Str} : W (pIsi f (.str i) S) E Q = Q (.bl (f "str")) S := W_isiV rfl rfl
@[simp] theorem W_isNon {x : PV} : W (pIs false x .non S) E Q = Q (.bl (isC x .non)) S := propext Iff.rfl
@[simp] theorem W_isBl {x : PV} {b : Bool} : W (pIs false x (.bl b) S) E Q = Q (.bl (isC x (.bl b))) S := propext Iff.rfl
@[simp] theorem W_isiLst {f : String → Bool} {ps : List PV} : W (pIsi f (.lst ps) S) E Q = Q (.bl (f "list")) S := W_isiV rfl rfl
end
end Lw
namespace Lw
open PySem PySem.Spec PyProof.Rows L2 Mir
/-! ### values of any kind -/
def kvB : Nat → PV → Bool
  | 0, _ => false
  | n + 1, p => match p with
    | .non => true
    | .bl _ => true
    | .int _ => true
    | .str y => (PyData.str y).canLay0
    | .tup ps => decide (ps.length ≤ 1000) && ps.all (kvB n)
    | .lst ps => decide (ps.length ≤ 1000) && ps.all (kvB n)
    | _ => false
theorem noLs_of : ∀ {ps : List PV}, (∀ p ∈ ps, noL p = true) → noLs ps = true
  | [], _ => rfl
  | p :: r, h => by
    simp only [noLs, Bool.and_eq_true]
    exact ⟨h p List.mem_cons_self, noLs_of fun q hq => h q (List.mem_cons_of_mem _ hq)⟩
theorem kvB_tup {n : Nat} {ps : List PV} (h : kvB (n + 1) (.tup ps) = true) : ps.length ≤ 1000 ∧ ∀ p ∈ ps, kvB n p = true := by
  simp only [kvB, Bool.and_eq_true, decide_eq_true_eq, List.all_eq_true] at h; exact h
theorem kvB_lst {n : Nat} {ps : List PV} (h : kvB (n + 1) (.lst ps) = true) : ps.length ≤ 1000 ∧ ∀ p ∈ ps, kvB n p = true := by
  simp only [kvB, Bool.and_eq_true, decide_eq_true_eq, List.all_eq_true] at h; exact h
theorem kvB_noL : ∀ (n : Nat) (p : PV), kvB n p = true → noL p = true
  | 0, _, h => by simp [kvB] at h
  | n + 1, p, h => by
    cases p with
    | tup ps => rw [noL]; exact noLs_of fun p hp => kvB_noL n p ((kvB_tup h).2 p hp)
    | lst ps => rw [noL]; exact noLs_of fun p hp => kvB_noL n p ((kvB_lst h).2 p hp)
    | non => rfl
    | bl _ => rfl
    | int _ => rfl
    | str _ => rfl
    | _ => simp [kvB] at h
def okD (n : Nat) (d : PyData) : Prop := d.canLay0 = true ∧ d.depth ≤ n
theorem toDs_of {n : Nat} : ∀ {ps : List PV}, (∀ p ∈ ps, ∃ d, toD p = some d ∧ okD n d) → ∃ ds, toDs ps = some ds ∧ PyData.canLayAll0 ds = true ∧ PyData.depthAll ds ≤ n ∧ ds.length = ps.length
  | [], _ => ⟨[], rfl, rfl, Nat.zero_le _, rfl⟩
  | p :: r, h => by
    obtain ⟨d, e, h1, h2⟩ := h p List.mem_cons_self
    obtain ⟨ds, e', g1, g2, g3⟩ := toDs_of fun q hq => h q (List.mem_cons_of_mem _ hq)
    refine ⟨d :: ds, by rw [toDs, e, e'], by simp [PyData.canLayAll0, h1, g1], by simp only [PyData.depthAll]; exact Nat.max_le.mpr ⟨h2, g2⟩, by simp [g3]⟩
theorem kvB_D : ∀ (n : Nat) (p : PV), kvB n p = true → ∃ d, toD p = some d ∧ okD n d
  | 0, _, h => by simp [kvB] at h
  | n + 1, p, h => by
    cases p with
    | tup ps =>
      obtain ⟨ds, e, g1, g2, _⟩ := toDs_of fun p hp => kvB_D n p ((kvB_tup h).2 p hp)
      exact ⟨.tuple ds, by rw [toD, e]; rfl, by simp [PyData.canLay0, g1], by simp [PyData.depth, g2]⟩
    | lst ps =>
      obtain ⟨ds, e, g1, g2, _⟩ := toDs_of fun p hp => kvB_D n p ((kvB_lst h).2 p hp)
      exact ⟨.list ds, by rw [toD, e]; rfl, by simp [PyData.canLay0, g1], by simp [PyData.depth, g2]⟩
    | non => exact ⟨_, rfl, rfl, Nat.zero_le _⟩
    | bl _ => exact ⟨_, rfl, rfl, Nat.zero_le _⟩
    | int _ => exact ⟨_, rfl, rfl, Nat.zero_le _⟩
    | str _ => exact ⟨_, rfl, h, Nat.zero_le _⟩
    | _ => simp [kvB] at h
theorem shaped_nil : SeqAt.shaped (.list []) = true := rfl
theorem shaped_nilT : SeqAt.shaped (.tuple []) = true := rfl
theorem eqv_nil {ds : List PyData} : PyData.eqv (.list ds) (.list []) = ds.isEmpty := by cases ds <;> simp [PyData.eqv, PyData.eqvAll]
theorem eqv_nilT {ds : List PyData} : PyData.eqv (.tuple ds) (.tuple []) = ds.isEmpty := by cases ds <;> simp [PyData.eqv, PyData.eqvAll]
theorem empty_len {α β : Type} {xs : List α} {ys : List β} (h : xs.length = ys.length) : xs.isEmpty = ys.isEmpty := by
  cases xs <;> cases ys <;> simp_all
section
variable {ρ : En} {S : Sto} {E : XP} {Q : PV → Sto → Prop} {X : XS} {N : En → Sto → Prop} {T : PV → Sto → Prop}
theorem W_nil {n : Nat} {neg : Bool} {ps : List PV} (h : ∀ p ∈ ps, kvB n p = true) (q : Q (.bl (if neg then !ps.isEmpty else ps.isEmpty)) S) (hn : n ≤ 60 := by decide) : W (pEq neg (.lst ps) (.lst []) S) E Q := by
  obtain ⟨ds, e, g1, g2, g3⟩ := toDs_of fun p hp => kvB_D n p (h p hp)
  have hs : SeqAt.shaped (.list ds) = true := by
    unfold SeqAt.shaped
    rw [Bool.and_eq_true]
    exact ⟨by simp [PyData.canLay0, g1], decide_eq_true (by simp [PyData.depth]; omega)⟩
  simp only [pEq, eqP, drf, toD, e, toDs, Option.map_some, hs, shaped_nil, Bool.and_self, if_true, W_of, Option.some.injEq, exists_eq_left', eqv_nil]
  rw [empty_len g3]; exact q
theorem W_nilT {n : Nat} {neg : Bool} {ps : List PV} (h : ∀ p ∈ ps, kvB n p = true) (q : Q (.bl (if neg then !ps.isEmpty else ps.isEmpty)) S) (hn : n ≤ 60 := by decide) : W (pEq neg (.tup ps) (.tup []) S) E Q := by
  obtain ⟨ds, e, g1, g2, g3⟩ := toDs_of fun p hp => kvB_D n p (h p hp)
  have hs : SeqAt.shaped (.tuple ds) = true := by
    unfold SeqAt.shaped
    rw [Bool.and_eq_true]
    exact ⟨by simp [PyData.canLay0, g1], decide_eq_true (by simp [PyData.depth]; omega)⟩
  simp only [pEq, eqP, drf, toD, e, toDs, Option.map_some, hs, shaped_nilT, Bool.and_self, if_true, W_of, Option.some.injEq, exists_eq_left', eqv_nilT]
  rw [empty_len g3]; exact q
@[simp] theorem W_chain {f f' : P2} {a b c : EM} : W (eChain f f' a b c ρ S) E Q = W (a ρ S) E fun x S => W (b ρ S) E fun y S => W (f x y S) E fun z S => ∃ k, z = .bl k ∧ if k then W (c ρ S) E fun w S => W (f' y w S) E Q else Q (.bl false) S := by
  simp only [eChain, W_bind]
  congr; funext x S; congr; funext y S; congr; funext z S
  cases z with
  | bl k => cases k <;> simp [W_bind, -R.bind]
  | _ => simp
@[simp] theorem W_tchain {f f' : P2} {a b c : EM} {Q : Bool → Sto → Prop} : W (tChainM f f' a b c ρ S) E Q = W (eChain f f' a b c ρ S) E fun v S => ∃ k, v = .bl k ∧ Q k S := by
  simp only [tChainM, W_bind]
  congr; funext v S
  cases v <;> simp
/-! slices of tuples -/
@[simp] theorem W_oNone {Q : Option Int → Sto → Prop} : W (oNone ρ S) E Q = Q none S := propext Iff.rfl
@[simp] theorem W_oSome {m : EM} {Q : Option Int → Sto → Prop} : W (oSome m ρ S) E Q = W (m ρ S) E fun v S => ∃ i, v = .int i ∧ Q (some i) S := by
  simp only [oSome, W_bind]
  congr; funext v S
  cases v <;> simp
@[simp] theorem W_sl {a : EM} {lo hi : OM} : W (eSl a lo hi ρ S) E Q = W (a ρ S) E fun x S => W (lo ρ S) E fun l S => W (hi ρ S) E fun h S => W (pSl x l h S) E Q := by simp only [eSl, W_bind]
@[simp] theorem W_slTup {ps : List PV} {l h : Option Int} : W (pSl (.tup ps) l h S) E Q = Q (.tup (cutP ps l h)) S := propext Iff.rfl
theorem W_addT {xs ys : List PV} (h : xs.length + ys.length ≤ lim) (q : Q (.tup (xs ++ ys)) S) : W (pAdd (.tup xs) (.tup ys) S) E Q := by
  show W (pAddT (.tup xs) (.tup ys) S) E Q
  unfold pAddT; dsimp only; rw [if_pos h]; exact q
theorem W_addL {xs ys : List PV} (h : xs.length + ys.length ≤ lim) (q : Q (.lst (xs ++ ys)) S) : W (pAdd (.lst xs) (.lst ys) S) E Q := by
  show W (pAddL (.lst xs) (.lst ys) S) E Q
  unfold pAddL
  simp only [lstM]
  rw [if_pos h]; exact q
/-! ### numbers -/
def numI (lo hi : Int) : PV → Bool
  | .int i => decide (lo ≤ i) && decide (i ≤ hi)
  | _ => false
theorem numI_int {lo hi : Int} {v : PV} (h : numI lo hi v = true) : ∃ i, v = .int i ∧ lo ≤ i ∧ i ≤ hi := by
  cases v <;> simp [numI] at h
  exact ⟨_, rfl, h⟩
def isI : PV → Bool
  | .int _ => true
  | _ => false
theorem W_isInt {n : Nat} {v : PV} (h : kvB n v = true) (q : Q (.bl (isI v)) S) : W (callM false m_is_int [v] S) E Q := by
  have hn := kvB_noL n v h
  refine W_pure (by simp [noLs, hn]) ?_
  cases n with
  | zero => simp [kvB] at h
  | succ n =>
  cases v <;> first | (simp [kvB] at h; done) | (simp [m_is_int, runM, b_is_int, isTyInt, isTyEq, noL]; simpa [isI] using q)
theorem W_num {n : Nat} {v : PV} {lo hi : Int} (h : kvB n v = true) (q : Q (.bl (numI lo hi v)) S) : W (callM false m_is_number [v, .int lo, .int hi] S) E Q := by
  have hn := kvB_noL n v h
  refine W_pure (by simp [noLs, hn, noL]) ?_
  simp [m_is_number, runM, b_is_number]
  refine W_isInt h ?_
  cases n with
  | zero => simp [kvB] at h
  | succ n =>
  cases v <;> first | (simp [kvB] at h; done) | skip
  case int x =>
    by_cases h1 : lo ≤ x <;> by_cases h2 : x ≤ hi <;> simp [isI, isC, noL, h1, h2] <;> simpa [numI, h1, h2] using q
  all_goals (simp [isI, noL]; simpa [numI] using q)
/-! ### lots -/
def lotA (hi : Int) : Int → List PV → Bool
  | _, [] => true
  | lo, x :: r => match x with
    | .int i => decide (lo ≤ i) && decide (i ≤ hi) && lotA hi (i + 1) r
    | _ => false
def lotV (hi lo : Int) : PV → Bool
  | .tup ps => lotA hi lo ps
  | _ => false
theorem lotA_no {hi lo : Int} {p : PV} {r : List PV} (h : numI lo hi p = false) : lotA hi lo (p :: r) = false := by
  cases p <;> simp [numI] at h <;> simp [lotA]
  intro h1 h2; exact absurd (h h1) (by omega)
theorem W_isLot {n : Nat} {v : PV} {lo hi : Int} (h : kvB (n + 1) v = true) (q : Q (.bl (lotV hi lo v)) S) : W (callM false m_is_lot [v, .int hi, .int lo] S) E Q := by
  have hn := kvB_noL (n + 1) v h
  refine W_pure (by simp [noLs, hn, noL]) ?_
  simp only [m_is_lot, runM, b_is_lot, W_fin]
  cases v <;> first | (simp [kvB] at h; done) | skip
  case tup ps =>
    obtain ⟨_, hp⟩ := kvB_tup h
    simp [isTyEq]
    refine WS_frInv (fun r ρ S => ∃ l o, ρ = [some (.tup ps), some (.int hi), some (.int l), o] ∧ lotA hi l r = lotA hi lo ps ∧ ∀ p ∈ r, kvB n p = true) _ _ _ ⟨lo, none, rfl, rfl, hp⟩ ?_ ?_
    · rintro p r ρ S' ⟨l, o, rfl, e, hr⟩
      have hp0 := hr p List.mem_cons_self
      simp
      refine W_num hp0 ?_
      cases c : numI l hi p with
      | false =>
        rw [lotA_no c] at e
        simp [noL, lotV, ← e] at q ⊢; exact q
      | true =>
        obtain ⟨i, rfl, c1, c2⟩ := numI_int c
        simp
        refine ⟨?_, fun p hp => hr p (List.mem_cons_of_mem _ hp)⟩
        rw [← e]; simp [lotA, c1, c2]
    · rintro ρ S' ⟨l, o, rfl, e, hr⟩
      simp [lotA] at e
      simp [noL, lotV, ← e] at q ⊢; exact q
  all_goals (simp [isTyEq, noL]; simpa [lotV] using q)
end
end Lw
namespace Lw
open PySem PySem.Spec PyProof.Rows L2 Mir
theorem lotA_iff (hi : Int) : ∀ (zs : List Int) (lo : Int), lotA hi lo (zs.map .int) = true ↔ (∀ z ∈ zs, lo ≤ z ∧ z ≤ hi) ∧ zs.Pairwise (· < ·)
  | [], lo => by simp [lotA]
  | z :: r, lo => by
    rw [List.map_cons, lotA]
    simp only [Bool.and_eq_true, decide_eq_true_eq, lotA_iff hi r (z + 1), List.mem_cons, forall_eq_or_imp, List.pairwise_cons]
    constructor
    · rintro ⟨⟨h1, h2⟩, h3, h4⟩
      exact ⟨⟨⟨h1, h2⟩, fun x hx => ⟨by have := (h3 x hx).1; omega, (h3 x hx).2⟩⟩, fun x hx => by have := (h3 x hx).1; omega, h4⟩
    · rintro ⟨⟨⟨h1, h2⟩, h3⟩, h4, h5⟩
      exact ⟨⟨h1, h2⟩, fun x hx => ⟨by have := h4 x hx; omega, (h3 x hx).2⟩, h5⟩
theorem lotA_ints {hi : Int} : ∀ (ps : List PV) (lo : Int), lotA hi lo ps = true → ∃ zs : List Int, ps = zs.map .int
  | [], _, _ => ⟨[], rfl⟩
  | p :: r, lo, h => by
    cases p <;> simp [lotA] at h
    obtain ⟨zs, e⟩ := lotA_ints r _ h.2
    exact ⟨_ :: zs, by rw [e]; rfl⟩
theorem nums_ints {lo hi : Int} : ∀ (ps : List PV), (∀ p ∈ ps, numI lo hi p = true) → ∃ zs : List Int, ps = zs.map .int ∧ ∀ z ∈ zs, lo ≤ z ∧ z ≤ hi
  | [], _ => ⟨[], rfl, by simp⟩
  | p :: r, h => by
    obtain ⟨i, rfl, h1, h2⟩ := numI_int (h p List.mem_cons_self)
    obtain ⟨zs, rfl, hz⟩ := nums_ints r fun q hq => h q (List.mem_cons_of_mem _ hq)
    exact ⟨i :: zs, rfl, fun z hz' => (List.mem_cons.mp hz').elim (fun e => e ▸ ⟨h1, h2⟩) (hz z)⟩
theorem lotA_all {hi lo : Int} {ps : List PV} (h : lotA hi lo ps = true) : ∀ p ∈ ps, numI lo hi p = true := by
  obtain ⟨zs, rfl⟩ := lotA_ints ps lo h
  intro p hp
  obtain ⟨z, hz, rfl⟩ := List.mem_map.mp hp
  have := ((lotA_iff hi zs lo).mp h).1 z hz
  simp [numI, this]
theorem zip_asc : ∀ (zs : List Int), (zs.zip (zs.drop 1)).filter (fun p => decide (p.2 ≤ p.1)) = [] ↔ zs.Pairwise (· < ·)
  | [] => by simp
  | [a] => by simp
  | a :: b :: r => by
    have ih := zip_asc (b :: r)
    rw [List.drop_one, List.tail_cons] at ih
    rw [List.drop_one, List.tail_cons, List.zip_cons_cons, List.pairwise_cons, ← ih]
    by_cases h : b ≤ a
    · rw [List.filter_cons_of_pos (by simpa using h)]
      constructor
      · intro e; cases e
      · rintro ⟨h1, _⟩; have := h1 b List.mem_cons_self; omega
    · rw [List.filter_cons_of_neg (by simpa using h)]
      constructor
      · intro e
        refine ⟨fun x hx => ?_, e⟩
        have hp := List.pairwise_cons.mp (ih.mp e)
        rcases List.mem_cons.mp hx with rfl | hx
        · omega
        · have := hp.1 x hx; omega
      · exact fun e => e.2
theorem cut_tl (ps : List PV) : cutP ps (some 1) none = ps.drop 1 := by
  cases ps with
  | nil => rfl
  | cons a r =>
    unfold cutP
    have e1 : HT.sIx (a :: r).length 0 (some 1) = 1 := by
      simp [HT.sIx]
      try omega
    have e2 : HT.sIx (a :: r).length (a :: r).length none = (a :: r).length := rfl
    rw [e1, e2]
    simp
theorem cut3 (a b c d : PV) : cutP [a, b, c, d] none (some 3) = [a, b, c] := rfl
theorem zip2_ints (xs ys : List Int) : zip2P (xs.map .int) (ys.map .int) = (xs.zip ys).map fun p => PV.tup [.int p.1, .int p.2] := by
  unfold zip2P
  induction xs generalizing ys with
  | nil => rfl
  | cons a r ih => cases ys with
    | nil => rfl
    | cons b t => simp [ih]
theorem kvB_mkT {n : Nat} {ps : List PV} (h : ps.length ≤ 1000) (h2 : ∀ p ∈ ps, kvB n p = true) : kvB (n + 1) (.tup ps) = true := by
  simp only [kvB, Bool.and_eq_true, decide_eq_true_eq, List.all_eq_true]; exact ⟨h, h2⟩
theorem kvB_mkL {n : Nat} {ps : List PV} (h : ps.length ≤ 1000) (h2 : ∀ p ∈ ps, kvB n p = true) : kvB (n + 1) (.lst ps) = true := by
  simp only [kvB, Bool.and_eq_true, decide_eq_true_eq, List.all_eq_true]; exact ⟨h, h2⟩
def inK (z : Int) (ks : List PV) : Bool := ks.any fun p => decide (keyOf p = some (.inl z))
theorem gGet_any {k : Key} : ∀ {ks vs : List PV}, ks.length = vs.length → (gGet keyOf k ks vs).isSome = ks.any fun p => decide (keyOf p = some k)
  | [], [], _ => rfl
  | p :: r, v :: s, h => by
    have ih := gGet_any (k := k) (ks := r) (vs := s) (by simpa using h)
    rw [gGet, List.any_cons]
    by_cases e : keyOf p = some k
    · simp [e]
    · simp [e, ih]
  | [], v :: s, h => by simp at h
  | p :: r, [], h => by simp at h
theorem gPut_len {k : Key} {kp v : PV} {ks vs : List PV} (h : ks.length = vs.length) : (gPut keyOf k kp v ks vs).1.length = (gPut keyOf k kp v ks vs).2.length := by
  unfold gPut; split
  · simp [h]
  · simp [h]
theorem gPut_in {z y : Int} {v : PV} {ks vs : List PV} : inK z (gPut keyOf (.inl y) (.int y) v ks vs).1 = (inK z ks || decide (y = z)) := by
  have hk : keyOf (.int y) = some (.inl y) := rfl
  unfold gPut; split
  · rename_i h
    dsimp only
    by_cases e : y = z
    · subst e
      have : inK y ks = true := h
      simp [this]
    · simp [e]
  · rename_i h
    unfold inK
    simp [hk]
def dataB : Nat → PV → Bool
  | 0, _ => false
  | n + 1, p => match p with
    | .non => true
    | .bl _ => true
    | .int _ => true
    | .str y => SeqAt.shaped (.str y) && PyData.eqv (.str y) (.str y)
    | .tup ps => ps.all (dataB n)
    | _ => false
theorem dataB_noL : ∀ (n : Nat) (p : PV), dataB n p = true → noL p = true
  | 0, _, h => by simp [dataB] at h
  | n + 1, p, h => by
    cases p with
    | tup ps =>
      simp only [dataB, List.all_eq_true] at h
      rw [noL]
      have := noLs_map (f := id) (l := ps) fun p hp => dataB_noL n p (h p hp)
      simpa using this
    | non => rfl
    | bl _ => rfl
    | int _ => rfl
    | str _ => rfl
    | _ => simp [dataB] at h
theorem rg_get {n : Nat} {p : PV} (h : p ∈ rng 0 n) : ∃ k : Nat, p = .int k ∧ k < n := by
  rw [rng_zero, List.mem_map] at h
  obtain ⟨k, hk, rfl⟩ := h
  exact ⟨k, rfl, List.mem_range.mp hk⟩
def shrB : Nat → PV → Bool
  | 0, _ => false
  | n + 1, p => match p with
    | .tup ps => decide (ps.length ≤ 1000) && ps.all (shrB n)
    | _ => true
theorem kv_shr : ∀ (n : Nat) (p : PV), kvB n p = true → shrB n p = true
  | 0, _, h => by simp [kvB] at h
  | n + 1, p, h => by
    cases p with
    | tup ps =>
      obtain ⟨h1, h2⟩ := kvB_tup h
      simp only [shrB, Bool.and_eq_true, decide_eq_true_eq, List.all_eq_true]
      exact ⟨h1, fun p hp => kv_shr n p (h2 p hp)⟩
    | _ => rfl
def Is {ι : Type} (g : ι → PV) (P : ι → Prop) (v : PV) : Prop := ∃ i, v = g i ∧ P i
theorem is_of {ι : Type} {g : ι → PV} {P : ι → Prop} : ∀ {ws : List PV}, (∀ w ∈ ws, Is g P w) → ∃ zs : List ι, ws = zs.map g ∧ ∀ z ∈ zs, P z
  | [], _ => ⟨[], rfl, by simp⟩
  | w :: ws, h => by
    obtain ⟨c, rfl, hc⟩ := h w List.mem_cons_self
    obtain ⟨fs, rfl, hf⟩ := is_of fun w hw => h w (List.mem_cons_of_mem _ hw)
    exact ⟨c :: fs, rfl, fun z hz => (List.mem_cons.mp hz).elim (fun e => e ▸ hc) (hf z)⟩
theorem filT {α : Type} (l : List α) : l.filter (fun _ => true) = l := List.filter_eq_self.mpr fun _ _ => rfl
def BS (S : Sto) : Prop := ∃ x, S = [bxO x] ∧ Bx x
def Kl (n L : Nat) (ps : List PV) : Prop := ps.length ≤ L ∧ ∀ p ∈ ps, kvB n p = true
theorem kv_up : ∀ (n : Nat) (p : PV), kvB n p = true → kvB (n + 1) p = true
  | 0, _, h => by simp [kvB] at h
  | n + 1, p, h => by
    cases p with
    | tup ps => exact kvB_mkT (kvB_tup h).1 fun q hq => kv_up n q ((kvB_tup h).2 q hq)
    | lst ps => exact kvB_mkL (kvB_lst h).1 fun q hq => kv_up n q ((kvB_lst h).2 q hq)
    | non => rfl
    | bl _ => rfl
    | int _ => rfl
    | str _ => exact h
    | _ => simp [kvB] at h
theorem cut_mem {ps : List PV} {l h : Option Int} {p : PV} (hp : p ∈ cutP ps l h) : p ∈ ps := by
  unfold cutP at hp
  exact List.mem_of_mem_drop (List.mem_of_mem_take hp)
theorem cut_len (ps : List PV) (l h : Option Int) : (cutP ps l h).length ≤ ps.length := by
  unfold cutP
  rw [List.length_take, List.length_drop]; omega
section
variable {n L M : Nat} {ps qs : List PV} {p : PV}
theorem Kl.cut {l h : Option Int} (k : Kl n L ps) : Kl n L (cutP ps l h) := ⟨Nat.le_trans (cut_len _ _ _) k.1, fun p hp => k.2 p (cut_mem hp)⟩
theorem Kl.app (k : Kl n L ps) (k2 : Kl n M qs) : Kl n (L + M) (ps ++ qs) := ⟨by have := k.1; have := k2.1; simp; omega, fun p hp => (List.mem_append.mp hp).elim (k.2 p) (k2.2 p)⟩
theorem Kl.nil : Kl n 0 [] := ⟨Nat.le_refl _, by simp⟩
theorem Kl.cons (h : kvB n p = true) (k : Kl n L ps) : Kl n (L + 1) (p :: ps) := ⟨by have := k.1; simp; omega, fun q hq => (List.mem_cons.mp hq).elim (fun e => e ▸ h) (k.2 q)⟩
theorem Kl.one (h : kvB n p = true) : Kl n 1 [p] := Kl.nil.cons h
theorem Kl.up (k : Kl n L ps) : Kl (n + 1) L ps := ⟨k.1, fun p hp => kv_up n p (k.2 p hp)⟩
theorem Kl.le (k : Kl n L ps) (h : L ≤ M) : Kl n M ps := ⟨Nat.le_trans k.1 h, k.2⟩
theorem Kl.tup (k : Kl n L ps) (h : L ≤ 1000 := by decide) : kvB (n + 1) (.tup ps) = true := kvB_mkT (Nat.le_trans k.1 h) k.2
theorem Kl.lst (k : Kl n L ps) (h : L ≤ 1000 := by decide) : kvB (n + 1) (.lst ps) = true := kvB_mkL (Nat.le_trans k.1 h) k.2
theorem Kl.noLs (k : Kl n L ps) : Mir.noLs ps = true := noLs_of fun p hp => kvB_noL n p (k.2 p hp)
end
section
variable {ρ : En} {S : Sto} {E : XP} {Q : PV → Sto → Prop} {X : XS} {N : En → Sto → Prop} {T : PV → Sto → Prop}
@[simp] theorem atI_two {α : Type} {a b c : α} {r : List α} : atI (a :: b :: c :: r) 2 = some c := atI_nat (n := 2)
@[simp] theorem atI_three {α : Type} {a b c d : α} {r : List α} : atI (a :: b :: c :: d :: r) 3 = some d := atI_nat (n := 3)
theorem four_of {ps : List PV} (h : ps.length = 4) : ∃ a b c d, ps = [a, b, c, d] := by
  rcases ps with _ | ⟨a, _ | ⟨b, _ | ⟨c, _ | ⟨d, _ | ⟨e, r⟩⟩⟩⟩⟩ <;> simp at h
  exact ⟨a, b, c, d, rfl⟩
def tupN (k : Int) : PV → Bool
  | .tup ps => decide ((ps.length : Int) = k)
  | _ => false
theorem W_isTuple {n : Nat} {v : PV} {k : Int} (h : kvB n v = true) (q : Q (.bl (tupN k v)) S) : W (callM false m_is_tuple [v, .int k] S) E Q := by
  refine W_pure (by simp [noLs, kvB_noL _ _ h, noL]) ?_
  cases n with
  | zero => simp [kvB] at h
  | succ n =>
  cases v <;> first | (simp [kvB] at h; done) | skip
  case tup ps =>
    by_cases c : (ps.length : Int) = k <;> simp [m_is_tuple, runM, b_is_tuple, isTyEq, isC, c, noL] <;> simpa [tupN, c] using q
  all_goals (simp [m_is_tuple, runM, b_is_tuple, isTyEq, noL]; simpa [tupN] using q)
theorem W_inD {neg : Bool} {z : Int} {ks vs : List PV} (h : ks.length = vs.length) (q : Q (.bl (if neg then !inK z ks else inK z ks)) S) : W (pInD neg (.int z) (.dct false ks vs) S) E Q := by
  have e : dLook false ks vs (.int z) = some (gGet keyOf (.inl z) ks vs) := rfl
  simp only [pInD, dctAt, pDIn, e, gGet_any h, W_ok]
  exact q
theorem W_dc {mi : AM} {vs : List Nat} {t : CM} {c : TM} {mk mv : EM} (h : W (mi ρ S) E fun ps S1 => W (dcL t c mk mv (wipeE ρ vs) ps [] [] S1) nE fun q S2 => ps.length < lim ∧ Q (.dct false q.1 q.2) S2) : W (eDc mi vs t c mk mv ρ S) E Q := by
  simp only [eDc, W_bind]
  refine W_mono h fun ps S1 q => ?_
  obtain ⟨ws, S2, e, hl, q⟩ := W_get q
  rw [if_pos hl, e, R.nx]
  exact q
theorem WS_whl {c : TM} {b : SM} (I : Nat → En → Sto → Prop) (hs : ∀ k ρ S, I k ρ S → W (c ρ S) (fun c a S => X c a ρ S) fun d S1 => if d then WS (b ρ S1) X (fun ρ2 S2 => ∃ j, j < k ∧ I j ρ2 S2) T else N ρ S1) : ∀ (n k : Nat) (ρ : En) (S : Sto), k < n → I k ρ S → WS (whl c b n ρ S) X N T
  | 0, _, _, _, h, _ => absurd h (Nat.not_lt_zero _)
  | n + 1, k, ρ, S, h, i => by
    rw [whl, WS_bindS]
    refine W_mono (hs k ρ S i) (fun d S1 q => ?_) (fun c a S h => h)
    cases d with
    | false => exact q
    | true =>
      rw [if_pos rfl] at q ⊢
      cases e : b ρ S1 with
      | nx ρ2 S2 =>
        rw [e] at q
        obtain ⟨j, hj, ij⟩ := q
        exact WS_whl I hs n j ρ2 S2 (by omega) ij
      | rt v S2 => rw [e] at q; exact q
      | exc c a ρ2 S2 => rw [e] at q; exact q
      | bk ρ2 S2 => rw [e] at q; exact q.elim
      | ct ρ2 S2 => rw [e] at q; exact q.elim
      | fail => rw [e] at q; exact q.elim
theorem kv_ints {n : Nat} {zs : List Int} : ∀ p ∈ zs.map PV.int, kvB (n + 1) p = true := fun p hp => by
  obtain ⟨z, _, rfl⟩ := List.mem_map.mp hp; rfl
@[simp] theorem eqBl {a b : Bool} : W (pEq false (.bl a) (.bl b) S) E Q = Q (.bl (a == b)) S := by
  have e : eqP false (.bl a) (.bl b) = some (.bl (a == b)) := by cases a <;> cases b <;> rfl
  simp [pEq, drf, e]
theorem same_W : ∀ (n : Nat) (p : PV), dataB n p = true → shrB n p = true → ∀ S, W (m__law_same n [p, p] S) nE fun v S' => v = .bl true
  | 0, _, h, _, _ => by simp [dataB] at h
  | n + 1, p, h, hs, S => by
    cases p with
    | non => simp [m__law_same, runM, b__law_same, isTyEq, isC, isTyInt]
    | bl b => cases b <;> simp [m__law_same, runM, b__law_same, isTyEq, isC, isTyInt]
    | int i => simp [m__law_same, runM, b__law_same, isTyEq, isC, isTyInt]
    | str y =>
      simp only [dataB, Bool.and_eq_true] at h
      simp [m__law_same, runM, b__law_same, isTyEq, isC, isTyInt, pEq, eqP, drf, toD, h.1, h.2]
    | tup ps =>
      simp only [dataB, List.all_eq_true] at h
      simp only [shrB, Bool.and_eq_true, decide_eq_true_eq, List.all_eq_true] at hs
      obtain ⟨hl, hs⟩ := hs
      simp [m__law_same, runM, b__law_same, isTyEq]
      refine W_lc ?_
      have e : inW (ps.length : Int) = true := by unfold inW; rw [decide_eq_true_eq]; omega
      simp [wipeE, e]
      refine W_lcPure (fun _ => false) id _ (fun p hp => ?_) ?_
      · obtain ⟨k, rfl, hk⟩ := rg_get hp
        refine ⟨_, rfl, of_W ?_, fun z => by cases z⟩
        have hi : atI ps (k : Int) = some ps[k] := atI_of (by omega) (by simp [hk])
        simp [hi]
        have hm := List.getElem_mem hk
        have hn := dataB_noL n _ (h _ hm)
        refine W_pure (by simp [noLs, hn]) (W_mono (same_W n _ (h _ hm) (hs _ hm) []) fun v S' e => ?_)
        subst e
        simp [noL]
      · simp
        refine ⟨by simp [rng]; unfold lim; omega, ?_⟩
        exact W_nil (n := 1) (by simp) (by simp)
    | _ => simp [dataB] at h
theorem W_same {n : Nat} {p : PV} (h : dataB n p = true) (hs : shrB n p = true) (q : Q (.bl true) S) : W (callM false (m__law_same n) [p, p] S) E Q := by
  refine W_pure (by simp [noLs, dataB_noL n p h]) (W_mono (same_W n p h hs []) fun v S' e => ?_)
  subst e
  exact ⟨rfl, q⟩
theorem W_lcAny {t : CM} {c : TM} {m : EM} {P : PV → Prop} {I : Sto → Prop} : ∀ (ps : List PV) (S : Sto), I S → (∀ p ∈ ps, ∀ S, I S → ∃ ρ1, t p ρ = some ρ1 ∧ W (c ρ1 S) nE fun d S1 => I S1 ∧ W (m ρ1 S1) nE fun v S' => P v ∧ I S') →
    W (lcL t c m ρ ps S) nE fun ws S' => (ws.length ≤ ps.length ∧ ∀ w ∈ ws, P w) ∧ I S'
  | [], S, h, _ => ⟨⟨Nat.le_refl _, by simp⟩, h⟩
  | p :: r, S, h, hs => by
    obtain ⟨ρ1, e, q⟩ := hs p List.mem_cons_self S h
    rw [lcL, e]
    dsimp only
    rw [W_nx]
    refine W_mono q fun d S1 ⟨i1, q1⟩ => ?_
    cases d with
    | true =>
      rw [if_pos rfl, W_nx]
      refine W_mono q1 fun v S2 ⟨pv, i2⟩ => ?_
      rw [W_nx]
      refine W_mono (W_lcAny r S2 i2 fun p' hp => hs p' (List.mem_cons_of_mem _ hp)) fun ws S3 ⟨⟨hl, hw⟩, i3⟩ => ?_
      exact ⟨⟨by simp; exact hl, fun w hw' => (List.mem_cons.mp hw').elim (fun e => e ▸ pv) (hw w)⟩, i3⟩
    | false =>
      rw [if_neg Bool.false_ne_true]
      refine W_mono (W_lcAny r S1 i1 fun p' hp => hs p' (List.mem_cons_of_mem _ hp)) fun ws S3 ⟨⟨hl, hw⟩, i3⟩ => ?_
      exact ⟨⟨Nat.le_succ_of_le hl, hw⟩, i3⟩
theorem eqTupNil {zs : List Int} {Q : PV → Sto → Prop} (q : ∀ c, Q (.bl c) S) : W (pEq false (.tup (zs.map .int)) (.tup []) S) E Q := W_nilT (n := 1) kv_ints (q _)
theorem W_addK {n L M : Nat} {xs ys : List PV} (k1 : Kl n L xs) (k2 : Kl n M ys) (q : Kl n (L + M) (xs ++ ys) → Q (.tup (xs ++ ys)) S) (h : L + M ≤ 1000 := by decide) : W (pAdd (.tup xs) (.tup ys) S) E Q :=
  W_addT (by have := k1.1; have := k2.1; unfold lim; omega) (q (k1.app k2))
theorem W_addKL {n L M : Nat} {xs ys : List PV} (k1 : Kl n L xs) (k2 : Kl n M ys) (q : Kl n (L + M) (xs ++ ys) → Q (.lst (xs ++ ys)) S) (h : L + M ≤ 1000 := by decide) : W (pAdd (.lst xs) (.lst ys) S) E Q :=
  W_addL (by have := k1.1; have := k2.1; unfold lim; omega) (q (k1.app k2))
theorem W_listT {ps : List PV} (q : Q (.lst ps) S) : W (pList [.tup ps] S) E Q := q
theorem W_lcK {n m L : Nat} {mi : AM} {vs : List Nat} {t : CM} {e : EM} {ps : List PV} (k : Kl n L ps) (h0 : W (mi ρ S) E fun ps' S1 => ps' = ps ∧ S1 = S) (hs : ∀ p, kvB n p = true → ∃ ρ1, t p (wipeE ρ vs) = some ρ1 ∧ W (e ρ1 S) nE fun v S' => kvB m v = true ∧ S' = S)
    (q : ∀ ws, Kl m L ws → Q (.lst ws) S) (hL : L ≤ 1000 := by decide) : W (eLc false mi vs t tTrue e ρ S) E Q := by
  refine W_lc (W_mono h0 ?_)
  rintro ps' S1 ⟨rfl, rfl⟩
  have hk := k.1
  refine W_mono (W_lcAll (P := fun v => kvB m v = true) (I := fun S' => S' = S1) _ _ rfl fun p hp S2 e2 => ?_) ?_
  · subst e2; exact hs p (k.2 p hp)
  · rintro ws S2 ⟨⟨h1, h2⟩, rfl⟩
    exact ⟨by unfold lim; omega, q ws ⟨by omega, h2⟩⟩
/-! ### numbers of places and roads -/
abbrev nL (l : List Nat) : List PV := l.map fun (k : Nat) => PV.int k
theorem noLs_n (l : List Nat) : noLs (nL l) = true := noLs_map fun _ _ => rfl
theorem kv_n {n : Nat} {l : List Nat} : ∀ p ∈ nL l, kvB (n + 1) p = true := fun p hp => by
  obtain ⟨k, _, rfl⟩ := List.mem_map.mp hp; rfl
theorem toDs_n : ∀ l : List Nat, toDs (nL l) = some (l.map fun (k : Nat) => PyData.int k)
  | [] => rfl
  | a :: r => by
    show (match toD (.int a), toDs (nL r) with | some d, some ds => some (d :: ds) | _, _ => none) = _
    rw [toDs_n r]; rfl
theorem lay_n : ∀ l : List Nat, PyData.canLayAll0 (l.map fun (k : Nat) => PyData.int k) = true
  | [] => rfl
  | a :: r => by rw [List.map_cons, PyData.canLayAll0, lay_n r]; rfl
theorem any_n (l : List Nat) (k : Nat) : (l.map fun (k : Nat) => PyData.int k).any (fun z => PyData.eqv z (.int k)) = decide (k ∈ l) := by
  induction l with
  | nil => rfl
  | cons a r ih =>
    rw [List.map_cons, List.any_cons, ih]
    have e : PyData.eqv (.int (a : Int)) (.int (k : Int)) = decide (k = a) := by
      simp only [PyData.eqv]
      rw [Bool.eq_iff_iff, beq_iff_eq, decide_eq_true_eq]; omega
    rw [e]
    by_cases h : k = a <;> by_cases h2 : k ∈ r <;> simp [h, h2]
theorem W_inT {neg : Bool} {k : Nat} {l : List Nat} (q : Q (.bl (if neg then !decide (k ∈ l) else decide (k ∈ l))) S) : W (pIn neg (.int k) (.tup (nL l)) S) E Q := by
  have hs : SeqAt.shaped (.int (k : Int)) = true := rfl
  simp only [pIn, inP, drf, toD, toDs_n, Option.map_some, Option.bind_some, seqD, hs, lay_n, Bool.and_self, if_true, W_of, Option.some.injEq, exists_eq_left', any_n]
  exact q
theorem W_inL {neg : Bool} {k : Nat} {l : List Nat} (q : Q (.bl (if neg then !decide (k ∈ l) else decide (k ∈ l))) S) : W (pIn neg (.int k) (.lst (nL l)) S) E Q := by
  have hs : SeqAt.shaped (.int (k : Int)) = true := rfl
  simp only [pIn, inP, drf, toD, toDs_n, Option.map_some, Option.bind_some, seqD, hs, lay_n, Bool.and_self, if_true, W_of, Option.some.injEq, exists_eq_left', any_n]
  exact q
theorem atI_n {l : List Nat} {k : Nat} (h : k < l.length) : atI (nL l) (k : Int) = some (.int (l[k] : Nat)) := atI_of (by omega) (by simp [h])
theorem W_deep {m : FM} {as : List PV} (ha : noLs as = true) (w : W (m as []) nE fun v S' => ∃ v', deepT 0 S' v = some v' ∧ Q v' S) : W (callM false m as S) E Q := by
  obtain ⟨v, S', e, v', hd, q⟩ := W_get w
  have hb : backR false [] S S' v = .ok v' S := by
    unfold backR
    cases v <;> simp [hd]
  simp [callM, splitA_pure 0 ha, subS, e, backS, hb]
  exact q
end
/-! ### webs -/
abbrev Rn := Nat × Nat × List Nat × Nat
def rnV (r : Rn) : PV := .tup [.int r.1, .int r.2.1, .tup (nL r.2.2.1), .int r.2.2.2]
abbrev webV (zs : List Nat) (ws : List Rn) : PV := .tup [.tup (nL zs), .tup (ws.map rnV)]
def wb (zs : List Nat) (ws : List Rn) : Ec.Wb where
  n := zs.length
  m := ws.length
  src := fun k => (ws[k]?.getD (0, 0, [], 0)).1
  dst := fun k => (ws[k]?.getD (0, 0, [], 0)).2.1
  ch := fun p => decide (zs[p]?.getD 0 = 2)
structure WOk (zs : List Nat) (ws : List Rn) : Prop where
  ok : (wb zs ws).Ok
  n0 : 0 < zs.length
  n1 : zs.length ≤ 4
  m1 : ws.length ≤ 7
  lot : ∀ r ∈ ws, r.2.2.1.length ≤ 3
  lnd : ∀ r ∈ ws, r.2.2.1.Nodup
theorem kv_rn {n : Nat} {r : Rn} (h : r.2.2.1.length ≤ 3) : kvB (n + 3) (rnV r) = true := by
  refine kvB_mkT (by simp) fun p hp => ?_
  simp only [List.mem_cons, List.not_mem_nil, or_false] at hp
  rcases hp with rfl | rfl | rfl | rfl
  · rfl
  · rfl
  · exact kvB_mkT (by simp; omega) kv_n
  · rfl
theorem WOk.noL {zs : List Nat} {ws : List Rn} (h : WOk zs ws) : Mir.noL (webV zs ws) = true := by
  have : noLs (ws.map rnV) = true := noLs_of fun p hp => by
    obtain ⟨r, hr, rfl⟩ := List.mem_map.mp hp
    exact kvB_noL 3 _ (kv_rn (h.lot r hr))
  simp [Mir.noL, noLs, noLs_n, this]
end Lw
namespace Lw
open PySem PySem.Spec PyProof.Rows L2 Mir
section
variable {ρ : En} {S : Sto} {E : XP} {Q : PV → Sto → Prop} {X : XS} {N : En → Sto → Prop} {T : PV → Sto → Prop} {zs : List Nat} {ws : List Rn}
@[simp] theorem W_rn0 {r : Rn} : W (pIx (rnV r) (.int 0) S) E Q = Q (.int r.1) S := by unfold rnV; simp
@[simp] theorem W_rn1 {r : Rn} : W (pIx (rnV r) (.int 1) S) E Q = Q (.int r.2.1) S := by unfold rnV; simp
@[simp] theorem W_rn2 {r : Rn} : W (pIx (rnV r) (.int 2) S) E Q = Q (.tup (nL r.2.2.1)) S := by unfold rnV; simp
theorem atI_rn {k : Nat} (h : k < ws.length) : atI (ws.map rnV) (k : Int) = some (rnV ws[k]) := atI_of (by omega) (by simp [h])
theorem src_eq {k : Nat} (h : k < ws.length) : (wb zs ws).src k = ws[k].1 := by simp [wb, h]
theorem dst_eq {k : Nat} (h : k < ws.length) : (wb zs ws).dst k = ws[k].2.1 := by simp [wb, h]
theorem blsOf_map : ∀ bs : List Bool, blsOf (bs.map .bl) = some bs
  | [] => rfl
  | b :: r => by rw [List.map_cons, blsOf, blsOf_map r]; rfl
theorem W_bls {f : List Bool → Bool} {bs : List Bool} (q : Q (.bl (f bs)) S) : W (pBls f [.lst (bs.map .bl)] S) E Q := by
  have e : (lstL S (.lst (bs.map .bl))).bind blsOf = some bs := blsOf_map bs
  simp only [pBls, e, W_ok]
  exact q
theorem noLs_rn (ok : WOk zs ws) : noLs (ws.map rnV) = true := noLs_of fun p hp => by
  obtain ⟨r, hr, rfl⟩ := List.mem_map.mp hp
  exact kvB_noL 3 _ (kv_rn (ok.lot r hr))
theorem W_within {P R : List Nat} (ok : WOk zs ws) (hR : ∀ k ∈ R, k < ws.length) (hl : R.length ≤ 1000) (q : Q (.tup (nL (Ec.within (wb zs ws) P R))) S) : W (callM false m_roads_within [webV zs ws, .tup (nL P), .tup (nL R)] S) E Q := by
  have hw := ok.noL
  refine W_pure (by simp [noLs, noLs_rn ok, noL, noLs_n]) ?_
  simp [m_roads_within, runM, b_roads_within]
  refine W_lc ?_
  simp [wipeE]
  refine W_lcMap _ (fun (k : Nat) => decide ((wb zs ws).src k ∈ P) && decide ((wb zs ws).dst k ∈ P)) (fun (k : Nat) => PV.int k) R (fun k hk => ⟨_, rfl, ?_, fun _ => by simp⟩) ?_
  · have hk2 := hR k hk
    simp only [W_tand, W_tbin, W_bin, W_var, W_c]
    refine ⟨_, rfl, ?_⟩
    rw [W_ixTup]
    refine ⟨_, atI_one, _, rfl, ?_⟩
    rw [W_ixTup]
    refine ⟨_, atI_rn hk2, ?_⟩
    rw [W_rn0]
    refine ⟨_, rfl, W_inT ⟨_, rfl, ?_⟩⟩
    rw [src_eq hk2, dst_eq hk2]
    cases h1 : decide (ws[k].1 ∈ P) with
    | false => simp
    | true =>
      simp only [Bool.false_eq_true, if_false, if_true, Bool.true_and]
      refine ⟨_, rfl, ?_⟩
      rw [W_ixTup]
      refine ⟨_, atI_one, _, rfl, ?_⟩
      rw [W_ixTup]
      refine ⟨_, atI_rn hk2, ?_⟩
      rw [W_rn1]
      exact ⟨_, rfl, W_inT ⟨_, rfl, rfl, rfl⟩⟩
  · refine ⟨by unfold lim; omega, noLs_n _, q⟩
theorem W_isWithin {a b : List Nat} (q : Q (.bl (a.all fun k => decide (k ∈ b))) S) : W (callM false m_is_within [.tup (nL a), .tup (nL b)] S) E Q := by
  refine W_pure (by simp [noLs, noL, noLs_n]) ?_
  simp only [m_is_within, runM, b_is_within, W_fin]
  refine WS_cut (fun ρ S' => a.all (fun k => decide (k ∈ b)) = true) ?_ ?_
  · rw [WS_for, W_iseq, W_var]
    refine ⟨_, rfl, _, rfl, ?_⟩
    refine WS_frInv (fun r ρ S' => ∃ l o, r = nL l ∧ l.all (fun k => decide (k ∈ b)) = a.all (fun k => decide (k ∈ b)) ∧ ρ = [some (.tup (nL a)), some (.tup (nL b)), o]) _ _ _ ⟨a, none, rfl, rfl, rfl⟩ ?_ ?_
    · rintro p r ρ S' ⟨l, o, e, hl, rfl⟩
      cases l with
      | nil => cases e
      | cons x l =>
      cases e
      simp only [WS_gNm, List.set, WS_seq, WS_if, W_tbin, W_bin, W_var, List.getElem?_cons_succ, List.getElem?_cons_zero, Option.some.injEq, exists_eq_left']
      refine W_inT ⟨_, rfl, ?_⟩
      rw [List.all_cons] at hl
      simp only [if_true]
      cases h : decide (x ∈ b) with
      | true =>
        rw [h, Bool.true_and] at hl
        exact ⟨l, _, rfl, hl, rfl⟩
      | false =>
        rw [h, Bool.false_and] at hl
        rw [← hl] at q
        exact ⟨rfl, q⟩
    · rintro ρ S' ⟨l, o, e, hl, rfl⟩
      cases l with
      | nil => rw [← hl]; rfl
      | cons x l => cases e
  · intro ρ S' h
    rw [h] at q
    simp [noL]; exact q
abbrev outsP (zs : List Nat) (ws : List Rn) : List PV := (List.range zs.length).map fun p => .lst (nL (Ec.outs (wb zs ws) p))
theorem noLs_outs : noLs (outsP zs ws) = true := noLs_of fun p hp => by
  obtain ⟨k, _, rfl⟩ := List.mem_map.mp hp
  rw [noL]; exact noLs_n _
theorem W_canStay {p : Nat} {R : List Nat} (ok : WOk zs ws) (hp : p < zs.length) (q : Q (.bl (Ec.stay (wb zs ws) R p)) S) : W (callM false m_can_stay [webV zs ws, .int p, .lst (outsP zs ws), .tup (nL R)] S) E Q := by
  have hw := ok.noL
  refine W_pure (by simp [noLs, noLs_rn ok, noL, noLs_n, noLs_outs]) ?_
  simp only [m_can_stay, runM, b_can_stay, W_fin]
  have hx : atI (outsP zs ws) (p : Int) = some (.lst (nL (Ec.outs (wb zs ws) p))) := atI_of (by omega) (by simp [hp])
  have hol : (Ec.outs (wb zs ws) p).length ≤ 7 := by
    have h1 := List.length_filter_le (fun k => decide ((wb zs ws).src k = p)) (List.range (wb zs ws).m)
    rw [List.length_range] at h1
    have h2 : (wb zs ws).m = ws.length := rfl
    have := ok.m1
    unfold Ec.outs; omega
  refine WS_cut (fun ρ S' => S' = [] ∧ ρ = [some (webV zs ws), some (.int p), some (.lst (outsP zs ws)), some (.tup (nL R)), some (.lst (((Ec.outs (wb zs ws) p).map fun k => decide (k ∈ R)).map .bl)), none]) ?_ ?_
  · rw [WS_nm]
    refine W_lc ?_
    simp only [W_iseq, W_bin, W_var]
    refine ⟨_, rfl, _, rfl, ?_⟩
    rw [W_ixLst]
    refine ⟨_, hx, _, rfl, ?_⟩
    refine W_lcMap _ (fun _ => true) (fun (k : Nat) => PV.bl (decide (k ∈ R))) _ (fun k hk => ⟨_, rfl, ?_, fun _ => ?_⟩) ?_
    · simp [tTrue]
    · simp only [W_bin, W_var]
      exact ⟨_, rfl, _, rfl, W_inT ⟨rfl, rfl⟩⟩
    · refine ⟨by rw [List.length_map]; unfold lim; omega, ?_⟩
      rw [filT]
      simp
  rintro ρ S' ⟨hS, hρ⟩
  subst hρ; subst hS
  have hz : atI (nL zs) (p : Int) = some (.int (zs[p] : Nat)) := atI_n hp
  have hch : (wb zs ws).ch p = decide (zs[p] = 2) := by simp [wb, hp]
  simp only [WS_seq, WS_ret, W_eif, W_tbin, W_bin, W_var, W_c, W_prim, W_acons, W_anil, List.getElem?_cons_succ, List.getElem?_cons_zero, Option.some.injEq, exists_eq_left']
  rw [W_ixTup]
  refine ⟨_, atI_zero, ?_⟩
  rw [W_ixTup]
  refine ⟨_, hz, ?_⟩
  rw [eqI]
  refine ⟨_, rfl, ?_⟩
  unfold Ec.stay at q
  rw [hch] at q
  by_cases h2 : zs[p] = 2
  · have h3 : ((zs[p] : Nat) : Int) = 2 := by omega
    simp only [h2, h3, decide_true, if_true, Bool.false_eq_true, if_false] at q ⊢
    refine W_bls ⟨rfl, ?_⟩
    rw [List.all_map]; exact q
  · have h3 : ¬ ((zs[p] : Nat) : Int) = 2 := by omega
    simp only [h2, h3, decide_false, if_true, Bool.false_eq_true, if_false] at q ⊢
    refine W_bls ⟨rfl, ?_⟩
    rw [List.any_map]; exact q
end
end Lw
namespace Lw
open PySem PySem.Spec PyProof.Rows L2 Mir
def enF : Nat → List PV → List PV
  | _, [] => []
  | p, a :: r => .tup [.int p, a] :: enF (p + 1) r
theorem enum_from : ∀ (ps : List PV) (p : Nat), (List.range' p ps.length).zipWith (fun (i : Nat) q => PV.tup [.int i, q]) ps = enF p ps
  | [], _ => rfl
  | a :: r, p => by
    rw [List.length_cons, List.range'_succ, List.zipWith_cons_cons, enum_from r (p + 1)]; rfl
theorem enumP_eq (ps : List PV) : enumP ps = enF 0 ps := by
  unfold enumP
  rw [List.range_eq_range']
  exact enum_from ps 0
section
variable {ρ : En} {S : Sto} {E : XP} {Q : PV → Sto → Prop} {X : XS} {N : En → Sto → Prop} {T : PV → Sto → Prop} {zs : List Nat} {ws : List Rn}
/-! ### roads by place -/
theorem W_news {i : Nat} {ρ : En} : ∀ (ps : List PV) (S : Sto), W (lcL (cNm i) tTrue (eNew aNil) ρ ps S) nE fun vs S' => vs = (List.range' S.length ps.length).map PV.loc ∧ S' = S ++ List.replicate ps.length (some (.lst []))
  | [], S => ⟨rfl, by simp⟩
  | p :: r, S => by
    have ih := W_news (i := i) (ρ := ρ) r (S ++ [some (.lst [])])
    rw [lcL]
    show W ((R.ok true S).nx _) nE _
    rw [W_nx, W_ok, if_pos rfl, W_nx, W_new, W_anil]
    refine ⟨Nat.zero_le _, ?_⟩
    rw [W_nx]
    refine W_mono ih fun vs S' ⟨h1, h2⟩ => ?_
    subst h1 h2
    rw [List.length_append, List.length_singleton]
    refine ⟨by rw [List.length_cons, List.range'_succ, List.map_cons], ?_⟩
    rw [List.length_cons, List.replicate_succ, List.append_assoc]; rfl
def oK (w : Ec.Wb) (k p : Nat) : List Nat := (List.range k).filter fun j => decide (w.src j = p)
def oS (zs : List Nat) (ws : List Rn) (k : Nat) : Sto := (List.range zs.length).map (fun p => some (Ob.lst (nL (oK (wb zs ws) k p)))) ++ [some (.lst ((List.range zs.length).map .loc))]
theorem oK_succ {w : Ec.Wb} {k p : Nat} : oK w (k + 1) p = if w.src k = p then oK w k p ++ [k] else oK w k p := by
  unfold oK
  rw [List.range_succ, List.filter_append]
  by_cases h : w.src k = p <;> simp [h]
theorem oS_get {k p : Nat} (h : p < zs.length) : (oS zs ws k)[p]? = some (some (.lst (nL (oK (wb zs ws) k p)))) := by
  unfold oS
  rw [List.getElem?_append_left (by simpa using h)]
  simp [h]
theorem oS_top {k : Nat} : (oS zs ws k)[zs.length]? = some (some (.lst ((List.range zs.length).map .loc))) := by
  unfold oS
  rw [List.getElem?_append_right (by simp)]
  simp
theorem oS_succ {k s : Nat} (hs : s < zs.length) (e : (wb zs ws).src k = s) : (oS zs ws k).set s (some (.lst (nL (oK (wb zs ws) k s) ++ [.int k]))) = oS zs ws (k + 1) := by
  unfold oS
  rw [List.set_append_left _ _ (by simpa using hs)]
  congr 1
  refine List.ext_getElem (by simp) fun i h1 h2 => ?_
  rw [List.getElem_set]
  simp only [List.getElem_map, List.getElem_range]
  split
  · rename_i h
    subst h
    rw [oK_succ, if_pos e]
    simp
  · rename_i h
    rw [oK_succ, if_neg (by rw [e]; exact h)]
theorem deep1s_locs {S : Sto} {f : Nat → List Nat} : ∀ {l : List Nat}, (∀ p ∈ l, S[p]? = some (some (.lst (nL (f p))))) → deep1s 0 S (l.map .loc) = some (l.map fun p => .lst (nL (f p)))
  | [], _ => rfl
  | p :: r, h => by
    rw [List.map_cons, deep1s, deep1s_locs fun q hq => h q (List.mem_cons_of_mem _ hq)]
    have e : deep1 0 S (.loc p) = some (.lst (nL (f p))) := by
      unfold deep1
      simp [h p List.mem_cons_self, noLs_n]
    rw [e]; rfl
theorem W_byPlace (ok : WOk zs ws) (q : Q (.lst (outsP zs ws)) S) : W (callM false m_roads_by_place [webV zs ws] S) E Q := by
  refine W_deep (by simp [noLs, noLs_rn ok, noL, noLs_n]) ?_
  simp only [m_roads_by_place, runM, b_roads_by_place, W_fin]
  refine WS_cut (fun ρ S' => S' = oS zs ws 0 ∧ ρ = [some (webV zs ws), some (.loc zs.length), none, none, none]) ?_ ?_
  · rw [WS_nm]
    refine W_lc ?_
    simp only [W_iseq, W_bin, W_var, W_c]
    refine ⟨_, rfl, ?_⟩
    rw [W_ixTup]
    refine ⟨_, atI_zero, _, rfl, ?_⟩
    refine W_mono (W_news (nL zs) []) fun vs S' ⟨h1, h2⟩ => ?_
    subst h1 h2
    refine ⟨by have := ok.n1; rw [List.length_map]; unfold lim; omega, ?_⟩
    rw [if_pos trivial]
    refine ⟨?_, ?_⟩
    · unfold oS
      simp only [List.nil_append, List.length_map, List.length_nil, List.range_eq_range']
      congr 1
      refine List.ext_getElem (by simp) fun i h1 h2 => ?_
      simp [oK]
    · simp
  rintro ρ S' ⟨hS, hρ⟩
  subst hρ; subst hS
  refine WS_cut (fun ρ S' => S' = oS zs ws ws.length ∧ ∃ o2 o3, ρ = [some (webV zs ws), some (.loc zs.length), o2, o3, none]) ?_ ?_
  · rw [WS_for, W_enum, W_acons, W_bin, W_var]
    refine ⟨_, rfl, ?_⟩
    rw [W_c, W_ixTup]
    refine ⟨_, atI_one, ?_⟩
    rw [W_anil, W_en1]
    refine ⟨_, rfl, ?_⟩
    rw [enumP_eq]
    refine WS_frInv (fun r ρ S' => ∃ k o2 o3, k ≤ ws.length ∧ r = enF k ((ws.drop k).map rnV) ∧ S' = oS zs ws k ∧ ρ = [some (webV zs ws), some (.loc zs.length), o2, o3, none]) _ _ _ ⟨0, none, none, Nat.zero_le _, rfl, rfl, rfl⟩ ?_ ?_
    · rintro p r ρ S' ⟨k, o2, o3, hk, e, rfl, rfl⟩
      have hk2 : k < ws.length := by
        rcases Nat.lt_or_ge k ws.length with h | h
        · exact h
        · rw [List.drop_eq_nil_of_le h] at e; cases e
      rw [List.drop_eq_getElem_cons hk2, List.map_cons] at e
      cases e
      have hs : ws[k].1 < zs.length := by rw [← src_eq (zs := zs) hk2]; exact ok.ok.s k hk2
      simp only [WS_gTp, WS_gsCons, WS_gsNil, List.set, List.length_cons, List.length_nil, WS_seq, WS_expr, WS_nil, W_meL, W_bin, W_var, W_c, W_acons, W_anil]
      refine ⟨by first | trivial | rfl, _, rfl, _, rfl, ?_⟩
      rw [W_rn0, W_ixLoc]
      refine ⟨_, oS_top, .loc ws[k].1, atI_of (by omega) (by simp [hs]), _, lstL_loc.mpr (oS_get hs), _, rfl, ?_⟩
      rw [W_append]
      refine ⟨_, oS_get hs, ?_, k + 1, _, _, hk2, rfl, oS_succ hs (src_eq hk2), rfl⟩
      · have h1 := List.length_filter_le (fun j => decide ((wb zs ws).src j = ws[k].1)) (List.range k)
        have h2 := ok.m1
        rw [List.length_range] at h1
        rw [List.length_map]; unfold oK lim; omega
    · rintro ρ S' ⟨k, o2, o3, hk, e, rfl, rfl⟩
      have hk2 : k = ws.length := by
        rcases Nat.lt_or_ge k ws.length with h | h
        · rw [List.drop_eq_getElem_cons h, List.map_cons] at e; cases e
        · omega
      subst hk2
      exact ⟨rfl, o2, o3, rfl⟩
  rintro ρ S' ⟨hS, o2, o3, hρ⟩
  subst hρ; subst hS
  simp only [WS_seq, WS_ret, W_var]
  refine ⟨_, rfl, _, ?_, q⟩
  have h0 := ok.n0
  have hno : noLs ((List.range zs.length).map PV.loc) = false := by
    rw [show zs.length = (zs.length - 1) + 1 by omega, List.range_succ_eq_map, List.map_cons]; rfl
  unfold deepT
  rw [if_pos (Nat.zero_le _), oS_top]
  dsimp only
  rw [hno, if_neg Bool.false_ne_true, deep1s_locs (f := fun p => oK (wb zs ws) ws.length p) fun p hp => oS_get (List.mem_range.mp hp)]
  rfl
end
end Lw
namespace Lw
open PySem PySem.Spec PyProof.Rows L2 Mir
section
variable {ρ : En} {S : Sto} {E : XP} {Q : PV → Sto → Prop} {X : XS} {N : En → Sto → Prop} {T : PV → Sto → Prop} {zs : List Nat} {ws : List Rn}
theorem inK_n {F : List Nat} {x : Nat} : inK (x : Int) (nL F) = decide (x ∈ F) := by
  unfold inK
  induction F with
  | nil => rfl
  | cons a r ih =>
    rw [show nL (a :: r) = .int a :: nL r from rfl, List.any_cons, ih]
    have e : decide (Mir.keyOf (.int (a : Int)) = some (.inl (x : Int))) = decide (x = a) := by
      rw [Bool.eq_iff_iff, decide_eq_true_eq, decide_eq_true_eq]
      simp [Mir.keyOf]; omega
    rw [e]
    by_cases h : x = a <;> by_cases h2 : x ∈ r <;> simp [h, h2]
@[simp] theorem WS_dSet {a o i : EM} : WS (sDSet a o i ρ S) X N T = W (a ρ S) (fun c a S => X c a ρ S) fun p S => W (o ρ S) (fun c a S => X c a ρ S) fun d S => W (i ρ S) (fun c a S => X c a ρ S) fun y S => WS (dsetAt d y p ρ S) X N T := by
  simp only [sDSet, WS_bindS]
theorem put_new {k : Nat} {F : List Nat} {vs : List PV} {v : PV} (h : k ∉ F) : gPut Mir.keyOf (.inl (k : Int)) (.int k) v (nL F) vs = (nL (F ++ [k]), vs ++ [v]) := by
  unfold gPut
  have := inK_n (F := F) (x := k)
  unfold inK at this
  rw [this, if_neg (by simpa using h)]
  simp
theorem WS_dnew {n k : Nat} {F : List Nat} {vs : List PV} {v : PV} (h : S[n]? = some (some (.dct false (nL F) vs))) (hk : k ∉ F) (hl : F.length < lim) (q : N ρ (S.set n (some (.dct false (nL (F ++ [k])) (vs ++ [v]))))) : WS (dsetAt (.loc n) (.int k) v ρ S) X N T := by
  have e : dStore false (nL F) vs (.int (k : Int)) v = some (gPut Mir.keyOf (.inl (k : Int)) (.int k) v (nL F) vs) := rfl
  simp only [dsetAt, h, List.length_map, hl, if_true, e, put_new hk]
  exact q
theorem put_old {k : Nat} {F : List Nat} {vs : List PV} {v : PV} (h : k ∈ F) : gPut Mir.keyOf (.inl (k : Int)) (.int k) v (nL F) vs = (nL F, List.zipWith (fun p w => if Mir.keyOf p = some (.inl (k : Int)) then v else w) (nL F) vs) := by
  unfold gPut
  have := inK_n (F := F) (x := k)
  unfold inK at this
  rw [this, if_pos (by simpa using h)]
theorem WS_dput {n k : Nat} {F : List Nat} {vs : List PV} {v : PV} (h : S[n]? = some (some (.dct false (nL F) vs))) (hv : vs.length = F.length) (hn : noLs vs = true) (hvn : noL v = true) (hl : F.length < lim) (q : ∀ F' vs', vs'.length = F'.length → noLs vs' = true → F'.length ≤ F.length + 1 → (∀ x, x ∈ F' ↔ x ∈ F ∨ x = k) → (F.Nodup → F'.Nodup) → N ρ (S.set n (some (.dct false (nL F') vs')))) : WS (dsetAt (.loc n) (.int k) v ρ S) X N T := by
  by_cases hk : k ∈ F
  · have e : dStore false (nL F) vs (.int (k : Int)) v = some (gPut Mir.keyOf (.inl (k : Int)) (.int k) v (nL F) vs) := rfl
    simp only [dsetAt, h, List.length_map, hl, if_true, e, put_old hk]
    refine q F _ (by simp [hv]) (noLs_of fun p hp => ?_) (by omega) (fun x => ⟨.inl, fun h => h.elim id fun e => e ▸ hk⟩) id
    rw [List.mem_iff_getElem] at hp
    obtain ⟨j, hj, rfl⟩ := hp
    rw [List.getElem_zipWith]
    split
    · exact hvn
    · exact noLs_get hn _ (List.getElem_mem _)
  · refine WS_dnew h hk hl (q _ _ (by simp [hv]) (noLs_of fun p hp => ?_) (by simp) (fun x => by simp) fun nd => ?_)
    · rcases List.mem_append.mp hp with hp | hp
      · exact noLs_get hn p hp
      · rw [List.mem_singleton] at hp; subst hp; exact hvn
    · rw [List.nodup_append]
      exact ⟨nd, by simp, fun a ha b hb e => by rw [List.mem_singleton] at hb; subst hb; exact hk (e ▸ ha)⟩
theorem W_popN {n x : Nat} {L : List Nat} (h : S[n]? = some (some (.lst (nL (L ++ [x]))))) (q : Q (.int x) (S.set n (some (.lst (nL L))))) : W (mPop [.loc n] S) E Q := by
  have e : lstAt S n = some (nL (L ++ [x])) := lstAt_iff.mpr h
  have e2 : (nL (L ++ [x]))[(nL (L ++ [x])).length - 1]? = some (.int x) := by simp [nL]
  have e3 : (nL (L ++ [x])).dropLast = nL L := by simp [nL]
  simp only [mPop, e, e2, e3, W_ok]
  exact q
/-- what led_from keeps true -/
structure Lf (w : Ec.Wb) (R : List Nat) (place : Nat) (F L : List Nat) : Prop where
  nd : F.Nodup
  lt : ∀ x ∈ F, x < w.n
  sub : ∀ x ∈ L, x ∈ F
  rch : ∀ x ∈ F, Ec.Rch w R place x
  here : place ∈ F
  cl : ∀ x ∈ F, x ∉ L → ∀ k ∈ R, w.src k = x → w.dst k ∈ F
theorem nodup_le {F : List Nat} {n : Nat} (nd : F.Nodup) (lt : ∀ x ∈ F, x < n) : F.length ≤ n := by
  induction n generalizing F with
  | zero =>
    cases F with
    | nil => exact Nat.le_refl _
    | cons a r => exact absurd (lt a List.mem_cons_self) (Nat.not_lt_zero _)
  | succ n ih =>
    by_cases h : n ∈ F
    · have := ih (nd.erase n) fun x hx => by
        have h1 := (List.Nodup.mem_erase_iff nd).mp hx
        have := lt x h1.2
        have := h1.1
        omega
      rw [List.length_erase_of_mem h] at this
      omega
    · have := ih nd fun x hx => by
        have h1 := lt x hx
        have : x ≠ n := fun e => h (e ▸ hx)
        omega
      omega
theorem W_inDl {neg : Bool} {n k : Nat} {F : List Nat} {vs : List PV} (h : S[n]? = some (some (.dct false (nL F) vs))) (hv : vs.length = F.length) (q : Q (.bl (if neg then !decide (k ∈ F) else decide (k ∈ F))) S) : W (pInD neg (.int k) (.loc n) S) E Q := by
  have e : dLook false (nL F) vs (.int (k : Int)) = some (gGet Mir.keyOf (.inl (k : Int)) (nL F) vs) := rfl
  have e3 : (gGet Mir.keyOf (.inl (k : Int)) (nL F) vs).isSome = decide (k ∈ F) := by
    rw [gGet_any (by simp [hv])]; exact inK_n
  have e2 : dctAt S (.loc n) = some (false, nL F, vs) := by simp [dctAt, h]
  simp only [pInD, e2, pDIn, e, e3, W_ok]
  exact q
theorem cut2 (a b c d : PV) : cutP [a, b, c, d] none (some 2) = [a, b] := rfl
/-- .. while a place's roads are gone through -/
structure Lg (w : Ec.Wb) (R : List Nat) (place h : Nat) (pre F L : List Nat) : Prop where
  nd : F.Nodup
  lt : ∀ x ∈ F, x < w.n
  sub : ∀ x ∈ L, x ∈ F
  rch : ∀ x ∈ F, Ec.Rch w R place x
  here : place ∈ F
  hh : h ∈ F
  cl : ∀ x ∈ F, x ∉ L → x ≠ h → ∀ k ∈ R, w.src k = x → w.dst k ∈ F
  dn : ∀ k ∈ pre, w.src k = h → w.dst k ∈ F
theorem W_led {place : Nat} {R : List Nat} (ok : WOk zs ws) (hp : place < zs.length) (hR : ∀ k ∈ R, k < ws.length) (q : ∀ F vs, vs.length = F.length → noLs vs = true → F.length ≤ zs.length → (∀ x, x ∈ F ↔ Ec.Rch (wb zs ws) R place x) → Q (.dct false (nL F) vs) S) : W (callM false m_led_from [webV zs ws, .int place, .tup (nL R)] S) E Q := by
  refine W_deep (by simp [noLs, noLs_rn ok, noL, noLs_n]) ?_
  simp only [m_led_from, runM, b_led_from, W_fin]
  refine WS_cut (fun ρ S' => S' = [some (.dct false (nL [place]) [.bl true]), some (.lst (nL [place]))] ∧ ρ = [some (webV zs ws), some (.int place), some (.tup (nL R)), some (.loc 0), some (.loc 1), none, none, none, none]) ?_ ?_
  · rw [WS_par, W_acons]
    have e1 : eD1 1 ((List.map some [webV zs ws, PV.int place, .tup (nL R)]) ++ List.replicate (9 - [webV zs ws, PV.int place, .tup (nL R)].length) none) [] = .ok (.loc 0) [some (.dct false [.int place] [.bl true])] := rfl
    rw [e1, W_ok, W_acons, W_new, W_acons, W_var]
    refine ⟨_, rfl, ?_⟩
    rw [W_anil]
    refine ⟨show 1 ≤ lim by decide, ?_⟩
    rw [W_anil]
    exact ⟨_, _, rfl, rfl, rfl⟩
  rintro ρ S' ⟨hS, hρ⟩
  subst hρ; subst hS
  refine WS_cut (fun ρ S' => ∃ F vs o5 o6 o7 o8 L, S' = [some (.dct false (nL F) vs), L] ∧ vs.length = F.length ∧ noLs vs = true ∧ Lf (wb zs ws) R place F [] ∧ ρ = [some (webV zs ws), some (.int place), some (.tup (nL R)), some (.loc 0), some (.loc 1), o5, o6, o7, o8]) ?_ ?_
  · unfold sWhl
    refine WS_whl (fun m ρ S' => ∃ F vs L o5 o6 o7 o8, S' = [some (.dct false (nL F) vs), some (.lst (nL L))] ∧ vs.length = F.length ∧ noLs vs = true ∧ Lf (wb zs ws) R place F L ∧ ρ = [some (webV zs ws), some (.int place), some (.tup (nL R)), some (.loc 0), some (.loc 1), o5, o6, o7, o8] ∧ L.length ≤ F.length ∧ m = 2 * (zs.length - F.length) + L.length) ?_ fuel (2 * (zs.length - 1) + 1) _ _ (by have := ok.n1; unfold fuel; omega) ⟨[place], [.bl true], [place], none, none, none, none, rfl, rfl, rfl, ⟨by simp, fun x hx => by rw [List.mem_singleton] at hx; subst hx; exact hp, by simp, fun x hx => by rw [List.mem_singleton] at hx; subst hx; exact .refl _, by simp, by simp⟩, rfl, by simp, rfl⟩
    rintro m ρ S' ⟨F, vs, L, o5, o6, o7, o8, rfl, hv, hvn, lf, rfl, hLF, rfl⟩
    rw [W_tbin, W_prim, W_acons, W_var]
    refine ⟨_, rfl, ?_⟩
    rw [W_anil, W_lenLoc]
    refine ⟨_, rfl, ?_⟩
    rw [W_c, W_pI]
    refine ⟨_, rfl, _, rfl, ?_⟩
    rw [List.length_map]
    rcases List.eq_nil_or_concat L with rfl | ⟨L', h, rfl⟩
    · simp
      exact ⟨F, vs, ⟨rfl, rfl⟩, hv, hvn, lf⟩
    · have hpos : decide ((0 : Int) < ((L' ++ [h]).length : Int)) = true := by simp
      rw [List.concat_eq_append] at *
      rw [hpos, if_pos rfl]
      have hF : h ∈ F := lf.sub h (by simp)
      refine WS_cut (fun ρ S' => S' = [some (.dct false (nL F) vs), some (.lst (nL L'))] ∧ ρ = [some (webV zs ws), some (.int place), some (.tup (nL R)), some (.loc 0), some (.loc 1), some (.int h), o6, o7, o8]) ?_ ?_
      · rw [WS_nm, W_meL, W_var]
        refine ⟨_, rfl, _, lstL_loc.mpr rfl, ?_⟩
        rw [W_anil]
        exact W_popN rfl ⟨rfl, rfl⟩
      rintro ρ S' ⟨rfl, rfl⟩
      rw [WS_seq, WS_for, W_iseq, W_var]
      refine ⟨_, rfl, _, rfl, ?_⟩
      refine WS_frInv (fun r ρ S' => ∃ pre l F' vs' L'' o6 o7 o8, R = pre ++ l ∧ r = nL l ∧ S' = [some (.dct false (nL F') vs'), some (.lst (nL L''))] ∧ vs'.length = F'.length ∧ noLs vs' = true ∧ Lg (wb zs ws) R place h pre F' L'' ∧ (L''.length + F.length = L'.length + F'.length ∧ F.length ≤ F'.length) ∧ ρ = [some (webV zs ws), some (.int place), some (.tup (nL R)), some (.loc 0), some (.loc 1), some (.int h), o6, o7, o8]) _ _ _ ⟨[], R, F, vs, L', o6, o7, o8, rfl, rfl, rfl, hv, hvn, ⟨lf.nd, lf.lt, fun x hx => lf.sub x (by simp [hx]), lf.rch, lf.here, hF, fun x hx h1 h2 => lf.cl x hx (by simp [h1, h2]), fun k hk => by cases hk⟩, ⟨rfl, Nat.le_refl _⟩, rfl⟩ ?_ ?_
      · rintro p r ρ S' ⟨pre, l, F', vs', L'', o6, o7, o8, hRl, e, rfl, hv', hvn', lg, hlen, rfl⟩
        cases l with
        | nil => cases e
        | cons k l =>
        cases e
        have hkR : k ∈ R := by rw [hRl]; simp
        have hk := hR k hkR
        have hsrc := src_eq (zs := zs) hk
        have hdst := dst_eq (zs := zs) hk
        have hd : ws[k].2.1 < zs.length := by rw [← hdst]; exact ok.ok.d k hk
        rw [WS_gNm]
        refine WS_cut (fun ρ S' => S' = [some (.dct false (nL F') vs'), some (.lst (nL L''))] ∧ ρ = [some (webV zs ws), some (.int place), some (.tup (nL R)), some (.loc 0), some (.loc 1), some (.int h), some (.int k), some (.int (ws[k].1 : Nat)), some (.int (ws[k].2.1 : Nat))]) ?_ ?_
        · rw [WS_set, W_sl, W_bin, W_bin, W_var]
          refine ⟨_, rfl, ?_⟩
          rw [W_c, W_ixTup]
          refine ⟨_, atI_one, ?_⟩
          rw [W_var]
          refine ⟨_, rfl, ?_⟩
          rw [W_ixTup]
          refine ⟨_, atI_rn hk, ?_⟩
          rw [W_oNone, W_oSome, W_c]
          refine ⟨_, rfl, ?_⟩
          unfold rnV
          rw [W_slTup, cut2, WS_gTp]
          exact ⟨rfl, rfl, rfl⟩
        rintro ρ S' ⟨rfl, rfl⟩
        rw [WS_seq, WS_if, W_tand, W_tbin, W_var]
        refine ⟨_, rfl, ?_⟩
        rw [W_var]
        refine ⟨_, rfl, ?_⟩
        rw [eqI]
        refine ⟨_, rfl, ?_⟩
        by_cases c1 : ws[k].1 = h
        · have c1' : ((ws[k].1 : Nat) : Int) = (h : Int) := by rw [c1]
          simp only [c1', decide_true, if_true, Bool.false_eq_true, if_false]
          rw [W_tbin, W_var]
          refine ⟨_, rfl, ?_⟩
          rw [W_var]
          refine ⟨_, rfl, W_inDl rfl hv' ⟨_, rfl, ?_⟩⟩
          have hsk : (wb zs ws).src k = h := by rw [hsrc, c1]
          by_cases c2 : ws[k].2.1 ∈ F'
          · simp only [c2, decide_true, Bool.not_true, if_true, Bool.false_eq_true, if_false]
            exact ⟨pre ++ [k], l, F', vs', L'', _, _, _, by rw [hRl]; simp, rfl, rfl, hv', hvn', ⟨lg.nd, lg.lt, lg.sub, lg.rch, lg.here, lg.hh, lg.cl, fun j hj hjs => by
              rcases List.mem_append.mp hj with hj | hj
              · exact lg.dn j hj hjs
              · rw [List.mem_singleton] at hj; subst hj; rw [hdst]; exact c2⟩, hlen, rfl⟩
          · simp only [c2, decide_false, Bool.not_false, if_true]
            have hfl : F'.length < lim := by
              have := nodup_le lg.nd lg.lt
              have h4 := ok.n1
              have h5 : (wb zs ws).n = zs.length := rfl
              unfold lim; omega
            rw [WS_seq, WS_dSet, W_c, W_var]
            refine ⟨_, rfl, ?_⟩
            rw [W_var]
            refine ⟨_, rfl, WS_dnew rfl c2 hfl ?_⟩
            rw [WS_seq, WS_expr, W_meL, W_var]
            refine ⟨_, rfl, _, lstL_loc.mpr rfl, ?_⟩
            rw [W_acons, W_var]
            refine ⟨_, rfl, ?_⟩
            rw [W_anil, W_append]
            refine ⟨_, rfl, ?_, ?_⟩
            · rw [List.length_append, List.length_singleton] at hLF
              rw [List.length_map]
              unfold lim at hfl ⊢; omega
            · refine ⟨pre ++ [k], l, F' ++ [ws[k].2.1], vs' ++ [.bl true], L'' ++ [ws[k].2.1], _, _, _, by rw [hRl]; simp, rfl, ?_, by simp [hv'], ?_, ⟨?_, ?_, ?_, ?_, ?_, ?_, ?_, ?_⟩, by simp; omega, rfl⟩
              · simp
              · refine noLs_of fun p hp => ?_
                rcases List.mem_append.mp hp with hp | hp
                · exact noLs_get hvn' p hp
                · rw [List.mem_singleton] at hp; subst hp; rfl
              · rw [List.nodup_append]
                exact ⟨lg.nd, by simp, fun a ha b hb e => by rw [List.mem_singleton] at hb; subst hb; exact c2 (e ▸ ha)⟩
              · intro x hx
                rcases List.mem_append.mp hx with hx | hx
                · exact lg.lt x hx
                · rw [List.mem_singleton] at hx; subst hx; exact hd
              · intro x hx
                rcases List.mem_append.mp hx with hx | hx
                · exact List.mem_append_left _ (lg.sub x hx)
                · exact List.mem_append_right _ hx
              · intro x hx
                rcases List.mem_append.mp hx with hx | hx
                · exact lg.rch x hx
                · rw [List.mem_singleton] at hx; subst hx
                  rw [← hdst]
                  exact .tail (lg.rch h lg.hh) hkR hsk
              · exact List.mem_append_left _ lg.here
              · exact List.mem_append_left _ lg.hh
              · intro x hx hx2 hx3 j hj hjs
                rcases List.mem_append.mp hx with hx | hx
                · exact List.mem_append_left _ (lg.cl x hx (fun z => hx2 (List.mem_append_left _ z)) hx3 j hj hjs)
                · exact absurd (List.mem_append_right _ hx) hx2
              · intro j hj hjs
                rcases List.mem_append.mp hj with hj | hj
                · exact List.mem_append_left _ (lg.dn j hj hjs)
                · rw [List.mem_singleton] at hj; subst hj; rw [hdst]; simp
        · have c1' : ¬ ((ws[k].1 : Nat) : Int) = (h : Int) := by omega
          simp only [c1', decide_false, if_true, Bool.false_eq_true, if_false]
          exact ⟨pre ++ [k], l, F', vs', L'', _, _, _, by rw [hRl]; simp, rfl, rfl, hv', hvn', ⟨lg.nd, lg.lt, lg.sub, lg.rch, lg.here, lg.hh, lg.cl, fun j hj hjs => by
              rcases List.mem_append.mp hj with hj | hj
              · exact lg.dn j hj hjs
              · rw [List.mem_singleton] at hj; subst hj; rw [hsrc] at hjs; exact absurd hjs c1⟩, hlen, rfl⟩
      · rintro ρ S' ⟨pre, l, F', vs', L'', o6, o7, o8, hRl, e, rfl, hv', hvn', lg, hlen, rfl⟩
        cases l with
        | cons k l => cases e
        | nil =>
          have hpre : pre = R := by rw [hRl]; simp
          subst hpre
          have hb := nodup_le lg.nd lg.lt
          have h5 : (wb zs ws).n = zs.length := rfl
          refine ⟨2 * (zs.length - F'.length) + L''.length, ?_, F', vs', L'', _, _, _, _, rfl, hv', hvn', ⟨lg.nd, lg.lt, lg.sub, lg.rch, lg.here, fun x hx hxL k hk e => ?_⟩, rfl, ?_, rfl⟩
          · simp; omega
          · by_cases c : x = h
            · subst c; exact lg.dn k hk e
            · exact lg.cl x hx hxL c k hk e
          · rw [List.length_append, List.length_singleton] at hLF; omega
  rintro ρ S' ⟨F, vs, o5, o6, o7, o8, L, hS, hv, hvn, lf, hρ⟩
  subst hρ; subst hS
  simp only [WS_seq, WS_ret, W_var]
  refine ⟨_, rfl, _, ?_, q F vs hv hvn (nodup_le lf.nd lf.lt) fun x => ⟨lf.rch x, fun hx => ?_⟩⟩
  · unfold deepT
    simp [hvn]
  · induction hx with
    | refl => exact lf.here
    | tail _ hk e ih => exact lf.cl _ ih (by simp) _ hk e
end
end Lw
namespace Lw
open PySem PySem.Spec PyProof.Rows L2 Mir
/-- the dict of what a place leads to -/
def Bh (rb : List Nat → Nat → Nat → Bool) (R : List Nat) (p : Nat) (v : PV) : Prop := ∃ (F : List Nat) (u : List PV), v = .dct false (nL F) u ∧ u.length = F.length ∧ noLs u = true ∧ ∀ x, decide (x ∈ F) = rb R p x
def Bhs (rb : List Nat → Nat → Nat → Bool) (R : List Nat) : List Nat → List PV → Prop
  | [], [] => True
  | p :: r, v :: s => Bh rb R p v ∧ Bhs rb R r s
  | _, _ => False
variable {rb : List Nat → Nat → Nat → Bool} {R : List Nat}
theorem Bhs.len : ∀ {P : List Nat} {vs : List PV}, Bhs rb R P vs → vs.length = P.length
  | [], [], _ => rfl
  | _ :: _, _ :: _, h => by simp [Bhs.len h.2]
theorem Bhs.app {p : Nat} {v : PV} (hv : Bh rb R p v) : ∀ {P : List Nat} {vs : List PV}, Bhs rb R P vs → Bhs rb R (P ++ [p]) (vs ++ [v])
  | [], [], _ => ⟨hv, trivial⟩
  | _ :: _, _ :: _, h => ⟨h.1, Bhs.app hv h.2⟩
theorem Bhs.noLs : ∀ {P : List Nat} {vs : List PV}, Bhs rb R P vs → Mir.noLs vs = true
  | [], [], _ => rfl
  | _ :: _, _ :: _, h => by
    obtain ⟨⟨F, u, rfl, _, hu, _⟩, h2⟩ := h
    simp [Mir.noLs, noL, hu, Bhs.noLs h2]
theorem Bhs.get {p : Nat} : ∀ {P : List Nat} {vs : List PV}, Bhs rb R P vs → p ∈ P → ∃ v, gGet Mir.keyOf (.inl (p : Int)) (nL P) vs = some v ∧ Bh rb R p v
  | [], [], _, h => by cases h
  | q :: r, v :: s, h, hp => by
    rw [show nL (q :: r) = .int q :: nL r from rfl, gGet]
    by_cases c : q = p
    · subst c
      have hk : Mir.keyOf (.int (q : Int)) = some (.inl (q : Int)) := rfl
      exact ⟨v, by rw [if_pos hk], h.1⟩
    · have hk : ¬ Mir.keyOf (.int (q : Int)) = some (.inl (p : Int)) := by
        simp [Mir.keyOf]; omega
      rw [if_neg hk]
      rcases List.mem_cons.mp hp with e | hp
      · exact absurd e.symm c
      · exact Bhs.get h.2 hp
section
variable {ρ : En} {S : Sto} {E : XP} {Q : PV → Sto → Prop} {X : XS} {N : En → Sto → Prop} {T : PV → Sto → Prop} {zs : List Nat} {ws : List Rn}
theorem W_dcLed {t : CM} {mk mv : EM} {Q : List PV × List PV → Sto → Prop} : ∀ (l pre : List Nat) (vs : List PV), (pre ++ l).Nodup → Bhs rb R pre vs → (∀ p ∈ l, ∃ ρ1, t (.int (p : Nat)) ρ = some ρ1 ∧ mk ρ1 S = .ok (.int (p : Nat)) S ∧ W (mv ρ1 S) nE fun v S' => S' = S ∧ Bh rb R p v) →
    (∀ vs', Bhs rb R (pre ++ l) vs' → Q (nL (pre ++ l), vs') S) → W (dcL t tTrue mk mv ρ (nL l) (nL pre) vs S) nE Q
  | [], pre, vs, nd, hb, _, q => by rw [List.append_nil] at q; exact q vs hb
  | p :: r, pre, vs, nd, hb, hs, q => by
    obtain ⟨ρ1, e, h1, h2⟩ := hs p List.mem_cons_self
    rw [show nL (p :: r) = .int p :: nL r from rfl, dcL, e]
    dsimp only [tTrue, Mir.R.nx]
    rw [if_pos rfl, h1]
    dsimp only [Mir.R.nx]
    obtain ⟨v, S', e3, hS, hv⟩ := W_get h2
    rw [hS] at e3
    rw [e3]
    dsimp only [Mir.R.nx]
    have hp : p ∉ pre := fun h => by
      rw [List.nodup_append] at nd
      exact nd.2.2 p h p List.mem_cons_self rfl
    have ed : dStore false (nL pre) vs (.int (p : Int)) v = some (gPut Mir.keyOf (.inl (p : Int)) (.int p) v (nL pre) vs) := rfl
    rw [ed, put_new hp]
    have ea : pre ++ p :: r = (pre ++ [p]) ++ r := by simp
    rw [ea] at nd q
    exact W_dcLed r (pre ++ [p]) (vs ++ [v]) nd (hb.app hv) (fun p hp => hs p (List.mem_cons_of_mem _ hp)) q
theorem W_ixBh {p : Nat} {P : List Nat} {vs : List PV} (h : Bhs rb R P vs) (hp : p ∈ P) (q : ∀ v, Bh rb R p v → Q v S) : W (pIxD (.dct false (nL P) vs) (.int p) S) E Q := by
  obtain ⟨v, e, hv⟩ := h.get hp
  have e1 : dLook false (nL P) vs (.int (p : Int)) = some (gGet Mir.keyOf (.inl (p : Int)) (nL P) vs) := rfl
  have e2 : dctAt S (.dct false (nL P) vs) = some (false, nL P, vs) := rfl
  simp only [pIxD, e2, e1, e, W_ok]
  exact q v hv
theorem W_inBh {neg : Bool} {p x : Nat} {v : PV} (h : Bh rb R p v) (q : Q (.bl (if neg then !rb R p x else rb R p x)) S) : W (pInD neg (.int x) v S) E Q := by
  obtain ⟨F, u, rfl, hu, _, hm⟩ := h
  refine W_inD (by simp [hu]) ?_
  rw [inK_n, hm]; exact q
abbrev grpP (g : List Nat) : PV := .tup (nL g)
theorem W_groups {P R : List Nat} (ok : WOk zs ws) (hr : Ec.RbOk (wb zs ws) rb) (hP : Ec.Asc zs.length P) (hR : ∀ k ∈ R, k < ws.length) (q : Q (.lst ((Ec.groups (rb R) P [] P).map grpP)) S) : W (callM false m_joined_groups [webV zs ws, .tup (nL P), .tup (nL R)] S) E Q := by
  have hnd : P.Nodup := hP.1.imp fun h => Nat.ne_of_lt h
  have hPl := nodup_le hnd hP.2
  have hn1 := ok.n1
  refine W_deep (by simp [noLs, noLs_rn ok, noL, noLs_n]) ?_
  simp only [m_joined_groups, runM, b_joined_groups, W_fin]
  refine WS_cut (fun ρ S' => ∃ vs, Bhs rb R P vs ∧ S' = [] ∧ ρ = [some (webV zs ws), some (.tup (nL P)), some (.tup (nL R)), some (.dct false (nL P) vs), none, none, none, none, none]) ?_ ?_
  · rw [WS_nm]
    refine W_dc ?_
    rw [W_iseq, W_var]
    refine ⟨_, rfl, _, rfl, ?_⟩
    refine W_dcLed (rb := rb) (R := R) P [] [] hnd trivial (fun p hp => ⟨_, rfl, rfl, ?_⟩) fun vs hb => ?_
    · rw [W_call, W_acons, W_var]
      refine ⟨_, rfl, ?_⟩
      rw [W_acons, W_var]
      refine ⟨_, rfl, ?_⟩
      rw [W_acons, W_var]
      refine ⟨_, rfl, ?_⟩
      rw [W_anil]
      refine ⟨rfl, W_led ok (hP.2 p hp) hR fun F vs hv hvn hl hm => ⟨rfl, F, vs, rfl, hv, hvn, fun x => ?_⟩⟩
      rw [Bool.eq_iff_iff, decide_eq_true_eq, hr]; exact hm x
    · refine ⟨by rw [List.length_map]; unfold lim; omega, vs, hb, rfl, rfl⟩
  rintro ρ S' ⟨vs, hb, hS, hρ⟩
  subst hρ; subst hS
  refine WS_cut (fun ρ S' => S' = [some (.lst []), some (.dct false [] [])] ∧ ρ = [some (webV zs ws), some (.tup (nL P)), some (.tup (nL R)), some (.dct false (nL P) vs), some (.loc 0), some (.loc 1), none, none, none]) ?_ ?_
  · rw [WS_par, W_acons, W_new, W_anil]
    refine ⟨Nat.zero_le _, ?_⟩
    exact ⟨_, _, rfl, rfl, rfl⟩
  rintro ρ S' ⟨hS, hρ⟩
  subst hρ; subst hS
  refine WS_cut (fun ρ S' => ∃ o6 o7 o8 L, S' = [some (.lst ((Ec.groups (rb R) P [] P).map grpP)), L] ∧ ρ = [some (webV zs ws), some (.tup (nL P)), some (.tup (nL R)), some (.dct false (nL P) vs), some (.loc 0), some (.loc 1), o6, o7, o8]) ?_ ?_
  · rw [WS_for, W_iseq, W_var]
    refine ⟨_, rfl, _, rfl, ?_⟩
    refine WS_frInv (fun r ρ S' => ∃ pre l G seen Sn u o6 o7 o8, P = pre ++ l ∧ r = nL l ∧ S' = [some (.lst (G.map grpP)), some (.dct false (nL Sn) u)] ∧ u.length = Sn.length ∧ noLs u = true ∧ Sn.Nodup ∧ (∀ x ∈ Sn, x ∈ P) ∧ (∀ x, x ∈ Sn ↔ x ∈ seen) ∧ G.length ≤ pre.length ∧ G ++ Ec.groups (rb R) P seen l = Ec.groups (rb R) P [] P ∧ ρ = [some (webV zs ws), some (.tup (nL P)), some (.tup (nL R)), some (.dct false (nL P) vs), some (.loc 0), some (.loc 1), o6, o7, o8]) _ _ _ ⟨[], P, [], [], [], [], none, none, none, rfl, rfl, rfl, rfl, rfl, .nil, by simp, by simp, Nat.le_refl _, rfl, rfl⟩ ?_ ?_
    · rintro p r ρ S' ⟨pre, l, G, seen, Sn, u, o6, o7, o8, hPl2, e, rfl, hu, hun, hSnd, hSP, hSs, hGl, hG, rfl⟩
      cases l with
      | nil => cases e
      | cons p l =>
      cases e
      have hpP : p ∈ P := by rw [hPl2]; simp
      rw [Ec.groups] at hG
      rw [WS_gNm, WS_seq, WS_if, W_tbin, W_var]
      refine ⟨_, rfl, ?_⟩
      rw [W_var]
      refine ⟨_, rfl, W_inDl rfl hu ⟨_, rfl, ?_⟩⟩
      by_cases c : p ∈ Sn
      · simp only [c, decide_true, Bool.not_true, if_true, Bool.false_eq_true, if_false]
        rw [if_pos ((hSs p).mp c)] at hG
        exact ⟨pre ++ [p], l, G, seen, Sn, u, _, _, _, by rw [hPl2]; simp, rfl, rfl, hu, hun, hSnd, hSP, hSs, by simp; omega, hG, rfl⟩
      · simp only [c, decide_false, Bool.not_false, if_true]
        rw [if_neg fun z => c ((hSs p).mpr z)] at hG
        have hgP : ∀ x ∈ Ec.gr (rb R) P p, x ∈ P := fun x hx => (Ec.mem_gr.mp hx).1
        refine WS_cut (fun ρ S' => S' = [some (.lst (G.map grpP)), some (.dct false (nL Sn) u)] ∧ ρ = [some (webV zs ws), some (.tup (nL P)), some (.tup (nL R)), some (.dct false (nL P) vs), some (.loc 0), some (.loc 1), some (.int p), some (.lst (nL (Ec.gr (rb R) P p))), o8]) ?_ ?_
        · rw [WS_nm]
          refine W_lc ?_
          rw [W_iseq, W_var]
          refine ⟨_, rfl, _, rfl, ?_⟩
          refine W_lcMap _ (fun (x : Nat) => rb R p x && rb R x p) (fun (x : Nat) => PV.int x) P (fun x hx => ⟨_, rfl, ?_, fun _ => ?_⟩) ?_
          · rw [W_tand, W_tbin, W_var]
            refine ⟨_, rfl, ?_⟩
            rw [W_bin, W_var]
            refine ⟨_, rfl, ?_⟩
            rw [W_var]
            refine ⟨_, rfl, W_ixBh hb hpP fun v hv => W_inBh hv ⟨_, rfl, ?_⟩⟩
            cases h1 : rb R p x with
            | false => exact ⟨rfl, rfl⟩
            | true =>
              simp only [if_true, Bool.false_eq_true, if_false, Bool.true_and]
              rw [W_tbin, W_var]
              refine ⟨_, rfl, ?_⟩
              rw [W_bin, W_var]
              refine ⟨_, rfl, ?_⟩
              rw [W_var]
              exact ⟨_, rfl, W_ixBh hb hx fun v hv => W_inBh hv ⟨_, rfl, rfl, rfl⟩⟩
          · rw [W_var]; exact ⟨_, rfl, rfl, rfl⟩
          · refine ⟨by rw [List.length_map]; unfold lim; omega, ?_⟩
            exact ⟨rfl, rfl⟩
        rintro ρ S' ⟨hS, hρ⟩
        subst hρ; subst hS
        refine WS_cut (fun ρ S' => ∃ Sn' u' o8, S' = [some (.lst (G.map grpP)), some (.dct false (nL Sn') u')] ∧ u'.length = Sn'.length ∧ noLs u' = true ∧ Sn'.Nodup ∧ (∀ x ∈ Sn', x ∈ P) ∧ (∀ x, x ∈ Sn' ↔ x ∈ seen ++ Ec.gr (rb R) P p) ∧ ρ = [some (webV zs ws), some (.tup (nL P)), some (.tup (nL R)), some (.dct false (nL P) vs), some (.loc 0), some (.loc 1), some (.int p), some (.lst (nL (Ec.gr (rb R) P p))), o8]) ?_ ?_
        · rw [WS_for, W_iseq, W_var]
          refine ⟨_, rfl, _, rfl, ?_⟩
          refine WS_frInv (fun r ρ S' => ∃ pre l Sn' u' o8, Ec.gr (rb R) P p = pre ++ l ∧ r = nL l ∧ S' = [some (.lst (G.map grpP)), some (.dct false (nL Sn') u')] ∧ u'.length = Sn'.length ∧ noLs u' = true ∧ Sn'.Nodup ∧ (∀ x ∈ Sn', x ∈ P) ∧ (∀ x, x ∈ Sn' ↔ x ∈ seen ∨ x ∈ pre) ∧ ρ = [some (webV zs ws), some (.tup (nL P)), some (.tup (nL R)), some (.dct false (nL P) vs), some (.loc 0), some (.loc 1), some (.int p), some (.lst (nL (Ec.gr (rb R) P p))), o8]) _ _ _ ⟨[], _, Sn, u, o8, rfl, rfl, rfl, hu, hun, hSnd, hSP, fun x => by rw [hSs]; simp, rfl⟩ ?_ ?_
          · rintro y r ρ S' ⟨pre2, l2, Sn', u', o8, hg, e, rfl, hu', hun', hnd', hP', hm', rfl⟩
            cases l2 with
            | nil => cases e
            | cons y l2 =>
            cases e
            have hy : y ∈ P := hgP y (by rw [hg]; simp)
            rw [WS_gNm, WS_seq, WS_dSet, W_c, W_var]
            refine ⟨_, rfl, ?_⟩
            rw [W_var]
            refine ⟨_, rfl, WS_dput rfl hu' hun' rfl ?_ fun F' vs' h1 h2 h3 h4 h5 => ?_⟩
            · have := nodup_le hnd' fun x hx => hP.2 x (hP' x hx)
              unfold lim; omega
            · refine ⟨pre2 ++ [y], l2, F', vs', _, by rw [hg]; simp, rfl, rfl, h1, h2, h5 hnd', fun x hx => ?_, fun x => ?_, rfl⟩
              · rcases (h4 x).mp hx with h | h
                · exact hP' x h
                · exact h ▸ hy
              · rw [h4, hm']; simp [or_assoc]
          · rintro ρ S' ⟨pre2, l2, Sn', u', o8, hg, e, rfl, hu', hun', hnd', hP', hm', rfl⟩
            cases l2 with
            | cons y l2 => cases e
            | nil =>
              rw [List.append_nil] at hg
              exact ⟨Sn', u', _, rfl, hu', hun', hnd', hP', fun x => by rw [hm', hg]; simp, rfl⟩
        rintro ρ S' ⟨Sn', u', o8, hS, hu', hun', hnd', hP', hm', hρ⟩
        subst hρ; subst hS
        rw [WS_seq, WS_expr, W_meL, W_var]
        refine ⟨_, rfl, _, lstL_loc.mpr rfl, ?_⟩
        rw [W_acons, W_prim, W_acons, W_var]
        refine ⟨_, rfl, ?_⟩
        rw [W_anil, W_tupLst, W_anil, W_append]
        have hpl : P.length = pre.length + (l.length + 1) := by rw [hPl2]; simp
        refine ⟨_, rfl, by rw [List.length_map]; unfold lim; omega, ?_⟩
        refine ⟨pre ++ [p], l, G ++ [Ec.gr (rb R) P p], seen ++ Ec.gr (rb R) P p, Sn', u', _, _, _, by rw [hPl2]; simp, rfl, ?_, hu', hun', hnd', hP', hm', by simp; omega, ?_, rfl⟩
        · simp
        · rw [← hG]; simp
    · rintro ρ S' ⟨pre, l, G, seen, Sn, u, o6, o7, o8, hPl2, e, rfl, hu, hun, hSnd, hSP, hSs, hGl, hG, rfl⟩
      cases l with
      | cons p l => cases e
      | nil =>
        rw [Ec.groups, List.append_nil] at hG
        subst hG
        exact ⟨_, _, _, _, rfl, rfl⟩
  rintro ρ S' ⟨o6, o7, o8, L, hS, hρ⟩
  subst hρ; subst hS
  simp only [WS_seq, WS_ret, W_var]
  refine ⟨_, rfl, _, ?_, q⟩
  have hn : noLs ((Ec.groups (rb R) P [] P).map grpP) = true := noLs_of fun p hp => by
    obtain ⟨g, _, rfl⟩ := List.mem_map.mp hp
    rw [noL]; exact noLs_n g
  unfold deepT
  simp [hn]
end
end Lw
namespace Lw
open PySem PySem.Spec PyProof.Rows L2 Mir
/-! ### pairs of lots, in order -/
abbrev nD (l : List Nat) : List PyData := l.map fun (k : Nat) => PyData.int k
abbrev ptV (x : Ec.Pt) : PV := .tup [.tup (nL x.1), .tup (nL x.2)]
abbrev ptD (x : Ec.Pt) : PyData := .tuple [.tuple (nD x.1), .tuple (nD x.2)]
theorem toD_pt (x : Ec.Pt) : toD (ptV x) = some (ptD x) := by
  simp only [toD, toDs, toDs_n, Option.map_some]
theorem toDs_pts : ∀ l : List Ec.Pt, toDs (l.map ptV) = some (l.map ptD)
  | [] => rfl
  | x :: r => by rw [List.map_cons, toDs, toD_pt, toDs_pts r]; rfl
theorem eqvAll_n : ∀ (a b : List Nat), PyData.eqvAll (nD a) (nD b) = decide (a = b)
  | [], [] => by simp [PyData.eqvAll]
  | [], _ :: _ => by simp [PyData.eqvAll]
  | _ :: _, [] => by simp [PyData.eqvAll]
  | x :: a, y :: b => by
    have ih := eqvAll_n a b
    rw [show nD (x :: a) = .int x :: nD a from rfl, show nD (y :: b) = .int y :: nD b from rfl, PySem.W.eqv_all_cons, ih]
    have e : PyData.eqv (.int (x : Int)) (.int (y : Int)) = decide (x = y) := by
      simp only [PyData.eqv]
      rw [Bool.eq_iff_iff, beq_iff_eq, decide_eq_true_eq]; omega
    rw [e, Bool.eq_iff_iff]; simp
theorem eqv_pt (x y : Ec.Pt) : PyData.eqv (ptD x) (ptD y) = decide (x = y) := by
  have h : PyData.eqv (ptD x) (ptD y) = (PyData.eqvAll (nD x.1) (nD y.1) && (PyData.eqvAll (nD x.2) (nD y.2) && true)) := by
    simp only [PyData.eqv, PyData.eqvAll]
  rw [h, eqvAll_n, eqvAll_n, Bool.eq_iff_iff]
  simp [Prod.ext_iff]
theorem eqvAll_pts : ∀ (a b : List Ec.Pt), PyData.eqvAll (a.map ptD) (b.map ptD) = decide (a = b)
  | [], [] => by simp [PyData.eqvAll]
  | [], _ :: _ => by simp [PyData.eqvAll]
  | _ :: _, [] => by simp [PyData.eqvAll]
  | x :: a, y :: b => by
    rw [List.map_cons, List.map_cons, PySem.W.eqv_all_cons, eqv_pt, eqvAll_pts a b, Bool.eq_iff_iff]; simp
theorem depth_n (l : List Nat) : PyData.depthAll (nD l) = 0 := by
  induction l with
  | nil => rfl
  | cons a r ih => rw [show nD (a :: r) = .int a :: nD r from rfl, PyData.depthAll, ih]; rfl
theorem depth_pt (x : Ec.Pt) : (ptD x).depth = 2 := by
  simp only [PyData.depth, PyData.depthAll, depth_n]; rfl
theorem lay_pt (x : Ec.Pt) : (ptD x).canLay0 = true := by
  simp only [PyData.canLay0, PyData.canLayAll0, lay_n]; rfl
theorem lay_pts : ∀ l : List Ec.Pt, PyData.canLayAll0 (l.map ptD) = true
  | [] => rfl
  | x :: r => by rw [List.map_cons, PyData.canLayAll0, lay_pt, lay_pts r]; rfl
theorem depth_pts : ∀ l : List Ec.Pt, PyData.depthAll (l.map ptD) ≤ 2
  | [] => Nat.zero_le _
  | x :: r => by rw [List.map_cons, PyData.depthAll, depth_pt]; exact Nat.max_le.mpr ⟨Nat.le_refl _, depth_pts r⟩
theorem alikeAll_n : ∀ (a b : List Nat), PySem.W.alikeAll (nD a) (nD b) = true
  | [], [] => rfl
  | [], _ :: _ => rfl
  | _ :: _, [] => rfl
  | x :: a, y :: b => by
    rw [show nD (x :: a) = .int x :: nD a from rfl, show nD (y :: b) = .int y :: nD b from rfl, PySem.W.alikeAll, alikeAll_n a b]; rfl
theorem alike_pt (x y : Ec.Pt) : PySem.W.alike (ptD x) (ptD y) = true := by
  simp only [PySem.W.alike, PySem.W.alikeAll, alikeAll_n]; rfl
theorem alikeB_pts : ∀ l : List Ec.Pt, alikeB (l.map ptD) = true
  | [] => rfl
  | x :: r => by
    rw [List.map_cons, alikeB, alikeB_pts r, alike_pt]
    simp only [Bool.and_true, Bool.true_and, List.all_eq_true, Bool.and_eq_true]
    intro d hd
    obtain ⟨y, _, rfl⟩ := List.mem_map.mp hd
    exact ⟨alike_pt _ _, alike_pt _ _⟩
theorem toks_n : ∀ (a b : List Nat) (s t : List (Int ⊕ List Nat)), PySem.W.keyToksAll (nD a) ++ s = PySem.W.keyToksAll (nD b) ++ t → a = b ∧ s = t
  | [], [], s, t, h => ⟨rfl, by simpa [PySem.W.keyToksAll] using h⟩
  | [], y :: b, s, t, h => by simp [PySem.W.keyToksAll] at h
  | x :: a, [], s, t, h => by simp [PySem.W.keyToksAll] at h
  | x :: a, y :: b, s, t, h => by
    simp only [List.map_cons, PySem.W.keyToksAll, PySem.W.keyToks, List.cons_append, List.nil_append, List.cons.injEq, Sum.inl.injEq, true_and] at h
    obtain ⟨h1, h2⟩ := h
    obtain ⟨h3, h4⟩ := toks_n a b s t h2
    exact ⟨by rw [h3, show x = y by omega], h4⟩
theorem toks_pt {x y : Ec.Pt} (h : PySem.W.keyToks (ptD x) = PySem.W.keyToks (ptD y)) : x = y := by
  have e : ∀ z : Ec.Pt, PySem.W.keyToks (ptD z) = .inl 1 :: (PySem.W.keyToksAll (nD z.1) ++ (.inl 1 :: (PySem.W.keyToksAll (nD z.2) ++ [.inl 0]))) := fun z => by
    simp only [PySem.W.keyToks, PySem.W.keyToksAll]
  rw [e, e] at h
  simp only [List.cons.injEq, true_and] at h
  obtain ⟨h1, h2⟩ := toks_n _ _ _ _ h
  simp only [List.cons.injEq, true_and] at h2
  obtain ⟨h3, _⟩ := toks_n _ _ _ _ h2
  exact Prod.ext h1 h3
/-- sorted lists of the same entries are one -/
theorem sorted_eq {α : Type} {le : α → α → Bool} : ∀ {a b : List α}, a.Perm b → (∀ x ∈ a, ∀ y ∈ a, le x y = true → le y x = true → x = y) → a.Pairwise (fun x y => le x y = true) → b.Pairwise (fun x y => le x y = true) → a = b
  | [], b, p, _, _, _ => (List.nil_perm.mp p).symm
  | x :: a, [], p, _, _, _ => absurd p.length_eq (by simp)
  | x :: a, y :: b, p, anti, h1, h2 => by
    obtain ⟨h3, h4⟩ := List.pairwise_cons.mp h1
    obtain ⟨h5, h6⟩ := List.pairwise_cons.mp h2
    have hxy : x = y := by
      rcases List.mem_cons.mp (p.mem_iff.mp List.mem_cons_self) with e | hx
      · exact e
      · rcases List.mem_cons.mp (p.mem_iff.mpr (List.mem_cons_self (a := y) (l := b))) with e | hy
        · exact e.symm
        · exact anti x List.mem_cons_self y (List.mem_cons_of_mem _ hy) (h3 y hy) (h5 x hx)
    subst hxy
    rw [sorted_eq (p.cons_inv) (fun u hu v hv => anti u (List.mem_cons_of_mem _ hu) v (List.mem_cons_of_mem _ hv)) h4 h6]
def leP (x y : PV × PyData) : Bool := dLe x.2 y.2
theorem leP_total : PySem.W.TotalLe leP := by
  have h := PySem.W.sortLe_total (listOrd itemOrd) false fun b : PV × PyData => PySem.W.keyToks b.2
  exact h
theorem srt_pts (l : List Ec.Pt) : srtP (l.map ptV) = some ((srtD leP (l.map fun x => (ptV x, ptD x))).map (·.1)) := by
  have h2 : (l.map ptD).all (fun d => !isNonD d && decide (d.depth ≤ 8)) = true := by
    rw [List.all_eq_true]
    intro d hd
    obtain ⟨q, _, rfl⟩ := List.mem_map.mp hd
    rw [depth_pt]; rfl
  have h3 : (l.map ptD).all isTupD = true := by
    rw [List.all_eq_true]
    intro d hd
    obtain ⟨q, _, rfl⟩ := List.mem_map.mp hd
    rfl
  unfold srtP
  rw [toDs_pts]
  dsimp only
  rw [alikeB_pts, h2, h3]
  have e : (l.map ptV).zip (l.map ptD) = l.map fun x => (ptV x, ptD x) := by
    induction l with
    | nil => rfl
    | cons a r ih =>
      rw [List.map_cons, List.map_cons, List.map_cons, List.zip_cons_cons]
      congr 1
      refine ih ?_ ?_
      · rw [List.map_cons, List.all_cons, Bool.and_eq_true] at h2; exact h2.2
      · rw [List.map_cons, List.all_cons, Bool.and_eq_true] at h3; exact h3.2
  rw [e]
  rfl
theorem srt_perm {a b : List Ec.Pt} (h : a.Perm b) : srtP (a.map ptV) = srtP (b.map ptV) := by
  rw [srt_pts, srt_pts]
  congr 2
  have hp : (srtD leP (a.map fun x => (ptV x, ptD x))).Perm (srtD leP (b.map fun x => (ptV x, ptD x))) := (srtD_perm _).trans ((h.map _).trans (srtD_perm _).symm)
  refine sorted_eq hp (fun x hx y hy h1 h2 => ?_) (srtD_pw leP_total _) (srtD_pw leP_total _)
  obtain ⟨u, _, rfl⟩ := List.mem_map.mp ((srtD_perm _).mem_iff.mp hx)
  obtain ⟨v, _, rfl⟩ := List.mem_map.mp ((srtD_perm _).mem_iff.mp hy)
  have e1 : PySem.W.dataLt (ptD v) (ptD u) = false := by simpa [leP, dLe] using h1
  have e2 : PySem.W.dataLt (ptD u) (ptD v) = false := by simpa [leP, dLe] using h2
  have h7 : PySem.W.keyToks (ptD u) = PySem.W.keyToks (ptD v) := (listOrd itemOrd).total (PySem.W.keyToks (ptD u)) (PySem.W.keyToks (ptD v)) e2 e1
  rw [toks_pt h7]
theorem srt_mem {l : List Ec.Pt} {qs : List PV} (h : srtP (l.map ptV) = some qs) : qs.Perm (l.map ptV) := by
  rw [srt_pts] at h
  cases h
  have := ((srtD_perm (le := leP) (l.map fun x => (ptV x, ptD x))).map (·.1))
  rw [List.map_map] at this
  exact this
section
variable {ρ : En} {S : Sto} {E : XP} {Q : PV → Sto → Prop} {X : XS} {N : En → Sto → Prop} {T : PV → Sto → Prop} {zs : List Nat} {ws : List Rn}
theorem W_eqPts {neg : Bool} {a b : List Ec.Pt} (q : Q (.bl (if neg then !decide (a = b) else decide (a = b))) S) : W (pEq neg (.lst (a.map ptV)) (.lst (b.map ptV)) S) E Q := by
  have hs : ∀ l : List Ec.Pt, SeqAt.shaped (.list (l.map ptD)) = true := fun l => by
    have := depth_pts l
    unfold SeqAt.shaped
    rw [Bool.and_eq_true]
    exact ⟨by simp only [PyData.canLay0, lay_pts], decide_eq_true (by simp only [PyData.depth]; omega)⟩
  simp only [pEq, eqP, drf, toD, toDs_pts, Option.map_some, hs, Bool.and_self, if_true, W_of, Option.some.injEq, exists_eq_left', PyData.eqv, eqvAll_pts]
  exact q
theorem W_eqPt {neg : Bool} {a b : Ec.Pt} (q : Q (.bl (if neg then !decide (a = b) else decide (a = b))) S) : W (pEq neg (ptV a) (ptV b) S) E Q := by
  have hs : ∀ x : Ec.Pt, SeqAt.shaped (ptD x) = true := fun x => by
    unfold SeqAt.shaped
    rw [lay_pt, depth_pt]; rfl
  have hd : ∀ x : Ec.Pt, drf S (ptV x) = ptV x := fun _ => rfl
  simp only [pEq, eqP, hd, toD_pt, hs, Bool.and_self, if_true, W_of, Option.some.injEq, exists_eq_left', eqv_pt]
  exact q
end
end Lw
namespace Lw
open PySem PySem.Spec PyProof.Rows L2 Mir
section
variable {ρ : En} {S : Sto} {E : XP} {Q : PV → Sto → Prop} {X : XS} {N : En → Sto → Prop} {T : PV → Sto → Prop} {zs : List Nat} {ws : List Rn} {rb : List Nat → Nat → Nat → Bool}
theorem groups_len {R P : List Nat} : ∀ (rest seen : List Nat), (Ec.groups (rb R) P seen rest).length ≤ rest.length
  | [], _ => Nat.le_refl _
  | p :: r, seen => by
    rw [Ec.groups]
    split
    · exact Nat.le_succ_of_le (groups_len r seen)
    · simp only [List.length_cons]; have := groups_len (P := P) (R := R) r (seen ++ Ec.gr (rb R) P p); omega
theorem W_split {P R : List Nat} (ok : WOk zs ws) (hr : Ec.RbOk (wb zs ws) rb) (hP : Ec.Asc zs.length P) (hR : ∀ k ∈ R, k < ws.length) (hl : R.length ≤ 1000) (q : Q (.lst ((Ec.parts (wb zs ws) rb P R).map ptV)) S) : W (callM false m_split_once [webV zs ws, .lst (outsP zs ws), .tup (nL P), .tup (nL R)] S) E Q := by
  have hPl := nodup_le (hP.1.imp fun h => Nat.ne_of_lt h) hP.2
  have hn1 := ok.n1
  have hK : Ec.Asc zs.length (P.filter (Ec.stay (wb zs ws) R)) := hP.filter _
  have hI : ∀ k ∈ Ec.within (wb zs ws) (P.filter (Ec.stay (wb zs ws) R)) R, k < ws.length := fun k hk => hR k (Ec.mem_within.mp hk).1
  have hIl : (Ec.within (wb zs ws) (P.filter (Ec.stay (wb zs ws) R)) R).length ≤ 1000 := Nat.le_trans (List.length_filter_le _ _) hl
  refine W_pure (by simp [noLs, noLs_rn ok, noL, noLs_n, noLs_outs]) ?_
  simp only [m_split_once, runM, b_split_once, W_fin]
  refine WS_cut (fun ρ S' => S' = [] ∧ ρ = [some (webV zs ws), some (.lst (outsP zs ws)), some (.tup (nL P)), some (.tup (nL R)), some (.tup (nL (P.filter (Ec.stay (wb zs ws) R)))), none, none, none]) ?_ ?_
  · rw [WS_nm, W_prim, W_acons]
    refine W_lc ?_
    rw [W_iseq, W_var]
    refine ⟨_, rfl, _, rfl, ?_⟩
    refine W_lcMap _ (Ec.stay (wb zs ws) R) (fun (x : Nat) => PV.int x) P (fun x hx => ⟨_, rfl, ?_, fun _ => ?_⟩) ?_
    · rw [W_ttru, W_call, W_acons, W_var]
      refine ⟨_, rfl, ?_⟩
      rw [W_acons, W_var]
      refine ⟨_, rfl, ?_⟩
      rw [W_acons, W_var]
      refine ⟨_, rfl, ?_⟩
      rw [W_acons, W_var]
      refine ⟨_, rfl, ?_⟩
      rw [W_anil]
      exact ⟨rfl, W_canStay ok (hP.2 x hx) ⟨_, rfl, rfl, rfl⟩⟩
    · rw [W_var]; exact ⟨_, rfl, rfl, rfl⟩
    · refine ⟨by rw [List.length_map]; unfold lim; omega, ?_⟩
      simp only [Bool.false_eq_true, if_false]
      rw [W_anil, W_tupLst]
      exact ⟨rfl, rfl⟩
  rintro ρ S' ⟨hS, hρ⟩
  subst hρ; subst hS
  refine WS_cut (fun ρ S' => S' = [] ∧ ρ = [some (webV zs ws), some (.lst (outsP zs ws)), some (.tup (nL P)), some (.tup (nL R)), some (.tup (nL (P.filter (Ec.stay (wb zs ws) R)))), some (.tup (nL (Ec.within (wb zs ws) (P.filter (Ec.stay (wb zs ws) R)) R))), none, none]) ?_ ?_
  · rw [WS_nm, W_call, W_acons, W_var]
    refine ⟨_, rfl, ?_⟩
    rw [W_acons, W_var]
    refine ⟨_, rfl, ?_⟩
    rw [W_acons, W_var]
    refine ⟨_, rfl, ?_⟩
    rw [W_anil]
    exact ⟨rfl, W_within ok hR hl ⟨rfl, rfl⟩⟩
  rintro ρ S' ⟨hS, hρ⟩
  subst hρ; subst hS
  rw [WS_seq, WS_ret]
  refine W_lc ?_
  rw [W_iseq, W_call, W_acons, W_var]
  refine ⟨_, rfl, ?_⟩
  rw [W_acons, W_var]
  refine ⟨_, rfl, ?_⟩
  rw [W_acons, W_var]
  refine ⟨_, rfl, ?_⟩
  rw [W_anil]
  refine ⟨rfl, W_groups ok hr hK hI ⟨_, rfl, ?_⟩⟩
  refine W_lcMap _ (fun _ => true) (fun g => ptV (g, Ec.within (wb zs ws) g (Ec.within (wb zs ws) (P.filter (Ec.stay (wb zs ws) R)) R))) _ (fun g hg => ⟨_, rfl, ?_, fun _ => ?_⟩) ?_
  · exact ⟨rfl, rfl⟩
  · rw [W_tup, W_acons, W_var]
    refine ⟨_, rfl, ?_⟩
    rw [W_acons, W_call, W_acons, W_var]
    refine ⟨_, rfl, ?_⟩
    rw [W_acons, W_var]
    refine ⟨_, rfl, ?_⟩
    rw [W_acons, W_var]
    refine ⟨_, rfl, ?_⟩
    rw [W_anil]
    refine ⟨rfl, W_within ok hI hIl ?_⟩
    rw [W_anil]
    exact ⟨show 2 ≤ lim by decide, rfl, rfl⟩
  · rw [filT]
    have hg : (Ec.groups (rb (Ec.within (wb zs ws) (P.filter (Ec.stay (wb zs ws) R)) R)) (P.filter (Ec.stay (wb zs ws) R)) [] (P.filter (Ec.stay (wb zs ws) R))).length ≤ lim := by
      have h1 := groups_len (rb := rb) (R := Ec.within (wb zs ws) (P.filter (Ec.stay (wb zs ws) R)) R) (P := P.filter (Ec.stay (wb zs ws) R)) (P.filter (Ec.stay (wb zs ws) R)) []
      have h2 := List.length_filter_le (Ec.stay (wb zs ws) R) P
      unfold lim; omega
    refine ⟨by rw [List.length_map]; exact hg, ?_⟩
    simp only [Bool.false_eq_true, if_false]
    have e : (Ec.parts (wb zs ws) rb P R).map ptV = (Ec.groups (rb (Ec.within (wb zs ws) (P.filter (Ec.stay (wb zs ws) R)) R)) (P.filter (Ec.stay (wb zs ws) R)) [] (P.filter (Ec.stay (wb zs ws) R))).map fun g => ptV (g, Ec.within (wb zs ws) g (Ec.within (wb zs ws) (P.filter (Ec.stay (wb zs ws) R)) R)) := by
      unfold Ec.parts
      rw [List.map_map]; rfl
    rw [← e]
    refine ⟨?_, q⟩
    rw [noL]
    refine noLs_of fun p hp => ?_
    obtain ⟨x, _, rfl⟩ := List.mem_map.mp hp
    simp [noL, noLs, noLs_n]
/-! ### the roads that ring no more than a lot -/
def lotK (ws : List Rn) (k : Nat) : List Nat := (ws[k]?.getD (0, 0, [], 0)).2.2.1
def lotR (ws : List Rn) (lot : List Nat) : List Nat := (List.range ws.length).filter fun k => (lotK ws k).all fun b => decide (b ∈ lot)
theorem enum_rn : enumP (ws.map rnV) = (List.range ws.length).map fun (k : Nat) => PV.tup [.int k, rnV (ws[k]?.getD (0, 0, [], 0))] := by
  unfold enumP
  refine List.ext_getElem (by simp) fun i h1 h2 => ?_
  simp at h1 h2 ⊢
  rw [List.getElem?_eq_getElem h2]; rfl
theorem lotR_asc {lot : List Nat} : Ec.Asc ws.length (lotR ws lot) := Ec.Asc.filter ⟨List.pairwise_lt_range, fun x hx => List.mem_range.mp hx⟩ _
/-- disjoint lots of places: not many -/
theorem line_len {R0 : List Nat} {l : List Ec.Pt} {w : Ec.Wb} (hg : ∀ x ∈ l, Ec.Good w R0 x) (hd : l.Pairwise fun a b => Ec.Dj a.1 b.1) : l.length ≤ w.n := by
  have h1 := Ec.sum_key id (l.map (·.1)) (by rw [List.pairwise_map]; exact hd) (List.range w.n)
  rw [List.map_map, List.length_range] at h1
  have h2 : ∀ l : List Ec.Pt, (∀ x ∈ l, Ec.Good w R0 x) → l.length ≤ (l.map ((fun g => ((List.range w.n).filter fun x => decide (id x ∈ g)).length) ∘ fun x => x.1)).sum := by
    intro l
    induction l with
    | nil => intro _; exact Nat.le_refl _
    | cons a r ih =>
      intro hg
      have := ih fun x hx => hg x (List.mem_cons_of_mem _ hx)
      have ga := hg a List.mem_cons_self
      obtain ⟨p, hp⟩ := List.exists_mem_of_ne_nil _ ga.ne
      have hm : p ∈ (List.range w.n).filter fun x => decide (id x ∈ a.1) := List.mem_filter.mpr ⟨List.mem_range.mpr (ga.asc.2 p hp), by simpa using hp⟩
      have := List.length_pos_of_mem hm
      simp only [List.map_cons, List.sum_cons, List.length_cons, Function.comp] at *
      omega
  exact Nat.le_trans (h2 l hg) h1
theorem W_popV {n : Nat} {L : List PV} {x : PV} (h : S[n]? = some (some (.lst (L ++ [x])))) (q : Q x (S.set n (some (.lst L)))) : W (mPop [.loc n] S) E Q := by
  have e : lstAt S n = some (L ++ [x]) := lstAt_iff.mpr h
  have e2 : (L ++ [x])[(L ++ [x]).length - 1]? = some x := by simp
  simp only [mPop, e, e2, List.dropLast_concat, W_ok]
  exact q
theorem W_extend {n : Nat} {ps qs : List PV} (h : S[n]? = some (some (.lst ps))) (hl : ps.length + qs.length ≤ lim) (q : Q .non (S.set n (some (.lst (ps ++ qs))))) : W (mExtend [.loc n, .lst qs] S) E Q := by
  have e : lstAt S n = some ps := lstAt_iff.mpr h
  have e2 : lstM S (.lst qs) = some qs := rfl
  simp only [mExtend, e, e2, if_pos hl, W_ok]
  exact q
@[simp] theorem WS_par3 {i j l : Nat} {m : AM} : WS (sPar3 i j l m ρ S) X N T = W (m ρ S) (fun c a S => X c a ρ S) fun vs S => ∃ u v w, vs = [u, v, w] ∧ N (((ρ.set i (some u)).set j (some v)).set l (some w)) S := by
  simp only [sPar3, WS_bindS]; congr; funext vs S
  rcases vs with _ | ⟨u, _ | ⟨v, _ | ⟨x, _ | ⟨y, r⟩⟩⟩⟩ <;> simp [WS]
  constructor
  · intro h; exact ⟨_, _, _, ⟨rfl, rfl, rfl⟩, h⟩
  · rintro ⟨_, _, _, ⟨rfl, rfl, rfl⟩, h⟩; exact h
theorem W_tupR {r : AM} : W (eTupR r ρ S) E Q = W (r ρ S) E fun ps S => ps.length ≤ lim ∧ Q (.tup ps) S := by
  simp only [eTupR, W_bind]
  congr; funext ps S
  split <;> simp [*]
theorem W_rgA1 {m : EM} {Q : List PV → Sto → Prop} : W (rgA1 m ρ S) E Q = W (m ρ S) E fun v S => ∃ j, v = .int j ∧ inW j = true ∧ Q (rng 0 (j - 0).toNat) S := by
  simp only [rgA1, W_bind]
  congr; funext v S
  cases v with
  | int j => dsimp only; split <;> simp [*]
  | _ => simp
theorem W_greatest {lot : List Nat} (ok : WOk zs ws) (hr : Ec.RbOk (wb zs ws) rb) (q : ∀ found qs, Ec.St (wb zs ws) (lotR ws lot) [] found → srtP (found.map ptV) = some qs → Q (.tup qs) S) : W (callM false m_greatest_parts [webV zs ws, .tup (nL lot)] S) E Q := by
  have hn1 := ok.n1
  have hm1 := ok.m1
  have hR : ∀ k ∈ lotR ws lot, k < ws.length := fun k hk => lotR_asc.2 k hk
  have hRl : (lotR ws lot).length ≤ 7 := by
    have := List.length_filter_le (fun k => (lotK ws k).all fun b => decide (b ∈ lot)) (List.range ws.length)
    rw [List.length_range] at this
    unfold lotR; omega
  refine W_pure (by simp [noLs, noLs_rn ok, noL, noLs_n]) ?_
  simp only [m_greatest_parts, runM, b_greatest_parts, W_fin]
  refine WS_cut (fun ρ S' => S' = [] ∧ ρ = [some (webV zs ws), some (.tup (nL lot)), some (.tup (nL (lotR ws lot))), none, none, none, none, none, none, none, none]) ?_ ?_
  · rw [WS_nm, W_prim, W_acons]
    refine W_lc ?_
    rw [W_enum, W_acons, W_bin, W_var]
    refine ⟨_, rfl, ?_⟩
    rw [W_c, W_ixTup]
    refine ⟨_, atI_one, ?_⟩
    rw [W_anil, W_en1]
    refine ⟨_, rfl, ?_⟩
    rw [enum_rn]
    refine W_lcMap _ (fun k => (lotK ws k).all fun b => decide (b ∈ lot)) (fun (x : Nat) => PV.int x) _ (fun k hk => ⟨_, rfl, ?_, fun _ => ?_⟩) ?_
    · rw [W_ttru, W_call, W_acons, W_bin, W_var]
      refine ⟨_, rfl, ?_⟩
      rw [W_c, W_rn2, W_acons, W_var]
      refine ⟨_, rfl, ?_⟩
      rw [W_anil]
      exact ⟨rfl, W_isWithin ⟨_, rfl, rfl, rfl⟩⟩
    · rw [W_var]; exact ⟨_, rfl, rfl, rfl⟩
    · refine ⟨by rw [List.length_map, List.length_range]; unfold lim; omega, ?_⟩
      simp only [Bool.false_eq_true, if_false]
      rw [W_anil, W_tupLst]
      exact ⟨rfl, rfl⟩
  rintro ρ S' ⟨hS, hρ⟩
  subst hρ; subst hS
  refine WS_cut (fun ρ S' => S' = [some (.lst ([(List.range zs.length, lotR ws lot)].map ptV)), some (.lst [])] ∧ ρ = [some (webV zs ws), some (.tup (nL lot)), some (.tup (nL (lotR ws lot))), some (.loc 0), some (.lst (outsP zs ws)), some (.loc 1), none, none, none, none, none]) ?_ ?_
  · rw [WS_par3, W_acons, W_new, W_acons, W_tup, W_acons]
    rw [W_tupR, W_rgA1, W_prim, W_acons, W_bin, W_var]
    refine ⟨_, rfl, ?_⟩
    rw [W_c, W_ixTup]
    refine ⟨_, atI_zero, ?_⟩
    rw [W_anil, W_lenTup]
    have ei : inW ((nL zs).length : Int) = true := by unfold inW; rw [decide_eq_true_eq, List.length_map]; omega
    refine ⟨_, rfl, ei, ?_⟩
    have er : rng 0 (((nL zs).length : Int) - 0).toNat = nL (List.range zs.length) := by
      rw [show (((nL zs).length : Int) - 0).toNat = zs.length by rw [List.length_map]; omega, rng_zero]
    rw [er]
    refine ⟨by rw [List.length_map, List.length_range]; unfold lim; omega, ?_⟩
    rw [W_acons, W_var]
    refine ⟨_, rfl, ?_⟩
    rw [W_anil]
    refine ⟨show 2 ≤ lim by decide, ?_⟩
    rw [W_anil]
    refine ⟨show 1 ≤ lim by decide, ?_⟩
    rw [W_acons, W_call, W_acons, W_var]
    refine ⟨_, rfl, ?_⟩
    rw [W_anil]
    refine ⟨rfl, W_byPlace ok ?_⟩
    rw [W_acons, W_new, W_anil]
    refine ⟨Nat.zero_le _, ?_⟩
    rw [W_anil]
    exact ⟨_, _, _, rfl, rfl, rfl⟩
  rintro ρ S' ⟨hS, hρ⟩
  subst hρ; subst hS
  refine WS_cut (fun ρ S' => ∃ found L o6 o7 o8 o9 o10, S' = [L, some (.lst (found.map ptV))] ∧ Ec.St (wb zs ws) (lotR ws lot) [] found ∧ ρ = [some (webV zs ws), some (.tup (nL lot)), some (.tup (nL (lotR ws lot))), some (.loc 0), some (.lst (outsP zs ws)), some (.loc 1), o6, o7, o8, o9, o10]) ?_ ?_
  · unfold sWhl
    refine WS_whl (fun m ρ S' => ∃ line found o6 o7 o8 o9 o10, S' = [some (.lst (line.map ptV)), some (.lst (found.map ptV))] ∧ Ec.St (wb zs ws) (lotR ws lot) line found ∧ m = Ec.Mu line ∧ ρ = [some (webV zs ws), some (.tup (nL lot)), some (.tup (nL (lotR ws lot))), some (.loc 0), some (.lst (outsP zs ws)), some (.loc 1), o6, o7, o8, o9, o10]) ?_ fuel (Ec.Mu [(List.range zs.length, lotR ws lot)]) _ _ ?_ ⟨_, [], none, none, none, none, none, rfl, Ec.St.init ok.ok ok.n0 hR, rfl, rfl⟩
    · rintro m ρ S' ⟨line, found, o6, o7, o8, o9, o10, rfl, st, rfl, rfl⟩
      have hlen := line_len st.good st.dj
      have hwn : (wb zs ws).n = zs.length := rfl
      rw [List.length_append] at hlen
      rw [W_tbin, W_prim, W_acons, W_var]
      refine ⟨_, rfl, ?_⟩
      rw [W_anil, W_lenLoc]
      refine ⟨_, rfl, ?_⟩
      rw [W_c, W_pI]
      refine ⟨_, rfl, _, rfl, ?_⟩
      rw [List.length_map]
      rcases List.eq_nil_or_concat line with rfl | ⟨l, x, rfl⟩
      · simp
        exact ⟨found, rfl, st⟩
      · rw [List.concat_eq_append] at *
        have hpos : decide ((0 : Int) < ((l ++ [x]).length : Int)) = true := by simp
        rw [hpos, if_pos rfl]
        have gx := st.good x (by simp)
        have hxR : ∀ k ∈ x.2, k < ws.length := fun k hk => by rw [gx.rd] at hk; exact hR k (Ec.mem_within.mp hk).1
        have hxl : x.2.length ≤ 1000 := by
          have : x.2.length ≤ (lotR ws lot).length := by rw [gx.rd]; exact List.length_filter_le _ _
          omega
        have hml : (l ++ [x]).map ptV = l.map ptV ++ [ptV x] := by simp
        refine WS_cut (fun ρ S' => S' = [some (.lst (l.map ptV)), some (.lst (found.map ptV))] ∧ ρ = [some (webV zs ws), some (.tup (nL lot)), some (.tup (nL (lotR ws lot))), some (.loc 0), some (.lst (outsP zs ws)), some (.loc 1), some (.tup (nL x.1)), some (.tup (nL x.2)), o8, o9, o10]) ?_ ?_
        · rw [WS_set, W_meL, W_var]
          refine ⟨_, rfl, _, lstL_loc.mpr rfl, ?_⟩
          rw [W_anil, hml]
          refine W_popV rfl ?_
          rw [WS_gTp]
          exact ⟨rfl, rfl, rfl⟩
        rintro ρ S' ⟨hS, hρ⟩
        subst hρ; subst hS
        refine WS_cut (fun ρ S' => S' = [some (.lst (l.map ptV)), some (.lst (found.map ptV))] ∧ ρ = [some (webV zs ws), some (.tup (nL lot)), some (.tup (nL (lotR ws lot))), some (.loc 0), some (.lst (outsP zs ws)), some (.loc 1), some (.tup (nL x.1)), some (.tup (nL x.2)), some (.lst ((Ec.parts (wb zs ws) rb x.1 x.2).map ptV)), o9, o10]) ?_ ?_
        · rw [WS_nm, W_call, W_acons, W_var]
          refine ⟨_, rfl, ?_⟩
          rw [W_acons, W_var]
          refine ⟨_, rfl, ?_⟩
          rw [W_acons, W_var]
          refine ⟨_, rfl, ?_⟩
          rw [W_acons, W_var]
          refine ⟨_, rfl, ?_⟩
          rw [W_anil]
          exact ⟨rfl, W_split ok hr gx.asc hxR hxl ⟨rfl, rfl⟩⟩
        rintro ρ S' ⟨hS, hρ⟩
        subst hρ; subst hS
        rw [WS_seq, WS_if, W_tbin, W_var]
        refine ⟨_, rfl, ?_⟩
        rw [W_lst, W_acons, W_tup, W_acons, W_var]
        refine ⟨_, rfl, ?_⟩
        rw [W_acons, W_var]
        refine ⟨_, rfl, ?_⟩
        rw [W_anil]
        refine ⟨show 2 ≤ lim by decide, ?_⟩
        rw [W_anil]
        refine ⟨show 1 ≤ lim by decide, ?_⟩
        refine W_eqPts (b := [x]) ⟨_, rfl, ?_⟩
        rw [List.length_append, List.length_singleton] at hlen
        by_cases c : Ec.parts (wb zs ws) rb x.1 x.2 = [x]
        · simp only [c, decide_true, if_true, Bool.false_eq_true, if_false]
          obtain ⟨st', hmu⟩ := st.found ok.ok hr c
          rw [WS_seq, WS_expr, W_meL, W_var]
          refine ⟨_, rfl, _, lstL_loc.mpr rfl, ?_⟩
          rw [W_acons, W_tup, W_acons, W_var]
          refine ⟨_, rfl, ?_⟩
          rw [W_acons, W_var]
          refine ⟨_, rfl, ?_⟩
          rw [W_anil]
          refine ⟨show 2 ≤ lim by decide, ?_⟩
          rw [W_anil, W_append]
          refine ⟨_, rfl, by rw [List.length_map]; unfold lim; omega, ?_⟩
          exact ⟨_, hmu, l, found ++ [x], _, _, _, _, _, by simp, st', rfl, rfl⟩
        · simp only [c, decide_false, if_true, Bool.false_eq_true, if_false]
          obtain ⟨st', hmu⟩ := st.split ok.ok hr c
          have hlen2 := line_len st'.good st'.dj
          rw [List.length_append, List.length_append] at hlen2
          rw [WS_seq, WS_expr, W_meL, W_var]
          refine ⟨_, rfl, _, lstL_loc.mpr rfl, ?_⟩
          rw [W_acons, W_var]
          refine ⟨_, rfl, ?_⟩
          rw [W_anil]
          refine W_extend rfl (by rw [List.length_map, List.length_map]; unfold lim; omega) ?_
          exact ⟨_, hmu, l ++ Ec.parts (wb zs ws) rb x.1 x.2, found, _, _, _, _, _, by simp, st', rfl, rfl⟩
    · rw [Ec.Mu_one]
      unfold Ec.mu fuel
      simp only [List.length_range]
      omega
  rintro ρ S' ⟨found, L, o6, o7, o8, o9, o10, hS, st, hρ⟩
  subst hρ; subst hS
  have hs := srt_pts found
  rw [WS_seq, WS_ret, W_prim, W_acons, W_prim, W_acons, W_var]
  refine ⟨_, rfl, ?_⟩
  rw [W_anil]
  have e : pSrt [.loc 1] [L, some (.lst (found.map ptV))] = .ok (.lst ((srtD leP (found.map fun x => (ptV x, ptD x))).map (·.1))) [L, some (.lst (found.map ptV))] := by
    have e1 : (lstL [L, some (.lst (found.map ptV))] (.loc 1)).bind srtP = some ((srtD leP (found.map fun x => (ptV x, ptD x))).map (·.1)) := by
      rw [lstL_loc.mpr (rfl : [L, some (Ob.lst (found.map ptV))][1]? = some (some (.lst (found.map ptV))))]
      exact hs
    simp only [pSrt, e1]
  rw [e, W_ok, W_anil, W_tupLst]
  refine ⟨?_, q found _ st hs⟩
  rw [noL]
  refine noLs_of fun p hp => ?_
  obtain ⟨x, _, rfl⟩ := List.mem_map.mp ((srt_mem hs).mem_iff.mp hp)
  simp [noL, noLs, noLs_n]
end
end Lw
namespace Lw
open PySem PySem.Spec PyProof.Rows L2 Mir
/-! ### numbers in order -/
theorem alike_n : ∀ l : List Nat, alikeB (nD l) = true
  | [] => rfl
  | x :: r => by
    rw [show nD (x :: r) = .int x :: nD r from rfl, alikeB, alike_n r]
    have : (nD r).all (fun e => PySem.W.alike (.int (x : Int)) e && PySem.W.alike e (.int (x : Int))) = true := by
      rw [List.all_eq_true]
      intro d hd
      obtain ⟨y, _, rfl⟩ := List.mem_map.mp hd
      rfl
    rw [this]; rfl
theorem srt_n (l : List Nat) : ∃ l' : List Nat, srtP (nL l) = some (nL l') ∧ l'.Perm l ∧ l'.Pairwise (· ≤ ·) := by
  have h2 : (nD l).all (fun d => !isNonD d && decide (d.depth ≤ 8)) = true := by
    rw [List.all_eq_true]
    intro d hd
    obtain ⟨q, _, rfl⟩ := List.mem_map.mp hd
    rfl
  have h3 : (nD l).all (fun d => !isTupD d) = true := by
    rw [List.all_eq_true]
    intro d hd
    obtain ⟨q, _, rfl⟩ := List.mem_map.mp hd
    rfl
  have e : (nL l).zip (nD l) = l.map fun (k : Nat) => (PV.int k, PyData.int k) := by
    clear h2 h3
    induction l with
    | nil => rfl
    | cons a r ih =>
      show (PV.int a :: nL r).zip (PyData.int a :: nD r) = _
      rw [List.zip_cons_cons, ih]; rfl
  let f : PV × PyData → Nat := fun x => match x.1 with
    | .int i => i.toNat
    | _ => 0
  let so := srtD leP (l.map fun (k : Nat) => (PV.int k, PyData.int k))
  have hso : ∀ x ∈ so, ∃ k ∈ l, x = (PV.int (k : Nat), PyData.int (k : Nat)) := fun x hx => by
    obtain ⟨k, hk, rfl⟩ := List.mem_map.mp ((srtD_perm _).mem_iff.mp hx)
    exact ⟨k, hk, rfl⟩
  refine ⟨so.map f, ?_, ?_, ?_⟩
  · unfold srtP
    rw [toDs_n]
    dsimp only
    rw [alike_n, h2, h3, Bool.or_true, e]
    show some (so.map (·.1)) = some ((so.map f).map fun (k : Nat) => PV.int k)
    rw [List.map_map]
    congr 1
    refine List.map_congr_left fun x hx => ?_
    obtain ⟨k, _, rfl⟩ := hso x hx
    rfl
  · have := (srtD_perm (le := leP) (l.map fun (k : Nat) => (PV.int k, PyData.int k))).map f
    rw [List.map_map] at this
    have e2 : (f ∘ fun (k : Nat) => (PV.int (k : Nat), PyData.int (k : Nat))) = id := by funext k; rfl
    rw [e2, List.map_id] at this
    exact this
  · rw [List.pairwise_map]
    have hp : so.Pairwise (fun x y => leP x y = true) := srtD_pw leP_total (l.map fun (k : Nat) => (PV.int k, PyData.int k))
    refine hp.imp_of_mem fun {x y} hx hy h => ?_
    obtain ⟨a, _, rfl⟩ := hso x hx
    obtain ⟨b, _, rfl⟩ := hso y hy
    have h1 : PySem.W.dataLt (.int (b : Int)) (.int (a : Int)) = false := by simpa [leP, dLe] using h
    rw [PySem.W.dataLt_int, decide_eq_false_iff_not] at h1
    show (a : Int).toNat ≤ (b : Int).toNat
    omega
theorem asc_of {l l' : List Nat} (hp : l'.Perm l) (hs : l'.Pairwise (· ≤ ·)) (hn : l.Nodup) : l'.Pairwise (· < ·) := by
  have hn' : l'.Nodup := hp.nodup_iff.mpr hn
  exact (hs.and hn').imp fun h => Nat.lt_of_le_of_ne h.1 h.2
section
variable {ρ : En} {S : Sto} {E : XP} {Q : PV → Sto → Prop} {X : XS} {N : En → Sto → Prop} {T : PV → Sto → Prop} {zs : List Nat} {ws : List Rn}
theorem W_srtN {x : PV} {l : List Nat} (h : lstL S x = some (nL l)) (hn : l.Nodup) (q : ∀ l' : List Nat, l'.Pairwise (· < ·) → (∀ k, k ∈ l' ↔ k ∈ l) → l'.length = l.length → Q (.lst (nL l')) S) : W (pSrt [x] S) E Q := by
  obtain ⟨l', e, hp, hs⟩ := srt_n l
  have e1 : (lstL S x).bind srtP = some (nL l') := by rw [h]; exact e
  simp only [pSrt, e1, W_ok]
  exact q l' (asc_of hp hs hn) (fun k => hp.mem_iff) hp.length_eq
/-- a road's start, as the law reads it -/
theorem W_srcV {i : Nat} {k : Nat} (h0 : ρ[0]? = some (some (webV zs ws))) (hi : ρ[i]? = some (some (.int k))) (hk : k < ws.length) (q : Q (.int ((wb zs ws).src k : Nat)) S) : W (eBin pIx (eBin pIx (eBin pIx (eVar 0) (eC (.int 1))) (eVar i)) (eC (.int 0)) ρ S) E Q := by
  rw [W_bin, W_bin, W_bin, W_var]
  refine ⟨_, h0, ?_⟩
  rw [W_c, W_ixTup]
  refine ⟨_, atI_one, ?_⟩
  rw [W_var]
  refine ⟨_, hi, ?_⟩
  rw [W_ixTup]
  refine ⟨_, atI_rn hk, ?_⟩
  rw [W_c, W_rn0, ← src_eq (zs := zs) hk]
  exact q
theorem W_dstV {i : Nat} {k : Nat} (h0 : ρ[0]? = some (some (webV zs ws))) (hi : ρ[i]? = some (some (.int k))) (hk : k < ws.length) (q : Q (.int ((wb zs ws).dst k : Nat)) S) : W (eBin pIx (eBin pIx (eBin pIx (eVar 0) (eC (.int 1))) (eVar i)) (eC (.int 1)) ρ S) E Q := by
  rw [W_bin, W_bin, W_bin, W_var]
  refine ⟨_, h0, ?_⟩
  rw [W_c, W_ixTup]
  refine ⟨_, atI_one, ?_⟩
  rw [W_var]
  refine ⟨_, hi, ?_⟩
  rw [W_ixTup]
  refine ⟨_, atI_rn hk, ?_⟩
  rw [W_c, W_rn1, ← dst_eq (zs := zs) hk]
  exact q
theorem W_lotV {i : Nat} {k : Nat} (h0 : ρ[0]? = some (some (webV zs ws))) (hi : ρ[i]? = some (some (.int k))) (hk : k < ws.length) (q : Q (.tup (nL (lotK ws k))) S) : W (eBin pIx (eBin pIx (eBin pIx (eVar 0) (eC (.int 1))) (eVar i)) (eC (.int 2)) ρ S) E Q := by
  rw [W_bin, W_bin, W_bin, W_var]
  refine ⟨_, h0, ?_⟩
  rw [W_c, W_ixTup]
  refine ⟨_, atI_one, ?_⟩
  rw [W_var]
  refine ⟨_, hi, ?_⟩
  rw [W_ixTup]
  refine ⟨_, atI_rn hk, ?_⟩
  rw [W_c, W_rn2]
  have : lotK ws k = ws[k].2.2.1 := by simp [lotK, hk]
  rw [← this]
  exact q
/-- in a list of the store -/
theorem W_inS {neg : Bool} {k n : Nat} {l : List Nat} (h : S[n]? = some (some (.lst (nL l)))) (q : Q (.bl (if neg then !decide (k ∈ l) else decide (k ∈ l))) S) : W (pIn neg (.int k) (.loc n) S) E Q := by
  have hs : SeqAt.shaped (.int (k : Int)) = true := rfl
  have e : drf S (.loc n) = .lst (nL l) := by
    have : lstAt S n = some (nL l) := lstAt_iff.mpr h
    simp [drf, this]
  have e2 : drf S (.int (k : Int)) = .int k := rfl
  simp only [pIn, inP, e, e2, toD, toDs_n, Option.map_some, Option.bind_some, seqD, hs, lay_n, Bool.and_self, if_true, W_of, Option.some.injEq, exists_eq_left', any_n]
  exact q
theorem W_starts {R : List Nat} (ok : WOk zs ws) (hR : ∀ k ∈ R, k < ws.length) (q : Q (.tup (nL (Ec.starts (wb zs ws) R))) S) : W (callM false m__law_starts [webV zs ws, .tup (nL R)] S) E Q := by
  have hn1 := ok.n1
  refine W_pure (by simp [noLs, noLs_rn ok, noL, noLs_n]) ?_
  simp only [m__law_starts, runM, b__law_starts, W_fin]
  refine WS_cut (fun ρ S' => S' = [some (.lst [])] ∧ ρ = [some (webV zs ws), some (.tup (nL R)), some (.loc 0), none]) ?_ ?_
  · rw [WS_nm, W_new, W_anil]
    exact ⟨Nat.zero_le _, rfl, rfl⟩
  rintro ρ S' ⟨hS, hρ⟩
  subst hρ; subst hS
  refine WS_cut (fun ρ S' => ∃ F o3, S' = [some (.lst (nL F))] ∧ F.Nodup ∧ (∀ x, x ∈ F ↔ ∃ k ∈ R, (wb zs ws).src k = x) ∧ ρ = [some (webV zs ws), some (.tup (nL R)), some (.loc 0), o3]) ?_ ?_
  · rw [WS_for, W_iseq, W_var]
    refine ⟨_, rfl, _, rfl, ?_⟩
    refine WS_frInv (fun r ρ S' => ∃ pre l F o3, R = pre ++ l ∧ r = nL l ∧ S' = [some (.lst (nL F))] ∧ F.Nodup ∧ (∀ x ∈ F, x < zs.length) ∧ (∀ x, x ∈ F ↔ ∃ k ∈ pre, (wb zs ws).src k = x) ∧ ρ = [some (webV zs ws), some (.tup (nL R)), some (.loc 0), o3]) _ _ _ ⟨[], R, [], none, rfl, rfl, rfl, .nil, by simp, by simp, rfl⟩ ?_ ?_
    · rintro p r ρ S' ⟨pre, l, F, o3, hRl, e, rfl, nd, lt, hm, rfl⟩
      cases l with
      | nil => cases e
      | cons k l =>
      cases e
      have hk := hR k (by rw [hRl]; simp)
      have hs := ok.ok.s k hk
      rw [WS_gNm, WS_seq, WS_if, W_tbin]
      refine W_srcV (zs := zs) (ws := ws) (k := k) rfl rfl hk ?_
      rw [W_var]
      refine ⟨_, rfl, W_inS rfl ⟨_, rfl, ?_⟩⟩
      by_cases c : (wb zs ws).src k ∈ F
      · simp only [c, decide_true, Bool.not_true, if_true, Bool.false_eq_true, if_false]
        refine ⟨pre ++ [k], l, F, _, by rw [hRl]; simp, rfl, rfl, nd, lt, fun x => ?_, rfl⟩
        rw [hm]
        constructor
        · rintro ⟨j, h1, h2⟩; exact ⟨j, List.mem_append_left _ h1, h2⟩
        · rintro ⟨j, h1, h2⟩
          rcases List.mem_append.mp h1 with h | h
          · exact ⟨j, h, h2⟩
          · rw [List.mem_singleton] at h; subst h; subst h2; exact (hm _).mp c
      · simp only [c, decide_false, Bool.not_false, if_true]
        rw [WS_seq, WS_expr, W_meL, W_var]
        refine ⟨_, rfl, _, lstL_loc.mpr rfl, ?_⟩
        rw [W_acons]
        refine W_srcV (zs := zs) (ws := ws) (k := k) rfl rfl hk ?_
        rw [W_anil, W_append]
        have := nodup_le nd lt
        refine ⟨_, rfl, by rw [List.length_map]; unfold lim; omega, ?_⟩
        refine ⟨pre ++ [k], l, F ++ [(wb zs ws).src k], _, by rw [hRl]; simp, rfl, by simp, ?_, ?_, fun x => ?_, rfl⟩
        · rw [List.nodup_append]
          exact ⟨nd, by simp, fun a ha b hb e => by rw [List.mem_singleton] at hb; subst hb; exact c (e ▸ ha)⟩
        · intro x hx
          rcases List.mem_append.mp hx with hx | hx
          · exact lt x hx
          · rw [List.mem_singleton] at hx; subst hx; exact hs
        · rw [List.mem_append, hm, List.mem_singleton]
          constructor
          · rintro (⟨j, h1, h2⟩ | rfl)
            · exact ⟨j, List.mem_append_left _ h1, h2⟩
            · exact ⟨k, by simp, rfl⟩
          · rintro ⟨j, h1, h2⟩
            rcases List.mem_append.mp h1 with h | h
            · exact .inl ⟨j, h, h2⟩
            · rw [List.mem_singleton] at h; subst h; exact .inr h2.symm
    · rintro ρ S' ⟨pre, l, F, o3, hRl, e, rfl, nd, lt, hm, rfl⟩
      cases l with
      | cons k l => cases e
      | nil =>
        rw [List.append_nil] at hRl
        subst hRl
        exact ⟨F, o3, rfl, nd, hm, rfl⟩
  rintro ρ S' ⟨F, o3, hS, nd, hm, hρ⟩
  subst hρ; subst hS
  rw [WS_seq, WS_ret, W_prim, W_acons, W_prim, W_acons, W_var]
  refine ⟨_, rfl, ?_⟩
  rw [W_anil]
  refine W_srtN (lstL_loc.mpr rfl) nd fun l' h1 h2 _ => ?_
  rw [W_anil, W_tupLst]
  have e : l' = Ec.starts (wb zs ws) R := Ec.Asc.ext h1 (List.pairwise_lt_range.sublist List.filter_sublist) fun x => by
    rw [h2, hm]; exact (Ec.mem_starts ok.ok hR).symm
  rw [e]
  exact ⟨by rw [noL]; exact noLs_n _, q⟩
theorem W_lawOuts {p : Nat} (ok : WOk zs ws) (q : Q (.lst (nL (Ec.outs (wb zs ws) p))) S) : W (callM false m__law_outs [webV zs ws, .int p] S) E Q := by
  have hm1 := ok.m1
  refine W_pure (by simp [noLs, noLs_rn ok, noL, noLs_n]) ?_
  simp only [m__law_outs, runM, b__law_outs, W_fin, WS_seq, WS_ret]
  refine W_lc ?_
  rw [W_enum, W_acons, W_bin, W_var]
  refine ⟨_, rfl, ?_⟩
  rw [W_c, W_ixTup]
  refine ⟨_, atI_one, ?_⟩
  rw [W_anil, W_en1]
  refine ⟨_, rfl, ?_⟩
  rw [enum_rn]
  refine W_lcMap _ (fun k => decide ((wb zs ws).src k = p)) (fun (x : Nat) => PV.int x) _ (fun k hk => ⟨_, rfl, ?_, fun _ => ?_⟩) ?_
  · rw [W_tbin, W_bin, W_var]
    refine ⟨_, rfl, ?_⟩
    rw [W_c, W_rn0, W_var]
    refine ⟨_, rfl, ?_⟩
    rw [eqI]
    refine ⟨_, rfl, ?_, rfl⟩
    simp only [Bool.false_eq_true, if_false]
    rw [Bool.eq_iff_iff, decide_eq_true_eq, decide_eq_true_eq]
    show _ ↔ (ws[k]?.getD (0, 0, [], 0)).1 = p
    omega
  · rw [W_var]; exact ⟨_, rfl, rfl, rfl⟩
  · refine ⟨by rw [List.length_map, List.length_range]; unfold lim; omega, ?_⟩
    simp only [Bool.false_eq_true, if_false]
    exact ⟨by rw [noL]; exact noLs_n _, q⟩
end
end Lw
namespace Lw
open PySem PySem.Spec PyProof.Rows L2 Mir
section
variable {ρ : En} {S : Sto} {E : XP} {Q : PV → Sto → Prop} {X : XS} {N : En → Sto → Prop} {T : PV → Sto → Prop} {zs : List Nat} {ws : List Rn}
theorem W_ends {p : Nat} {R : List Nat} (ok : WOk zs ws) (hR : ∀ k ∈ R, k < ws.length) (q : ∀ F : List Nat, F.Nodup → (∀ x ∈ F, x < zs.length) → (∀ x, x ∈ F ↔ ∃ k ∈ R, (wb zs ws).src k = p ∧ (wb zs ws).dst k = x) → Q (.lst (nL F)) S) : W (callM false m__law_ends [webV zs ws, .int p, .tup (nL R)] S) E Q := by
  have hn1 := ok.n1
  refine W_deep (by simp [noLs, noLs_rn ok, noL, noLs_n]) ?_
  simp only [m__law_ends, runM, b__law_ends, W_fin]
  refine WS_cut (fun ρ S' => S' = [some (.lst [])] ∧ ρ = [some (webV zs ws), some (.int p), some (.tup (nL R)), some (.loc 0), none]) ?_ ?_
  · rw [WS_nm, W_new, W_anil]
    exact ⟨Nat.zero_le _, rfl, rfl⟩
  rintro ρ S' ⟨hS, hρ⟩
  subst hρ; subst hS
  refine WS_cut (fun ρ S' => ∃ F o3, S' = [some (.lst (nL F))] ∧ F.Nodup ∧ (∀ x ∈ F, x < zs.length) ∧ (∀ x, x ∈ F ↔ ∃ k ∈ R, (wb zs ws).src k = p ∧ (wb zs ws).dst k = x) ∧ ρ = [some (webV zs ws), some (.int p), some (.tup (nL R)), some (.loc 0), o3]) ?_ ?_
  · rw [WS_for, W_iseq, W_var]
    refine ⟨_, rfl, _, rfl, ?_⟩
    refine WS_frInv (fun r ρ S' => ∃ pre l F o3, R = pre ++ l ∧ r = nL l ∧ S' = [some (.lst (nL F))] ∧ F.Nodup ∧ (∀ x ∈ F, x < zs.length) ∧ (∀ x, x ∈ F ↔ ∃ k ∈ pre, (wb zs ws).src k = p ∧ (wb zs ws).dst k = x) ∧ ρ = [some (webV zs ws), some (.int p), some (.tup (nL R)), some (.loc 0), o3]) _ _ _ ⟨[], R, [], none, rfl, rfl, rfl, .nil, by simp, by simp, rfl⟩ ?_ ?_
    · rintro y r ρ S' ⟨pre, l, F, o3, hRl, e, rfl, nd, lt, hm, rfl⟩
      cases l with
      | nil => cases e
      | cons k l =>
      cases e
      have hk := hR k (by rw [hRl]; simp)
      have hs := ok.ok.d k hk
      have skip : ((wb zs ws).src k = p → (wb zs ws).dst k ∈ F) → ∀ x, x ∈ F ↔ ∃ j ∈ pre ++ [k], (wb zs ws).src j = p ∧ (wb zs ws).dst j = x := fun hh x => by
        rw [hm]
        constructor
        · rintro ⟨j, h1, h2⟩; exact ⟨j, List.mem_append_left _ h1, h2⟩
        · rintro ⟨j, h1, h2⟩
          rcases List.mem_append.mp h1 with h | h
          · exact ⟨j, h, h2⟩
          · rw [List.mem_singleton] at h; subst h
            have := hh h2.1
            rw [h2.2] at this
            exact (hm _).mp this
      rw [WS_gNm, WS_seq, WS_if, W_tand, W_tbin]
      refine W_srcV (zs := zs) (ws := ws) (k := k) rfl rfl hk ?_
      rw [W_var]
      refine ⟨_, rfl, ?_⟩
      rw [eqI]
      refine ⟨_, rfl, ?_⟩
      by_cases c0 : (wb zs ws).src k = p
      · have c1 : (((wb zs ws).src k : Nat) : Int) = (p : Int) := by omega
        simp only [c1, decide_true, if_true, Bool.false_eq_true, if_false]
        rw [W_tbin]
        refine W_dstV (zs := zs) (ws := ws) (k := k) rfl rfl hk ?_
        rw [W_var]
        refine ⟨_, rfl, W_inS rfl ⟨_, rfl, ?_⟩⟩
        by_cases c : (wb zs ws).dst k ∈ F
        · simp only [c, decide_true, Bool.not_true, if_true, Bool.false_eq_true, if_false]
          exact ⟨pre ++ [k], l, F, _, by rw [hRl]; simp, rfl, rfl, nd, lt, skip fun _ => c, rfl⟩
        · simp only [c, decide_false, Bool.not_false, if_true]
          rw [WS_seq, WS_expr, W_meL, W_var]
          refine ⟨_, rfl, _, lstL_loc.mpr rfl, ?_⟩
          rw [W_acons]
          refine W_dstV (zs := zs) (ws := ws) (k := k) rfl rfl hk ?_
          rw [W_anil, W_append]
          have := nodup_le nd lt
          refine ⟨_, rfl, by rw [List.length_map]; unfold lim; omega, ?_⟩
          refine ⟨pre ++ [k], l, F ++ [(wb zs ws).dst k], _, by rw [hRl]; simp, rfl, by simp, ?_, ?_, fun x => ?_, rfl⟩
          · rw [List.nodup_append]
            exact ⟨nd, by simp, fun a ha b hb e => by rw [List.mem_singleton] at hb; subst hb; exact c (e ▸ ha)⟩
          · intro x hx
            rcases List.mem_append.mp hx with hx | hx
            · exact lt x hx
            · rw [List.mem_singleton] at hx; subst hx; exact hs
          · rw [List.mem_append, hm, List.mem_singleton]
            constructor
            · rintro (⟨j, h1, h2⟩ | rfl)
              · exact ⟨j, List.mem_append_left _ h1, h2⟩
              · exact ⟨k, by simp, c0, rfl⟩
            · rintro ⟨j, h1, h2⟩
              rcases List.mem_append.mp h1 with h | h
              · exact .inl ⟨j, h, h2⟩
              · rw [List.mem_singleton] at h; subst h; exact .inr h2.2.symm
      · have c1 : ¬ (((wb zs ws).src k : Nat) : Int) = (p : Int) := by omega
        simp only [c1, decide_false, if_true, Bool.false_eq_true, if_false]
        exact ⟨pre ++ [k], l, F, _, by rw [hRl]; simp, rfl, rfl, nd, lt, skip fun h => absurd h c0, rfl⟩
    · rintro ρ S' ⟨pre, l, F, o3, hRl, e, rfl, nd, lt, hm, rfl⟩
      cases l with
      | cons k l => cases e
      | nil =>
        rw [List.append_nil] at hRl
        subst hRl
        exact ⟨F, o3, rfl, nd, lt, hm, rfl⟩
  rintro ρ S' ⟨F, o3, hS, nd, lt, hm, hρ⟩
  subst hρ; subst hS
  rw [WS_seq, WS_ret, W_var]
  refine ⟨_, rfl, _, ?_, q F nd lt hm⟩
  unfold deepT
  simp [noLs_n]
@[simp] theorem WS_aug {i : Nat} {f : P2} {a : EM} : WS (sAug i f a ρ S) X N T = W (eBin f (eVar i) a ρ S) (fun c a S => X c a ρ S) fun v S => N (ρ.set i (some v)) S := by
  unfold sAug
  simp only [W_bin]
  rcases h : ρ[i]? with _ | _ | v
  · simp [eVar, h, WS, W]
  · simp [eVar, h, WS, W]
  · have e : eVar i ρ S = .ok v S := by simp [eVar, h]
    rw [e, W_ok]
    simp only [WS_bindS, WS_nx]
theorem W_behind {p : Nat} {R : List Nat} (ok : WOk zs ws) (hp : p < zs.length) (hR : ∀ k ∈ R, k < ws.length) (q : ∀ F : List Nat, F.length ≤ 4 → (∀ x, x ∈ F ↔ Ec.Rch (wb zs ws) R p x) → Q (.lst (nL F)) S) : W (callM false m__law_behind [webV zs ws, .int p, .tup (nL R)] S) E Q := by
  have hn1 := ok.n1
  refine W_pure (by simp [noLs, noLs_rn ok, noL, noLs_n]) ?_
  simp only [m__law_behind, runM, b__law_behind, W_fin]
  refine WS_cut (fun ρ S' => S' = [] ∧ ρ = [some (webV zs ws), some (.int p), some (.tup (nL R)), some (.lst (nL [p])), some (.int (0 : Nat)), none]) ?_ ?_
  · rw [WS_set, W_tup, W_acons, W_lst, W_acons, W_var]
    refine ⟨_, rfl, ?_⟩
    rw [W_anil]
    refine ⟨show 1 ≤ lim by decide, ?_⟩
    rw [W_acons, W_c, W_anil]
    refine ⟨show 2 ≤ lim by decide, ?_⟩
    rw [WS_gTp]
    exact ⟨rfl, rfl, rfl⟩
  rintro ρ S' ⟨hS, hρ⟩
  subst hρ; subst hS
  refine WS_cut (fun ρ S' => ∃ F o4 o5, S' = [] ∧ F.Nodup ∧ (∀ x ∈ F, x < zs.length) ∧ (∀ x, x ∈ F ↔ Ec.Rch (wb zs ws) R p x) ∧ ρ = [some (webV zs ws), some (.int p), some (.tup (nL R)), some (.lst (nL F)), o4, o5]) ?_ ?_
  · unfold sWhl
    refine WS_whl (fun m ρ S' => ∃ (F : List Nat) (at_ : Nat) (o5 : Option PV), S' = [] ∧ F.Nodup ∧ (∀ x ∈ F, x < zs.length) ∧ (∀ x ∈ F, Ec.Rch (wb zs ws) R p x) ∧ p ∈ F ∧ at_ ≤ F.length ∧ (∀ i (h : i < F.length), i < at_ → ∀ k ∈ R, (wb zs ws).src k = F[i] → (wb zs ws).dst k ∈ F) ∧ m = zs.length - at_ ∧ ρ = [some (webV zs ws), some (.int p), some (.tup (nL R)), some (.lst (nL F)), some (.int at_), o5]) ?_ fuel zs.length _ _ (by unfold fuel; omega) ⟨[p], 0, none, rfl, by simp, fun x hx => by rw [List.mem_singleton] at hx; subst hx; exact hp, fun x hx => by rw [List.mem_singleton] at hx; subst hx; exact .refl _, by simp, Nat.zero_le _, fun i h h2 => absurd h2 (Nat.not_lt_zero _), rfl, rfl⟩
    rintro m ρ S' ⟨F, at_, o5, rfl, nd, lt, rch, here, hat, cl, rfl, rfl⟩
    have hFl := nodup_le nd lt
    rw [W_tbin, W_var]
    refine ⟨_, rfl, ?_⟩
    rw [W_prim, W_acons, W_var]
    refine ⟨_, rfl, ?_⟩
    rw [W_anil, W_lenLst, W_pI]
    refine ⟨_, rfl, _, rfl, ?_⟩
    rw [List.length_map]
    by_cases c : at_ < F.length
    · have c1 : decide ((at_ : Int) < (F.length : Int)) = true := by simpa using c
      rw [c1, if_pos rfl]
      have hfa : F[at_] < zs.length := lt _ (List.getElem_mem c)
      rw [WS_seq, WS_nm, W_bin, W_var]
      refine ⟨_, rfl, ?_⟩
      refine W_lc ?_
      rw [W_iseq, W_call, W_acons, W_var]
      refine ⟨_, rfl, ?_⟩
      rw [W_acons, W_bin, W_var]
      refine ⟨_, rfl, ?_⟩
      rw [W_var]
      refine ⟨_, rfl, ?_⟩
      rw [W_ixLst]
      refine ⟨_, atI_n c, ?_⟩
      rw [W_acons, W_var]
      refine ⟨_, rfl, ?_⟩
      rw [W_anil]
      refine ⟨rfl, W_ends ok hR fun G gnd glt gm => ?_⟩
      have hGl := nodup_le gnd glt
      refine ⟨_, rfl, ?_⟩
      refine W_lcMap _ (fun x => !decide (x ∈ F)) (fun (x : Nat) => PV.int x) G (fun x hx => ⟨_, rfl, ?_, fun _ => ?_⟩) ?_
      · rw [W_tbin, W_var]
        refine ⟨_, rfl, ?_⟩
        rw [W_var]
        exact ⟨_, rfl, W_inL ⟨_, rfl, rfl, rfl⟩⟩
      · rw [W_var]; exact ⟨_, rfl, rfl, rfl⟩
      · have hgf := List.length_filter_le (fun x => !decide (x ∈ F)) G
        refine ⟨by rw [List.length_map]; unfold lim; omega, ?_⟩
        simp only [Bool.false_eq_true, if_false]
        refine W_addL (by rw [List.length_map, List.length_map]; unfold lim; omega) ?_
        rw [WS_seq, WS_aug, W_bin, W_var]
        refine ⟨_, rfl, ?_⟩
        rw [W_c, W_pI]
        refine ⟨_, rfl, ?_⟩
        have hdst : ∀ k ∈ R, (wb zs ws).src k = F[at_] → (wb zs ws).dst k ∈ F ++ G.filter fun x => !decide (x ∈ F) := fun k hk hs => by
          have hg : (wb zs ws).dst k ∈ G := (gm _).mpr ⟨k, hk, hs, rfl⟩
          by_cases hf : (wb zs ws).dst k ∈ F
          · exact List.mem_append_left _ hf
          · exact List.mem_append_right _ (List.mem_filter.mpr ⟨hg, by simpa using hf⟩)
        refine ⟨zs.length - (at_ + 1), by omega, F ++ G.filter (fun x => !decide (x ∈ F)), at_ + 1, o5, rfl, ?_, ?_, ?_, List.mem_append_left _ here, by rw [List.length_append]; omega, ?_, rfl, ?_⟩
        · rw [List.nodup_append]
          exact ⟨nd, gnd.sublist List.filter_sublist, fun a ha b hb e => by
            have := (List.mem_filter.mp hb).2
            rw [← e] at this
            simp [ha] at this⟩
        · intro x hx
          rcases List.mem_append.mp hx with hx | hx
          · exact lt x hx
          · exact glt x (List.mem_filter.mp hx).1
        · intro x hx
          rcases List.mem_append.mp hx with hx | hx
          · exact rch x hx
          · obtain ⟨k, hk, h1, h2⟩ := (gm x).mp (List.mem_filter.mp hx).1
            rw [← h2]
            exact .tail (rch _ (List.getElem_mem c)) hk h1
        · intro i hi hi2 k hk hs
          by_cases hc : i < F.length
          · rw [List.getElem_append_left hc] at hs
            by_cases hie : i = at_
            · subst hie; exact hdst k hk hs
            · exact List.mem_append_left _ (cl i hc (by omega) k hk hs)
          · omega
        · simp
    · have c1 : decide ((at_ : Int) < (F.length : Int)) = false := by simpa using c
      rw [c1, if_neg Bool.false_ne_true]
      refine ⟨F, _, _, rfl, nd, lt, fun x => ⟨rch x, fun hx => ?_⟩, rfl⟩
      induction hx with
      | refl => exact here
      | tail _ hk e ih =>
        obtain ⟨i, hi, e2⟩ := List.mem_iff_getElem.mp ih
        exact cl i hi (by omega) _ hk (by rw [e, e2])
  rintro ρ S' ⟨F, o4, o5, hS, nd, lt, hm, hρ⟩
  subst hρ; subst hS
  rw [WS_seq, WS_ret, W_var]
  have := nodup_le nd lt
  exact ⟨_, rfl, by rw [noL]; exact noLs_n _, q F (by omega) hm⟩
end
end Lw
namespace Lw
open PySem PySem.Spec PyProof.Rows L2 Mir
section
variable {ρ : En} {S : Sto} {E : XP} {Q : PV → Sto → Prop} {X : XS} {N : En → Sto → Prop} {T : PV → Sto → Prop} {zs : List Nat} {ws : List Rn}
theorem W_nilN {neg : Bool} {l : List Nat} (q : Q (.bl (if neg then !l.isEmpty else l.isEmpty)) S) : W (pEq neg (.lst (nL l)) (.lst []) S) E Q := by
  refine W_nil (n := 1) kv_n ?_
  have e : (nL l).isEmpty = l.isEmpty := by cases l <;> rfl
  rw [e]; exact q
/-- what the law asks of one place -/
def At1 (w : Ec.Wb) (P R : List Nat) (p : Nat) : Prop := (∃ k, k < w.m ∧ k ∈ R ∧ w.src k = p) ∧ (w.ch p = true → ∀ k, k < w.m → w.src k = p → k ∈ R) ∧ ∀ q ∈ P, Ec.Rch w R p q
theorem rb_ex (w : Ec.Wb) : ∃ rb, Ec.RbOk w rb := ⟨fun R p q => @decide (Ec.Rch w R p q) (Classical.propDecidable _), fun R p q => @decide_eq_true_iff _ (Classical.propDecidable _)⟩
theorem W_isPart {P R : List Nat} (ok : WOk zs ws) (hP : ∀ p ∈ P, p < zs.length) (hR : ∀ k ∈ R, k < ws.length) (hPl : P.length ≤ 1000) (hRl : R.length ≤ 1000) (q : ∀ b : Bool, (b = true ↔ Ec.IsPart (wb zs ws) P R) → Q (.bl b) S) : W (callM false m__law_is_part [webV zs ws, .tup (nL P), .tup (nL R)] S) E Q := by
  have hn1 := ok.n1
  have hm1 := ok.m1
  refine W_pure (by simp [noLs, noLs_rn ok, noL, noLs_n]) ?_
  have no : ¬ Ec.IsPart (wb zs ws) P R → noL (.bl false) = true ∧ Q (.bl false) S := fun h => ⟨rfl, q false ⟨fun z => (by cases z), fun z => absurd z h⟩⟩
  simp only [m__law_is_part, runM, b__law_is_part, W_fin]
  refine WS_cut (fun ρ S' => S' = [] ∧ P ≠ [] ∧ (∀ k ∈ R, (wb zs ws).src k ∈ P ∧ (wb zs ws).dst k ∈ P) ∧ ρ = [some (webV zs ws), some (.tup (nL P)), some (.tup (nL R)), none, none, none, none]) ?_ ?_
  · rw [WS_if, W_tor, W_tbin, W_prim, W_acons, W_var]
    refine ⟨_, rfl, ?_⟩
    rw [W_anil, W_lenTup, W_c, eqI]
    refine ⟨_, rfl, ?_⟩
    rw [List.length_map]
    by_cases h0 : P = []
    · subst h0
      simp only [List.length_nil, Bool.false_eq_true, if_false]
      exact no fun h => h.ne rfl
    · have hl : ¬ (P.length : Int) = 0 := by
        have := List.length_pos_iff.mpr h0; omega
      simp only [hl, decide_false, Bool.false_eq_true, if_false]
      rw [W_tbin]
      refine W_lc ?_
      rw [W_iseq, W_var]
      refine ⟨_, rfl, _, rfl, ?_⟩
      refine W_lcMap _ (fun k => !(decide ((wb zs ws).src k ∈ P) && decide ((wb zs ws).dst k ∈ P))) (fun (x : Nat) => PV.int x) R (fun k hk => ⟨_, rfl, ?_, fun _ => ?_⟩) ?_
      · rw [W_tor, W_tbin]
        refine W_srcV (zs := zs) (ws := ws) (k := k) rfl rfl (hR k hk) ?_
        rw [W_var]
        refine ⟨_, rfl, W_inT ⟨_, rfl, ?_⟩⟩
        cases h1 : decide ((wb zs ws).src k ∈ P) with
        | false => exact ⟨rfl, rfl⟩
        | true =>
          simp only [Bool.not_true, if_true, Bool.false_eq_true, if_false, Bool.true_and]
          rw [W_tbin]
          refine W_dstV (zs := zs) (ws := ws) (k := k) rfl rfl (hR k hk) ?_
          rw [W_var]
          exact ⟨_, rfl, W_inT ⟨_, rfl, rfl, rfl⟩⟩
      · rw [W_var]; exact ⟨_, rfl, rfl, rfl⟩
      · refine ⟨by rw [List.length_map]; unfold lim; omega, ?_⟩
        simp only [Bool.false_eq_true, if_false]
        rw [W_lst, W_anil]
        refine ⟨Nat.zero_le _, W_nilN ⟨_, rfl, ?_⟩⟩
        cases hf : R.filter fun k => !(decide ((wb zs ws).src k ∈ P) && decide ((wb zs ws).dst k ∈ P)) with
        | nil =>
          refine ⟨rfl, h0, fun k hk => ?_, rfl⟩
          have := List.filter_eq_nil_iff.mp hf k hk
          simpa using this
        | cons k r =>
          have hk : k ∈ R.filter fun k => !(decide ((wb zs ws).src k ∈ P) && decide ((wb zs ws).dst k ∈ P)) := by rw [hf]; exact List.mem_cons_self
          obtain ⟨h1, h2⟩ := List.mem_filter.mp hk
          refine no fun h => ?_
          have := h.win k h1
          simp [this] at h2
  rintro ρ S' ⟨hS, h0, hwin, hρ⟩
  subst hρ; subst hS
  refine WS_cut (fun ρ S' => (∀ p ∈ P, At1 (wb zs ws) P R p)) ?_ ?_
  · rw [WS_for, W_iseq, W_var]
    refine ⟨_, rfl, _, rfl, ?_⟩
    refine WS_frInv (fun r ρ S' => ∃ pre l o3 o4 o5 o6, P = pre ++ l ∧ r = nL l ∧ S' = [] ∧ (∀ p ∈ pre, At1 (wb zs ws) P R p) ∧ ρ = [some (webV zs ws), some (.tup (nL P)), some (.tup (nL R)), o3, o4, o5, o6]) _ _ _ ⟨[], P, none, none, none, none, rfl, rfl, rfl, by simp, rfl⟩ ?_ ?_
    · rintro y r ρ S' ⟨pre, l, o3, o4, o5, o6, hPl2, e, rfl, hpre, rfl⟩
      cases l with
      | nil => cases e
      | cons p l =>
      cases e
      have hpP : p ∈ P := by rw [hPl2]; simp
      have hp := hP p hpP
      have bad : ¬ At1 (wb zs ws) P R p → noL (.bl false) = true ∧ Q (.bl false) S := fun h => no fun z => h ⟨z.ex p hpP, z.al p hpP, z.con p hpP⟩
      have hol : (Ec.outs (wb zs ws) p).length ≤ 7 := by
        have h1 := List.length_filter_le (fun k => decide ((wb zs ws).src k = p)) (List.range (wb zs ws).m)
        rw [List.length_range] at h1
        have h2 : (wb zs ws).m = ws.length := rfl
        unfold Ec.outs; omega
      rw [WS_gNm]
      refine WS_cut (fun ρ S' => S' = [] ∧ ρ = [some (webV zs ws), some (.tup (nL P)), some (.tup (nL R)), some (.int p), some (.lst (nL ((Ec.outs (wb zs ws) p).filter fun k => decide (k ∈ R)))), o5, o6]) ?_ ?_
      · rw [WS_nm]
        refine W_lc ?_
        rw [W_iseq, W_call, W_acons, W_var]
        refine ⟨_, rfl, ?_⟩
        rw [W_acons, W_var]
        refine ⟨_, rfl, ?_⟩
        rw [W_anil]
        refine ⟨rfl, W_lawOuts ok ⟨_, rfl, ?_⟩⟩
        refine W_lcMap _ (fun k => decide (k ∈ R)) (fun (x : Nat) => PV.int x) _ (fun k hk => ⟨_, rfl, ?_, fun _ => ?_⟩) ?_
        · rw [W_tbin, W_var]
          refine ⟨_, rfl, ?_⟩
          rw [W_var]
          exact ⟨_, rfl, W_inT ⟨_, rfl, rfl, rfl⟩⟩
        · rw [W_var]; exact ⟨_, rfl, rfl, rfl⟩
        · refine ⟨by rw [List.length_map]; unfold lim; omega, ?_⟩
          exact ⟨rfl, rfl⟩
      rintro ρ S' ⟨hS, hρ⟩
      subst hρ; subst hS
      refine WS_cut (fun ρ S' => S' = [] ∧ (∃ k, k < ws.length ∧ k ∈ R ∧ (wb zs ws).src k = p) ∧ ((wb zs ws).ch p = true → ∀ k, k < ws.length → (wb zs ws).src k = p → k ∈ R) ∧ ρ = [some (webV zs ws), some (.tup (nL P)), some (.tup (nL R)), some (.int p), some (.lst (nL ((Ec.outs (wb zs ws) p).filter fun k => decide (k ∈ R)))), o5, o6]) ?_ ?_
      · rw [WS_if, W_tor, W_tbin, W_var]
        refine ⟨_, rfl, ?_⟩
        rw [W_lst, W_anil]
        refine ⟨Nat.zero_le _, W_nilN ⟨_, rfl, ?_⟩⟩
        cases hf : (Ec.outs (wb zs ws) p).filter fun k => decide (k ∈ R) with
        | nil =>
          refine bad fun h => ?_
          obtain ⟨k, h1, h2, h3⟩ := h.1
          have : k ∈ (Ec.outs (wb zs ws) p).filter fun k => decide (k ∈ R) := List.mem_filter.mpr ⟨Ec.mem_outs.mpr ⟨h1, h3⟩, by simpa using h2⟩
          rw [hf] at this; cases this
        | cons k0 r0 =>
          have hk0 : k0 ∈ (Ec.outs (wb zs ws) p).filter fun k => decide (k ∈ R) := by rw [hf]; exact List.mem_cons_self
          obtain ⟨g1, g2⟩ := List.mem_filter.mp hk0
          obtain ⟨g3, g4⟩ := Ec.mem_outs.mp g1
          have hex : ∃ k, k < ws.length ∧ k ∈ R ∧ (wb zs ws).src k = p := ⟨k0, g3, of_decide_eq_true g2, g4⟩
          rw [← hf]
          have hne : ((Ec.outs (wb zs ws) p).filter fun k => decide (k ∈ R)).isEmpty = false := by rw [hf]; rfl
          simp only [Bool.false_eq_true, if_false, hne]
          rw [W_tand, W_tbin, W_bin, W_bin, W_var]
          refine ⟨_, rfl, ?_⟩
          rw [W_c, W_ixTup]
          refine ⟨_, atI_zero, ?_⟩
          rw [W_var]
          refine ⟨_, rfl, ?_⟩
          rw [W_ixTup]
          refine ⟨_, atI_n hp, ?_⟩
          rw [W_c, eqI]
          refine ⟨_, rfl, ?_⟩
          have hch : (wb zs ws).ch p = decide (zs[p] = 2) := by simp [wb, hp]
          by_cases h2 : zs[p] = 2
          · have h3 : ((zs[p] : Nat) : Int) = 2 := by omega
            simp only [h3, decide_true, if_true, Bool.false_eq_true, if_false]
            rw [W_tbin, W_prim, W_acons, W_var]
            refine ⟨_, rfl, ?_⟩
            rw [W_anil, W_lenLst, W_prim, W_acons, W_call, W_acons, W_var]
            refine ⟨_, rfl, ?_⟩
            rw [W_acons, W_var]
            refine ⟨_, rfl, ?_⟩
            rw [W_anil]
            refine ⟨rfl, W_lawOuts ok ?_⟩
            rw [W_anil, W_lenLst, W_pI]
            refine ⟨_, rfl, _, rfl, ?_⟩
            rw [List.length_map, List.length_map]
            by_cases ha : ∀ k ∈ Ec.outs (wb zs ws) p, decide (k ∈ R) = true
            · have he := List.filter_eq_self.mpr ha
              have : ¬ ((((Ec.outs (wb zs ws) p).filter fun k => decide (k ∈ R)).length : Int) < ((Ec.outs (wb zs ws) p).length : Int)) := by rw [he]; omega
              simp only [this, decide_false, Bool.false_eq_true, if_false]
              exact ⟨rfl, hex, fun _ k h1 h2 => of_decide_eq_true (ha k (Ec.mem_outs.mpr ⟨h1, h2⟩)), rfl⟩
            · have hlt : (((Ec.outs (wb zs ws) p).filter fun k => decide (k ∈ R)).length : Int) < ((Ec.outs (wb zs ws) p).length : Int) := by
                have h1 := List.length_filter_le (fun k => decide (k ∈ R)) (Ec.outs (wb zs ws) p)
                have h4 : ((Ec.outs (wb zs ws) p).filter fun k => decide (k ∈ R)).length ≠ (Ec.outs (wb zs ws) p).length := fun e => ha (List.length_filter_eq_length_iff.mp e)
                omega
              simp only [hlt, decide_true, if_true]
              refine bad fun h => ha fun k hk => ?_
              obtain ⟨h5, h6⟩ := Ec.mem_outs.mp hk
              exact decide_eq_true (h.2.1 (by rw [hch, h2]; rfl) k h5 h6)
          · have h3 : ¬ ((zs[p] : Nat) : Int) = 2 := by omega
            simp only [h3, decide_false, Bool.false_eq_true, if_false]
            exact ⟨rfl, hex, fun hc => by rw [hch] at hc; exact absurd (of_decide_eq_true hc) h2, rfl⟩
      rintro ρ S' ⟨hS, hex, hal, hρ⟩
      subst hρ; subst hS
      rw [WS_seq, WS_if, W_tbin]
      refine W_lc ?_
      rw [W_iseq, W_var]
      refine ⟨_, rfl, _, rfl, ?_⟩
      obtain ⟨rb, hr⟩ := rb_ex (wb zs ws)
      refine W_lcMap _ (fun x => !rb R p x) (fun (x : Nat) => PV.int x) P (fun x hx => ⟨_, rfl, ?_, fun _ => ?_⟩) ?_
      · rw [W_tbin, W_var]
        refine ⟨_, rfl, ?_⟩
        rw [W_call, W_acons, W_var]
        refine ⟨_, rfl, ?_⟩
        rw [W_acons, W_var]
        refine ⟨_, rfl, ?_⟩
        rw [W_acons, W_var]
        refine ⟨_, rfl, ?_⟩
        rw [W_anil]
        refine ⟨rfl, W_behind ok hp hR fun F _ hF => W_inL ⟨_, rfl, ?_, rfl⟩⟩
        have : decide (x ∈ F) = rb R p x := by rw [Bool.eq_iff_iff, decide_eq_true_eq, hr]; exact hF x
        simp only [if_true, this]
      · rw [W_var]; exact ⟨_, rfl, rfl, rfl⟩
      · refine ⟨by rw [List.length_map]; unfold lim; omega, ?_⟩
        simp only [Bool.false_eq_true, if_false]
        rw [W_lst, W_anil]
        refine ⟨Nat.zero_le _, W_nilN ⟨_, rfl, ?_⟩⟩
        cases hf : P.filter fun x => !rb R p x with
        | nil =>
          refine ⟨pre ++ [p], l, _, _, _, _, by rw [hPl2]; simp, rfl, rfl, fun y hy => ?_, rfl⟩
          rcases List.mem_append.mp hy with hy | hy
          · exact hpre y hy
          · rw [List.mem_singleton] at hy
            subst hy
            refine ⟨hex, hal, fun x hx => (hr R y x).mp ?_⟩
            have := List.filter_eq_nil_iff.mp hf x hx
            simpa using this
        | cons x0 r0 =>
          have hx : x0 ∈ P.filter fun x => !rb R p x := by rw [hf]; exact List.mem_cons_self
          obtain ⟨h1, h2⟩ := List.mem_filter.mp hx
          refine bad fun h => ?_
          rw [(hr R p x0).mpr (h.2.2 x0 h1)] at h2
          cases h2
    · rintro ρ S' ⟨pre, l, o3, o4, o5, o6, hPl2, e, rfl, hpre, rfl⟩
      cases l with
      | cons p l => cases e
      | nil => rw [List.append_nil] at hPl2; subst hPl2; exact hpre
  intro ρ S' hall
  simp only [WS_seq, WS_ret, W_c]
  exact ⟨rfl, q true ⟨fun _ => ⟨h0, hwin, fun p hp => (hall p hp).1, fun p hp => (hall p hp).2.1, fun p hp => (hall p hp).2.2⟩, fun _ => rfl⟩⟩
end
end Lw
namespace Lw
open PySem PySem.Spec PyProof.Rows L2 Mir
theorem part_iff {w : Ec.Wb} (ok : w.Ok) {rb : List Nat → Nat → Nat → Bool} (hr : Ec.RbOk w rb) {P R : List Nat} (hP : ∀ p ∈ P, p < w.n) : Ec.IsPart w P R ↔ P ≠ [] ∧ Ec.within w P R = R ∧ (∀ p ∈ P, Ec.stay w R p = true) ∧ Ec.groups (rb R) P [] P = [P] := by
  constructor
  · intro h
    refine ⟨h.ne, List.filter_eq_self.mpr fun k hk => ?_, fun p hp => (Ec.stay_iff ok (hP p hp)).mpr ⟨h.ex p hp, h.al p hp⟩, Ec.groups_joined (Ec.eqv_rb hr R P) h.ne fun p hp q hq => (hr R p q).mpr (h.con p hp q hq)⟩
    have := h.win k hk
    simp [this]
  · rintro ⟨h1, h2, h3, h4⟩
    have hone := Ec.groups_one (Ec.eqv_rb hr R P) h4
    exact ⟨h1, fun k hk => by rw [← h2] at hk; exact (Ec.mem_within.mp hk).2, fun p hp => ((Ec.stay_iff ok (hP p hp)).mp (h3 p hp)).1, fun p hp => ((Ec.stay_iff ok (hP p hp)).mp (h3 p hp)).2, fun p hp q hq => (hr R p q).mp (hone p hp q hq)⟩
theorem lot_nat {n : Nat} {v : PV} : lotV ((n : Int) - 1) 0 v = true ↔ ∃ l : List Nat, v = .tup (nL l) ∧ Ec.Asc n l := by
  constructor
  · intro h
    cases v <;> first | (simp [lotV] at h; done) | skip
    rename_i ps
    obtain ⟨zs, rfl⟩ := lotA_ints ps 0 h
    obtain ⟨h1, h2⟩ := (lotA_iff _ zs 0).mp h
    refine ⟨zs.map Int.toNat, ?_, ?_, ?_⟩
    · congr 1
      show zs.map PV.int = (zs.map Int.toNat).map fun (k : Nat) => PV.int k
      rw [List.map_map]
      refine List.map_congr_left fun z hz => ?_
      have := (h1 z hz).1
      show PV.int z = PV.int ((z.toNat : Nat) : Int)
      rw [Int.toNat_of_nonneg this]
    · rw [List.pairwise_map]
      refine h2.imp_of_mem fun {a b} ha hb h => ?_
      have := h1 a ha; have := h1 b hb; omega
    · intro x hx
      obtain ⟨z, hz, rfl⟩ := List.mem_map.mp hx
      have := h1 z hz; omega
  · rintro ⟨l, rfl, h1, h2⟩
    show lotA ((n : Int) - 1) 0 (nL l) = true
    have e : nL l = (l.map fun (k : Nat) => (k : Int)).map .int := by rw [List.map_map]; rfl
    rw [e, lotA_iff]
    refine ⟨fun z hz => ?_, ?_⟩
    · obtain ⟨k, hk, rfl⟩ := List.mem_map.mp hz
      have := h2 k hk; omega
    · rw [List.pairwise_map]
      exact h1.imp fun h => by omega
abbrev gD (g : List Nat) : PyData := .tuple (nD g)
theorem toDs_gs : ∀ l : List (List Nat), toDs (l.map grpP) = some (l.map gD)
  | [] => rfl
  | x :: r => by
    rw [List.map_cons, toDs, toDs_gs r]
    simp only [toD, toDs_n, Option.map_some]; rfl
theorem eqvAll_gs : ∀ (a b : List (List Nat)), PyData.eqvAll (a.map gD) (b.map gD) = decide (a = b)
  | [], [] => by simp [PyData.eqvAll]
  | [], _ :: _ => by simp [PyData.eqvAll]
  | _ :: _, [] => by simp [PyData.eqvAll]
  | x :: a, y :: b => by
    have e : PyData.eqv (gD x) (gD y) = decide (x = y) := by simp only [PyData.eqv, eqvAll_n]
    rw [List.map_cons, List.map_cons, PySem.W.eqv_all_cons, e, eqvAll_gs a b, Bool.eq_iff_iff]; simp
theorem lay_gs : ∀ l : List (List Nat), PyData.canLayAll0 (l.map gD) = true
  | [] => rfl
  | x :: r => by
    rw [List.map_cons, PyData.canLayAll0, lay_gs r]
    simp only [PyData.canLay0, lay_n]; rfl
theorem depth_gs : ∀ l : List (List Nat), PyData.depthAll (l.map gD) ≤ 1
  | [] => Nat.zero_le _
  | x :: r => by
    rw [List.map_cons, PyData.depthAll]
    refine Nat.max_le.mpr ⟨?_, depth_gs r⟩
    simp only [PyData.depth, depth_n]; omega
def Srv (zs : List Nat) (ws : List Rn) (v : PV) : Prop := ∃ P R, v = ptV (P, R) ∧ Ec.Asc zs.length P ∧ Ec.Asc ws.length R ∧ Ec.IsPart (wb zs ws) P R
section
variable {ρ : En} {S : Sto} {E : XP} {Q : PV → Sto → Prop} {X : XS} {N : En → Sto → Prop} {T : PV → Sto → Prop} {zs : List Nat} {ws : List Rn}
theorem W_eqGs {neg : Bool} {a b : List (List Nat)} (q : Q (.bl (if neg then !decide (a = b) else decide (a = b))) S) : W (pEq neg (.lst (a.map grpP)) (.lst (b.map grpP)) S) E Q := by
  have hs : ∀ l : List (List Nat), SeqAt.shaped (.list (l.map gD)) = true := fun l => by
    have := depth_gs l
    unfold SeqAt.shaped
    rw [Bool.and_eq_true]
    exact ⟨by simp only [PyData.canLay0, lay_gs], decide_eq_true (by simp only [PyData.depth]; omega)⟩
  simp only [pEq, eqP, drf, toD, toDs_gs, Option.map_some, hs, Bool.and_self, if_true, W_of, Option.some.injEq, exists_eq_left', PyData.eqv, eqvAll_gs]
  exact q
theorem W_eqN {neg : Bool} {a b : List Nat} (q : Q (.bl (if neg then !decide (a = b) else decide (a = b))) S) : W (pEq neg (.tup (nL a)) (.tup (nL b)) S) E Q := by
  have hs : ∀ l : List Nat, SeqAt.shaped (.tuple (nD l)) = true := fun l => by
    unfold SeqAt.shaped
    rw [Bool.and_eq_true]
    exact ⟨by simp only [PyData.canLay0, lay_n], decide_eq_true (by simp only [PyData.depth, depth_n]; omega)⟩
  simp only [pEq, eqP, drf, toD, toDs_n, Option.map_some, hs, Bool.and_self, if_true, W_of, Option.some.injEq, exists_eq_left', PyData.eqv, eqvAll_n]
  exact q
theorem two_of {ps : List PV} (h : ps.length = 2) : ∃ a b, ps = [a, b] := by
  rcases ps with _ | ⟨a, _ | ⟨b, _ | ⟨c, r⟩⟩⟩ <;> simp at h
  exact ⟨a, b, rfl⟩
theorem W_lenPart {j : Nat} {ps : List PV} (h0 : ρ[0]? = some (some (webV zs ws))) (hj : atI [PV.tup (nL zs), .tup (ws.map rnV)] (j : Int) = some (.tup ps)) (q : Q (.int ps.length) S) : W (ePrim pLen (aCons (eBin pIx (eVar 0) (eC (.int (j : Nat)))) aNil) ρ S) E Q := by
  rw [W_prim, W_acons, W_bin, W_var]
  refine ⟨_, h0, ?_⟩
  rw [W_c, W_ixTup]
  refine ⟨_, hj, ?_⟩
  rw [W_anil, W_lenTup]
  exact q
theorem W_serves {m : Nat} {v : PV} (ok : WOk zs ws) (h : kvB (m + 3) v = true) (q : ∀ b : Bool, (b = true ↔ Srv zs ws v) → Q (.bl b) S) : W (callM false m_part_serves [webV zs ws, v] S) E Q := by
  have hn1 := ok.n1
  have hm1 := ok.m1
  have hvn := kvB_noL _ _ h
  obtain ⟨rb, hr⟩ := rb_ex (wb zs ws)
  refine W_pure (by simp [noLs, noLs_rn ok, noL, noLs_n, hvn]) ?_
  have no : ¬ Srv zs ws v → noL (.bl false) = true ∧ Q (.bl false) S := fun h => ⟨rfl, q false ⟨fun z => (by cases z), fun z => absurd z h⟩⟩
  simp only [m_part_serves, runM, b_part_serves, W_fin]
  refine WS_cut (fun ρ S' => S' = [] ∧ ∃ P R, v = ptV (P, R) ∧ Ec.Asc zs.length P ∧ Ec.Asc ws.length R ∧ ρ = [some (webV zs ws), some v, none, none, none, none]) ?_ ?_
  · rw [WS_if, W_tor, W_tnot, W_ttru, W_call, W_acons, W_var]
    refine ⟨_, rfl, ?_⟩
    rw [W_acons, W_c, W_anil]
    refine ⟨rfl, W_isTuple h ⟨_, rfl, ?_⟩⟩
    cases ht : tupN 2 v with
    | false =>
      simp only [Bool.not_false, if_true]
      refine no fun ⟨P, R, e, _⟩ => ?_
      rw [e] at ht; simp [tupN] at ht
    | true =>
      cases v <;> first | (simp [tupN] at ht; done) | skip
      rename_i ps
      have hl : ps.length = 2 := by simp [tupN] at ht; omega
      obtain ⟨a, b, rfl⟩ := two_of hl
      obtain ⟨hpl, hp⟩ := kvB_tup h
      have ha := hp a (by simp)
      have hb := hp b (by simp)
      simp only [Bool.not_true, Bool.false_eq_true, if_false]
      rw [W_tor, W_tnot, W_ttru, W_call, W_acons, W_bin, W_var]
      refine ⟨_, rfl, ?_⟩
      rw [W_c, W_ixTup]
      refine ⟨_, atI_zero, ?_⟩
      rw [W_acons, W_bin]
      refine W_lenPart (zs := zs) (ws := ws) (j := 0) rfl atI_zero ?_
      rw [W_c, W_pI]
      refine ⟨_, rfl, ?_⟩
      rw [W_anil]
      refine ⟨rfl, W_isLot (n := m + 1) ha ⟨_, rfl, ?_⟩⟩
      rw [List.length_map]
      cases ca : lotV ((zs.length : Int) - 1) 0 a with
      | false =>
        simp only [Bool.not_false, if_true]
        refine no fun ⟨P, R, e, hP, _⟩ => ?_
        cases e
        rw [lot_nat.mpr ⟨P, rfl, hP⟩] at ca; cases ca
      | true =>
        simp only [Bool.not_true, Bool.false_eq_true, if_false]
        rw [W_tnot, W_ttru, W_call, W_acons, W_bin, W_var]
        refine ⟨_, rfl, ?_⟩
        rw [W_c, W_ixTup]
        refine ⟨_, atI_one, ?_⟩
        rw [W_acons, W_bin]
        refine W_lenPart (zs := zs) (ws := ws) (j := 1) rfl atI_one ?_
        rw [W_c, W_pI]
        refine ⟨_, rfl, ?_⟩
        rw [W_anil]
        refine ⟨rfl, W_isLot (n := m + 1) hb ⟨_, rfl, ?_⟩⟩
        rw [List.length_map]
        cases cb : lotV ((ws.length : Int) - 1) 0 b with
        | false =>
          simp only [Bool.not_false, if_true]
          refine no fun ⟨P, R, e, _, hR, _⟩ => ?_
          cases e
          rw [lot_nat.mpr ⟨R, rfl, hR⟩] at cb; cases cb
        | true =>
          simp only [Bool.not_true, Bool.false_eq_true, if_false]
          obtain ⟨P, rfl, hP⟩ := lot_nat.mp ca
          obtain ⟨R, rfl, hR⟩ := lot_nat.mp cb
          exact ⟨rfl, P, R, rfl, hP, hR, rfl⟩
  rintro ρ S' ⟨hS, P, R, rfl, hP, hR, hρ⟩
  subst hρ; subst hS
  have hPl := nodup_le (hP.1.imp fun h => Nat.ne_of_lt h) hP.2
  have hRl := nodup_le (hR.1.imp fun h => Nat.ne_of_lt h) hR.2
  have hiff : Srv zs ws (ptV (P, R)) ↔ Ec.IsPart (wb zs ws) P R := by
    constructor
    · rintro ⟨P', R', e, _, _, h⟩
      have e1 : (P, R) = (P', R') := by
        have h1 := eqv_pt (P, R) (P', R')
        have h2 : toD (ptV (P, R)) = toD (ptV (P', R')) := by rw [e]
        rw [toD_pt, toD_pt] at h2
        have h3 := Option.some.inj h2
        have h4 := eqv_pt (P', R') (P', R')
        rw [h3, h4] at h1
        simpa using h1.symm
      cases e1; exact h
    · intro h; exact ⟨P, R, rfl, hP, hR, h⟩
  rw [hiff] at no
  rw [part_iff ok.ok hr hP.2] at no
  have q' : ∀ b : Bool, (b = true ↔ P ≠ [] ∧ Ec.within (wb zs ws) P R = R ∧ (∀ p ∈ P, Ec.stay (wb zs ws) R p = true) ∧ Ec.groups (rb R) P [] P = [P]) → noL (.bl b) = true ∧ Q (.bl b) S := fun b hb => ⟨rfl, q b (hb.trans ((part_iff ok.ok hr hP.2).symm.trans hiff.symm))⟩
  refine WS_cut (fun ρ S' => S' = [] ∧ ρ = [some (webV zs ws), some (ptV (P, R)), some (.tup (nL P)), some (.tup (nL R)), none, none]) ?_ ?_
  · rw [WS_set, W_var]
    refine ⟨_, rfl, ?_⟩
    rw [WS_gTp]
    exact ⟨rfl, rfl, rfl⟩
  rintro ρ S' ⟨hS, hρ⟩
  subst hρ; subst hS
  refine WS_cut (fun ρ S' => S' = [] ∧ P ≠ [] ∧ Ec.within (wb zs ws) P R = R ∧ ρ = [some (webV zs ws), some (ptV (P, R)), some (.tup (nL P)), some (.tup (nL R)), none, none]) ?_ ?_
  · rw [WS_if, W_tor, W_tbin, W_prim, W_acons, W_var]
    refine ⟨_, rfl, ?_⟩
    rw [W_anil, W_lenTup, W_c, eqI]
    refine ⟨_, rfl, ?_⟩
    rw [List.length_map]
    by_cases h0 : P = []
    · subst h0
      simp only [List.length_nil, Bool.false_eq_true, if_false]
      exact no fun h => h.1 rfl
    · have hl : ¬ (P.length : Int) = 0 := by
        have := List.length_pos_iff.mpr h0; omega
      simp only [hl, decide_false, Bool.false_eq_true, if_false]
      rw [W_tbin, W_call, W_acons, W_var]
      refine ⟨_, rfl, ?_⟩
      rw [W_acons, W_var]
      refine ⟨_, rfl, ?_⟩
      rw [W_acons, W_var]
      refine ⟨_, rfl, ?_⟩
      rw [W_anil]
      refine ⟨rfl, W_within ok hR.2 (by omega) ?_⟩
      rw [W_var]
      refine ⟨_, rfl, W_eqN ⟨_, rfl, ?_⟩⟩
      by_cases c : Ec.within (wb zs ws) P R = R
      · simp only [c, decide_true, Bool.not_true, if_true, Bool.false_eq_true, if_false]
        exact ⟨rfl, h0, by first | trivial | exact c, rfl⟩
      · simp only [c, decide_false, Bool.not_false, if_true]
        exact no fun h => c h.2.1
  rintro ρ S' ⟨hS, h0, hw, hρ⟩
  subst hρ; subst hS
  refine WS_cut (fun ρ S' => S' = [] ∧ ρ = [some (webV zs ws), some (ptV (P, R)), some (.tup (nL P)), some (.tup (nL R)), some (.lst (outsP zs ws)), none]) ?_ ?_
  · rw [WS_nm, W_call, W_acons, W_var]
    refine ⟨_, rfl, ?_⟩
    rw [W_anil]
    exact ⟨rfl, W_byPlace ok ⟨rfl, rfl⟩⟩
  rintro ρ S' ⟨hS, hρ⟩
  subst hρ; subst hS
  refine WS_cut (fun ρ S' => S' = [] ∧ (∀ p ∈ P, Ec.stay (wb zs ws) R p = true) ∧ ρ = [some (webV zs ws), some (ptV (P, R)), some (.tup (nL P)), some (.tup (nL R)), some (.lst (outsP zs ws)), none]) ?_ ?_
  · rw [WS_if, W_tnot, W_ttru, W_prim, W_acons]
    refine W_lc ?_
    rw [W_iseq, W_var]
    refine ⟨_, rfl, _, rfl, ?_⟩
    refine W_lcMap _ (fun _ => true) (fun (x : Nat) => PV.bl (Ec.stay (wb zs ws) R x)) P (fun x hx => ⟨_, rfl, ⟨rfl, rfl⟩, fun _ => ?_⟩) ?_
    · rw [W_call, W_acons, W_var]
      refine ⟨_, rfl, ?_⟩
      rw [W_acons, W_var]
      refine ⟨_, rfl, ?_⟩
      rw [W_acons, W_var]
      refine ⟨_, rfl, ?_⟩
      rw [W_acons, W_var]
      refine ⟨_, rfl, ?_⟩
      rw [W_anil]
      exact ⟨rfl, W_canStay ok (hP.2 x hx) ⟨rfl, rfl⟩⟩
    · refine ⟨by rw [List.length_map]; unfold lim; omega, ?_⟩
      simp only [Bool.false_eq_true, if_false]
      rw [filT, W_anil, show (P.map fun (x : Nat) => PV.bl (Ec.stay (wb zs ws) R x)) = (P.map (Ec.stay (wb zs ws) R)).map .bl by rw [List.map_map]; rfl]
      refine W_bls ⟨_, rfl, ?_⟩
      rw [List.all_map]
      cases c : P.all (id ∘ Ec.stay (wb zs ws) R) with
      | true =>
        simp only [Bool.not_true, Bool.false_eq_true, if_false]
        exact ⟨rfl, fun p hp => List.all_eq_true.mp c p hp, rfl⟩
      | false =>
        simp only [Bool.not_false, if_true]
        refine no fun h => ?_
        have : P.all (id ∘ Ec.stay (wb zs ws) R) = true := List.all_eq_true.mpr fun p hp => h.2.2.1 p hp
        rw [this] at c; cases c
  rintro ρ S' ⟨hS, hst, hρ⟩
  subst hρ; subst hS
  rw [WS_seq, WS_ret, W_bin, W_call, W_acons, W_var]
  refine ⟨_, rfl, ?_⟩
  rw [W_acons, W_var]
  refine ⟨_, rfl, ?_⟩
  rw [W_acons, W_var]
  refine ⟨_, rfl, ?_⟩
  rw [W_anil]
  refine ⟨rfl, W_groups ok hr hP hR.2 ?_⟩
  rw [W_lst, W_acons, W_var]
  refine ⟨_, rfl, ?_⟩
  rw [W_anil]
  refine ⟨show 1 ≤ lim by decide, W_eqGs (b := [P]) ?_⟩
  simp only [Bool.false_eq_true, if_false]
  exact q' _ (by rw [decide_eq_true_eq]; exact ⟨fun h => ⟨h0, hw, hst, h⟩, fun h => h.2.2.2⟩)
end
end Lw
namespace Lw
open PySem PySem.Spec PyProof.Rows L2 Mir
section
variable {ρ : En} {S : Sto} {E : XP} {Q : PV → Sto → Prop} {X : XS} {N : En → Sto → Prop} {T : PV → Sto → Prop} {zs : List Nat} {ws : List Rn}
/-- is it a whole number below k? -/
def ltI (k : Nat) : PV → Bool
  | .int i => decide (0 ≤ i) && decide (i < (k : Int))
  | _ => false
theorem lot_iff {k : Nat} {ps : List PV} : lotV ((k : Int) - 1) 0 (.tup ps) = true ↔ ∃ zs : List Int, ps = zs.map .int ∧ (∀ z ∈ zs, 0 ≤ z ∧ z < (k : Int)) ∧ zs.Pairwise (· < ·) := by
  constructor
  · intro h
    obtain ⟨zs, rfl⟩ := lotA_ints ps 0 h
    obtain ⟨h1, h2⟩ := (lotA_iff _ zs 0).mp h
    exact ⟨zs, rfl, fun z hz => by have := h1 z hz; omega, h2⟩
  · rintro ⟨zs, rfl, h1, h2⟩
    exact (lotA_iff _ zs 0).mpr ⟨fun z hz => by have := h1 z hz; omega, h2⟩
theorem W_isOne {m : Nat} {v : PV} (ok : WOk zs ws) (hm : m ≤ 40) (h : kvB (m + 3) v = true) (q : ∀ b : Bool, (b = true ↔ Srv zs ws v) → Q (.bl b) S) : W (callM false m__law_is_one [webV zs ws, v] S) E Q := by
  have hn1 := ok.n1
  have hm1 := ok.m1
  have hvn := kvB_noL _ _ h
  refine W_pure (by simp [noLs, noLs_rn ok, noL, noLs_n, hvn]) ?_
  have no : ¬ Srv zs ws v → noL (.bl false) = true ∧ Q (.bl false) S := fun h => ⟨rfl, q false ⟨fun z => (by cases z), fun z => absurd z h⟩⟩
  simp only [m__law_is_one, runM, b__law_is_one, W_fin]
  refine WS_cut (fun ρ S' => S' = [] ∧ ∃ a b, v = .tup [a, b] ∧ ρ = [some (webV zs ws), some v, none, none, none, none]) ?_ ?_
  · rw [WS_if, W_tor, W_tnot, W_ttru, W_isi, W_var]
    refine ⟨_, rfl, ?_⟩
    by_cases hq : ∃ ps, v = .tup ps
    · obtain ⟨ps, rfl⟩ := hq
      rw [W_isiTup]
      refine ⟨true, rfl, ?_⟩
      simp only [Bool.not_true, Bool.false_eq_true, if_false]
      rw [W_tbin, W_prim, W_acons, W_var]
      refine ⟨_, rfl, ?_⟩
      rw [W_anil, W_lenTup, W_c, eqI]
      refine ⟨_, rfl, ?_⟩
      by_cases hl : ps.length = 2
      · obtain ⟨a, b, rfl⟩ := two_of hl
        exact ⟨rfl, a, b, rfl, rfl⟩
      · have hl' : ¬ ((ps.length : Int) = 2) := by omega
        simp only [hl', decide_false, Bool.not_false, if_true]
        refine no fun ⟨P, R, e, _⟩ => ?_
        cases e; exact hl rfl
    · have hn : ¬ Srv zs ws v := fun ⟨P, R, e, _⟩ => hq ⟨_, e⟩
      cases v <;> first | (simp [kvB] at h; done) | (exact absurd ⟨_, rfl⟩ hq) | skip
      all_goals (simp [isTyEq]; exact no hn)
  rintro ρ S' ⟨hS, a, b, rfl, hρ⟩
  subst hρ; subst hS
  obtain ⟨hpl, hp⟩ := kvB_tup h
  have ha := hp a (by simp)
  have hb := hp b (by simp)
  have srv : Srv zs ws (.tup [a, b]) → lotV ((zs.length : Int) - 1) 0 a = true ∧ lotV ((ws.length : Int) - 1) 0 b = true := fun ⟨P, R, e, h1, h2, _⟩ => by
    cases e; exact ⟨lot_nat.mpr ⟨P, rfl, h1⟩, lot_nat.mpr ⟨R, rfl, h2⟩⟩
  refine WS_cut (fun ρ S' => S' = [] ∧ lotV ((zs.length : Int) - 1) 0 a = true ∧ lotV ((ws.length : Int) - 1) 0 b = true ∧ ∃ o2 o3 o4 o5, ρ = [some (webV zs ws), some (.tup [a, b]), o2, o3, o4, o5]) ?_ ?_
  · rw [WS_for, W_zip, W_acons, W_var]
    refine ⟨_, rfl, ?_⟩
    rw [W_acons, W_lst, W_acons]
    refine W_lenPart (zs := zs) (ws := ws) (j := 0) rfl atI_zero ?_
    rw [W_acons]
    refine W_lenPart (zs := zs) (ws := ws) (j := 1) rfl atI_one ?_
    rw [W_anil]
    refine ⟨show 2 ≤ lim by decide, ?_⟩
    rw [W_anil, W_zp1]
    refine ⟨_, rfl, _, rfl, ?_⟩
    rw [List.length_map, List.length_map]
    refine WS_frInv (fun r ρ S' => ∃ pre l : List (PV × Nat), [(a, zs.length), (b, ws.length)] = pre ++ l ∧ r = l.map (fun x => PV.tup [x.1, .int (x.2 : Nat)]) ∧ S' = [] ∧ (∀ x ∈ pre, lotV ((x.2 : Int) - 1) 0 x.1 = true) ∧ ∃ o2 o3 o4 o5, ρ = [some (webV zs ws), some (.tup [a, b]), o2, o3, o4, o5]) _ _ _ ⟨[], _, rfl, rfl, rfl, by simp, none, none, none, none, rfl⟩ ?_ ?_
    · rintro y r ρ S' ⟨pre, l, hl, e, rfl, hpre, o2, o3, o4, o5, rfl⟩
      cases l with
      | nil => cases e
      | cons x l =>
      cases e
      obtain ⟨c, k⟩ := x
      have hx : (c, k) ∈ [(a, zs.length), (b, ws.length)] := by rw [hl]; simp
      have hc : kvB (m + 2) c = true := by
        simp only [List.mem_cons, List.not_mem_nil, or_false, Prod.mk.injEq] at hx
        rcases hx with ⟨rfl, _⟩ | ⟨rfl, _⟩
        · exact ha
        · exact hb
      have bad : lotV ((k : Int) - 1) 0 c = false → noL (.bl false) = true ∧ Q (.bl false) S := fun hf => no fun hs => by
        have := srv hs
        simp only [List.mem_cons, List.not_mem_nil, or_false, Prod.mk.injEq] at hx
        rcases hx with ⟨rfl, rfl⟩ | ⟨rfl, rfl⟩
        · rw [this.1] at hf; cases hf
        · rw [this.2] at hf; cases hf
      rw [WS_gTp]
      refine ⟨rfl, ?_⟩
      rw [WS_gsCons, WS_gsCons, WS_gsNil]
      refine WS_cut (fun ρ S' => S' = [] ∧ (∃ us : List Int, c = .tup (us.map .int) ∧ us.length ≤ 1000 ∧ ∀ u ∈ us, 0 ≤ u ∧ u < (k : Int)) ∧ ρ = [some (webV zs ws), some (.tup [a, b]), some c, some (.int (k : Nat)), o4, o5]) ?_ ?_
      · rw [WS_if, W_tor, W_tnot, W_ttru, W_isi, W_var]
        refine ⟨_, rfl, ?_⟩
        by_cases hq : ∃ ps, c = .tup ps
        · obtain ⟨cs, rfl⟩ := hq
          obtain ⟨hcl, hcs⟩ := kvB_tup hc
          rw [W_isiTup]
          refine ⟨true, rfl, ?_⟩
          simp only [Bool.not_true, Bool.false_eq_true, if_false]
          rw [W_tbin]
          refine W_lc ?_
          rw [W_iseq, W_var]
          refine ⟨_, rfl, _, rfl, ?_⟩
          refine W_lcPure (fun p => !ltI k p) id cs (fun p hp => ⟨_, rfl, of_W ?_, fun _ => of_W ?_⟩) ?_
          · have hkp := hcs p hp
            cases p <;> first | (simp [kvB] at hkp; done) | skip
            case int i => by_cases h1 : 0 ≤ i <;> by_cases h2 : i < (k : Int) <;> simp [wipeE, isTyInt, isTyEq, ltI, h1, h2]
            all_goals simp [wipeE, isTyInt, isTyEq, ltI]
          · rw [W_var]; exact ⟨_, rfl, rfl, rfl⟩
          · refine ⟨by unfold lim; omega, ?_⟩
            simp only [List.map_id, Bool.false_eq_true, if_false]
            rw [W_lst, W_anil]
            refine ⟨Nat.zero_le _, W_nil (n := m + 1) (fun p hp => hcs p (List.mem_filter.mp hp).1) ⟨_, rfl, ?_⟩ (by omega)⟩
            cases hf : cs.filter fun p => !ltI k p with
            | nil =>
              have hall : ∀ p ∈ cs, numI 0 ((k : Int) - 1) p = true := fun p hp => by
                have := List.filter_eq_nil_iff.mp hf p hp
                cases p <;> simp [ltI] at this
                simp [numI]; omega
              obtain ⟨us, rfl, hu⟩ := nums_ints cs hall
              exact ⟨rfl, ⟨us, rfl, by simpa using hcl, fun u h => by have := hu u h; omega⟩, rfl⟩
            | cons x0 r0 =>
              have hx0 : x0 ∈ cs.filter fun p => !ltI k p := by rw [hf]; exact List.mem_cons_self
              obtain ⟨g1, g2⟩ := List.mem_filter.mp hx0
              refine bad ?_
              cases hlv : lotV ((k : Int) - 1) 0 (.tup cs) with
              | false => rfl
              | true =>
                have := lotA_all hlv x0 g1
                obtain ⟨i, rfl, i0, i1⟩ := numI_int this
                have : i < (k : Int) := by omega
                simp [ltI, i0, this] at g2
        · have hb2 : lotV ((k : Int) - 1) 0 c = false := by
            cases c <;> first | rfl | (exact absurd ⟨_, rfl⟩ hq)
          cases c <;> first | (simp [kvB] at hc; done) | (exact absurd ⟨_, rfl⟩ hq) | skip
          all_goals (simp [isTyEq]; exact bad hb2)
      rintro ρ S' ⟨hS, ⟨us, rfl, hul, hu⟩, hρ⟩
      subst hρ; subst hS
      rw [WS_seq, WS_if, W_tbin]
      refine W_lc ?_
      rw [W_zip, W_acons, W_var]
      refine ⟨_, rfl, ?_⟩
      rw [W_acons, W_sl, W_var]
      refine ⟨_, rfl, ?_⟩
      rw [W_oSome, W_c]
      refine ⟨_, rfl, ?_⟩
      rw [W_oNone, W_slTup, cut_tl, W_anil, W_zp1]
      refine ⟨_, rfl, _, rfl, ?_⟩
      rw [List.drop_one, ← List.map_tail, zip2_ints]
      refine W_lcMap _ (fun p => decide (p.2 ≤ p.1)) (fun _ => PV.int 1) _ (fun p hp => ⟨_, rfl, ?_, fun _ => ⟨rfl, rfl⟩⟩) ?_
      · rw [W_tbin, W_var]
        refine ⟨_, rfl, ?_⟩
        rw [W_var]
        refine ⟨_, rfl, ?_⟩
        rw [W_pI]
        exact ⟨_, rfl, _, rfl, rfl, rfl⟩
      · refine ⟨by rw [List.length_map, List.length_zip, List.length_tail]; unfold lim; omega, ?_⟩
        simp only [Bool.false_eq_true, if_false]
        rw [W_lst, W_anil]
        refine ⟨Nat.zero_le _, W_nil (n := 1) (fun p hp => ?_) ⟨_, rfl, ?_⟩⟩
        · obtain ⟨_, _, rfl⟩ := List.mem_map.mp hp; rfl
        · have hza := zip_asc us
          rw [List.drop_one] at hza
          cases hf : (us.zip us.tail).filter fun p => decide (p.2 ≤ p.1) with
          | nil =>
            refine ⟨pre ++ [(.tup (us.map .int), k)], l, by rw [hl]; simp, rfl, rfl, fun x hx2 => ?_, _, _, _, _, rfl⟩
            rcases List.mem_append.mp hx2 with h | h
            · exact hpre x h
            · rw [List.mem_singleton] at h
              subst h
              exact lot_iff.mpr ⟨us, rfl, hu, hza.mp hf⟩
          | cons x0 r0 =>
            refine bad ?_
            cases hlv : lotV ((k : Int) - 1) 0 (.tup (us.map .int)) with
            | false => rfl
            | true =>
              have := hza.mpr ((lotA_iff _ _ _).mp hlv).2
              rw [this] at hf; cases hf
    · rintro ρ S' ⟨pre, l, hl, e, rfl, hpre, o2, o3, o4, o5, rfl⟩
      cases l with
      | cons x l => cases e
      | nil =>
        rw [List.append_nil] at hl
        subst hl
        exact ⟨rfl, hpre (a, zs.length) (by simp), hpre (b, ws.length) (by simp), o2, o3, o4, o5, rfl⟩
  rintro ρ S' ⟨hS, la, lb, o2, o3, o4, o5, hρ⟩
  subst hρ; subst hS
  obtain ⟨P, rfl, hP⟩ := lot_nat.mp la
  obtain ⟨R, rfl, hR⟩ := lot_nat.mp lb
  have hPl := nodup_le (hP.1.imp fun h => Nat.ne_of_lt h) hP.2
  have hRl := nodup_le (hR.1.imp fun h => Nat.ne_of_lt h) hR.2
  rw [WS_seq, WS_ret, W_call, W_acons, W_var]
  refine ⟨_, rfl, ?_⟩
  rw [W_acons, W_bin, W_var]
  refine ⟨_, rfl, ?_⟩
  rw [W_c, W_ixTup]
  refine ⟨_, atI_zero, ?_⟩
  rw [W_acons, W_bin, W_var]
  refine ⟨_, rfl, ?_⟩
  rw [W_c, W_ixTup]
  refine ⟨_, atI_one, ?_⟩
  rw [W_anil]
  refine ⟨rfl, W_isPart ok hP.2 hR.2 (by omega) (by omega) fun b hb => ⟨rfl, q b (hb.trans ?_)⟩⟩
  constructor
  · intro h; exact ⟨P, R, rfl, hP, hR, h⟩
  · rintro ⟨P', R', e, _, _, h⟩
    have e1 : (P, R) = (P', R') := by
      have h1 := eqv_pt (P, R) (P', R')
      have h2 : toD (ptV (P, R)) = toD (ptV (P', R')) := by rw [← e]
      rw [toD_pt, toD_pt] at h2
      have h3 := Option.some.inj h2
      have h4 := eqv_pt (P', R') (P', R')
      rw [h3, h4] at h1
      simpa using h1.symm
    cases e1; exact h
end
end Lw
namespace Lw
open PySem PySem.Spec PyProof.Rows L2 Mir
/-- all lots of roads -/
def rl : Nat → List (List Nat)
  | 0 => [[]]
  | k + 1 => rl k ++ (rl k).map fun l => l ++ [k]
theorem rl_len : ∀ k, (rl k).length = 2 ^ k
  | 0 => rfl
  | k + 1 => by rw [rl, List.length_append, List.length_map, rl_len k, Nat.pow_succ]; omega
theorem mem_rl : ∀ (k : Nat) (l : List Nat), l ∈ rl k ↔ Ec.Asc k l
  | 0, l => by
    rw [rl, List.mem_singleton]
    constructor
    · rintro rfl; exact ⟨.nil, by simp⟩
    · rintro ⟨_, h⟩
      cases l with
      | nil => rfl
      | cons a r => exact absurd (h a List.mem_cons_self) (Nat.not_lt_zero _)
  | k + 1, l => by
    rw [rl, List.mem_append, List.mem_map, mem_rl k]
    constructor
    · rintro (h | ⟨l', h, rfl⟩)
      · exact ⟨h.1, fun x hx => Nat.lt_succ_of_lt (h.2 x hx)⟩
      · have h := (mem_rl k l').mp h
        refine ⟨List.pairwise_append.mpr ⟨h.1, by simp, fun a ha b hb => by rw [List.mem_singleton] at hb; subst hb; exact h.2 a ha⟩, fun x hx => ?_⟩
        rcases List.mem_append.mp hx with hx | hx
        · exact Nat.lt_succ_of_lt (h.2 x hx)
        · rw [List.mem_singleton] at hx; omega
    · rintro ⟨h1, h2⟩
      rcases List.eq_nil_or_concat l with rfl | ⟨l', a, rfl⟩
      · exact .inl ⟨.nil, by simp⟩
      · rw [List.concat_eq_append] at *
        obtain ⟨g1, _, g3⟩ := List.pairwise_append.mp h1
        have ha := h2 a (by simp)
        by_cases c : a = k
        · subst c
          exact .inr ⟨l', (mem_rl a l').mpr ⟨g1, fun x hx => g3 x hx a (by simp)⟩, rfl⟩
        · refine .inl ⟨h1, fun x hx => ?_⟩
          rcases List.mem_append.mp hx with hx | hx
          · have := g3 x hx a (by simp); omega
          · rw [List.mem_singleton] at hx; omega
theorem nodup_rl : ∀ k, (rl k).Nodup
  | 0 => by simp [rl]
  | k + 1 => by
    rw [rl, List.nodup_append]
    refine ⟨nodup_rl k, ?_, fun a ha b hb e => ?_⟩
    · exact List.pairwise_map.mpr ((nodup_rl k).imp fun hne e => hne (List.append_inj' e rfl).1)
    · obtain ⟨l, _, rfl⟩ := List.mem_map.mp hb
      have := ((mem_rl k a).mp ha).2 k (by rw [e]; simp)
      omega
theorem alike_g (x y : List Nat) : PySem.W.alike (gD x) (gD y) = true := by
  simp only [PySem.W.alike, alikeAll_n]
theorem alikeB_gs : ∀ l : List (List Nat), alikeB (l.map gD) = true
  | [] => rfl
  | x :: r => by
    rw [List.map_cons, alikeB, alikeB_gs r, alike_g]
    simp only [Bool.and_true, Bool.true_and, List.all_eq_true, Bool.and_eq_true]
    intro d hd
    obtain ⟨y, _, rfl⟩ := List.mem_map.mp hd
    exact ⟨alike_g _ _, alike_g _ _⟩
theorem srt_gs (l : List (List Nat)) : ∃ qs, srtP (l.map grpP) = some qs ∧ qs.Perm (l.map grpP) := by
  unfold srtP
  rw [toDs_gs]
  dsimp only
  have h2 : (l.map gD).all (fun d => !isNonD d && decide (d.depth ≤ 8)) = true := by
    rw [List.all_eq_true]
    intro d hd
    obtain ⟨q, _, rfl⟩ := List.mem_map.mp hd
    have : (gD q).depth = 1 := by simp only [PyData.depth, depth_n]
    rw [this]; rfl
  have h3 : (l.map gD).all isTupD = true := by
    rw [List.all_eq_true]
    intro d hd
    obtain ⟨q, _, rfl⟩ := List.mem_map.mp hd
    rfl
  rw [alikeB_gs, h2, h3]
  refine ⟨_, rfl, ((srtD_perm _).map _).trans ?_⟩
  rw [List.map_fst_zip (by simp)]
section
variable {ρ : En} {S : Sto} {E : XP} {Q : PV → Sto → Prop} {X : XS} {N : En → Sto → Prop} {T : PV → Sto → Prop} {zs : List Nat} {ws : List Rn}
theorem noLs_gs (l : List (List Nat)) : noLs (l.map grpP) = true := noLs_of fun p hp => by
  obtain ⟨g, _, rfl⟩ := List.mem_map.mp hp
  rw [noL]; exact noLs_n g
/-- found grows by one number -/
theorem W_grow {i j l : Nat} {k : Nat} {L : List (List Nat)} (hi : ρ[i]? = some (some (.lst (L.map grpP)))) (hj : (wipeE ρ [l])[j]? = some (some (.int (k : Nat)))) (hjl : j ≠ l) (hl : l < ρ.length) (hL : L.length ≤ 1000) (hLl : ∀ x ∈ L, x.length ≤ 1000) (q : Q (.lst ((L ++ L.map fun x => x ++ [k]).map grpP)) S) :
    W (eBin pAdd (eVar i) (eLc false (iSeq (eVar i)) [l] (cNm l) tTrue (eBin pAdd (eVar l) (eTup (aCons (eVar j) aNil)))) ρ S) E Q := by
  rw [W_bin, W_var]
  refine ⟨_, hi, ?_⟩
  refine W_lc ?_
  rw [W_iseq, W_var]
  refine ⟨_, hi, _, rfl, ?_⟩
  refine W_lcMap _ (fun _ => true) (fun x => grpP (x ++ [k])) L (fun x hx => ⟨_, rfl, ⟨rfl, rfl⟩, fun _ => ?_⟩) ?_
  · rw [W_bin, W_var]
    refine ⟨grpP x, by rw [List.getElem?_set_self]; simp [wipeE, hl], ?_⟩
    rw [W_tup, W_acons, W_var]
    refine ⟨.int k, by rw [List.getElem?_set_ne (Ne.symm hjl)]; exact hj, ?_⟩
    rw [W_anil]
    refine ⟨show 1 ≤ lim by decide, W_addT (by have := hLl x hx; simp; unfold lim; omega) ⟨?_, rfl⟩⟩
    simp
  · refine ⟨by rw [List.length_map]; unfold lim; omega, ?_⟩
    simp only [Bool.false_eq_true, if_false]
    rw [filT]
    refine W_addL (by rw [List.length_map, List.length_map]; unfold lim; omega) ?_
    rw [List.map_append, List.map_map] at q
    exact q
theorem rl_short {k : Nat} : ∀ x ∈ rl k, x.length ≤ k := fun x hx => by
  have h := (mem_rl k x).mp hx
  exact nodup_le (h.1.imp fun h => Nat.ne_of_lt h) h.2
theorem W_roadLots (ok : WOk zs ws) (q : Q (.lst ((rl ws.length).map grpP)) S) : W (callM false m__law_road_lots [webV zs ws] S) E Q := by
  have hm1 := ok.m1
  refine W_pure (by simp [noLs, noLs_rn ok, noL, noLs_n]) ?_
  simp only [m__law_road_lots, runM, b__law_road_lots, W_fin]
  refine WS_cut (fun ρ S' => S' = [] ∧ ρ = [some (webV zs ws), some (.lst ((rl 0).map grpP)), none, none]) ?_ ?_
  · rw [WS_nm, W_lst, W_acons, W_tup, W_anil]
    refine ⟨Nat.zero_le _, ?_⟩
    rw [W_anil]
    exact ⟨show 1 ≤ lim by decide, rfl, rfl⟩
  rintro ρ S' ⟨hS, hρ⟩
  subst hρ; subst hS
  refine WS_cut (fun ρ S' => S' = [] ∧ ∃ o2 o3, ρ = [some (webV zs ws), some (.lst ((rl ws.length).map grpP)), o2, o3]) ?_ ?_
  · rw [WS_for, W_range1, W_acons]
    refine W_lenPart (zs := zs) (ws := ws) (j := 1) rfl atI_one ?_
    rw [W_anil, W_rg1, List.length_map]
    refine ⟨by unfold inW; rw [decide_eq_true_eq]; omega, ?_⟩
    rw [Int.toNat_natCast, rng_zero, List.range_eq_range']
    refine WS_frInv (fun r ρ S' => ∃ k n o2 o3, k + n = ws.length ∧ r = (List.range' k n).map (fun (k : Nat) => PV.int k) ∧ S' = [] ∧ ρ = [some (webV zs ws), some (.lst ((rl k).map grpP)), o2, o3]) _ _ _ ⟨0, ws.length, none, none, by omega, rfl, rfl, rfl⟩ ?_ ?_
    · rintro y r ρ S' ⟨k, n, o2, o3, hkn, e, rfl, rfl⟩
      cases n with
      | zero => cases e
      | succ n =>
      rw [List.range'_succ, List.map_cons] at e
      cases e
      rw [WS_gNm, WS_seq, WS_nm]
      have hk7 : 2 ^ k ≤ 2 ^ 7 := Nat.pow_le_pow_right (by decide) (by omega)
      refine W_grow (k := k) (L := rl k) rfl rfl (by decide) (by simp) (by rw [rl_len]; omega) (fun x hx => by have := rl_short x hx; omega) ?_
      exact ⟨k + 1, n, _, _, by omega, rfl, rfl, rfl⟩
    · rintro ρ S' ⟨k, n, o2, o3, hkn, e, rfl, rfl⟩
      cases n with
      | zero => rw [Nat.add_zero] at hkn; subst hkn; exact ⟨rfl, o2, o3, rfl⟩
      | succ n => rw [List.range'_succ, List.map_cons] at e; cases e
  rintro ρ S' ⟨hS, o2, o3, hρ⟩
  subst hρ; subst hS
  rw [WS_seq, WS_ret, W_var]
  exact ⟨_, rfl, by rw [noL]; exact noLs_gs _, q⟩
theorem W_lawLots {b : Nat} (hb : b ≤ 3) (q : ∀ ls : List (List Nat), ls.length ≤ 8 → Q (.lst (ls.map grpP)) S) : W (callM false m__law_lots [.int b] S) E Q := by
  refine W_pure rfl ?_
  simp only [m__law_lots, runM, b__law_lots, W_fin]
  refine WS_cut (fun ρ S' => S' = [] ∧ ρ = [some (.int b), some (.lst ((rl 0).map grpP)), none, none]) ?_ ?_
  · rw [WS_nm, W_lst, W_acons, W_tup, W_anil]
    refine ⟨Nat.zero_le _, ?_⟩
    rw [W_anil]
    exact ⟨show 1 ≤ lim by decide, rfl, rfl⟩
  rintro ρ S' ⟨hS, hρ⟩
  subst hρ; subst hS
  refine WS_cut (fun ρ S' => S' = [] ∧ ∃ o2 o3, ρ = [some (.int b), some (.lst ((rl b).map grpP)), o2, o3]) ?_ ?_
  · rw [WS_for, W_range1, W_acons, W_var]
    refine ⟨_, rfl, ?_⟩
    rw [W_anil, W_rg1]
    refine ⟨by unfold inW; rw [decide_eq_true_eq]; omega, ?_⟩
    rw [Int.toNat_natCast, rng_zero, List.range_eq_range']
    refine WS_frInv (fun r ρ S' => ∃ k n o2 o3, k + n = b ∧ r = (List.range' k n).map (fun (k : Nat) => PV.int k) ∧ S' = [] ∧ ρ = [some (.int b), some (.lst ((rl k).map grpP)), o2, o3]) _ _ _ ⟨0, b, none, none, by omega, rfl, rfl, rfl⟩ ?_ ?_
    · rintro y r ρ S' ⟨k, n, o2, o3, hkn, e, rfl, rfl⟩
      cases n with
      | zero => cases e
      | succ n =>
      rw [List.range'_succ, List.map_cons] at e
      cases e
      rw [WS_gNm, WS_seq, WS_nm]
      have hk7 : 2 ^ k ≤ 2 ^ 3 := Nat.pow_le_pow_right (by decide) (by omega)
      refine W_grow (k := k) (L := rl k) rfl rfl (by decide) (by simp) (by rw [rl_len]; omega) (fun x hx => by have := rl_short x hx; omega) ?_
      exact ⟨k + 1, n, _, _, by omega, rfl, rfl, rfl⟩
    · rintro ρ S' ⟨k, n, o2, o3, hkn, e, rfl, rfl⟩
      cases n with
      | zero => rw [Nat.add_zero] at hkn; subst hkn; exact ⟨rfl, o2, o3, rfl⟩
      | succ n => rw [List.range'_succ, List.map_cons] at e; cases e
  rintro ρ S' ⟨hS, o2, o3, hρ⟩
  subst hρ; subst hS
  obtain ⟨qs, e, hp⟩ := srt_gs (rl b)
  have hall : ∀ w ∈ qs.drop 1, Is grpP (fun _ => True) w := fun w hw => by
    obtain ⟨g, _, rfl⟩ := List.mem_map.mp (hp.mem_iff.mp (List.mem_of_mem_drop hw))
    exact ⟨g, rfl, trivial⟩
  obtain ⟨ls, els, _⟩ := is_of hall
  rw [WS_seq, WS_ret, W_sl, W_prim, W_acons, W_var]
  refine ⟨_, rfl, ?_⟩
  rw [W_anil]
  have e2 : pSrt [.lst ((rl b).map grpP)] ([] : Sto) = .ok (.lst qs) [] := by
    have : (lstL ([] : Sto) (.lst ((rl b).map grpP))).bind srtP = some qs := e
    simp only [pSrt, this]
  rw [e2, W_ok, W_oSome, W_c]
  refine ⟨_, rfl, ?_⟩
  rw [W_oNone]
  have e3 : pSl (.lst qs) (some 1) none ([] : Sto) = .ok (.lst (qs.drop 1)) [] := by
    have : lstL ([] : Sto) (.lst qs) = some qs := rfl
    simp only [pSl, this, cut_tl]
  rw [e3, W_ok, els]
  refine ⟨by rw [noL]; exact noLs_gs _, q ls ?_⟩
  have h1 := congrArg List.length els
  rw [List.length_drop, List.length_map, hp.length_eq, List.length_map, rl_len] at h1
  have hk7 : 2 ^ b ≤ 2 ^ 3 := Nat.pow_le_pow_right (by decide) hb
  omega
theorem W_lies {x y : Ec.Pt} (hx1 : x.1.length ≤ 1000) (hx2 : x.2.length ≤ 1000) (q : Q (.bl ((x.1.all fun p => decide (p ∈ y.1)) && (x.2.all fun k => decide (k ∈ y.2)))) S) : W (callM false m__law_lies_in [ptV x, ptV y] S) E Q := by
  refine W_pure (by simp [noLs, noL, noLs_n]) ?_
  have one : ∀ (a b : List Nat) (S : Sto), ((a.filter fun p => !decide (p ∈ b)).map fun _ => PV.int 1).isEmpty = a.all fun p => decide (p ∈ b) := fun a b S => by
    induction a with
    | nil => rfl
    | cons u r ih =>
      by_cases h : u ∈ b
      · simpa [h] using ih
      · simp [h]
  simp only [m__law_lies_in, runM, b__law_lies_in, W_fin]
  rw [WS_seq, WS_ret, W_and, W_bin]
  refine W_lc ?_
  rw [W_iseq, W_bin, W_var]
  refine ⟨_, rfl, ?_⟩
  rw [W_c, W_ixTup]
  refine ⟨_, atI_zero, _, rfl, ?_⟩
  refine W_lcMap _ (fun p => !decide (p ∈ y.1)) (fun _ => PV.int 1) x.1 (fun p hp => ⟨_, rfl, ?_, fun _ => ⟨rfl, rfl⟩⟩) ?_
  · rw [W_tbin, W_var]
    refine ⟨_, rfl, ?_⟩
    rw [W_bin, W_var]
    refine ⟨_, rfl, ?_⟩
    rw [W_c, W_ixTup]
    exact ⟨_, atI_zero, W_inT ⟨_, rfl, rfl, rfl⟩⟩
  · refine ⟨by rw [List.length_map]; unfold lim; omega, ?_⟩
    simp only [Bool.false_eq_true, if_false]
    rw [W_lst, W_anil]
    refine ⟨Nat.zero_le _, W_nil (n := 1) (fun p hp => ?_) ⟨_, rfl, ?_⟩⟩
    · obtain ⟨_, _, rfl⟩ := List.mem_map.mp hp; rfl
    simp only [Bool.false_eq_true, if_false]
    rw [one x.1 y.1 []]
    cases c : x.1.all fun p => decide (p ∈ y.1) with
    | false =>
      rw [c] at q
      simp only [Bool.false_eq_true, if_false]
      exact ⟨rfl, q⟩
    | true =>
      rw [c, Bool.true_and] at q
      rw [if_pos rfl, W_bin]
      refine W_lc ?_
      rw [W_iseq, W_bin, W_var]
      refine ⟨_, rfl, ?_⟩
      rw [W_c, W_ixTup]
      refine ⟨_, atI_one, _, rfl, ?_⟩
      refine W_lcMap _ (fun p => !decide (p ∈ y.2)) (fun _ => PV.int 1) x.2 (fun p hp => ⟨_, rfl, ?_, fun _ => ⟨rfl, rfl⟩⟩) ?_
      · rw [W_tbin, W_var]
        refine ⟨_, rfl, ?_⟩
        rw [W_bin, W_var]
        refine ⟨_, rfl, ?_⟩
        rw [W_c, W_ixTup]
        exact ⟨_, atI_one, W_inT ⟨_, rfl, rfl, rfl⟩⟩
      · refine ⟨by rw [List.length_map]; unfold lim; omega, ?_⟩
        simp only [Bool.false_eq_true, if_false]
        rw [W_lst, W_anil]
        refine ⟨Nat.zero_le _, W_nil (n := 1) (fun p hp => ?_) ?_⟩
        · obtain ⟨_, _, rfl⟩ := List.mem_map.mp hp; rfl
        simp only [Bool.false_eq_true, if_false]
        rw [one x.2 y.2 []]
        exact ⟨rfl, q⟩
end
end Lw
namespace Lw
open PySem PySem.Spec PyProof.Rows L2 Mir
theorem Asc_eq {l l' : List Nat} (h : l.Pairwise (· < ·)) (h' : l'.Pairwise (· < ·)) (e : ∀ x, x ∈ l ↔ x ∈ l') : l = l' := Ec.Asc.ext h h' e
/-- what the roads ring, in order -/
def RungIs (ws : List Rn) (R l : List Nat) : Prop := l.Pairwise (· < ·) ∧ ∀ x, x ∈ l ↔ ∃ k ∈ R, x ∈ lotK ws k
theorem lotK_ok {zs : List Nat} {ws : List Rn} (ok : WOk zs ws) {k : Nat} (hk : k < ws.length) : (lotK ws k).length ≤ 3 ∧ (lotK ws k).Nodup := by
  have e : lotK ws k = ws[k].2.2.1 := by simp [lotK, hk]
  rw [e]
  exact ⟨ok.lot _ (List.getElem_mem hk), ok.lnd _ (List.getElem_mem hk)⟩
section
variable {ρ : En} {S : Sto} {E : XP} {Q : PV → Sto → Prop} {X : XS} {N : En → Sto → Prop} {T : PV → Sto → Prop} {zs : List Nat} {ws : List Rn}
theorem W_rung {R : List Nat} (ok : WOk zs ws) (hR : ∀ k ∈ R, k < ws.length) (hRl : R.length ≤ 1000) (q : ∀ l : List Nat, RungIs ws R l → l.length ≤ 3 * R.length → Q (.tup (nL l)) S) : W (callM false m__law_rung [webV zs ws, .tup (nL R)] S) E Q := by
  refine W_pure (by simp [noLs, noLs_rn ok, noL, noLs_n]) ?_
  simp only [m__law_rung, runM, b__law_rung, W_fin]
  refine WS_cut (fun ρ S' => S' = [] ∧ ρ = [some (webV zs ws), some (.tup (nL R)), some (.lst (nL [])), none, none]) ?_ ?_
  · rw [WS_nm, W_lst, W_anil]
    exact ⟨Nat.zero_le _, rfl, rfl⟩
  rintro ρ S' ⟨hS, hρ⟩
  subst hρ; subst hS
  refine WS_cut (fun ρ S' => ∃ F o3 o4, S' = [] ∧ F.Nodup ∧ F.length ≤ 3 * R.length ∧ (∀ x, x ∈ F ↔ ∃ k ∈ R, x ∈ lotK ws k) ∧ ρ = [some (webV zs ws), some (.tup (nL R)), some (.lst (nL F)), o3, o4]) ?_ ?_
  · rw [WS_for, W_iseq, W_var]
    refine ⟨_, rfl, _, rfl, ?_⟩
    refine WS_frInv (fun r ρ S' => ∃ pre l F o3 o4, R = pre ++ l ∧ r = nL l ∧ S' = [] ∧ F.Nodup ∧ F.length ≤ 3 * pre.length ∧ (∀ x, x ∈ F ↔ ∃ k ∈ pre, x ∈ lotK ws k) ∧ ρ = [some (webV zs ws), some (.tup (nL R)), some (.lst (nL F)), o3, o4]) _ _ _ ⟨[], R, [], none, none, rfl, rfl, rfl, .nil, Nat.zero_le _, by simp, rfl⟩ ?_ ?_
    · rintro y r ρ S' ⟨pre, l, F, o3, o4, hRl2, e, rfl, nd, hFl, hm, rfl⟩
      cases l with
      | nil => cases e
      | cons k l =>
      cases e
      have hk := hR k (by rw [hRl2]; simp)
      obtain ⟨hk1, hk2⟩ := lotK_ok ok hk
      have hpl : R.length = pre.length + (l.length + 1) := by rw [hRl2]; simp
      rw [WS_gNm, WS_seq, WS_nm, W_bin, W_var]
      refine ⟨_, rfl, ?_⟩
      refine W_lc ?_
      rw [W_iseq]
      refine W_lotV (zs := zs) (ws := ws) (k := k) rfl rfl hk ⟨_, rfl, ?_⟩
      refine W_lcMap _ (fun x => !decide (x ∈ F)) (fun (x : Nat) => PV.int x) (lotK ws k) (fun x hx => ⟨_, rfl, ?_, fun _ => ?_⟩) ?_
      · rw [W_tbin, W_var]
        refine ⟨_, rfl, ?_⟩
        rw [W_var]
        exact ⟨_, rfl, W_inL ⟨_, rfl, rfl, rfl⟩⟩
      · rw [W_var]; exact ⟨_, rfl, rfl, rfl⟩
      · have hgf := List.length_filter_le (fun x => !decide (x ∈ F)) (lotK ws k)
        refine ⟨by rw [List.length_map]; unfold lim; omega, ?_⟩
        simp only [Bool.false_eq_true, if_false]
        refine W_addL (by rw [List.length_map, List.length_map]; unfold lim; omega) ?_
        refine ⟨pre ++ [k], l, F ++ (lotK ws k).filter (fun x => !decide (x ∈ F)), some (.int k), o4, by rw [hRl2]; simp, rfl, rfl, ?_, ?_, fun x => ?_, ?_⟩
        · rw [List.nodup_append]
          exact ⟨nd, hk2.sublist List.filter_sublist, fun a ha b hb e => by
            have := (List.mem_filter.mp hb).2
            rw [← e] at this
            simp [ha] at this⟩
        · rw [List.length_append, List.length_append, List.length_singleton]; omega
        · rw [List.mem_append, hm, List.mem_filter]
          constructor
          · rintro (⟨j, h1, h2⟩ | ⟨h1, _⟩)
            · exact ⟨j, List.mem_append_left _ h1, h2⟩
            · exact ⟨k, by simp, h1⟩
          · rintro ⟨j, h1, h2⟩
            rcases List.mem_append.mp h1 with h | h
            · exact .inl ⟨j, h, h2⟩
            · rw [List.mem_singleton] at h
              subst h
              by_cases c : x ∈ F
              · exact .inl ((hm x).mp c)
              · exact .inr ⟨h2, by simpa using c⟩
        · simp
    · rintro ρ S' ⟨pre, l, F, o3, o4, hRl2, e, rfl, nd, hFl, hm, rfl⟩
      cases l with
      | cons k l => cases e
      | nil =>
        rw [List.append_nil] at hRl2
        subst hRl2
        exact ⟨F, o3, o4, rfl, nd, hFl, hm, rfl⟩
  rintro ρ S' ⟨F, o3, o4, hS, nd, hFl, hm, hρ⟩
  subst hρ; subst hS
  rw [WS_seq, WS_ret, W_prim, W_acons, W_prim, W_acons, W_var]
  refine ⟨_, rfl, ?_⟩
  rw [W_anil]
  refine W_srtN (S := []) (x := .lst (nL F)) rfl nd fun l' h1 h2 h3 => ?_
  rw [W_anil, W_tupLst]
  exact ⟨by rw [noL]; exact noLs_n _, q l' ⟨h1, fun x => by rw [h2, hm]⟩ (by omega)⟩
theorem W_joined {Ls : List (List Nat)} (hl : ∀ l ∈ Ls, l.length ≤ 3) (hLs : Ls.length ≤ 1000) (q : ∀ l : List Nat, l.Pairwise (· < ·) → (∀ x, x ∈ l ↔ ∃ g ∈ Ls, x ∈ g) → Q (.tup (nL l)) S) : W (callM false m_joined_lots [.lst (Ls.map grpP)] S) E Q := by
  refine W_pure (by simp [noLs, noL, noLs_gs]) ?_
  simp only [m_joined_lots, runM, b_joined_lots, W_fin]
  refine WS_cut (fun ρ S' => S' = [some (.dct false (nL []) [])] ∧ ρ = [some (.lst (Ls.map grpP)), some (.loc 0), none, none]) ?_ ?_
  · rw [WS_nm]
    exact ⟨rfl, rfl⟩
  rintro ρ S' ⟨hS, hρ⟩
  subst hρ; subst hS
  refine WS_cut (fun ρ S' => ∃ F u o2 o3, S' = [some (.dct false (nL F) u)] ∧ F.Nodup ∧ (∀ x, x ∈ F ↔ ∃ g ∈ Ls, x ∈ g) ∧ ρ = [some (.lst (Ls.map grpP)), some (.loc 0), o2, o3]) ?_ ?_
  · rw [WS_for, W_iseq, W_var]
    refine ⟨_, rfl, _, rfl, ?_⟩
    refine WS_frInv (fun r ρ S' => ∃ pre l F u o2 o3, Ls = pre ++ l ∧ r = l.map grpP ∧ S' = [some (.dct false (nL F) u)] ∧ u.length = F.length ∧ noLs u = true ∧ F.Nodup ∧ F.length ≤ 3 * pre.length ∧ (∀ x, x ∈ F ↔ ∃ g ∈ pre, x ∈ g) ∧ ρ = [some (.lst (Ls.map grpP)), some (.loc 0), o2, o3]) _ _ _ ⟨[], Ls, [], [], none, none, rfl, rfl, rfl, rfl, rfl, .nil, Nat.zero_le _, by simp, rfl⟩ ?_ ?_
    · rintro y r ρ S' ⟨pre, l, F, u, o2, o3, hL2, e, rfl, hu, hun, nd, hFl, hm, rfl⟩
      cases l with
      | nil => cases e
      | cons g l =>
      cases e
      have hg := hl g (by rw [hL2]; simp)
      have hpl : Ls.length = pre.length + (l.length + 1) := by rw [hL2]; simp
      rw [WS_gNm, WS_seq, WS_for, W_iseq, W_var]
      refine ⟨_, rfl, _, rfl, ?_⟩
      refine WS_frInv (fun r ρ S' => ∃ p2 l2 F' u' o3, g = p2 ++ l2 ∧ r = nL l2 ∧ S' = [some (.dct false (nL F') u')] ∧ u'.length = F'.length ∧ noLs u' = true ∧ F'.Nodup ∧ F'.length ≤ F.length + p2.length ∧ (∀ x, x ∈ F' ↔ x ∈ F ∨ x ∈ p2) ∧ ρ = [some (.lst (Ls.map grpP)), some (.loc 0), some (grpP g), o3]) _ _ _ ⟨[], g, F, u, o3, rfl, rfl, rfl, hu, hun, nd, by simp, by simp, rfl⟩ ?_ ?_
      · rintro y r ρ S' ⟨p2, l2, F', u', o3, hg2, e, rfl, hu', hun', nd', hFl', hm', rfl⟩
        cases l2 with
        | nil => cases e
        | cons x l2 =>
        cases e
        have hgl : g.length = p2.length + (l2.length + 1) := by rw [hg2]; simp
        rw [WS_gNm, WS_seq, WS_dSet, W_c, W_var]
        refine ⟨_, rfl, ?_⟩
        rw [W_var]
        refine ⟨_, rfl, WS_dput rfl hu' hun' rfl (by unfold lim; omega) fun F2 u2 h1 h2 h3 h4 h5 => ?_⟩
        refine ⟨p2 ++ [x], l2, F2, u2, _, by rw [hg2]; simp, rfl, rfl, h1, h2, h5 nd', by rw [List.length_append, List.length_singleton]; omega, fun z => ?_, rfl⟩
        rw [h4, hm', List.mem_append, List.mem_singleton, or_assoc]
      · rintro ρ S' ⟨p2, l2, F', u', o3, hg2, e, rfl, hu', hun', nd', hFl', hm', rfl⟩
        cases l2 with
        | cons x l2 => cases e
        | nil =>
          rw [List.append_nil] at hg2
          subst hg2
          refine ⟨pre ++ [g], l, F', u', _, _, by rw [hL2]; simp, rfl, rfl, hu', hun', nd', by rw [List.length_append, List.length_singleton]; omega, fun x => ?_, rfl⟩
          rw [hm', hm]
          constructor
          · rintro (⟨j, h1, h2⟩ | h)
            · exact ⟨j, List.mem_append_left _ h1, h2⟩
            · exact ⟨g, by simp, h⟩
          · rintro ⟨j, h1, h2⟩
            rcases List.mem_append.mp h1 with h | h
            · exact .inl ⟨j, h, h2⟩
            · rw [List.mem_singleton] at h; subst h; exact .inr h2
    · rintro ρ S' ⟨pre, l, F, u, o2, o3, hL2, e, rfl, hu, hun, nd, hFl, hm, rfl⟩
      cases l with
      | cons g l => cases e
      | nil =>
        rw [List.append_nil] at hL2
        subst hL2
        exact ⟨F, u, o2, o3, rfl, nd, hm, rfl⟩
  rintro ρ S' ⟨F, u, o2, o3, hS, nd, hm, hρ⟩
  subst hρ; subst hS
  rw [WS_seq, WS_ret, W_prim, W_acons, W_prim, W_acons, W_prim, W_acons, W_var]
  refine ⟨_, rfl, ?_⟩
  rw [W_anil]
  have e : pListD [.loc 0] [some (.dct false (nL F) u)] = .ok (.lst (nL F)) [some (.dct false (nL F) u)] := rfl
  rw [e, W_ok, W_anil]
  refine W_srtN (x := .lst (nL F)) rfl nd fun l' h1 h2 _ => ?_
  rw [W_anil, W_tupLst]
  exact ⟨by rw [noL]; exact noLs_n _, q l' h1 fun x => by rw [h2, hm]⟩
theorem W_rings {x : Ec.Pt} (ok : WOk zs ws) (hR : ∀ k ∈ x.2, k < ws.length) (hRl : x.2.length ≤ 1000) (q : ∀ l : List Nat, RungIs ws x.2 l → Q (.tup (nL l)) S) : W (callM false m_part_rings [webV zs ws, ptV x] S) E Q := by
  refine W_pure (by simp [noLs, noLs_rn ok, noL, noLs_n]) ?_
  simp only [m_part_rings, runM, b_part_rings, W_fin]
  rw [WS_seq, WS_ret, W_call, W_acons]
  refine W_lc ?_
  rw [W_iseq, W_bin, W_var]
  refine ⟨_, rfl, ?_⟩
  rw [W_c, W_ixTup]
  refine ⟨_, atI_one, _, rfl, ?_⟩
  refine W_lcMap _ (fun _ => true) (fun k => grpP (lotK ws k)) x.2 (fun k hk => ⟨_, rfl, ⟨rfl, rfl⟩, fun _ => ?_⟩) ?_
  · exact W_lotV (zs := zs) (ws := ws) (k := k) rfl rfl (hR k hk) ⟨rfl, rfl⟩
  · refine ⟨by rw [List.length_map]; unfold lim; omega, ?_⟩
    simp only [Bool.false_eq_true, if_false]
    rw [filT, W_anil]
    have e : (x.2.map fun k => grpP (lotK ws k)) = (x.2.map (lotK ws)).map grpP := by rw [List.map_map]; rfl
    rw [e]
    refine ⟨rfl, W_joined (fun l hl => ?_) (by rw [List.length_map]; exact hRl) fun l h1 h2 => ⟨by rw [noL]; exact noLs_n _, q l ⟨h1, fun y => ?_⟩⟩⟩
    · obtain ⟨k, hk, rfl⟩ := List.mem_map.mp hl
      exact (lotK_ok ok (hR k hk)).1
    · rw [h2]
      constructor
      · rintro ⟨g, hg, hy⟩
        obtain ⟨k, hk, rfl⟩ := List.mem_map.mp hg
        exact ⟨k, hk, hy⟩
      · rintro ⟨k, hk, hy⟩
        exact ⟨_, List.mem_map_of_mem hk, hy⟩
end
end Lw
namespace Lw
open PySem PySem.Spec PyProof.Rows L2 Mir
abbrev pairP (p : Int × Int) : PV := .tup [.int p.1, .int p.2]
abbrev pairD (p : Int × Int) : PyData := .tuple [.int p.1, .int p.2]
theorem toDs_pairs : ∀ ps : List (Int × Int), toDs (ps.map pairP) = some (ps.map pairD)
  | [] => rfl
  | p :: r => by
    rw [List.map_cons, toDs, toDs_pairs r]
    rfl
theorem alike_pairs : ∀ ps : List (Int × Int), alikeB (ps.map pairD) = true
  | [] => rfl
  | p :: r => by
    rw [List.map_cons, alikeB, alike_pairs r]
    simp only [Bool.and_true, Bool.and_eq_true, List.all_eq_true]
    refine ⟨rfl, fun d hd => ?_⟩
    obtain ⟨q, _, rfl⟩ := List.mem_map.mp hd
    exact ⟨rfl, rfl⟩
theorem srt_pairs (ps : List (Int × Int)) : ∃ qs : List PV, srtP (ps.map pairP) = some qs ∧ qs.Perm (ps.map pairP) := by
  unfold srtP
  rw [toDs_pairs]
  dsimp only
  have h2 : (ps.map pairD).all (fun d => !isNonD d && decide (d.depth ≤ 8)) = true := by
    rw [List.all_eq_true]
    intro d hd
    obtain ⟨q, _, rfl⟩ := List.mem_map.mp hd
    rfl
  have h3 : (ps.map pairD).all isTupD = true := by
    rw [List.all_eq_true]
    intro d hd
    obtain ⟨q, _, rfl⟩ := List.mem_map.mp hd
    rfl
  rw [alike_pairs, h2, h3]
  refine ⟨_, rfl, ((srtD_perm _).map _).trans ?_⟩
  rw [List.map_fst_zip (by simp)]
section
variable {ρ : En} {S : Sto} {E : XP} {Q : PV → Sto → Prop} {X : XS} {N : En → Sto → Prop} {T : PV → Sto → Prop} {zs : List Nat} {ws : List Rn}
theorem W_srtP {ps : List (Int × Int)} (q : ∀ qs : List PV, qs.Perm (ps.map pairP) → Q (.lst qs) S) : W (pSrt [.lst (ps.map pairP)] S) E Q := by
  obtain ⟨qs, e, hp⟩ := srt_pairs ps
  have : (lstL S (.lst (ps.map pairP))).bind srtP = some qs := e
  simp only [pSrt, this, W_ok]
  exact q qs hp
/-- some of them, in order -/
theorem W_lcSub {t : CM} {c : TM} {m : EM} {I : Sto → Prop} : ∀ (ps : List PV) (S : Sto), I S → (∀ p ∈ ps, ∀ S, I S → ∃ ρ1, t p ρ = some ρ1 ∧ W (c ρ1 S) nE fun d S1 => I S1 ∧ W (m ρ1 S1) nE fun v S' => v = p ∧ I S') →
    W (lcL t c m ρ ps S) nE fun ws S' => ws.Sublist ps ∧ I S'
  | [], S, h, _ => ⟨List.Sublist.refl _, h⟩
  | p :: r, S, h, hs => by
    obtain ⟨ρ1, e, q⟩ := hs p List.mem_cons_self S h
    rw [lcL, e]
    dsimp only
    rw [W_nx]
    refine W_mono q fun d S1 ⟨i1, q1⟩ => ?_
    cases d with
    | true =>
      rw [if_pos rfl, W_nx]
      refine W_mono q1 fun v S2 ⟨pv, i2⟩ => ?_
      rw [W_nx]
      refine W_mono (W_lcSub r S2 i2 fun p' hp => hs p' (List.mem_cons_of_mem _ hp)) fun ws S3 ⟨hw, i3⟩ => ?_
      exact ⟨by rw [pv]; exact hw.cons_cons p, i3⟩
    | false =>
      rw [if_neg Bool.false_ne_true]
      refine W_mono (W_lcSub r S1 i1 fun p' hp => hs p' (List.mem_cons_of_mem _ hp)) fun ws S3 ⟨hw, i3⟩ => ?_
      exact ⟨hw.cons p, i3⟩
/-- one for each, both ways told -/
theorem W_lcIdx {t : CM} {m : EM} {P : PV → PV → Prop} {I : Sto → Prop} : ∀ (ps : List PV) (S : Sto), I S → (∀ p ∈ ps, ∀ S, I S → ∃ ρ1, t p ρ = some ρ1 ∧ W (m ρ1 S) nE fun v S' => P p v ∧ I S') →
    W (lcL t tTrue m ρ ps S) nE fun ws S' => (ws.length = ps.length ∧ (∀ w ∈ ws, ∃ p ∈ ps, P p w) ∧ ∀ p ∈ ps, ∃ w ∈ ws, P p w) ∧ I S'
  | [], S, h, _ => ⟨⟨rfl, by simp, by simp⟩, h⟩
  | p :: r, S, h, hs => by
    obtain ⟨ρ1, e, q⟩ := hs p List.mem_cons_self S h
    rw [lcL, e]
    simp only [W_nx]
    show W (R.ok true S) nE _
    simp only [W_ok, if_pos]
    simp only [W_nx]
    refine W_mono q fun v S1 ⟨pv, i1⟩ => ?_
    refine W_mono (W_lcIdx r S1 i1 fun p' hp => hs p' (List.mem_cons_of_mem _ hp)) fun ws S2 ⟨⟨hl, h1, h2⟩, i2⟩ => ?_
    refine ⟨⟨by simp [hl], fun w hw => ?_, fun p' hp => ?_⟩, i2⟩
    · rcases List.mem_cons.mp hw with rfl | hw
      · exact ⟨p, List.mem_cons_self, pv⟩
      · obtain ⟨p', h3, h4⟩ := h1 w hw; exact ⟨p', List.mem_cons_of_mem _ h3, h4⟩
    · rcases List.mem_cons.mp hp with rfl | hp
      · exact ⟨v, List.mem_cons_self, pv⟩
      · obtain ⟨w, h3, h4⟩ := h2 p' hp; exact ⟨w, List.mem_cons_of_mem _ h3, h4⟩
/-- a road that starts at s -/
def RdS (n s : Nat) (r : Rn) : Prop := r.1 = s ∧ r.2.1 < n ∧ r.2.2.1.length ≤ 3 ∧ r.2.2.1.Nodup
theorem road_W {x : Int × Int} (B : Bx x) {start places bells owner : Nat} (hp : 0 < places) (hp2 : places < 100) (hb : 0 < bells) (hb2 : bells ≤ 3) : W (m__law_road [.loc 0, .int start, .int places, .int bells, .int owner] [bxO x]) nE fun v S' => Is rnV (RdS places start) v ∧ BS S' := by
  simp only [m__law_road, runM, b__law_road, W_fin]
  refine WS_cut (fun ρ S' => ∃ e : Nat, e < places ∧ BS S' ∧ ρ = [some (.loc 0), some (.int start), some (.int places), some (.int bells), some (.int owner), some (.int e), none, none]) ?_ ?_
  · rw [WS_nm, W_call, W_acons, W_var]
    refine ⟨_, rfl, ?_⟩
    rw [W_acons, W_var]
    refine ⟨_, rfl, ?_⟩
    rw [W_anil]
    refine ⟨rfl, W_take B rfl (by omega) (log2_small (by omega) (by omega)) fun i x' g1 g2 B' => ?_⟩
    refine ⟨i.toNat, by omega, ⟨x', rfl, B'⟩, ?_⟩
    rw [Int.toNat_of_nonneg g1]; rfl
  rintro ρ S' ⟨e, he, ⟨x1, rfl, B1⟩, rfl⟩
  refine WS_cut (fun ρ S' => ∃ l : List Nat, l.length ≤ 3 ∧ l.Nodup ∧ BS S' ∧ ρ = [some (.loc 0), some (.int start), some (.int places), some (.int bells), some (.int owner), some (.int e), some (.tup (nL l)), none]) ?_ ?_
  · rw [WS_nm, W_prim, W_acons]
    refine W_lc ?_
    rw [W_range1, W_acons, W_var]
    refine ⟨_, rfl, ?_⟩
    rw [W_anil, W_rg1]
    refine ⟨by unfold inW; rw [decide_eq_true_eq]; omega, ?_⟩
    rw [Int.toNat_natCast]
    refine W_mono (W_lcSub (I := BS) _ _ ⟨x1, rfl, B1⟩ fun p hpm S hS => ?_) fun vs S2 ⟨h1, h3⟩ => ?_
    · obtain ⟨x2, rfl, B2⟩ := hS
      obtain ⟨k, rfl, hk⟩ := rg_get hpm
      refine ⟨_, rfl, ?_⟩
      rw [W_tbin, W_call, W_acons, W_var]
      refine ⟨_, rfl, ?_⟩
      rw [W_acons, W_var]
      refine ⟨_, rfl, ?_⟩
      rw [W_anil]
      refine ⟨rfl, W_take B2 rfl (by omega) (log2_small (by omega) (by omega)) fun i x' g1 g2 B' => ?_⟩
      rw [W_c, eqI]
      refine ⟨_, rfl, ⟨x', rfl, B'⟩, ?_⟩
      rw [W_var]
      exact ⟨_, rfl, rfl, x', rfl, B'⟩
    · rw [rng_zero, List.sublist_map_iff] at h1
      obtain ⟨l, hl, rfl⟩ := h1
      have hnd : l.Nodup := hl.nodup List.nodup_range
      have hll := hl.length_le
      rw [List.length_range] at hll
      refine ⟨by rw [rng_zero, List.length_map, List.length_range]; unfold lim; omega, ?_⟩
      simp only [Bool.false_eq_true, if_false]
      rw [W_anil, W_tupLst]
      exact ⟨l, by omega, hnd, h3, rfl⟩
  rintro ρ S' ⟨l, hl, hnd, ⟨x2, rfl, B2⟩, rfl⟩
  refine WS_cut (fun ρ S' => ∃ l : List Nat, l.length ≤ 3 ∧ l.Nodup ∧ BS S' ∧ ρ = [some (.loc 0), some (.int start), some (.int places), some (.int bells), some (.int owner), some (.int e), some (.tup (nL l)), none]) ?_ ?_
  · rw [WS_if, W_tand, W_tbin, W_var]
    refine ⟨_, rfl, ?_⟩
    rw [W_tup, W_anil]
    refine ⟨Nat.zero_le _, W_eqN (b := []) ⟨_, rfl, ?_⟩⟩
    by_cases c : l = []
    · simp only [c, decide_true, if_true, Bool.false_eq_true, if_false]
      rw [W_tbin, W_var]
      refine ⟨_, rfl, ?_⟩
      rw [W_var]
      refine ⟨_, rfl, ?_⟩
      rw [W_pI]
      refine ⟨_, rfl, _, rfl, ?_⟩
      by_cases c2 : (e : Int) ≤ (start : Int)
      · simp only [c2, decide_true, if_true]
        rw [WS_seq, WS_nm, W_tup, W_acons, W_call, W_acons, W_var]
        refine ⟨_, rfl, ?_⟩
        rw [W_acons, W_var]
        refine ⟨_, rfl, ?_⟩
        rw [W_anil]
        refine ⟨rfl, W_take B2 rfl (by omega) (log2_small (by omega) (by omega)) fun i x' g1 g2 B' => ?_⟩
        rw [W_anil]
        refine ⟨show 1 ≤ lim by decide, [i.toNat], by simp, by simp, ⟨x', rfl, B'⟩, ?_⟩
        rw [show nL [i.toNat] = [PV.int ((i.toNat : Nat) : Int)] from rfl, Int.toNat_of_nonneg g1]; rfl
      · simp only [c2, decide_false, Bool.false_eq_true, if_false]
        exact ⟨[], by simp, .nil, ⟨x2, rfl, B2⟩, rfl⟩
    · simp only [c, decide_false, Bool.false_eq_true, if_false]
      exact ⟨l, hl, hnd, ⟨x2, rfl, B2⟩, rfl⟩
  clear hl hnd
  rintro ρ S' ⟨l, hl, hnd, ⟨x3, rfl, B3⟩, rfl⟩
  rw [WS_seq, WS_ret, W_tup, W_acons, W_var]
  refine ⟨_, rfl, ?_⟩
  rw [W_acons, W_var]
  refine ⟨_, rfl, ?_⟩
  rw [W_acons, W_var]
  refine ⟨_, rfl, ?_⟩
  rw [W_acons, W_eif, W_tbin, W_var]
  refine ⟨_, rfl, ?_⟩
  rw [W_c, eqI]
  refine ⟨_, rfl, ?_⟩
  by_cases ho : (owner : Int) = 0
  · simp only [ho, decide_true, if_true, Bool.false_eq_true, if_false]
    rw [W_c, W_anil]
    exact ⟨show 4 ≤ lim by decide, ⟨(start, e, l, 0), rfl, rfl, he, hl, hnd⟩, x3, rfl, B3⟩
  · simp only [ho, decide_false, Bool.false_eq_true, if_false]
    rw [W_bin, W_c, W_call, W_acons, W_var]
    refine ⟨_, rfl, ?_⟩
    rw [W_acons, W_call, W_acons, W_var]
    refine ⟨_, rfl, ?_⟩
    rw [W_acons, W_lst, W_acons, W_c, W_acons, W_c, W_acons, W_c, W_anil]
    refine ⟨show 3 ≤ lim by decide, ?_⟩
    rw [W_anil]
    refine ⟨rfl, W_pickV rfl B3 rfl (by simp) (by simp) fun p x' hm B' => ?_⟩
    have hp : ∃ j : Int, p = .int j ∧ 0 < j ∧ j < 100 := by
      simp only [List.mem_cons, List.not_mem_nil, or_false] at hm
      rcases hm with rfl | rfl | rfl
      · exact ⟨1, rfl, by omega, by omega⟩
      · exact ⟨3, rfl, by omega, by omega⟩
      · exact ⟨20, rfl, by omega, by omega⟩
    obtain ⟨j, rfl, j0, j1⟩ := hp
    rw [W_anil]
    refine ⟨rfl, W_take B' rfl j0 (log2_small j0 (by omega)) fun i x2 g1 g2 B2 => ?_⟩
    rw [W_addI, W_anil]
    refine ⟨show 4 ≤ lim by decide, ⟨(start, e, l, (1 + i).toNat), ?_, rfl, he, hl, hnd⟩, x2, rfl, B2⟩
    unfold rnV
    have : (((1 + i).toNat : Nat) : Int) = 1 + i := by omega
    rw [this]
end
end Lw
namespace Lw
open PySem PySem.Spec PyProof.Rows L2 Mir
def WB (S : Sto) : Prop := ∃ (x : Int × Int) (rest : Sto), S = bxO x :: rest ∧ Bx x
def B2 (ws : List Rn) (S : Sto) : Prop := ∃ x, S = [bxO x, some (.lst (ws.map rnV))] ∧ Bx x
def Rs (n : Nat) (ws : List Rn) : Prop := (∀ r ∈ ws, r.1 < n ∧ r.2.1 < n ∧ r.2.2.1.length ≤ 3 ∧ r.2.2.1.Nodup) ∧ ∀ p, p < n → ∃ r ∈ ws, r.1 = p
theorem rn_noL {r : Rn} (h : r.2.2.1.length ≤ 3) : noL (rnV r) = true := kvB_noL 3 _ (kv_rn h)
theorem wok_of {zs : List Nat} {ws : List Rn} (h0 : 0 < zs.length) (h1 : zs.length ≤ 4) (h2 : ws.length ≤ 7) (h : Rs zs.length ws) : WOk zs ws where
  ok := {
    s := fun k hk => by
      have hk : k < ws.length := hk
      rw [src_eq hk]; exact (h.1 _ (List.getElem_mem hk)).1
    d := fun k hk => by
      have hk : k < ws.length := hk
      rw [dst_eq hk]; exact (h.1 _ (List.getElem_mem hk)).2.1
    o := fun p hp => by
      obtain ⟨r, hr, e⟩ := h.2 p hp
      obtain ⟨k, hk, rfl⟩ := List.mem_iff_getElem.mp hr
      exact ⟨k, hk, by rw [src_eq hk]; exact e⟩ }
  n0 := h0
  n1 := h1
  m1 := h2
  lot := fun r hr => (h.1 r hr).2.2.1
  lnd := fun r hr => (h.1 r hr).2.2.2
section
variable {ρ : En} {S : Sto} {E : XP} {Q : PV → Sto → Prop} {X : XS} {N : En → Sto → Prop} {T : PV → Sto → Prop} {zs : List Nat} {ws : List Rn}
theorem W_roadC {b : Nat} {x : Int × Int} (B : Bx x) (h : S[b]? = some (bxO x)) {start places bells owner : Nat} (hp : 0 < places) (hp2 : places < 100) (hb : 0 < bells) (hb2 : bells ≤ 3) (q : ∀ r x', RdS places start r → Bx x' → Q (rnV r) (S.set b (bxO x'))) : W (callM false m__law_road [.loc b, .int start, .int places, .int bells, .int owner] S) E Q := by
  refine W_one (xs := [.loc 0, .int start, .int places, .int bells, .int owner]) (by simp [splitA, noL, noLs]) h rfl (W_mono (road_W B hp hp2 hb hb2) ?_)
  rintro v S' ⟨⟨r, rfl, hr⟩, x', rfl, B'⟩
  exact ⟨rn_noL hr.2.2.1, _, [], rfl, rfl, q r x' hr B'⟩
theorem web_W {x : Int × Int} (B : Bx x) {places bells : Nat} (hp : 0 < places) (hp2 : places ≤ 4) (hb : 0 < bells) (hb2 : bells ≤ 3) : W (m__law_web [.loc 0, .int places, .int (7 - (places : Int)), .int bells] [bxO x]) nE fun v S' => (∃ zs ws, v = webV zs ws ∧ WOk zs ws) ∧ WB S' := by
  simp only [m__law_web, runM, b__law_web, W_fin]
  have ei : inW (places : Int) = true := by unfold inW; rw [decide_eq_true_eq]; omega
  refine WS_cut (fun ρ S' => ∃ zs : List Nat, zs.length = places ∧ BS S' ∧ ρ = [some (.loc 0), some (.int places), some (.int (7 - (places : Int))), some (.int bells), some (.tup (nL zs)), none, none, none, none, none, none, none]) ?_ ?_
  · rw [WS_nm, W_prim, W_acons]
    refine W_lc ?_
    rw [W_range1, W_acons, W_var]
    refine ⟨_, rfl, ?_⟩
    rw [W_anil, W_rg1]
    refine ⟨ei, ?_⟩
    rw [Int.toNat_natCast]
    refine W_mono (W_lcAll (P := Is (fun (k : Nat) => PV.int k) fun _ => True) (I := BS) _ _ ⟨x, rfl, B⟩ fun p hpm S hS => ?_) fun vs S2 ⟨⟨h1, h2⟩, h3⟩ => ?_
    · obtain ⟨x2, rfl, Bx2⟩ := hS
      refine ⟨_, rfl, ?_⟩
      rw [W_call, W_acons, W_var]
      refine ⟨_, rfl, ?_⟩
      rw [W_acons, W_lst, W_acons, W_c, W_acons, W_c, W_acons, W_c, W_anil]
      refine ⟨show 3 ≤ lim by decide, ?_⟩
      rw [W_anil]
      refine ⟨rfl, W_pickV rfl Bx2 rfl (by simp) (by simp) fun p x' hm B' => ?_⟩
      simp only [List.mem_cons, List.not_mem_nil, or_false] at hm
      rcases hm with rfl | rfl | rfl
      · exact ⟨⟨0, rfl, trivial⟩, x', rfl, B'⟩
      · exact ⟨⟨0, rfl, trivial⟩, x', rfl, B'⟩
      · exact ⟨⟨2, rfl, trivial⟩, x', rfl, B'⟩
    · obtain ⟨zs, rfl, _⟩ := is_of h2
      rw [List.length_map] at h1
      have h1' : zs.length = places := by rw [h1]; simp [rng]
      refine ⟨by simp [rng]; unfold lim; omega, ?_⟩
      simp only [Bool.false_eq_true, if_false]
      rw [W_anil, W_tupLst]
      exact ⟨zs, h1', h3, rfl⟩
  rintro ρ S' ⟨zs, hz, ⟨x1, rfl, Bx1⟩, rfl⟩
  refine WS_cut (fun ρ S' => ∃ ws : List Rn, ws.length = places ∧ Rs places ws ∧ B2 ws S' ∧ ρ = [some (.loc 0), some (.int places), some (.int (7 - (places : Int))), some (.int bells), some (.tup (nL zs)), some (.loc 1), none, none, none, none, none, none]) ?_ ?_
  · rw [WS_nm]
    refine W_lc ?_
    rw [W_range1, W_acons, W_var]
    refine ⟨_, rfl, ?_⟩
    rw [W_anil, W_rg1]
    refine ⟨ei, ?_⟩
    rw [Int.toNat_natCast]
    refine W_mono (W_lcIdx (P := fun p v => ∃ k : Nat, p = .int k ∧ k < places ∧ Is rnV (RdS places k) v) (I := BS) _ _ ⟨x1, rfl, Bx1⟩ fun p hpm S hS => ?_) fun vs S2 ⟨⟨h1, h2, h2'⟩, h3⟩ => ?_
    · obtain ⟨x2, rfl, Bx2⟩ := hS
      obtain ⟨k, rfl, hk⟩ := rg_get hpm
      refine ⟨_, rfl, ?_⟩
      rw [W_call, W_acons, W_var]
      refine ⟨_, rfl, ?_⟩
      rw [W_acons, W_var]
      refine ⟨_, rfl, ?_⟩
      rw [W_acons, W_var]
      refine ⟨_, rfl, ?_⟩
      rw [W_acons, W_var]
      refine ⟨_, rfl, ?_⟩
      rw [W_acons, W_bin, W_var]
      refine ⟨_, rfl, ?_⟩
      rw [W_var]
      refine ⟨_, rfl, ?_⟩
      rw [W_ixTup]
      refine ⟨_, atI_n (by omega), ?_⟩
      rw [W_anil]
      exact ⟨rfl, W_roadC Bx2 rfl hp (by omega) hb hb2 fun r x' hr B' => ⟨⟨k, rfl, hk, r, rfl, hr⟩, x', rfl, B'⟩⟩
    · have hall : ∀ w ∈ vs, Is rnV (fun r => r.1 < places ∧ r.2.1 < places ∧ r.2.2.1.length ≤ 3 ∧ r.2.2.1.Nodup) w := fun w hw => by
        obtain ⟨p, _, k, _, hk, r, rfl, hr⟩ := h2 w hw
        exact ⟨r, rfl, hr.1 ▸ hk, hr.2.1, hr.2.2.1, hr.2.2.2⟩
      obtain ⟨ws, rfl, hws⟩ := is_of hall
      rw [List.length_map] at h1
      have h1' : ws.length = places := by rw [h1]; simp [rng]
      obtain ⟨x2, rfl, Bx2⟩ := h3
      refine ⟨by simp [rng]; unfold lim; omega, ?_⟩
      rw [if_pos rfl]
      refine ⟨ws, h1', ⟨hws, fun p hp => ?_⟩, ⟨x2, rfl, Bx2⟩, rfl⟩
      obtain ⟨w, hw, k, e, hk, r, e2, hr⟩ := h2' (.int (p : Nat)) (by rw [rng_zero]; exact List.mem_map_of_mem (List.mem_range.mpr hp))
      obtain ⟨r', hr', e3⟩ := List.mem_map.mp hw
      have hkp : p = k := by cases e; rfl
      have hrr : r'.1 = r.1 := by
        rw [e2] at e3
        unfold rnV at e3
        simp only [PV.tup.injEq, List.cons.injEq, PV.int.injEq] at e3
        have := e3.1; omega
      exact ⟨r', hr', by rw [hrr, hr.1, hkp]⟩
  rintro ρ S' ⟨ws, hw1, hw2, ⟨x2, rfl, Bx2⟩, rfl⟩
  refine WS_cut (fun ρ S' => ∃ (ws : List Rn) (o6 o8 : Option PV), ws.length ≤ 7 ∧ Rs places ws ∧ B2 ws S' ∧ ρ = [some (.loc 0), some (.int places), some (.int (7 - (places : Int))), some (.int bells), some (.tup (nL zs)), some (.loc 1), o6, none, o8, none, none, none]) ?_ ?_
  · rw [WS_for, W_range1, W_acons, W_call, W_acons, W_var]
    refine ⟨_, rfl, ?_⟩
    rw [W_acons, W_bin, W_var]
    refine ⟨_, rfl, ?_⟩
    rw [W_c, W_addI, W_anil]
    refine ⟨rfl, W_take Bx2 rfl (by omega) (log2_small (by omega) (by omega)) fun i x3 g1 g2 Bx3 => ?_⟩
    rw [W_anil, W_rg1]
    refine ⟨by unfold inW; rw [decide_eq_true_eq]; omega, ?_⟩
    refine WS_frInv (fun r ρ S' => ∃ (ws : List Rn) (o6 o8 : Option PV), ws.length + r.length ≤ 7 ∧ Rs places ws ∧ B2 ws S' ∧ ρ = [some (.loc 0), some (.int places), some (.int (7 - (places : Int))), some (.int bells), some (.tup (nL zs)), some (.loc 1), o6, none, o8, none, none, none]) _ _ _ ⟨ws, none, none, by simp [rng]; omega, hw2, ⟨x3, rfl, Bx3⟩, rfl⟩ ?_ ?_
    · rintro p r ρ S' ⟨ws, o6, o8, hl, hrs, ⟨x4, rfl, Bx4⟩, rfl⟩
      rw [WS_gNm, WS_seq, WS_nm, W_call, W_acons, W_var]
      refine ⟨_, rfl, ?_⟩
      rw [W_acons, W_var]
      refine ⟨_, rfl, ?_⟩
      rw [W_anil]
      refine ⟨rfl, W_take Bx4 rfl (by omega) (log2_small (by omega) (by omega)) fun j x5 j1 j2 Bx5 => ?_⟩
      obtain ⟨jn, rfl⟩ := Int.eq_ofNat_of_zero_le j1
      have hj : jn < places := by omega
      rw [WS_seq, WS_expr, W_meL, W_var]
      refine ⟨_, rfl, _, lstL_loc.mpr rfl, ?_⟩
      rw [W_acons, W_call, W_acons, W_var]
      refine ⟨_, rfl, ?_⟩
      rw [W_acons, W_var]
      refine ⟨_, rfl, ?_⟩
      rw [W_acons, W_var]
      refine ⟨_, rfl, ?_⟩
      rw [W_acons, W_var]
      refine ⟨_, rfl, ?_⟩
      rw [W_acons, W_bin, W_var]
      refine ⟨_, rfl, ?_⟩
      rw [W_var]
      refine ⟨_, rfl, ?_⟩
      rw [W_ixTup]
      refine ⟨_, atI_n (by omega), ?_⟩
      rw [W_anil]
      refine ⟨rfl, W_roadC Bx5 rfl hp (by omega) hb hb2 fun rd x6 hr Bx6 => ?_⟩
      rw [W_anil, W_append]
      simp only [List.length_cons] at hl
      refine ⟨_, rfl, by rw [List.length_map]; unfold lim; omega, ws ++ [rd], _, _, by rw [List.length_append, List.length_singleton]; omega, ⟨fun q hq => ?_, fun p hp => ?_⟩, ⟨x6, by simp, Bx6⟩, rfl⟩
      · rcases List.mem_append.mp hq with hq | hq
        · exact hrs.1 q hq
        · rw [List.mem_singleton] at hq; subst hq; exact ⟨hr.1 ▸ hj, hr.2.1, hr.2.2.1, hr.2.2.2⟩
      · obtain ⟨q, hq, e⟩ := hrs.2 p hp
        exact ⟨q, List.mem_append_left _ hq, e⟩
    · rintro ρ S' ⟨ws, o6, o8, hl, hrs, hB, rfl⟩
      exact ⟨ws, o6, o8, by simpa using hl, hrs, hB, rfl⟩
  clear hw1 hw2 ws
  rintro ρ S' ⟨ws, o6, o8, hw1, hrs, ⟨x3, rfl, Bx3⟩, rfl⟩
  refine WS_cut (fun ρ S' => ∃ (ps : List (Int × Int)), ps.length = ws.length ∧ (∀ p ∈ ps, 0 ≤ p.2 ∧ p.2 < ws.length) ∧ (∀ k : Nat, k < ws.length → ∃ p ∈ ps, p.2 = k) ∧ B2 ws S' ∧ ρ = [some (.loc 0), some (.int places), some (.int (7 - (places : Int))), some (.int bells), some (.tup (nL zs)), some (.loc 1), o6, some (.lst (ps.map pairP)), o8, none, none, none]) ?_ ?_
  · rw [WS_nm, W_prim, W_acons]
    refine W_lc ?_
    rw [W_range1, W_acons, W_prim, W_acons, W_var]
    refine ⟨_, rfl, ?_⟩
    rw [W_anil, W_lenLoc]
    refine ⟨_, rfl, ?_⟩
    rw [W_anil, W_rg1, List.length_map]
    refine ⟨by unfold inW; rw [decide_eq_true_eq]; omega, ?_⟩
    rw [Int.toNat_natCast]
    refine W_mono (W_lcIdx (P := fun p v => ∃ (k : Nat) (i : Int), p = .int k ∧ k < ws.length ∧ v = pairP (i, (k : Int))) (I := B2 ws) _ _ ⟨x3, rfl, Bx3⟩ fun p hpm S hS => ?_) fun qs S2 ⟨⟨h1, h2, h2'⟩, h3⟩ => ?_
    · obtain ⟨x4, rfl, Bx4⟩ := hS
      obtain ⟨k, rfl, hk⟩ := rg_get hpm
      refine ⟨_, rfl, ?_⟩
      rw [W_tup, W_acons, W_call, W_acons, W_var]
      refine ⟨_, rfl, ?_⟩
      rw [W_acons, W_c, W_anil]
      refine ⟨rfl, W_take Bx4 rfl (by decide) (log2_small (by decide) (by decide)) fun i x5 g1 g2 Bx5 => ?_⟩
      rw [W_acons, W_var]
      refine ⟨_, rfl, ?_⟩
      rw [W_anil]
      exact ⟨show 2 ≤ lim by decide, ⟨k, i, rfl, hk, rfl⟩, x5, rfl, Bx5⟩
    · have hall : ∀ w ∈ qs, Is pairP (fun p => 0 ≤ p.2 ∧ p.2 < ws.length) w := fun w hw => by
        obtain ⟨p, _, k, i, _, hk, rfl⟩ := h2 w hw
        exact ⟨(i, (k : Int)), rfl, by dsimp only; omega⟩
      obtain ⟨ps, rfl, hps⟩ := is_of hall
      refine ⟨by simp [rng]; unfold lim; omega, ?_⟩
      simp only [Bool.false_eq_true, if_false]
      rw [W_anil]
      refine W_srtP fun qs hq => ?_
      have hq2 : ∀ w ∈ qs, Is pairP (fun p => p ∈ ps) w := fun w hw => by
        obtain ⟨p, hp, rfl⟩ := List.mem_map.mp (hq.mem_iff.mp hw)
        exact ⟨p, rfl, hp⟩
      obtain ⟨ps', rfl, hps'⟩ := is_of hq2
      have hl : ps'.length = ws.length := by
        have := hq.length_eq
        simp [rng] at h1 this; omega
      refine ⟨ps', hl, fun p hp => hps p (hps' p hp), fun k hk => ?_, h3, rfl⟩
      obtain ⟨w, hw, k', i, e, hk', e2⟩ := h2' (.int (k : Nat)) (by rw [rng_zero]; exact List.mem_map_of_mem (List.mem_range.mpr hk))
      have hkk : k = k' := by cases e; rfl
      rw [e2] at hw
      obtain ⟨p, hp, e3⟩ := List.mem_map.mp (hq.mem_iff.mpr hw)
      refine ⟨p, hp, ?_⟩
      simp only [PV.tup.injEq, List.cons.injEq, PV.int.injEq] at e3
      rw [hkk]; exact e3.2.1
  rintro ρ S' ⟨ps, hpl, hps, hcov, ⟨x4, rfl, Bx4⟩, rfl⟩
  rw [WS_seq, WS_ret, W_tup, W_acons, W_var]
  refine ⟨_, rfl, ?_⟩
  rw [W_acons, W_prim, W_acons]
  refine W_lc ?_
  rw [W_iseq, W_var]
  refine ⟨_, rfl, _, rfl, ?_⟩
  refine W_mono (W_lcIdx (P := fun p v => ∃ (pr : Int × Int) (k : Nat) (h : k < ws.length), p = pairP pr ∧ pr.2 = k ∧ v = rnV ws[k]) (I := B2 ws) _ _ ⟨x4, rfl, Bx4⟩ fun p hpm S hS => ?_) fun qs S2 ⟨⟨h1, h2, h2'⟩, h3⟩ => ?_
  · obtain ⟨x5, rfl, Bx5⟩ := hS
    obtain ⟨pr, hpr, rfl⟩ := List.mem_map.mp hpm
    obtain ⟨k0, k1⟩ := hps pr hpr
    have hk : pr.2.toNat < ws.length := by omega
    have hi : atI (ws.map rnV) pr.2 = some (rnV ws[pr.2.toNat]) := atI_of k0 (by simp [hk])
    refine ⟨_, rfl, ?_⟩
    rw [W_bin, W_var]
    refine ⟨_, rfl, ?_⟩
    rw [W_bin, W_var]
    refine ⟨_, rfl, ?_⟩
    rw [W_c, W_ixTup]
    refine ⟨_, atI_one, ?_⟩
    rw [W_ixLoc]
    exact ⟨_, rfl, _, hi, ⟨pr, pr.2.toNat, hk, rfl, by omega, rfl⟩, x5, rfl, Bx5⟩
  · have hall : ∀ w ∈ qs, Is rnV (fun r => r ∈ ws) w := fun w hw => by
      obtain ⟨p, _, pr, k, hk, _, _, rfl⟩ := h2 w hw
      exact ⟨_, rfl, List.getElem_mem hk⟩
    obtain ⟨ws', rfl, hws⟩ := is_of hall
    obtain ⟨x5, rfl, Bx5⟩ := h3
    rw [List.length_map, List.length_map] at h1
    refine ⟨by rw [List.length_map]; unfold lim; omega, ?_⟩
    simp only [Bool.false_eq_true, if_false]
    rw [W_anil, W_tupLst, W_anil]
    refine ⟨show 2 ≤ lim by decide, ⟨zs, ws', rfl, wok_of (by omega) (by omega) (by omega) ⟨fun r hr => by rw [hz]; exact hrs.1 r (hws r hr), fun p hp => ?_⟩⟩, x5, _, rfl, Bx5⟩
    rw [hz] at hp
    obtain ⟨r, hr, e⟩ := hrs.2 p hp
    obtain ⟨k, hk, rfl⟩ := List.mem_iff_getElem.mp hr
    obtain ⟨pr, hpr, e2⟩ := hcov k hk
    obtain ⟨w, hw, pr', k', hk', e3, e4, e5⟩ := h2' (pairP pr) (List.mem_map_of_mem hpr)
    simp only [PV.tup.injEq, List.cons.injEq, PV.int.injEq] at e3
    have hkk : k' = k := by have := e3.2.1; omega
    subst hkk
    obtain ⟨r', hr', e6⟩ := List.mem_map.mp hw
    refine ⟨r', hr', ?_⟩
    rw [e5] at e6
    unfold rnV at e6
    simp only [PV.tup.injEq, List.cons.injEq, PV.int.injEq] at e6
    have := e6.1; omega
end
end Lw
namespace Lw
open PySem PySem.Spec PyProof.Rows L2 Mir
section
variable {ρ : En} {S : Sto} {E : XP} {Q : PV → Sto → Prop} {X : XS} {N : En → Sto → Prop} {T : PV → Sto → Prop} {zs : List Nat} {ws : List Rn}
theorem W_revT {a : EM} : W (eRevT a ρ S) E Q = W (a ρ S) E fun x S => ∃ ps, x = .tup ps ∧ Q (.tup ps.reverse) S := by
  simp only [eRevT, W_bind]
  congr; funext x S
  cases x <;> simp
theorem Kl.rev {n L : Nat} {ps : List PV} (k : Kl n L ps) : Kl n L ps.reverse := ⟨by rw [List.length_reverse]; exact k.1, fun p hp => k.2 p (List.mem_reverse.mp hp)⟩
theorem bent_W {x : Int × Int} {P R : List Nat} (B : Bx x) (ok : WOk zs ws) (hP : P.length ≤ 10) (hR : R.length ≤ 10) : W (m__law_bent [.loc 0, webV zs ws, ptV (P, R)] [bxO x]) nE fun v S' => kvB 4 v = true ∧ WB S' := by
  have hn1 := ok.n1
  have hm1 := ok.m1
  have kP : Kl 1 10 (nL P) := ⟨by simpa using hP, kv_n⟩
  have kR : Kl 1 10 (nL R) := ⟨by simpa using hR, kv_n⟩
  have kZ : Kl 1 10 (nL (List.range zs.length)) := ⟨by simp; omega, kv_n⟩
  have kM : Kl 1 10 (nL (List.range ws.length)) := ⟨by simp; omega, kv_n⟩
  have tP : kvB 3 (.tup (nL P)) = true := kP.up.tup
  have tR : kvB 3 (.tup (nL R)) = true := kR.up.tup
  have eZ : ∀ (S : Sto) (E : XP) (Q : List PV → Sto → Prop), Q (nL (List.range zs.length)) S → ∃ j, PV.int (zs.length : Nat) = .int j ∧ inW j = true ∧ Q (rng 0 (j - 0).toNat) S := fun S E Q q => ⟨zs.length, rfl, by unfold inW; rw [decide_eq_true_eq]; omega, by rw [show ((zs.length : Int) - 0).toNat = zs.length by omega, rng_zero]; exact q⟩
  have eM : ∀ (S : Sto) (E : XP) (Q : List PV → Sto → Prop), Q (nL (List.range ws.length)) S → ∃ j, PV.int (ws.length : Nat) = .int j ∧ inW j = true ∧ Q (rng 0 (j - 0).toNat) S := fun S E Q q => ⟨ws.length, rfl, by unfold inW; rw [decide_eq_true_eq]; omega, by rw [show ((ws.length : Int) - 0).toNat = ws.length by omega, rng_zero]; exact q⟩
  simp only [m__law_bent, runM, b__law_bent, W_fin]
  refine WS_cut (fun ρ S' => S' = [bxO x] ∧ ρ = [some (.loc 0), some (webV zs ws), some (ptV (P, R)), some (.tup (nL P)), some (.tup (nL R)), none]) ?_ ?_
  · rw [WS_set, W_var]
    refine ⟨_, rfl, ?_⟩
    rw [WS_gTp]
    exact ⟨rfl, rfl, rfl⟩
  rintro ρ S' ⟨hS, hρ⟩
  subst hρ; subst hS
  refine WS_cut (fun ρ S' => ∃ sm, Kl 4 5 sm ∧ S' = [bxO x] ∧ ρ = [some (.loc 0), some (webV zs ws), some (ptV (P, R)), some (.tup (nL P)), some (.tup (nL R)), some (.lst sm)]) ?_ ?_
  · simp only [WS_nm, W_lst, W_acons, W_anil, W_tup, W_sl, W_var, W_oSome, W_oNone, W_c, W_revT, W_bin, W_neg, W_prim, List.getElem?_cons_succ, List.getElem?_cons_zero, Option.some.injEq, exists_eq_left', PV.int.injEq, W_slTup, PV.tup.injEq, W_ixTup, atI_zero, atI_one, W_lenTup]
    refine ⟨(by simp only [List.length_cons, List.length_nil]; decide), (by simp only [List.length_cons, List.length_nil]; decide), (by simp only [List.length_cons, List.length_nil]; decide), W_addK kR kR.cut fun k1 => ⟨(by simp only [List.length_cons, List.length_nil]; decide), (by simp only [List.length_cons, List.length_nil]; decide), W_addK kP (Kl.one rfl) fun k2 => ⟨(by simp only [List.length_cons, List.length_nil]; decide), (by simp only [List.length_cons, List.length_nil]; decide), ?_⟩⟩⟩
    refine ⟨_, ?_, rfl, rfl⟩
    exact Kl.cons (Kl.cons kP.cut.up.tup (Kl.one tR)).tup (Kl.cons (Kl.cons tP (Kl.one kR.cut.up.tup)).tup (Kl.cons (Kl.cons kP.rev.up.tup (Kl.one tR)).tup (Kl.cons (Kl.cons tP (Kl.one k1.up.tup)).tup (Kl.one (Kl.cons k2.up.tup (Kl.one tR)).tup))))
  rintro ρ S' ⟨sm, kS, rfl, rfl⟩
  refine WS_cut (fun ρ S' => ∃ sm, Kl 4 13 sm ∧ S' = [bxO x] ∧ ρ = [some (.loc 0), some (webV zs ws), some (ptV (P, R)), some (.tup (nL P)), some (.tup (nL R)), some (.lst sm)]) ?_ ?_
  · simp only [WS_nm, W_lst, W_acons, W_anil, W_tup, W_sl, W_var, W_oSome, W_oNone, W_c, W_revT, W_bin, W_neg, W_prim, List.getElem?_cons_succ, List.getElem?_cons_zero, Option.some.injEq, exists_eq_left', PV.int.injEq, W_slTup, PV.tup.injEq, W_ixTup, atI_zero, atI_one, W_lenTup]
    refine ⟨(by simp only [List.length_cons, List.length_nil]; decide), W_addK kR (Kl.one rfl) fun k1 => ⟨(by simp only [List.length_cons, List.length_nil]; decide), W_listT ⟨(by simp only [List.length_cons, List.length_nil]; decide), W_listT ⟨(by simp only [List.length_cons, List.length_nil]; decide), (by simp only [List.length_cons, List.length_nil]; decide), (by simp only [List.length_cons, List.length_nil]; decide), (by simp only [List.length_cons, List.length_nil]; decide), (by simp only [List.length_cons, List.length_nil]; decide), (by simp only [List.length_cons, List.length_nil]; decide), ?_⟩⟩⟩⟩
    refine W_addKL (M := 8) kS ?_ fun k3 => ⟨_, k3, rfl, rfl⟩
    have kN : kvB 3 (.tup []) = true := rfl
    exact Kl.cons (Kl.cons tP (Kl.one k1.up.tup)).tup (Kl.cons (Kl.cons kP.up.lst (Kl.one tR)).tup (Kl.cons (Kl.cons tP (Kl.one kR.up.lst)).tup (Kl.cons (Kl.one tP).tup (Kl.cons (Kl.cons tP (Kl.cons tR (Kl.one kN))).tup (Kl.cons (Kl.cons tP (Kl.one tR)).lst (Kl.cons rfl (Kl.one rfl)))))))
  clear kS sm
  rintro ρ S' ⟨sm, kS, rfl, rfl⟩
  refine WS_cut (fun ρ S' => ∃ sm, 0 < List.length sm ∧ Kl 4 18 sm ∧ S' = [bxO x] ∧ ρ = [some (.loc 0), some (webV zs ws), some (ptV (P, R)), some (.tup (nL P)), some (.tup (nL R)), some (.lst sm)]) ?_ ?_
  · simp only [WS_nm, W_lst, W_acons, W_anil, W_tup, W_sl, W_var, W_oSome, W_oNone, W_c, W_revT, W_bin, W_neg, W_prim, W_tupR, W_rgA1, List.getElem?_cons_succ, List.getElem?_cons_zero, Option.some.injEq, exists_eq_left', PV.int.injEq, W_slTup, PV.tup.injEq, W_ixTup, atI_zero, atI_one, W_lenTup, List.length_map]
    have er1 : rng 0 ((zs.length : Int) - 0).toNat = nL (List.range zs.length) := by rw [show ((zs.length : Int) - 0).toNat = zs.length by omega, rng_zero]
    have er2 : rng 0 ((ws.length : Int) - 0).toNat = nL (List.range ws.length) := by rw [show ((ws.length : Int) - 0).toNat = ws.length by omega, rng_zero]
    rw [er1, er2]
    refine ⟨(by simp only [List.length_cons, List.length_nil]; decide), (by simp only [List.length_cons, List.length_nil]; decide), (by simp only [List.length_cons, List.length_nil]; decide), (by simp only [List.length_cons, List.length_nil]; decide), (by simp only [List.length_cons, List.length_nil]; decide), (by unfold inW; rw [decide_eq_true_eq]; omega), (by rw [List.length_map, List.length_range]; unfold lim; omega), (by simp only [List.length_cons, List.length_nil]; decide), (by unfold inW; rw [decide_eq_true_eq]; omega), (by rw [List.length_map, List.length_range]; unfold lim; omega), (by simp only [List.length_cons, List.length_nil]; decide), (by simp only [List.length_cons, List.length_nil]; decide), (by simp only [List.length_cons, List.length_nil]; decide), (by simp only [List.length_cons, List.length_nil]; decide), ?_⟩
    refine W_addKL (M := 5) kS ?_ fun k3 => ⟨_, by simp, k3, rfl, rfl⟩
    have kN : kvB 3 (.tup []) = true := rfl
    exact Kl.cons (Kl.cons kN (Kl.one kN)).tup (Kl.cons (Kl.cons tP (Kl.one kN)).tup (Kl.cons (Kl.cons kZ.up.tup (Kl.one tR)).tup (Kl.cons (Kl.cons tP (Kl.one kM.up.tup)).tup (Kl.one (Kl.cons (n := 3) rfl (Kl.one tR)).tup))))
  rintro ρ S' ⟨sm, hsm, kS, rfl, rfl⟩
  rw [WS_seq, WS_ret, W_call, W_acons, W_var]
  refine ⟨_, rfl, ?_⟩
  rw [W_acons, W_var]
  refine ⟨_, rfl, ?_⟩
  rw [W_anil]
  refine ⟨rfl, W_pickV kS.noLs B rfl hsm (by have := kS.1; omega) fun p x3 hm B3 => ?_⟩
  exact ⟨kS.2 p hm, x3, [], rfl, B3⟩
end
end Lw
namespace Lw
open PySem PySem.Spec PyProof.Rows L2 Mir
def cand (w : Ec.Wb) (m : Nat) : List Ec.Pt := (rl m).map fun R => (Ec.starts w R, R)
def sb (ws : List Rn) (lot : List Nat) (x : Ec.Pt) : Bool := x.2.all fun k => (lotK ws k).all fun b => decide (b ∈ lot)
def lies (x y : Ec.Pt) : Bool := (x.1.all fun p => decide (p ∈ y.1)) && (x.2.all fun k => decide (k ∈ y.2))
def beats (x y : Ec.Pt) : Bool := !decide (y = x) && lies x y
def mx (some_ : List Ec.Pt) (x : Ec.Pt) : Bool := (some_.filter (beats x)).isEmpty
theorem nodup_cand {w : Ec.Wb} {m : Nat} : (cand w m).Nodup := by
  unfold cand
  exact List.pairwise_map.mpr ((nodup_rl m).imp fun hne e => hne (congrArg Prod.snd e))
theorem perm_of {α : Type} : ∀ {a b : List α}, a.Nodup → b.Nodup → (∀ x, x ∈ a ↔ x ∈ b) → a.Perm b
  | [], b, _, _, h => by
    cases b with
    | nil => exact .refl _
    | cons y t => exact absurd ((h y).mpr List.mem_cons_self) (by simp)
  | x :: a, b, ha, hb, h => by
    obtain ⟨h1, h2⟩ := List.nodup_cons.mp ha
    obtain ⟨s, t, rfl⟩ := List.append_of_mem ((h x).mp List.mem_cons_self)
    have hp : (s ++ x :: t).Perm (x :: (s ++ t)) := List.perm_middle
    have hb' := (hp.nodup_iff.mp hb)
    obtain ⟨h3, h4⟩ := List.nodup_cons.mp hb'
    refine ((perm_of h2 h4 fun y => ?_).cons x).trans hp.symm
    constructor
    · intro hy
      have := (hp.mem_iff.mp ((h y).mp (List.mem_cons_of_mem _ hy)))
      rcases List.mem_cons.mp this with e | e
      · subst e; exact absurd hy h1
      · exact e
    · intro hy
      have := (h y).mpr (hp.mem_iff.mpr (List.mem_cons_of_mem _ hy))
      rcases List.mem_cons.mp this with e | e
      · subst e; exact absurd hy h3
      · exact e
section
variable {zs : List Nat} {ws : List Rn} {pb : Ec.Pt → Bool} {lot : List Nat}
theorem mem_some (ok : WOk zs ws) (hpb : ∀ x, pb x = true ↔ Ec.IsPart (wb zs ws) x.1 x.2) {x : Ec.Pt} : x ∈ ((cand (wb zs ws) ws.length).filter pb).filter (sb ws lot) ↔ Ec.Cand (wb zs ws) (lotR ws lot) x := by
  rw [List.mem_filter, List.mem_filter, hpb]
  unfold cand
  rw [List.mem_map]
  constructor
  · rintro ⟨⟨⟨R, hR, rfl⟩, hp⟩, hs⟩
    have hA := (mem_rl _ R).mp hR
    refine ⟨hA, rfl, hp, fun k hk => ?_⟩
    exact List.mem_filter.mpr ⟨List.mem_range.mpr (hA.2 k hk), (List.all_eq_true.mp hs k hk)⟩
  · rintro ⟨hA, h1, hp, h2⟩
    refine ⟨⟨⟨x.2, (mem_rl _ x.2).mpr hA, ?_⟩, hp⟩, List.all_eq_true.mpr fun k hk => (List.mem_filter.mp (h2 k hk)).2⟩
    rw [← h1]
theorem lies_iff {x y : Ec.Pt} : lies x y = true ↔ Ec.Lies x y := by
  unfold lies Ec.Lies
  simp
theorem due_perm (ok : WOk zs ws) (hpb : ∀ x, pb x = true ↔ Ec.IsPart (wb zs ws) x.1 x.2) {found : List Ec.Pt} (st : Ec.St (wb zs ws) (lotR ws lot) [] found) : found.Perm ((((cand (wb zs ws) ws.length).filter pb).filter (sb ws lot)).filter (mx (((cand (wb zs ws) ws.length).filter pb).filter (sb ws lot)))) := by
  refine perm_of ?_ (nodup_cand.sublist (List.filter_sublist.trans (List.filter_sublist.trans List.filter_sublist))) fun x => ?_
  · have d := st.dj
    rw [List.nil_append] at d
    refine d.imp_of_mem fun {a b} ha hb h e => ?_
    subst e
    obtain ⟨p, hp⟩ := List.exists_mem_of_ne_nil _ (st.good a ha).ne
    exact h p hp hp
  · rw [List.mem_filter, mem_some ok hpb, Ec.St.done ok.ok lotR_asc st]
    refine and_congr_right fun hc => ?_
    unfold mx
    rw [List.isEmpty_iff, List.filter_eq_nil_iff]
    constructor
    · intro h y hy hb
      unfold beats at hb
      rw [Bool.and_eq_true, lies_iff] at hb
      have := h y ((mem_some ok hpb).mp hy) hb.2
      simp [this] at hb
    · intro h y hy hl
      have := h y ((mem_some ok hpb).mpr hy)
      unfold beats at this
      rw [lies_iff.mpr hl] at this
      simpa using this
theorem pb_ex (w : Ec.Wb) : ∃ pb : Ec.Pt → Bool, ∀ x, pb x = true ↔ Ec.IsPart w x.1 x.2 := ⟨fun x => @decide (Ec.IsPart w x.1 x.2) (Classical.propDecidable _), fun x => @decide_eq_true_iff _ (Classical.propDecidable _)⟩
theorem data_pts {n : Nat} : ∀ qs : List PV, (∀ p ∈ qs, ∃ x : Ec.Pt, p = ptV x) → dataB (n + 4) (.tup qs) = true := fun qs h => by
  show qs.all (dataB (n + 3)) = true
  rw [List.all_eq_true]
  intro p hp
  obtain ⟨x, rfl⟩ := h p hp
  simp [dataB]
theorem shr_pts {n : Nat} {qs : List PV} (hl : qs.length ≤ 1000) (h : ∀ p ∈ qs, ∃ x : Ec.Pt, p = ptV x ∧ x.1.length ≤ 1000 ∧ x.2.length ≤ 1000) : shrB (n + 4) (.tup qs) = true := by
  refine kv_shr _ _ (kvB_mkT hl fun p hp => ?_)
  obtain ⟨x, rfl, h1, h2⟩ := h p hp
  refine kvB_mkT (by simp) fun p hp => ?_
  simp only [List.mem_cons, List.not_mem_nil, or_false] at hp
  rcases hp with rfl | rfl
  · exact kvB_mkT (by simpa using h1) kv_n
  · exact kvB_mkT (by simpa using h2) kv_n
def Hb (c : Nat) (S : Sto) : Prop := ∃ x, S[c]? = some (bxO x) ∧ Bx x
theorem Hb.set {c : Nat} {S : Sto} (h : Hb c S) {x : Int × Int} (B : Bx x) : Hb c (S.set c (bxO x)) := by
  obtain ⟨y, e, _⟩ := h
  exact ⟨x, List.getElem?_set_self (List.getElem?_eq_some_iff.mp e).1, B⟩
end
section
variable {ρ : En} {S : Sto} {E : XP} {Q : PV → Sto → Prop} {X : XS} {N : En → Sto → Prop} {T : PV → Sto → Prop} {zs : List Nat} {ws : List Rn}
theorem W_takeH {c : Nat} {m : Int} (h : Hb c S) (hm : 0 < m) (hm2 : m < 2 ^ 64) (q : ∀ i S', 0 ≤ i → i < m → Hb c S' → Q (.int i) S') : W (callM false m__law_take [.loc c, .int m] S) E Q := by
  obtain ⟨x, e, B⟩ := h
  exact W_take B e hm (log2_small hm hm2) fun i x' g1 g2 B' => q i _ g1 g2 (Hb.set ⟨x, e, B⟩ B')
theorem W_pickH {c : Nat} {ps : List PV} (h : Hb c S) (hn : noLs ps = true) (h1 : 0 < ps.length) (h2 : ps.length < 2 ^ 20) (q : ∀ p S', p ∈ ps → Hb c S' → Q p S') : W (callM false m__law_pick [.loc c, .lst ps] S) E Q := by
  obtain ⟨x, e, B⟩ := h
  exact W_pickV hn B e h1 h2 fun p x' hm B' => q p _ hm (Hb.set ⟨x, e, B⟩ B')
theorem W_webH {c : Nat} {places bells : Nat} (h : Hb c S) (hp : 0 < places) (hp2 : places ≤ 4) (hb : 0 < bells) (hb2 : bells ≤ 3) (q : ∀ (zs : List Nat) (ws : List Rn) S', WOk zs ws → Hb c S' → Q (webV zs ws) S') : W (callM false m__law_web [.loc c, .int places, .int (7 - (places : Int)), .int bells] S) E Q := by
  obtain ⟨x, e, B⟩ := h
  refine W_one (xs := [.loc 0, .int places, .int (7 - (places : Int)), .int bells]) (by simp [splitA, noL, noLs]) e rfl (W_mono (web_W B hp hp2 hb hb2) ?_)
  rintro v S' ⟨⟨zs, ws, rfl, ok⟩, x', rest, rfl, B'⟩
  exact ⟨ok.noL, _, rest, rfl, rfl, q zs ws _ ok (Hb.set ⟨x, e, B⟩ B')⟩
theorem W_bentH {c : Nat} {P R : List Nat} (h : Hb c S) (ok : WOk zs ws) (hP : P.length ≤ 10) (hR : R.length ≤ 10) (q : ∀ v S', kvB 4 v = true → Hb c S' → Q v S') : W (callM false m__law_bent [.loc c, webV zs ws, ptV (P, R)] S) E Q := by
  obtain ⟨x, e, B⟩ := h
  refine W_one (xs := [.loc 0, webV zs ws, ptV (P, R)]) (by simp [splitA, noL, noLs, noLs_n, noLs_rn ok]) e rfl (W_mono (bent_W B ok hP hR) ?_)
  rintro v S' ⟨hk, x', rest, rfl, B'⟩
  exact ⟨kvB_noL 4 v hk, _, rest, rfl, rfl, q v _ hk (Hb.set ⟨x, e, B⟩ B')⟩
end
end Lw
namespace Lw
open PySem PySem.Spec PyProof.Rows L2 Mir
section
variable {zs : List Nat} {ws : List Rn} {pb : Ec.Pt → Bool}
theorem cand_ok (ok : WOk zs ws) {x : Ec.Pt} (h : x ∈ cand (wb zs ws) ws.length) : (∀ p ∈ x.1, p < zs.length) ∧ (∀ k ∈ x.2, k < ws.length) ∧ x.1.length ≤ 10 ∧ x.2.length ≤ 10 := by
  unfold cand at h
  obtain ⟨R, hR, rfl⟩ := List.mem_map.mp h
  have hA := (mem_rl _ R).mp hR
  have h1 : ∀ p ∈ Ec.starts (wb zs ws) R, p < zs.length := fun p hp => List.mem_range.mp (List.mem_filter.mp hp).1
  have h2 := List.length_filter_le (fun p => R.any fun k => decide ((wb zs ws).src k = p)) (List.range zs.length)
  rw [List.length_range] at h2
  have h3 := rl_short R hR
  have := ok.n1; have := ok.m1
  exact ⟨h1, hA.2, by show (Ec.starts (wb zs ws) R).length ≤ 10; exact Nat.le_trans h2 (by omega), by show R.length ≤ 10; omega⟩
theorem cand_len (ok : WOk zs ws) : (cand (wb zs ws) ws.length).length ≤ 128 := by
  unfold cand
  rw [List.length_map, rl_len]
  have h : 2 ^ ws.length ≤ 2 ^ 7 := Nat.pow_le_pow_right (by decide) ok.m1
  omega
theorem noLs_pts {l : List Ec.Pt} : noLs (l.map ptV) = true := noLs_of fun p hp => by
  obtain ⟨x, _, rfl⟩ := List.mem_map.mp hp
  simp [noL, noLs, noLs_n]
end
section
variable {ρ : En} {S : Sto} {E : XP} {Q : PV → Sto → Prop} {X : XS} {N : En → Sto → Prop} {T : PV → Sto → Prop} {zs : List Nat} {ws : List Rn}
theorem W_nilPts {neg : Bool} {l : List Ec.Pt} (q : Q (.bl (if neg then !l.isEmpty else l.isEmpty)) S) : W (pEq neg (.lst (l.map ptV)) (.lst []) S) E Q := by
  have h : W (pEq neg (.lst (l.map ptV)) (.lst (([] : List Ec.Pt).map ptV)) S) E Q := by
    refine W_eqPts ?_
    have e : decide (l = []) = l.isEmpty := by cases l <;> simp
    rw [e]; exact q
  exact h
end
def Ev (sc : PV) (ρ : En) : Prop := ∃ (o1 o2 o3 o4 o5 o6 o7 o8 o9 o10 o11 o12 o13 o14 o15 : Option PV), ρ = [some sc, o1, o2, o3, o4, o5, o6, o7, o8, o9, o10, o11, o12, o13, o14, o15]
theorem law_ok : LawOk m_law := by
  intro ns hlen hbits
  have hns := noLs_ints ns
  have W0 : W (m_law [.fls (ns.map .int)] []) nE fun v _ => v = .bl true := by
    simp only [m_law, runM, b_law, W_fin]
    refine WS_cut (fun ρ S => True) ?_ (fun ρ S _ => by simp)
    simp only [WS_for, W_range1, W_acons, W_anil, W_c, W_rg1]
    refine ⟨by unfold inW; decide, ?_⟩
    rw [rng_zero]
    refine WS_frInv (fun r ρ S => (∃ ks : List Nat, r = ks.map (fun (k : Nat) => PV.int k) ∧ ∀ k ∈ ks, k < 64) ∧ Ev (.fls (ns.map .int)) ρ) _ _ _ ⟨⟨_, rfl, fun k hk => ?_⟩, _, _, _, _, _, _, _, _, _, _, _, _, _, _, _, rfl⟩ ?_ fun _ _ _ => trivial
    · have := List.mem_range.mp hk; omega
    rintro p r ρ S ⟨⟨ks, e, hk⟩, o1, o2, o3, o4, o5, o6, o7, o8, o9, o10, o11, o12, o13, o14, o15, hρ⟩
    subst hρ
    cases ks with
    | nil => cases e
    | cons k ks =>
    cases e
    have hk0 := hk k List.mem_cons_self
    have hr : ∃ ks' : List Nat, List.map (fun (k : Nat) => PV.int k) ks = ks'.map (fun (k : Nat) => PV.int k) ∧ ∀ k ∈ ks', k < 64 := ⟨ks, rfl, fun k hk' => hk k (List.mem_cons_of_mem _ hk')⟩
    generalize List.map (fun (k : Nat) => PV.int k) ks = rr at hr
    rw [WS_gNm]
    simp only [List.set]
    refine WS_cut (fun ρ S' => Hb S.length S' ∧ ρ = [some (.fls (ns.map .int)), some (.int k), some (.loc S.length), o3, o4, o5, o6, o7, o8, o9, o10, o11, o12, o13, o14, o15]) ?_ ?_
    · simp only [WS_nm, W_call, W_acons, W_anil, W_var, List.getElem?_cons_succ, List.getElem?_cons_zero, Option.some.injEq, exists_eq_left']
      exact ⟨rfl, W_box (by omega) hns fun x B => ⟨⟨x, by simp, B⟩, rfl⟩⟩
    generalize S.length = c
    rintro ρ S' ⟨hb, hρ⟩
    subst hρ
    refine WS_cut (fun ρ S' => ∃ b n : Nat, 0 < b ∧ b ≤ 3 ∧ 0 < n ∧ n ≤ 4 ∧ Hb c S' ∧ ρ = [some (.fls (ns.map .int)), some (.int k), some (.loc c), some (.int b), some (.int n), o5, o6, o7, o8, o9, o10, o11, o12, o13, o14, o15]) ?_ ?_
    · simp only [WS_par, W_bin, W_call, W_acons, W_anil, W_var, W_c, List.getElem?_cons_succ, List.getElem?_cons_zero, Option.some.injEq, exists_eq_left']
      refine ⟨rfl, W_takeH hb (by decide) (by decide) fun i S2 i0 i1 h2 => ?_⟩
      rw [W_addI]
      refine ⟨rfl, W_takeH h2 (by decide) (by decide) fun j S3 j0 j1 h3 => ?_⟩
      rw [W_addI]
      refine ⟨_, _, rfl, (1 + i).toNat, (1 + j).toNat, by omega, by omega, by omega, by omega, h3, ?_⟩
      have e1 : (((1 + i).toNat : Nat) : Int) = 1 + i := by omega
      have e2 : (((1 + j).toNat : Nat) : Int) = 1 + j := by omega
      rw [e1, e2]; rfl
    clear hb
    rintro ρ S' ⟨b, n, hb0, hb1, hn0, hn1, hb, hρ⟩
    subst hρ
    refine WS_cut (fun ρ S' => ∃ (zs : List Nat) (ws : List Rn), WOk zs ws ∧ Hb c S' ∧ ρ = [some (.fls (ns.map .int)), some (.int k), some (.loc c), some (.int b), some (.int n), some (webV zs ws), o6, o7, o8, o9, o10, o11, o12, o13, o14, o15]) ?_ ?_
    · simp only [WS_nm, W_bin, W_call, W_acons, W_anil, W_var, W_c, W_pI, fSub_eq, List.getElem?_cons_succ, List.getElem?_cons_zero, Option.some.injEq, exists_eq_left']
      exact ⟨rfl, W_webH hb hn0 hn1 hb0 hb1 fun zs ws S3 ok h3 => ⟨zs, ws, ok, h3, rfl⟩⟩
    clear hb
    rintro ρ S' ⟨zs, ws, ok, hb, hρ⟩
    subst hρ
    have hm1 := ok.m1
    have hz1 := ok.n1
    have hcl := cand_len ok
    obtain ⟨pb, hpb⟩ := pb_ex (wb zs ws)
    refine WS_cut (fun ρ S' => Hb c S' ∧ ∃ o12, ρ = [some (.fls (ns.map .int)), some (.int k), some (.loc c), some (.int b), some (.int n), some (webV zs ws), some (.lst ((cand (wb zs ws) ws.length).map ptV)), o7, o8, o9, o10, o11, o12, o13, o14, o15]) ?_ ?_
    · rw [WS_nm]
      refine W_lc ?_
      simp only [W_iseq, W_call, W_acons, W_anil, W_var, List.getElem?_cons_succ, List.getElem?_cons_zero, Option.some.injEq, exists_eq_left']
      refine ⟨rfl, W_roadLots ok ⟨_, rfl, ?_⟩⟩
      refine W_lcMap _ (fun _ => true) (fun R => ptV (Ec.starts (wb zs ws) R, R)) _ (fun R hR => ⟨_, rfl, ⟨rfl, rfl⟩, fun _ => ?_⟩) ?_
      · have hA := (mem_rl _ R).mp hR
        rw [W_tup, W_acons, W_call, W_acons, W_var]
        refine ⟨_, rfl, ?_⟩
        rw [W_acons, W_var]
        refine ⟨_, rfl, ?_⟩
        rw [W_anil]
        refine ⟨rfl, W_starts ok hA.2 ?_⟩
        rw [W_acons, W_var]
        refine ⟨_, rfl, ?_⟩
        rw [W_anil]
        exact ⟨show 2 ≤ lim by decide, rfl, rfl⟩
      · unfold cand at hcl
        rw [List.length_map] at hcl
        refine ⟨by rw [List.length_map]; unfold lim; omega, ?_⟩
        simp only [Bool.false_eq_true, if_false]
        rw [filT]
        refine ⟨hb, o12, ?_⟩
        unfold cand
        rw [List.map_map]; rfl
    clear hb
    clear o12
    rintro ρ S' ⟨hb, o12, hρ⟩
    subst hρ
    refine WS_cut (fun ρ S' => Hb c S' ∧ ∃ o11, ρ = [some (.fls (ns.map .int)), some (.int k), some (.loc c), some (.int b), some (.int n), some (webV zs ws), some (.lst (((cand (wb zs ws) ws.length).filter pb).map ptV)), o7, o8, o9, o10, o11, o12, o13, o14, o15]) ?_ ?_
    · rw [WS_nm]
      refine W_lc ?_
      simp only [W_iseq, W_var, List.getElem?_cons_succ, List.getElem?_cons_zero, Option.some.injEq, exists_eq_left']
      refine ⟨_, rfl, ?_⟩
      refine W_lcMap ptV pb ptV _ (fun x hx => ⟨_, rfl, ?_, fun _ => ?_⟩) ?_
      · obtain ⟨c1, c2, c3, c4⟩ := cand_ok ok hx
        rw [W_ttru, W_call, W_acons, W_var]
        refine ⟨_, rfl, ?_⟩
        rw [W_acons, W_bin, W_var]
        refine ⟨_, rfl, ?_⟩
        rw [W_c, W_ixTup]
        refine ⟨_, atI_zero, ?_⟩
        rw [W_acons, W_bin, W_var]
        refine ⟨_, rfl, ?_⟩
        rw [W_c, W_ixTup]
        refine ⟨_, atI_one, ?_⟩
        rw [W_anil]
        refine ⟨rfl, W_isPart ok c1 c2 (by omega) (by omega) fun bb hbb => ⟨_, rfl, ?_, rfl⟩⟩
        rw [Bool.eq_iff_iff, hbb, hpb]
      · rw [W_var]; exact ⟨_, rfl, rfl, rfl⟩
      · refine ⟨by rw [List.length_map]; unfold lim; omega, ?_⟩
        simp only [Bool.false_eq_true, if_false]
        exact ⟨hb, o11, rfl⟩
    clear hb
    clear o11
    rintro ρ S' ⟨hb, o11, hρ⟩
    subst hρ
    have hpl := List.length_filter_le pb (cand (wb zs ws) ws.length)
    have hpc : ∀ x ∈ (cand (wb zs ws) ws.length).filter pb, (∀ p ∈ x.1, p < zs.length) ∧ (∀ k ∈ x.2, k < ws.length) ∧ x.1.length ≤ 10 ∧ x.2.length ≤ 10 := fun x hx => cand_ok ok (List.mem_filter.mp hx).1
    refine WS_cut (fun ρ S' => Hb c S' ∧ ∃ o7 o9 o10 o11 o14 o15, ρ = [some (.fls (ns.map .int)), some (.int k), some (.loc c), some (.int b), some (.int n), some (webV zs ws), some (.lst (((cand (wb zs ws) ws.length).filter pb).map ptV)), o7, o8, o9, o10, o11, o12, o13, o14, o15]) ?_ ?_
    · simp only [WS_for, W_iseq, W_bin, W_lst, W_tup, W_call, W_acons, W_anil, W_var, List.getElem?_cons_succ, List.getElem?_cons_zero, Option.some.injEq, exists_eq_left']
      refine ⟨Nat.zero_le _, show 1 ≤ lim by decide, rfl, W_lawLots hb1 fun ls hls => ?_⟩
      refine W_addL (by rw [List.length_map]; simp only [List.length_cons, List.length_nil]; unfold lim; omega) ⟨_, rfl, ?_⟩
      have hls2 : [PV.tup []] ++ ls.map grpP = ([] :: ls).map grpP := rfl
      rw [hls2]
      generalize ([] :: ls : List (List Nat)) = us
      refine WS_frInv (fun r ρ S' => (∃ us : List (List Nat), r = us.map grpP) ∧ Hb c S' ∧ ∃ o7 o9 o10 o11 o14 o15, ρ = [some (.fls (ns.map .int)), some (.int k), some (.loc c), some (.int b), some (.int n), some (webV zs ws), some (.lst (((cand (wb zs ws) ws.length).filter pb).map ptV)), o7, o8, o9, o10, o11, o12, o13, o14, o15]) _ _ _ ⟨⟨us, rfl⟩, hb, o7, o9, o10, o11, o14, o15, rfl⟩ ?_ fun ρ S h => h.2
      clear hb us ls hls hls2
      rintro y r ρ S' ⟨⟨us, e⟩, hb, o7, o9, o10, o11, o14, o15, rfl⟩
      cases us with
      | nil => cases e
      | cons lot us =>
      cases e
      rw [WS_gNm]
      -- some
      refine WS_cut (fun ρ S' => Hb c S' ∧ ∃ o11 o14, ρ = [some (.fls (ns.map .int)), some (.int k), some (.loc c), some (.int b), some (.int n), some (webV zs ws), some (.lst (((cand (wb zs ws) ws.length).filter pb).map ptV)), some (grpP lot), o8, some (.lst ((((cand (wb zs ws) ws.length).filter pb).filter (sb ws lot)).map ptV)), o10, o11, o12, o13, o14, o15]) ?_ ?_
      · rw [WS_nm]
        refine W_lc ?_
        rw [W_iseq, W_var]
        refine ⟨_, rfl, _, rfl, ?_⟩
        refine W_lcMap ptV (sb ws lot) ptV _ (fun x hx => ⟨_, rfl, ?_, fun _ => ?_⟩) ?_
        · obtain ⟨c1, c2, c3, c4⟩ := hpc x hx
          rw [W_tbin]
          refine W_lc ?_
          rw [W_iseq, W_call, W_acons, W_var]
          refine ⟨_, rfl, ?_⟩
          rw [W_acons, W_bin, W_var]
          refine ⟨_, rfl, ?_⟩
          rw [W_c, W_ixTup]
          refine ⟨_, atI_one, ?_⟩
          rw [W_anil]
          refine ⟨rfl, W_rung ok c2 (by omega) fun l hl hll => ⟨_, rfl, ?_⟩⟩
          refine W_lcMap _ (fun u => !decide (u ∈ lot)) (fun (u : Nat) => PV.int u) l (fun u hu => ⟨_, rfl, ?_, fun _ => ?_⟩) ?_
          · rw [W_tbin, W_var]
            refine ⟨_, rfl, ?_⟩
            rw [W_var]
            exact ⟨_, rfl, W_inT ⟨_, rfl, rfl, rfl⟩⟩
          · rw [W_var]; exact ⟨_, rfl, rfl, rfl⟩
          · refine ⟨by rw [List.length_map]; unfold lim; omega, ?_⟩
            simp only [Bool.false_eq_true, if_false]
            rw [W_lst, W_anil]
            refine ⟨Nat.zero_le _, W_nilN ⟨_, rfl, ?_, rfl⟩⟩
            simp only [Bool.false_eq_true, if_false]
            rw [Bool.eq_iff_iff, List.isEmpty_iff, List.filter_eq_nil_iff]
            unfold sb
            simp only [List.all_eq_true, decide_eq_true_eq]
            constructor
            · intro h k hk u hu
              have := h u ((hl.2 u).mpr ⟨k, hk, hu⟩)
              simpa using this
            · intro h u hu
              obtain ⟨k, hk, hu2⟩ := (hl.2 u).mp hu
              simpa using h k hk u hu2
        · rw [W_var]; exact ⟨_, rfl, rfl, rfl⟩
        · refine ⟨by rw [List.length_map]; unfold lim; omega, ?_⟩
          simp only [Bool.false_eq_true, if_false]
          exact ⟨hb, o11, o14, rfl⟩
      clear hb
      clear o11 o14
      rintro ρ S' ⟨hb, o11, o14, rfl⟩
      have hsl := List.length_filter_le (sb ws lot) ((cand (wb zs ws) ws.length).filter pb)
      have hsc : ∀ x ∈ (((cand (wb zs ws) ws.length).filter pb).filter (sb ws lot)), (∀ p ∈ x.1, p < zs.length) ∧ (∀ k ∈ x.2, k < ws.length) ∧ x.1.length ≤ 10 ∧ x.2.length ≤ 10 := fun x hx => hpc x (List.mem_filter.mp hx).1
      -- due
      refine WS_cut (fun ρ S' => Hb c S' ∧ ∃ o11 o14 o15 qs, srtP (((((cand (wb zs ws) ws.length).filter pb).filter (sb ws lot)).filter (mx (((cand (wb zs ws) ws.length).filter pb).filter (sb ws lot)))).map ptV) = some qs ∧ ρ = [some (.fls (ns.map .int)), some (.int k), some (.loc c), some (.int b), some (.int n), some (webV zs ws), some (.lst (((cand (wb zs ws) ws.length).filter pb).map ptV)), some (grpP lot), o8, some (.lst ((((cand (wb zs ws) ws.length).filter pb).filter (sb ws lot)).map ptV)), some (.lst qs), o11, o12, o13, o14, o15]) ?_ ?_
      · rw [WS_nm, W_prim, W_acons]
        refine W_lc ?_
        rw [W_iseq, W_var]
        refine ⟨_, rfl, _, rfl, ?_⟩
        refine W_lcMap ptV (mx (((cand (wb zs ws) ws.length).filter pb).filter (sb ws lot))) ptV _ (fun x hx => ⟨_, rfl, ?_, fun _ => ?_⟩) ?_
        · obtain ⟨c1, c2, c3, c4⟩ := hsc x hx
          rw [W_tbin]
          refine W_lc ?_
          rw [W_iseq, W_var]
          refine ⟨_, rfl, _, rfl, ?_⟩
          refine W_lcMap ptV (beats x) ptV _ (fun y hy => ⟨_, rfl, ?_, fun _ => ?_⟩) ?_
          · rw [W_tand, W_tbin, W_var]
            refine ⟨_, rfl, ?_⟩
            rw [W_var]
            refine ⟨_, rfl, W_eqPt ⟨_, rfl, ?_⟩⟩
            unfold beats
            cases h1 : decide (y = x) with
            | true => exact ⟨rfl, rfl⟩
            | false =>
              simp only [Bool.not_false, if_true, Bool.true_and]
              rw [W_ttru, W_call, W_acons, W_var]
              refine ⟨_, rfl, ?_⟩
              rw [W_acons, W_var]
              refine ⟨_, rfl, ?_⟩
              rw [W_anil]
              exact ⟨rfl, W_lies (by omega) (by omega) ⟨_, rfl, rfl, rfl⟩⟩
          · rw [W_var]; exact ⟨_, rfl, rfl, rfl⟩
          · refine ⟨by rw [List.length_map]; unfold lim; omega, ?_⟩
            simp only [Bool.false_eq_true, if_false]
            rw [W_lst, W_anil]
            refine ⟨Nat.zero_le _, W_nilPts ⟨_, rfl, ?_, rfl⟩⟩
            simp only [Bool.false_eq_true, if_false]
            rfl
        · rw [W_var]; exact ⟨_, rfl, rfl, rfl⟩
        · refine ⟨by rw [List.length_map]; unfold lim; omega, ?_⟩
          simp only [Bool.false_eq_true, if_false]
          rw [W_anil]
          have hs := srt_pts ((((cand (wb zs ws) ws.length).filter pb).filter (sb ws lot)).filter (mx (((cand (wb zs ws) ws.length).filter pb).filter (sb ws lot))))
          have e : (lstL S' (.lst (((((cand (wb zs ws) ws.length).filter pb).filter (sb ws lot)).filter (mx (((cand (wb zs ws) ws.length).filter pb).filter (sb ws lot)))).map ptV))).bind srtP = some _ := hs
          simp only [pSrt, e, W_ok]
          exact ⟨hb, o11, o14, o15, _, hs, rfl⟩
      clear hb
      clear o11 o14 o15
      rintro ρ S' ⟨hb, o11, o14, o15, qs, hqs, rfl⟩
      have hqm := srt_mem hqs
      have hdl : qs.length ≤ 128 := by
        have h1 := hqm.length_eq
        rw [List.length_map] at h1
        have h2 := List.length_filter_le (mx (((cand (wb zs ws) ws.length).filter pb).filter (sb ws lot))) (((cand (wb zs ws) ws.length).filter pb).filter (sb ws lot))
        omega
      have hqx : ∀ p ∈ qs, ∃ x : Ec.Pt, p = ptV x ∧ x ∈ (((cand (wb zs ws) ws.length).filter pb).filter (sb ws lot)) := fun p hp => by
        obtain ⟨x, hx, rfl⟩ := List.mem_map.mp (hqm.mem_iff.mp hp)
        exact ⟨x, rfl, (List.mem_filter.mp hx).1⟩
      have hd : dataB 8 (.tup qs) = true := data_pts (n := 4) qs fun p hp => by
        obtain ⟨x, rfl, _⟩ := hqx p hp; exact ⟨x, rfl⟩
      have hsh : shrB 8 (.tup qs) = true := shr_pts (n := 4) (by omega) fun p hp => by
        obtain ⟨x, rfl, hx⟩ := hqx p hp
        have := hsc x hx
        exact ⟨x, rfl, by omega, by omega⟩
      refine WS_cut (fun ρ S' => Hb c S' ∧ ρ = [some (.fls (ns.map .int)), some (.int k), some (.loc c), some (.int b), some (.int n), some (webV zs ws), some (.lst (((cand (wb zs ws) ws.length).filter pb).map ptV)), some (grpP lot), o8, some (.lst ((((cand (wb zs ws) ws.length).filter pb).filter (sb ws lot)).map ptV)), some (.lst qs), o11, o12, o13, o14, o15]) ?_ ?_
      · obtain ⟨rb, hrb⟩ := rb_ex (wb zs ws)
        rw [WS_if, W_tnot, W_ttru, W_call, W_acons, W_call, W_acons, W_var]
        refine ⟨_, rfl, ?_⟩
        rw [W_acons, W_var]
        refine ⟨_, rfl, ?_⟩
        rw [W_anil]
        refine ⟨rfl, W_greatest ok hrb fun found qs' st hqs' => ?_⟩
        have hee : qs' = qs := by
          have := srt_perm (due_perm ok hpb st)
          rw [hqs', hqs] at this
          exact Option.some.inj this
        rw [hee, W_acons, W_prim, W_acons, W_var]
        refine ⟨_, rfl, ?_⟩
        rw [W_anil, W_tupLst, W_anil]
        exact ⟨rfl, W_same hd hsh ⟨true, rfl, hb, rfl⟩⟩
      clear hb
      rintro ρ S' ⟨hb, rfl⟩
      rw [WS_seq, WS_for, W_iseq, W_var]
      refine ⟨_, rfl, _, rfl, ?_⟩
      refine WS_frInv (fun r ρ S' => (∀ p ∈ r, p ∈ qs) ∧ Hb c S' ∧ ∃ o11, ρ = [some (.fls (ns.map .int)), some (.int k), some (.loc c), some (.int b), some (.int n), some (webV zs ws), some (.lst (((cand (wb zs ws) ws.length).filter pb).map ptV)), some (grpP lot), o8, some (.lst ((((cand (wb zs ws) ws.length).filter pb).filter (sb ws lot)).map ptV)), some (.lst qs), o11, o12, o13, o14, o15]) _ _ _ ⟨fun p h => h, hb, o11, rfl⟩ ?_ ?_
      · rintro y r ρ S' ⟨hy, hb, o11, rfl⟩
        obtain ⟨x, rfl, hx⟩ := hqx y (hy y List.mem_cons_self)
        obtain ⟨c1, c2, c3, c4⟩ := hsc x hx
        rw [WS_gNm, WS_seq, WS_if, W_tnot, W_ttru, W_call, W_acons, W_call, W_acons, W_var]
        refine ⟨_, rfl, ?_⟩
        rw [W_acons, W_var]
        refine ⟨_, rfl, ?_⟩
        rw [W_anil]
        refine ⟨rfl, W_rings ok c2 (by omega) fun l1 hl1 => ?_⟩
        rw [W_acons, W_call, W_acons, W_var]
        refine ⟨_, rfl, ?_⟩
        rw [W_acons, W_bin, W_var]
        refine ⟨_, rfl, ?_⟩
        rw [W_c, W_ixTup]
        refine ⟨_, atI_one, ?_⟩
        rw [W_anil]
        refine ⟨rfl, W_rung ok c2 (by omega) fun l2 hl2 hl3 => ?_⟩
        have hll : l1 = l2 := Asc_eq hl1.1 hl2.1 fun u => by rw [hl1.2, hl2.2]
        subst hll
        rw [W_anil]
        have hlz : l1.length ≤ 1000 := by omega
        refine ⟨rfl, W_same (n := 8) (by show (nL l1).all (dataB 7) = true; rw [List.all_eq_true]; intro p hp; obtain ⟨u, _, rfl⟩ := List.mem_map.mp hp; rfl) (kv_shr 8 _ (kvB_mkT (by rw [List.length_map]; exact hlz) kv_n)) ⟨true, rfl, ?_⟩⟩
        exact ⟨fun p hp => hy p (List.mem_cons_of_mem _ hp), hb, _, rfl⟩
      · rintro ρ S' ⟨_, hb, o11, rfl⟩
        exact ⟨⟨us, rfl⟩, hb, _, _, _, _, _, _, rfl⟩
    clear hb
    clear o7 o9 o10 o11 o14 o15
    rintro ρ S' ⟨hb, o7, o9, o10, o11, o14, o15, rfl⟩
    simp only [WS_seq, WS_for, W_range1, W_acons, W_anil, W_c, W_rg1]
    refine ⟨by unfold inW; decide, ?_⟩
    refine WS_frInv (fun r ρ S' => Hb c S' ∧ ∃ o8 o11 o12 o13, ρ = [some (.fls (ns.map .int)), some (.int k), some (.loc c), some (.int b), some (.int n), some (webV zs ws), some (.lst (((cand (wb zs ws) ws.length).filter pb).map ptV)), o7, o8, o9, o10, o11, o12, o13, o14, o15]) _ _ _ ⟨hb, o8, o11, o12, o13, rfl⟩ ?_ ?_
    · clear hb
      rintro y r ρ S' ⟨hb, o8, o11, o12, o13, rfl⟩
      rw [WS_gNm]
      have hrl : 0 < (rl ws.length).length ∧ (rl ws.length).length ≤ 128 := by
        rw [rl_len]
        have h : 2 ^ ws.length ≤ 2 ^ 7 := Nat.pow_le_pow_right (by decide) hm1
        have h2 : 0 < 2 ^ ws.length := Nat.pow_pos (by decide)
        omega
      refine WS_cut (fun ρ S' => Hb c S' ∧ ∃ o8 R, R ∈ rl ws.length ∧ ρ = [some (.fls (ns.map .int)), some (.int k), some (.loc c), some (.int b), some (.int n), some (webV zs ws), some (.lst (((cand (wb zs ws) ws.length).filter pb).map ptV)), o7, o8, o9, o10, o11, some (grpP R), o13, o14, o15]) ?_ ?_
      · simp only [WS_nm, W_call, W_acons, W_anil, W_var, List.set, List.getElem?_cons_succ, List.getElem?_cons_zero, Option.some.injEq, exists_eq_left']
        refine ⟨rfl, W_roadLots ok ⟨rfl, W_pickH hb (noLs_gs _) (by rw [List.length_map]; exact hrl.1) (by rw [List.length_map]; omega) fun p S3 hp h3 => ?_⟩⟩
        obtain ⟨R, hR, rfl⟩ := List.mem_map.mp hp
        exact ⟨h3, _, R, hR, rfl⟩
      clear hb
      rintro ρ S' ⟨hb, o8, R, hR, rfl⟩
      have hA := (mem_rl _ R).mp hR
      have hcand : ∀ x ∈ cand (wb zs ws) ws.length, x.1.length ≤ 10 ∧ x.2.length ≤ 10 := fun x hx => (cand_ok ok hx).2.2
      refine WS_cut (fun ρ S' => Hb c S' ∧ ∃ o8 x, x ∈ cand (wb zs ws) ws.length ∧ ρ = [some (.fls (ns.map .int)), some (.int k), some (.loc c), some (.int b), some (.int n), some (webV zs ws), some (.lst (((cand (wb zs ws) ws.length).filter pb).map ptV)), o7, o8, o9, o10, some (ptV x), some (grpP R), o13, o14, o15]) ?_ ?_
      · have other : ∀ S3, Hb c S3 → W (eTup (aCons (eCall false m__law_starts 2 (aCons (eVar 5) (aCons (eVar 12) aNil)) []) (aCons (eVar 12) aNil)) [some (.fls (ns.map .int)), some (.int k), some (.loc c), some (.int b), some (.int n), some (webV zs ws), some (.lst (((cand (wb zs ws) ws.length).filter pb).map ptV)), o7, o8, o9, o10, o11, some (grpP R), o13, o14, o15] S3) nE fun v S4 => Hb c S4 ∧ ∃ x, x ∈ cand (wb zs ws) ws.length ∧ v = ptV x := fun S3 h3 => by
          rw [W_tup, W_acons, W_call, W_acons, W_var]
          refine ⟨_, rfl, ?_⟩
          rw [W_acons, W_var]
          refine ⟨_, rfl, ?_⟩
          rw [W_anil]
          refine ⟨rfl, W_starts ok hA.2 ?_⟩
          rw [W_acons, W_var]
          refine ⟨_, rfl, ?_⟩
          rw [W_anil]
          exact ⟨show 2 ≤ lim by decide, h3, (Ec.starts (wb zs ws) R, R), List.mem_map.mpr ⟨R, hR, rfl⟩, rfl⟩
        rw [WS_nm, W_eif, W_tand, W_tbin, W_var]
        refine ⟨_, rfl, ?_⟩
        rw [W_lst, W_anil]
        refine ⟨Nat.zero_le _, W_nilPts ⟨_, rfl, ?_⟩⟩
        cases hem : ((cand (wb zs ws) ws.length).filter pb).isEmpty with
        | true =>
          simp only [Bool.not_true, if_true, Bool.false_eq_true, if_false]
          exact W_mono (other _ hb) (fun v S4 ⟨h4, x, hx, e⟩ => ⟨h4, o8, x, hx, by rw [e]; rfl⟩) fun _ _ _ h => h.elim
        | false =>
          simp only [Bool.not_false, if_true]
          rw [W_tbin, W_call, W_acons, W_var]
          refine ⟨_, rfl, ?_⟩
          rw [W_acons, W_c, W_anil]
          refine ⟨rfl, W_takeH hb (by decide) (by decide) fun i S3 i0 i1 h3 => ?_⟩
          rw [W_c, eqI]
          refine ⟨_, rfl, ?_⟩
          by_cases hi : i = 0
          · simp only [hi, decide_true, if_true, Bool.false_eq_true, if_false]
            rw [W_call, W_acons, W_var]
            refine ⟨_, rfl, ?_⟩
            rw [W_acons, W_var]
            refine ⟨_, rfl, ?_⟩
            rw [W_anil]
            refine ⟨rfl, W_pickH h3 noLs_pts (by rw [List.length_map]; exact List.length_pos_iff.mpr fun h => by rw [h] at hem; cases hem) (by rw [List.length_map]; omega) fun p S4 hp h4 => ?_⟩
            obtain ⟨x, hx, rfl⟩ := List.mem_map.mp hp
            exact ⟨h4, o8, x, (List.mem_filter.mp hx).1, rfl⟩
          · simp only [hi, decide_false, Bool.false_eq_true, if_false]
            exact W_mono (other _ h3) (fun v S4 ⟨h4, x, hx, e⟩ => ⟨h4, o8, x, hx, by rw [e]; rfl⟩) fun _ _ _ h => h.elim
      clear hb
      rintro ρ S' ⟨hb, o8, x, hx, rfl⟩
      obtain ⟨hx1, hx2⟩ := hcand x hx
      rw [WS_seq, WS_for, W_iseq, W_lst, W_acons, W_var]
      refine ⟨_, rfl, ?_⟩
      rw [W_acons, W_call, W_acons, W_var]
      refine ⟨_, rfl, ?_⟩
      rw [W_acons, W_var]
      refine ⟨_, rfl, ?_⟩
      rw [W_acons, W_var]
      refine ⟨_, rfl, ?_⟩
      rw [W_anil]
      refine ⟨rfl, W_bentH (P := x.1) (R := x.2) hb ok hx1 hx2 fun bv S3 hbv h3 => ?_⟩
      rw [W_anil]
      refine ⟨show 2 ≤ lim by decide, _, rfl, ?_⟩
      have kx : kvB 4 (ptV x) = true := by
        refine kvB_mkT (by simp) fun p hp => ?_
        simp only [List.mem_cons, List.not_mem_nil, or_false] at hp
        rcases hp with rfl | rfl
        · exact kvB_mkT (by rw [List.length_map]; omega) kv_n
        · exact kvB_mkT (by rw [List.length_map]; omega) kv_n
      refine WS_frInv (fun r ρ S' => (∀ p ∈ r, kvB 4 p = true) ∧ Hb c S' ∧ ∃ o13, ρ = [some (.fls (ns.map .int)), some (.int k), some (.loc c), some (.int b), some (.int n), some (webV zs ws), some (.lst (((cand (wb zs ws) ws.length).filter pb).map ptV)), o7, o8, o9, o10, some (ptV x), some (grpP R), o13, o14, o15]) _ _ _ ⟨fun p hp => ?_, h3, o13, rfl⟩ ?_ ?_
      · simp only [List.mem_cons, List.not_mem_nil, or_false] at hp
        rcases hp with rfl | rfl
        · exact kx
        · exact hbv
      · rintro v r ρ S' ⟨hv, hb, o13, rfl⟩
        have hv0 := hv v List.mem_cons_self
        rw [WS_gNm, WS_seq, WS_if, W_tnot, W_ttru, W_call, W_acons, W_callK, W_acons, W_var]
        refine ⟨_, rfl, ?_⟩
        rw [W_acons, W_var]
        refine ⟨_, rfl, ?_⟩
        rw [W_anil]
        refine ⟨⟨rfl, rfl⟩, W_serves (m := 1) (v := v) ok hv0 fun b1 hb1' => ?_⟩
        rw [W_acons, W_call, W_acons, W_var]
        refine ⟨_, rfl, ?_⟩
        rw [W_acons, W_var]
        refine ⟨_, rfl, ?_⟩
        rw [W_anil]
        refine ⟨rfl, W_isOne (m := 1) ok (by decide) hv0 fun b2 hb2' => ?_⟩
        have hbb : b1 = b2 := by rw [Bool.eq_iff_iff, hb1', hb2']
        subst hbb
        rw [W_anil]
        refine ⟨rfl, W_same (n := 8) (p := .bl b1) rfl rfl ⟨true, rfl, ?_⟩⟩
        exact ⟨fun p hp => hv p (List.mem_cons_of_mem _ hp), hb, _, rfl⟩
      · rintro ρ S' ⟨_, hb, o13, rfl⟩
        exact ⟨hb, _, _, _, _, rfl⟩
    · rintro ρ S' ⟨hb, o8, o11, o12, o13, rfl⟩
      exact ⟨hr, _, _, _, _, _, _, _, _, _, _, _, _, _, _, _, rfl⟩
  obtain ⟨v, S, e, h⟩ := W_get W0
  exact ⟨S, h ▸ e⟩
end Lw
namespace Lw
open PySem PySem.Spec PyProof.Rows L2 Mir
theorem all_mk (hL : LawOk m_law) {l : PySem.W.OpenLaw} {w : World} {K : PySem.W.Frag} {h : Heap} {mg : Str → Option Value} {fa : Addr} (X : K.In h) (G : h.Ns mainGlobals mg) (hfa : mg "law" = some (.ref fa))
    {a__law_box : Addr} {od__law_box an__law_box : Option Addr} {sl__law_box : Array (Option Value)} {oc__law_box kV__law_box dc__law_box pm__law_box cd__law_box ct__law_box : Value}
    {a__law_take : Addr} {od__law_take an__law_take : Option Addr} {sl__law_take : Array (Option Value)} {oc__law_take kV__law_take dc__law_take pm__law_take cd__law_take ct__law_take : Value}
    {a__law_pick : Addr} {od__law_pick an__law_pick : Option Addr} {sl__law_pick : Array (Option Value)} {oc__law_pick kV__law_pick dc__law_pick pm__law_pick cd__law_pick ct__law_pick : Value}
    {a__law_road : Addr} {od__law_road an__law_road : Option Addr} {sl__law_road : Array (Option Value)} {oc__law_road kV__law_road dc__law_road pm__law_road cd__law_road ct__law_road : Value}
    {a__law_web : Addr} {od__law_web an__law_web : Option Addr} {sl__law_web : Array (Option Value)} {oc__law_web kV__law_web dc__law_web pm__law_web cd__law_web ct__law_web : Value}
    {a__law_lots : Addr} {od__law_lots an__law_lots : Option Addr} {sl__law_lots : Array (Option Value)} {oc__law_lots kV__law_lots dc__law_lots pm__law_lots cd__law_lots ct__law_lots : Value}
    {a__law_starts : Addr} {od__law_starts an__law_starts : Option Addr} {sl__law_starts : Array (Option Value)} {oc__law_starts kV__law_starts dc__law_starts pm__law_starts cd__law_starts ct__law_starts : Value}
    {a__law_road_lots : Addr} {od__law_road_lots an__law_road_lots : Option Addr} {sl__law_road_lots : Array (Option Value)} {oc__law_road_lots kV__law_road_lots dc__law_road_lots pm__law_road_lots cd__law_road_lots ct__law_road_lots : Value}
    {a__law_outs : Addr} {od__law_outs an__law_outs : Option Addr} {sl__law_outs : Array (Option Value)} {oc__law_outs kV__law_outs dc__law_outs pm__law_outs cd__law_outs ct__law_outs : Value}
    {a__law_ends : Addr} {od__law_ends an__law_ends : Option Addr} {sl__law_ends : Array (Option Value)} {oc__law_ends kV__law_ends dc__law_ends pm__law_ends cd__law_ends ct__law_ends : Value}
    {a__law_behind : Addr} {od__law_behind an__law_behind : Option Addr} {sl__law_behind : Array (Option Value)} {oc__law_behind kV__law_behind dc__law_behind pm__law_behind cd__law_behind ct__law_behind : Value}
    {a__law_is_part : Addr} {od__law_is_part an__law_is_part : Option Addr} {sl__law_is_part : Array (Option Value)} {oc__law_is_part kV__law_is_part dc__law_is_part pm__law_is_part cd__law_is_part ct__law_is_part : Value}
    {a__law_same : Addr} {od__law_same an__law_same : Option Addr} {sl__law_same : Array (Option Value)} {oc__law_same kV__law_same dc__law_same pm__law_same cd__law_same ct__law_same : Value}
    {a__law_bent : Addr} {od__law_bent an__law_bent : Option Addr} {sl__law_bent : Array (Option Value)} {oc__law_bent kV__law_bent dc__law_bent pm__law_bent cd__law_bent ct__law_bent : Value}
    {a_roads_by_place : Addr} {od_roads_by_place an_roads_by_place : Option Addr} {sl_roads_by_place : Array (Option Value)} {oc_roads_by_place kV_roads_by_place dc_roads_by_place pm_roads_by_place cd_roads_by_place ct_roads_by_place : Value}
    {a_roads_within : Addr} {od_roads_within an_roads_within : Option Addr} {sl_roads_within : Array (Option Value)} {oc_roads_within kV_roads_within dc_roads_within pm_roads_within cd_roads_within ct_roads_within : Value}
    {a_led_from : Addr} {od_led_from an_led_from : Option Addr} {sl_led_from : Array (Option Value)} {oc_led_from kV_led_from dc_led_from pm_led_from cd_led_from ct_led_from : Value}
    {a_joined_groups : Addr} {od_joined_groups an_joined_groups : Option Addr} {sl_joined_groups : Array (Option Value)} {oc_joined_groups kV_joined_groups dc_joined_groups pm_joined_groups cd_joined_groups ct_joined_groups : Value}
    {a_can_stay : Addr} {od_can_stay an_can_stay : Option Addr} {sl_can_stay : Array (Option Value)} {oc_can_stay kV_can_stay dc_can_stay pm_can_stay cd_can_stay ct_can_stay : Value}
    {a_split_once : Addr} {od_split_once an_split_once : Option Addr} {sl_split_once : Array (Option Value)} {oc_split_once kV_split_once dc_split_once pm_split_once cd_split_once ct_split_once : Value}
    {a_is_within : Addr} {od_is_within an_is_within : Option Addr} {sl_is_within : Array (Option Value)} {oc_is_within kV_is_within dc_is_within pm_is_within cd_is_within ct_is_within : Value}
    {a_greatest_parts : Addr} {od_greatest_parts an_greatest_parts : Option Addr} {sl_greatest_parts : Array (Option Value)} {oc_greatest_parts kV_greatest_parts dc_greatest_parts pm_greatest_parts cd_greatest_parts ct_greatest_parts : Value}
    {a_joined_lots : Addr} {od_joined_lots an_joined_lots : Option Addr} {sl_joined_lots : Array (Option Value)} {oc_joined_lots kV_joined_lots dc_joined_lots pm_joined_lots cd_joined_lots ct_joined_lots : Value}
    {a_part_rings : Addr} {od_part_rings an_part_rings : Option Addr} {sl_part_rings : Array (Option Value)} {oc_part_rings kV_part_rings dc_part_rings pm_part_rings cd_part_rings ct_part_rings : Value}
    {a__law_rung : Addr} {od__law_rung an__law_rung : Option Addr} {sl__law_rung : Array (Option Value)} {oc__law_rung kV__law_rung dc__law_rung pm__law_rung cd__law_rung ct__law_rung : Value}
    {a_is_tuple : Addr} {od_is_tuple an_is_tuple : Option Addr} {sl_is_tuple : Array (Option Value)} {oc_is_tuple kV_is_tuple dc_is_tuple pm_is_tuple cd_is_tuple ct_is_tuple : Value}
    {T_is_tuple : Addr} {tc_is_tuple : Value} {td_is_tuple : Option Addr} {ts_is_tuple : Array (Option Value)} {tn_is_tuple : Nat} {its_is_tuple : List Value}
    {a_is_int : Addr} {od_is_int an_is_int : Option Addr} {sl_is_int : Array (Option Value)} {oc_is_int kV_is_int dc_is_int pm_is_int cd_is_int ct_is_int : Value}
    {a_is_number : Addr} {od_is_number an_is_number : Option Addr} {sl_is_number : Array (Option Value)} {oc_is_number kV_is_number dc_is_number pm_is_number cd_is_number ct_is_number : Value}
    {T_is_number : Addr} {tc_is_number : Value} {td_is_number : Option Addr} {ts_is_number : Array (Option Value)} {tn_is_number : Nat} {its_is_number : List Value}
    {a_is_lot : Addr} {od_is_lot an_is_lot : Option Addr} {sl_is_lot : Array (Option Value)} {oc_is_lot kV_is_lot dc_is_lot pm_is_lot cd_is_lot ct_is_lot : Value}
    {T_is_lot : Addr} {tc_is_lot : Value} {td_is_lot : Option Addr} {ts_is_lot : Array (Option Value)} {tn_is_lot : Nat} {its_is_lot : List Value}
    {a_part_serves : Addr} {od_part_serves an_part_serves : Option Addr} {sl_part_serves : Array (Option Value)} {oc_part_serves kV_part_serves dc_part_serves pm_part_serves cd_part_serves ct_part_serves : Value}
    {a__law_is_one : Addr} {od__law_is_one an__law_is_one : Option Addr} {sl__law_is_one : Array (Option Value)} {oc__law_is_one kV__law_is_one dc__law_is_one pm__law_is_one cd__law_is_one ct__law_is_one : Value}
    {a__law_lies_in : Addr} {od__law_lies_in an__law_lies_in : Option Addr} {sl__law_lies_in : Array (Option Value)} {oc__law_lies_in kV__law_lies_in dc__law_lies_in pm__law_lies_in cd__law_lies_in ct__law_lies_in : Value}
    {a_law : Addr} {od_law an_law : Option Addr} {sl_law : Array (Option Value)} {oc_law kV_law dc_law pm_law cd_law ct_law : Value}
    {V_CHANCE : Tok}
    (n__law_box : PySem.W.nsIn K mainGlobals "_law_box" = some (some (.ref a__law_box)))
    (l__law_box : K.lookup a__law_box = some ⟨oc__law_box, od__law_box, .func (PySem.W.fnOf "_law_box" "_law_box" (defArgs s__law_box) (defBody s__law_box) (defScope s__law_box) .none kV__law_box dc__law_box pm__law_box an__law_box cd__law_box ct__law_box), sl__law_box⟩)
    (c__law_box : PySem.W.codeIn K cd__law_box "_law_box" = true)
    (k__law_box : PySem.W.keepIn K (.ref a__law_box) = true)
    (n__law_take : PySem.W.nsIn K mainGlobals "_law_take" = some (some (.ref a__law_take)))
    (l__law_take : K.lookup a__law_take = some ⟨oc__law_take, od__law_take, .func (PySem.W.fnOf "_law_take" "_law_take" (defArgs s__law_take) (defBody s__law_take) (defScope s__law_take) .none kV__law_take dc__law_take pm__law_take an__law_take cd__law_take ct__law_take), sl__law_take⟩)
    (c__law_take : PySem.W.codeIn K cd__law_take "_law_take" = true)
    (k__law_take : PySem.W.keepIn K (.ref a__law_take) = true)
    (n__law_pick : PySem.W.nsIn K mainGlobals "_law_pick" = some (some (.ref a__law_pick)))
    (l__law_pick : K.lookup a__law_pick = some ⟨oc__law_pick, od__law_pick, .func (PySem.W.fnOf "_law_pick" "_law_pick" (defArgs s__law_pick) (defBody s__law_pick) (defScope s__law_pick) .none kV__law_pick dc__law_pick pm__law_pick an__law_pick cd__law_pick ct__law_pick), sl__law_pick⟩)
    (c__law_pick : PySem.W.codeIn K cd__law_pick "_law_pick" = true)
    (k__law_pick : PySem.W.keepIn K (.ref a__law_pick) = true)
    (n__law_road : PySem.W.nsIn K mainGlobals "_law_road" = some (some (.ref a__law_road)))
    (l__law_road : K.lookup a__law_road = some ⟨oc__law_road, od__law_road, .func (PySem.W.fnOf "_law_road" "_law_road" (defArgs s__law_road) (defBody s__law_road) (defScope s__law_road) .none kV__law_road dc__law_road pm__law_road an__law_road cd__law_road ct__law_road), sl__law_road⟩)
    (c__law_road : PySem.W.codeIn K cd__law_road "_law_road" = true)
    (k__law_road : PySem.W.keepIn K (.ref a__law_road) = true)
    (n__law_web : PySem.W.nsIn K mainGlobals "_law_web" = some (some (.ref a__law_web)))
    (l__law_web : K.lookup a__law_web = some ⟨oc__law_web, od__law_web, .func (PySem.W.fnOf "_law_web" "_law_web" (defArgs s__law_web) (defBody s__law_web) (defScope s__law_web) .none kV__law_web dc__law_web pm__law_web an__law_web cd__law_web ct__law_web), sl__law_web⟩)
    (c__law_web : PySem.W.codeIn K cd__law_web "_law_web" = true)
    (k__law_web : PySem.W.keepIn K (.ref a__law_web) = true)
    (n__law_lots : PySem.W.nsIn K mainGlobals "_law_lots" = some (some (.ref a__law_lots)))
    (l__law_lots : K.lookup a__law_lots = some ⟨oc__law_lots, od__law_lots, .func (PySem.W.fnOf "_law_lots" "_law_lots" (defArgs s__law_lots) (defBody s__law_lots) (defScope s__law_lots) .none kV__law_lots dc__law_lots pm__law_lots an__law_lots cd__law_lots ct__law_lots), sl__law_lots⟩)
    (c__law_lots : PySem.W.codeIn K cd__law_lots "_law_lots" = true)
    (k__law_lots : PySem.W.keepIn K (.ref a__law_lots) = true)
    (n__law_starts : PySem.W.nsIn K mainGlobals "_law_starts" = some (some (.ref a__law_starts)))
    (l__law_starts : K.lookup a__law_starts = some ⟨oc__law_starts, od__law_starts, .func (PySem.W.fnOf "_law_starts" "_law_starts" (defArgs s__law_starts) (defBody s__law_starts) (defScope s__law_starts) .none kV__law_starts dc__law_starts pm__law_starts an__law_starts cd__law_starts ct__law_starts), sl__law_starts⟩)
    (c__law_starts : PySem.W.codeIn K cd__law_starts "_law_starts" = true)
    (k__law_starts : PySem.W.keepIn K (.ref a__law_starts) = true)
    (n__law_road_lots : PySem.W.nsIn K mainGlobals "_law_road_lots" = some (some (.ref a__law_road_lots)))
    (l__law_road_lots : K.lookup a__law_road_lots = some ⟨oc__law_road_lots, od__law_road_lots, .func (PySem.W.fnOf "_law_road_lots" "_law_road_lots" (defArgs s__law_road_lots) (defBody s__law_road_lots) (defScope s__law_road_lots) .none kV__law_road_lots dc__law_road_lots pm__law_road_lots an__law_road_lots cd__law_road_lots ct__law_road_lots), sl__law_road_lots⟩)
    (c__law_road_lots : PySem.W.codeIn K cd__law_road_lots "_law_road_lots" = true)
    (k__law_road_lots : PySem.W.keepIn K (.ref a__law_road_lots) = true)
    (n__law_outs : PySem.W.nsIn K mainGlobals "_law_outs" = some (some (.ref a__law_outs)))
    (l__law_outs : K.lookup a__law_outs = some ⟨oc__law_outs, od__law_outs, .func (PySem.W.fnOf "_law_outs" "_law_outs" (defArgs s__law_outs) (defBody s__law_outs) (defScope s__law_outs) .none kV__law_outs dc__law_outs pm__law_outs an__law_outs cd__law_outs ct__law_outs), sl__law_outs⟩)
    (c__law_outs : PySem.W.codeIn K cd__law_outs "_law_outs" = true)
    (k__law_outs : PySem.W.keepIn K (.ref a__law_outs) = true)
    (n__law_ends : PySem.W.nsIn K mainGlobals "_law_ends" = some (some (.ref a__law_ends)))
    (l__law_ends : K.lookup a__law_ends = some ⟨oc__law_ends, od__law_ends, .func (PySem.W.fnOf "_law_ends" "_law_ends" (defArgs s__law_ends) (defBody s__law_ends) (defScope s__law_ends) .none kV__law_ends dc__law_ends pm__law_ends an__law_ends cd__law_ends ct__law_ends), sl__law_ends⟩)
    (c__law_ends : PySem.W.codeIn K cd__law_ends "_law_ends" = true)
    (k__law_ends : PySem.W.keepIn K (.ref a__law_ends) = true)
    (n__law_behind : PySem.W.nsIn K mainGlobals "_law_behind" = some (some (.ref a__law_behind)))
    (l__law_behind : K.lookup a__law_behind = some ⟨oc__law_behind, od__law_behind, .func (PySem.W.fnOf "_law_behind" "_law_behind" (defArgs s__law_behind) (defBody s__law_behind) (defScope s__law_behind) .none kV__law_behind dc__law_behind pm__law_behind an__law_behind cd__law_behind ct__law_behind), sl__law_behind⟩)
    (c__law_behind : PySem.W.codeIn K cd__law_behind "_law_behind" = true)
    (k__law_behind : PySem.W.keepIn K (.ref a__law_behind) = true)
    (n__law_is_part : PySem.W.nsIn K mainGlobals "_law_is_part" = some (some (.ref a__law_is_part)))
    (l__law_is_part : K.lookup a__law_is_part = some ⟨oc__law_is_part, od__law_is_part, .func (PySem.W.fnOf "_law_is_part" "_law_is_part" (defArgs s__law_is_part) (defBody s__law_is_part) (defScope s__law_is_part) .none kV__law_is_part dc__law_is_part pm__law_is_part an__law_is_part cd__law_is_part ct__law_is_part), sl__law_is_part⟩)
    (c__law_is_part : PySem.W.codeIn K cd__law_is_part "_law_is_part" = true)
    (k__law_is_part : PySem.W.keepIn K (.ref a__law_is_part) = true)
    (n__law_same : PySem.W.nsIn K mainGlobals "_law_same" = some (some (.ref a__law_same)))
    (l__law_same : K.lookup a__law_same = some ⟨oc__law_same, od__law_same, .func (PySem.W.fnOf "_law_same" "_law_same" (defArgs s__law_same) (defBody s__law_same) (defScope s__law_same) .none kV__law_same dc__law_same pm__law_same an__law_same cd__law_same ct__law_same), sl__law_same⟩)
    (c__law_same : PySem.W.codeIn K cd__law_same "_law_same" = true)
    (k__law_same : PySem.W.keepIn K (.ref a__law_same) = true)
    (n__law_bent : PySem.W.nsIn K mainGlobals "_law_bent" = some (some (.ref a__law_bent)))
    (l__law_bent : K.lookup a__law_bent = some ⟨oc__law_bent, od__law_bent, .func (PySem.W.fnOf "_law_bent" "_law_bent" (defArgs s__law_bent) (defBody s__law_bent) (defScope s__law_bent) .none kV__law_bent dc__law_bent pm__law_bent an__law_bent cd__law_bent ct__law_bent), sl__law_bent⟩)
    (c__law_bent : PySem.W.codeIn K cd__law_bent "_law_bent" = true)
    (k__law_bent : PySem.W.keepIn K (.ref a__law_bent) = true)
    (n_roads_by_place : PySem.W.nsIn K mainGlobals "roads_by_place" = some (some (.ref a_roads_by_place)))
    (l_roads_by_place : K.lookup a_roads_by_place = some ⟨oc_roads_by_place, od_roads_by_place, .func (PySem.W.fnOf "roads_by_place" "roads_by_place" (defArgs s_roads_by_place) (defBody s_roads_by_place) (defScope s_roads_by_place) .none kV_roads_by_place dc_roads_by_place pm_roads_by_place an_roads_by_place cd_roads_by_place ct_roads_by_place), sl_roads_by_place⟩)
    (c_roads_by_place : PySem.W.codeIn K cd_roads_by_place "roads_by_place" = true)
    (k_roads_by_place : PySem.W.keepIn K (.ref a_roads_by_place) = true)
    (n_roads_within : PySem.W.nsIn K mainGlobals "roads_within" = some (some (.ref a_roads_within)))
    (l_roads_within : K.lookup a_roads_within = some ⟨oc_roads_within, od_roads_within, .func (PySem.W.fnOf "roads_within" "roads_within" (defArgs s_roads_within) (defBody s_roads_within) (defScope s_roads_within) .none kV_roads_within dc_roads_within pm_roads_within an_roads_within cd_roads_within ct_roads_within), sl_roads_within⟩)
    (c_roads_within : PySem.W.codeIn K cd_roads_within "roads_within" = true)
    (k_roads_within : PySem.W.keepIn K (.ref a_roads_within) = true)
    (n_led_from : PySem.W.nsIn K mainGlobals "led_from" = some (some (.ref a_led_from)))
    (l_led_from : K.lookup a_led_from = some ⟨oc_led_from, od_led_from, .func (PySem.W.fnOf "led_from" "led_from" (defArgs s_led_from) (defBody s_led_from) (defScope s_led_from) .none kV_led_from dc_led_from pm_led_from an_led_from cd_led_from ct_led_from), sl_led_from⟩)
    (c_led_from : PySem.W.codeIn K cd_led_from "led_from" = true)
    (k_led_from : PySem.W.keepIn K (.ref a_led_from) = true)
    (n_joined_groups : PySem.W.nsIn K mainGlobals "joined_groups" = some (some (.ref a_joined_groups)))
    (l_joined_groups : K.lookup a_joined_groups = some ⟨oc_joined_groups, od_joined_groups, .func (PySem.W.fnOf "joined_groups" "joined_groups" (defArgs s_joined_groups) (defBody s_joined_groups) (defScope s_joined_groups) .none kV_joined_groups dc_joined_groups pm_joined_groups an_joined_groups cd_joined_groups ct_joined_groups), sl_joined_groups⟩)
    (c_joined_groups : PySem.W.codeIn K cd_joined_groups "joined_groups" = true)
    (k_joined_groups : PySem.W.keepIn K (.ref a_joined_groups) = true)
    (n_can_stay : PySem.W.nsIn K mainGlobals "can_stay" = some (some (.ref a_can_stay)))
    (l_can_stay : K.lookup a_can_stay = some ⟨oc_can_stay, od_can_stay, .func (PySem.W.fnOf "can_stay" "can_stay" (defArgs s_can_stay) (defBody s_can_stay) (defScope s_can_stay) .none kV_can_stay dc_can_stay pm_can_stay an_can_stay cd_can_stay ct_can_stay), sl_can_stay⟩)
    (c_can_stay : PySem.W.codeIn K cd_can_stay "can_stay" = true)
    (k_can_stay : PySem.W.keepIn K (.ref a_can_stay) = true)
    (n_split_once : PySem.W.nsIn K mainGlobals "split_once" = some (some (.ref a_split_once)))
    (l_split_once : K.lookup a_split_once = some ⟨oc_split_once, od_split_once, .func (PySem.W.fnOf "split_once" "split_once" (defArgs s_split_once) (defBody s_split_once) (defScope s_split_once) .none kV_split_once dc_split_once pm_split_once an_split_once cd_split_once ct_split_once), sl_split_once⟩)
    (c_split_once : PySem.W.codeIn K cd_split_once "split_once" = true)
    (k_split_once : PySem.W.keepIn K (.ref a_split_once) = true)
    (n_is_within : PySem.W.nsIn K mainGlobals "is_within" = some (some (.ref a_is_within)))
    (l_is_within : K.lookup a_is_within = some ⟨oc_is_within, od_is_within, .func (PySem.W.fnOf "is_within" "is_within" (defArgs s_is_within) (defBody s_is_within) (defScope s_is_within) .none kV_is_within dc_is_within pm_is_within an_is_within cd_is_within ct_is_within), sl_is_within⟩)
    (c_is_within : PySem.W.codeIn K cd_is_within "is_within" = true)
    (k_is_within : PySem.W.keepIn K (.ref a_is_within) = true)
    (n_greatest_parts : PySem.W.nsIn K mainGlobals "greatest_parts" = some (some (.ref a_greatest_parts)))
    (l_greatest_parts : K.lookup a_greatest_parts = some ⟨oc_greatest_parts, od_greatest_parts, .func (PySem.W.fnOf "greatest_parts" "greatest_parts" (defArgs s_greatest_parts) (defBody s_greatest_parts) (defScope s_greatest_parts) .none kV_greatest_parts dc_greatest_parts pm_greatest_parts an_greatest_parts cd_greatest_parts ct_greatest_parts), sl_greatest_parts⟩)
    (c_greatest_parts : PySem.W.codeIn K cd_greatest_parts "greatest_parts" = true)
    (k_greatest_parts : PySem.W.keepIn K (.ref a_greatest_parts) = true)
    (n_joined_lots : PySem.W.nsIn K mainGlobals "joined_lots" = some (some (.ref a_joined_lots)))
    (l_joined_lots : K.lookup a_joined_lots = some ⟨oc_joined_lots, od_joined_lots, .func (PySem.W.fnOf "joined_lots" "joined_lots" (defArgs s_joined_lots) (defBody s_joined_lots) (defScope s_joined_lots) .none kV_joined_lots dc_joined_lots pm_joined_lots an_joined_lots cd_joined_lots ct_joined_lots), sl_joined_lots⟩)
    (c_joined_lots : PySem.W.codeIn K cd_joined_lots "joined_lots" = true)
    (k_joined_lots : PySem.W.keepIn K (.ref a_joined_lots) = true)
    (n_part_rings : PySem.W.nsIn K mainGlobals "part_rings" = some (some (.ref a_part_rings)))
    (l_part_rings : K.lookup a_part_rings = some ⟨oc_part_rings, od_part_rings, .func (PySem.W.fnOf "part_rings" "part_rings" (defArgs s_part_rings) (defBody s_part_rings) (defScope s_part_rings) .none kV_part_rings dc_part_rings pm_part_rings an_part_rings cd_part_rings ct_part_rings), sl_part_rings⟩)
    (c_part_rings : PySem.W.codeIn K cd_part_rings "part_rings" = true)
    (k_part_rings : PySem.W.keepIn K (.ref a_part_rings) = true)
    (n__law_rung : PySem.W.nsIn K mainGlobals "_law_rung" = some (some (.ref a__law_rung)))
    (l__law_rung : K.lookup a__law_rung = some ⟨oc__law_rung, od__law_rung, .func (PySem.W.fnOf "_law_rung" "_law_rung" (defArgs s__law_rung) (defBody s__law_rung) (defScope s__law_rung) .none kV__law_rung dc__law_rung pm__law_rung an__law_rung cd__law_rung ct__law_rung), sl__law_rung⟩)
    (c__law_rung : PySem.W.codeIn K cd__law_rung "_law_rung" = true)
    (k__law_rung : PySem.W.keepIn K (.ref a__law_rung) = true)
    (n_is_tuple : PySem.W.nsIn K mainGlobals "is_tuple" = some (some (.ref a_is_tuple)))
    (l_is_tuple : K.lookup a_is_tuple = some ⟨oc_is_tuple, od_is_tuple, .func (PySem.W.fnOf "is_tuple" "is_tuple" (defArgs s_is_tuple) (defBody s_is_tuple) (defScope s_is_tuple) (.ref T_is_tuple) kV_is_tuple dc_is_tuple pm_is_tuple an_is_tuple cd_is_tuple ct_is_tuple), sl_is_tuple⟩)
    (lT_is_tuple : K.lookup T_is_tuple = some ⟨tc_is_tuple, td_is_tuple, .seq its_is_tuple.toArray tn_is_tuple, ts_is_tuple⟩) (vT_is_tuple : Vals [.non] its_is_tuple)
    (c_is_tuple : PySem.W.codeIn K cd_is_tuple "is_tuple" = true)
    (k_is_tuple : PySem.W.keepIn K (.ref a_is_tuple) = true)
    (n_is_int : PySem.W.nsIn K mainGlobals "is_int" = some (some (.ref a_is_int)))
    (l_is_int : K.lookup a_is_int = some ⟨oc_is_int, od_is_int, .func (PySem.W.fnOf "is_int" "is_int" (defArgs s_is_int) (defBody s_is_int) (defScope s_is_int) .none kV_is_int dc_is_int pm_is_int an_is_int cd_is_int ct_is_int), sl_is_int⟩)
    (c_is_int : PySem.W.codeIn K cd_is_int "is_int" = true)
    (k_is_int : PySem.W.keepIn K (.ref a_is_int) = true)
    (n_is_number : PySem.W.nsIn K mainGlobals "is_number" = some (some (.ref a_is_number)))
    (l_is_number : K.lookup a_is_number = some ⟨oc_is_number, od_is_number, .func (PySem.W.fnOf "is_number" "is_number" (defArgs s_is_number) (defBody s_is_number) (defScope s_is_number) (.ref T_is_number) kV_is_number dc_is_number pm_is_number an_is_number cd_is_number ct_is_number), sl_is_number⟩)
    (lT_is_number : K.lookup T_is_number = some ⟨tc_is_number, td_is_number, .seq its_is_number.toArray tn_is_number, ts_is_number⟩) (vT_is_number : Vals [.int 0, .non] its_is_number)
    (c_is_number : PySem.W.codeIn K cd_is_number "is_number" = true)
    (k_is_number : PySem.W.keepIn K (.ref a_is_number) = true)
    (n_is_lot : PySem.W.nsIn K mainGlobals "is_lot" = some (some (.ref a_is_lot)))
    (l_is_lot : K.lookup a_is_lot = some ⟨oc_is_lot, od_is_lot, .func (PySem.W.fnOf "is_lot" "is_lot" (defArgs s_is_lot) (defBody s_is_lot) (defScope s_is_lot) (.ref T_is_lot) kV_is_lot dc_is_lot pm_is_lot an_is_lot cd_is_lot ct_is_lot), sl_is_lot⟩)
    (lT_is_lot : K.lookup T_is_lot = some ⟨tc_is_lot, td_is_lot, .seq its_is_lot.toArray tn_is_lot, ts_is_lot⟩) (vT_is_lot : Vals [.non, .int 0] its_is_lot)
    (c_is_lot : PySem.W.codeIn K cd_is_lot "is_lot" = true)
    (k_is_lot : PySem.W.keepIn K (.ref a_is_lot) = true)
    (n_part_serves : PySem.W.nsIn K mainGlobals "part_serves" = some (some (.ref a_part_serves)))
    (l_part_serves : K.lookup a_part_serves = some ⟨oc_part_serves, od_part_serves, .func (PySem.W.fnOf "part_serves" "part_serves" (defArgs s_part_serves) (defBody s_part_serves) (defScope s_part_serves) .none kV_part_serves dc_part_serves pm_part_serves an_part_serves cd_part_serves ct_part_serves), sl_part_serves⟩)
    (c_part_serves : PySem.W.codeIn K cd_part_serves "part_serves" = true)
    (k_part_serves : PySem.W.keepIn K (.ref a_part_serves) = true)
    (n__law_is_one : PySem.W.nsIn K mainGlobals "_law_is_one" = some (some (.ref a__law_is_one)))
    (l__law_is_one : K.lookup a__law_is_one = some ⟨oc__law_is_one, od__law_is_one, .func (PySem.W.fnOf "_law_is_one" "_law_is_one" (defArgs s__law_is_one) (defBody s__law_is_one) (defScope s__law_is_one) .none kV__law_is_one dc__law_is_one pm__law_is_one an__law_is_one cd__law_is_one ct__law_is_one), sl__law_is_one⟩)
    (c__law_is_one : PySem.W.codeIn K cd__law_is_one "_law_is_one" = true)
    (k__law_is_one : PySem.W.keepIn K (.ref a__law_is_one) = true)
    (n__law_lies_in : PySem.W.nsIn K mainGlobals "_law_lies_in" = some (some (.ref a__law_lies_in)))
    (l__law_lies_in : K.lookup a__law_lies_in = some ⟨oc__law_lies_in, od__law_lies_in, .func (PySem.W.fnOf "_law_lies_in" "_law_lies_in" (defArgs s__law_lies_in) (defBody s__law_lies_in) (defScope s__law_lies_in) .none kV__law_lies_in dc__law_lies_in pm__law_lies_in an__law_lies_in cd__law_lies_in ct__law_lies_in), sl__law_lies_in⟩)
    (c__law_lies_in : PySem.W.codeIn K cd__law_lies_in "_law_lies_in" = true)
    (k__law_lies_in : PySem.W.keepIn K (.ref a__law_lies_in) = true)
    (n_law : PySem.W.nsIn K mainGlobals "law" = some (some (.ref a_law)))
    (l_law : K.lookup a_law = some ⟨oc_law, od_law, .func (PySem.W.fnOf "law" "law" (defArgs s_law) (defBody s_law) (defScope s_law) .none kV_law dc_law pm_law an_law cd_law ct_law), sl_law⟩)
    (c_law : PySem.W.codeIn K cd_law "law" = true)
    (k_law : PySem.W.keepIn K (.ref a_law) = true)
    (z_abs : PySem.W.nsIn K mainGlobals "abs" = some none)
    (z_all : PySem.W.nsIn K mainGlobals "all" = some none)
    (z_any : PySem.W.nsIn K mainGlobals "any" = some none)
    (z_bool : PySem.W.nsIn K mainGlobals "bool" = some none)
    (z_enumerate : PySem.W.nsIn K mainGlobals "enumerate" = some none)
    (z_int : PySem.W.nsIn K mainGlobals "int" = some none)
    (z_isinstance : PySem.W.nsIn K mainGlobals "isinstance" = some none)
    (z_len : PySem.W.nsIn K mainGlobals "len" = some none)
    (z_list : PySem.W.nsIn K mainGlobals "list" = some none)
    (z_range : PySem.W.nsIn K mainGlobals "range" = some none)
    (z_sorted : PySem.W.nsIn K mainGlobals "sorted" = some none)
    (z_str : PySem.W.nsIn K mainGlobals "str" = some none)
    (z_tuple : PySem.W.nsIn K mainGlobals "tuple" = some none)
    (z_zip : PySem.W.nsIn K mainGlobals "zip" = some none)
    (nV_CHANCE : PySem.W.nsIn K mainGlobals "CHANCE" = some (some (.int (2) V_CHANCE))) :
    ∃ fd : FuncData, (∀ (s : Shared) (v : Value), BindsTo s fd ⟨[v], []⟩ [("script", v)]) ∧ ∀ base : Heap, K.In base → base.Ns mainGlobals mg → FnOk l.prog w K mg base (L2.CX l.prog w) 9 fa fd ["script"] (spL K) := by
  have e := hfa.symm.trans (PySem.W.mg_of X G n_law)
  obtain rfl : a_law = fa := by cases e; rfl
  have F__law_box := fun_mk (st := s__law_box) l__law_box c__law_box k__law_box
  have F__law_take := fun_mk (st := s__law_take) l__law_take c__law_take k__law_take
  have F__law_pick := fun_mk (st := s__law_pick) l__law_pick c__law_pick k__law_pick
  have F__law_road := fun_mk (st := s__law_road) l__law_road c__law_road k__law_road
  have F__law_web := fun_mk (st := s__law_web) l__law_web c__law_web k__law_web
  have F__law_lots := fun_mk (st := s__law_lots) l__law_lots c__law_lots k__law_lots
  have F__law_starts := fun_mk (st := s__law_starts) l__law_starts c__law_starts k__law_starts
  have F__law_road_lots := fun_mk (st := s__law_road_lots) l__law_road_lots c__law_road_lots k__law_road_lots
  have F__law_outs := fun_mk (st := s__law_outs) l__law_outs c__law_outs k__law_outs
  have F__law_ends := fun_mk (st := s__law_ends) l__law_ends c__law_ends k__law_ends
  have F__law_behind := fun_mk (st := s__law_behind) l__law_behind c__law_behind k__law_behind
  have F__law_is_part := fun_mk (st := s__law_is_part) l__law_is_part c__law_is_part k__law_is_part
  have F__law_same := fun_mk (st := s__law_same) l__law_same c__law_same k__law_same
  have F__law_bent := fun_mk (st := s__law_bent) l__law_bent c__law_bent k__law_bent
  have F_roads_by_place := fun_mk (st := s_roads_by_place) l_roads_by_place c_roads_by_place k_roads_by_place
  have F_roads_within := fun_mk (st := s_roads_within) l_roads_within c_roads_within k_roads_within
  have F_led_from := fun_mk (st := s_led_from) l_led_from c_led_from k_led_from
  have F_joined_groups := fun_mk (st := s_joined_groups) l_joined_groups c_joined_groups k_joined_groups
  have F_can_stay := fun_mk (st := s_can_stay) l_can_stay c_can_stay k_can_stay
  have F_split_once := fun_mk (st := s_split_once) l_split_once c_split_once k_split_once
  have F_is_within := fun_mk (st := s_is_within) l_is_within c_is_within k_is_within
  have F_greatest_parts := fun_mk (st := s_greatest_parts) l_greatest_parts c_greatest_parts k_greatest_parts
  have F_joined_lots := fun_mk (st := s_joined_lots) l_joined_lots c_joined_lots k_joined_lots
  have F_part_rings := fun_mk (st := s_part_rings) l_part_rings c_part_rings k_part_rings
  have F__law_rung := fun_mk (st := s__law_rung) l__law_rung c__law_rung k__law_rung
  have F_is_tuple : FunD K "is_tuple" "is_tuple" (defArgs s_is_tuple) (defBody s_is_tuple) (defScope s_is_tuple) [.non] [] a_is_tuple _ := funD_mk (st := s_is_tuple) l_is_tuple lT_is_tuple (by simp) vT_is_tuple c_is_tuple k_is_tuple
  have F_is_int := fun_mk (st := s_is_int) l_is_int c_is_int k_is_int
  have F_is_number : FunD K "is_number" "is_number" (defArgs s_is_number) (defBody s_is_number) (defScope s_is_number) [.int 0, .non] [] a_is_number _ := funD_mk (st := s_is_number) l_is_number lT_is_number (by simp) vT_is_number c_is_number k_is_number
  have F_is_lot : FunD K "is_lot" "is_lot" (defArgs s_is_lot) (defBody s_is_lot) (defScope s_is_lot) [.non, .int 0] [] a_is_lot _ := funD_mk (st := s_is_lot) l_is_lot lT_is_lot (by simp) vT_is_lot c_is_lot k_is_lot
  have F_part_serves := fun_mk (st := s_part_serves) l_part_serves c_part_serves k_part_serves
  have F__law_is_one := fun_mk (st := s__law_is_one) l__law_is_one c__law_is_one k__law_is_one
  have F__law_lies_in := fun_mk (st := s__law_lies_in) l__law_lies_in c__law_lies_in k__law_lies_in
  have F_law := fun_mk (st := s_law) l_law c_law k_law
  refine ⟨PySem.W.fnOf "law" "law" (defArgs s_law) (defBody s_law) (defScope s_law) .none kV_law dc_law pm_law an_law cd_law ct_law, fun s v => .of_eq rfl, fun base _ _ => ?_⟩
  let GG : GF l.prog w K mg base :=
    { a__law_box := a__law_box
      d__law_box := _
      f__law_box := F__law_box
      b__law_box := F__law_box.binds (ps := ["script", "k"]) fun _ _ _ _ _ _ us hl => match us, hl with | [_, _], _ => rfl
      g__law_box := PySem.W.mg_of X G n__law_box
      k__law_box := k__law_box
      a__law_take := a__law_take
      d__law_take := _
      f__law_take := F__law_take
      b__law_take := F__law_take.binds (ps := ["box", "many"]) fun _ _ _ _ _ _ us hl => match us, hl with | [_, _], _ => rfl
      g__law_take := PySem.W.mg_of X G n__law_take
      k__law_take := k__law_take
      a__law_pick := a__law_pick
      d__law_pick := _
      f__law_pick := F__law_pick
      b__law_pick := F__law_pick.binds (ps := ["box", "some"]) fun _ _ _ _ _ _ us hl => match us, hl with | [_, _], _ => rfl
      g__law_pick := PySem.W.mg_of X G n__law_pick
      k__law_pick := k__law_pick
      a__law_road := a__law_road
      d__law_road := _
      f__law_road := F__law_road
      b__law_road := F__law_road.binds (ps := ["box", "start", "places", "bells", "owner"]) fun _ _ _ _ _ _ us hl => match us, hl with | [_, _, _, _, _], _ => rfl
      g__law_road := PySem.W.mg_of X G n__law_road
      k__law_road := k__law_road
      a__law_web := a__law_web
      d__law_web := _
      f__law_web := F__law_web
      b__law_web := F__law_web.binds (ps := ["box", "places", "more", "bells"]) fun _ _ _ _ _ _ us hl => match us, hl with | [_, _, _, _], _ => rfl
      g__law_web := PySem.W.mg_of X G n__law_web
      k__law_web := k__law_web
      a__law_lots := a__law_lots
      d__law_lots := _
      f__law_lots := F__law_lots
      b__law_lots := F__law_lots.binds (ps := ["bells"]) fun _ _ _ _ _ _ us hl => match us, hl with | [_], _ => rfl
      g__law_lots := PySem.W.mg_of X G n__law_lots
      k__law_lots := k__law_lots
      a__law_starts := a__law_starts
      d__law_starts := _
      f__law_starts := F__law_starts
      b__law_starts := F__law_starts.binds (ps := ["web", "roads"]) fun _ _ _ _ _ _ us hl => match us, hl with | [_, _], _ => rfl
      g__law_starts := PySem.W.mg_of X G n__law_starts
      k__law_starts := k__law_starts
      a__law_road_lots := a__law_road_lots
      d__law_road_lots := _
      f__law_road_lots := F__law_road_lots
      b__law_road_lots := F__law_road_lots.binds (ps := ["web"]) fun _ _ _ _ _ _ us hl => match us, hl with | [_], _ => rfl
      g__law_road_lots := PySem.W.mg_of X G n__law_road_lots
      k__law_road_lots := k__law_road_lots
      a__law_outs := a__law_outs
      d__law_outs := _
      f__law_outs := F__law_outs
      b__law_outs := F__law_outs.binds (ps := ["web", "place"]) fun _ _ _ _ _ _ us hl => match us, hl with | [_, _], _ => rfl
      g__law_outs := PySem.W.mg_of X G n__law_outs
      k__law_outs := k__law_outs
      a__law_ends := a__law_ends
      d__law_ends := _
      f__law_ends := F__law_ends
      b__law_ends := F__law_ends.binds (ps := ["web", "place", "roads"]) fun _ _ _ _ _ _ us hl => match us, hl with | [_, _, _], _ => rfl
      g__law_ends := PySem.W.mg_of X G n__law_ends
      k__law_ends := k__law_ends
      a__law_behind := a__law_behind
      d__law_behind := _
      f__law_behind := F__law_behind
      b__law_behind := F__law_behind.binds (ps := ["web", "place", "roads"]) fun _ _ _ _ _ _ us hl => match us, hl with | [_, _, _], _ => rfl
      g__law_behind := PySem.W.mg_of X G n__law_behind
      k__law_behind := k__law_behind
      a__law_is_part := a__law_is_part
      d__law_is_part := _
      f__law_is_part := F__law_is_part
      b__law_is_part := F__law_is_part.binds (ps := ["web", "places", "roads"]) fun _ _ _ _ _ _ us hl => match us, hl with | [_, _, _], _ => rfl
      g__law_is_part := PySem.W.mg_of X G n__law_is_part
      k__law_is_part := k__law_is_part
      a__law_same := a__law_same
      d__law_same := _
      f__law_same := F__law_same
      b__law_same := F__law_same.binds (ps := ["told", "due"]) fun _ _ _ _ _ _ us hl => match us, hl with | [_, _], _ => rfl
      g__law_same := PySem.W.mg_of X G n__law_same
      k__law_same := k__law_same
      a__law_bent := a__law_bent
      d__law_bent := _
      f__law_bent := F__law_bent
      b__law_bent := F__law_bent.binds (ps := ["box", "web", "part"]) fun _ _ _ _ _ _ us hl => match us, hl with | [_, _, _], _ => rfl
      g__law_bent := PySem.W.mg_of X G n__law_bent
      k__law_bent := k__law_bent
      a_roads_by_place := a_roads_by_place
      d_roads_by_place := _
      f_roads_by_place := F_roads_by_place
      b_roads_by_place := F_roads_by_place.binds (ps := ["web"]) fun _ _ _ _ _ _ us hl => match us, hl with | [_], _ => rfl
      g_roads_by_place := PySem.W.mg_of X G n_roads_by_place
      k_roads_by_place := k_roads_by_place
      a_roads_within := a_roads_within
      d_roads_within := _
      f_roads_within := F_roads_within
      b_roads_within := F_roads_within.binds (ps := ["web", "group", "roads"]) fun _ _ _ _ _ _ us hl => match us, hl with | [_, _, _], _ => rfl
      g_roads_within := PySem.W.mg_of X G n_roads_within
      k_roads_within := k_roads_within
      a_led_from := a_led_from
      d_led_from := _
      f_led_from := F_led_from
      b_led_from := F_led_from.binds (ps := ["web", "place", "roads"]) fun _ _ _ _ _ _ us hl => match us, hl with | [_, _, _], _ => rfl
      g_led_from := PySem.W.mg_of X G n_led_from
      k_led_from := k_led_from
      a_joined_groups := a_joined_groups
      d_joined_groups := _
      f_joined_groups := F_joined_groups
      b_joined_groups := F_joined_groups.binds (ps := ["web", "places", "roads"]) fun _ _ _ _ _ _ us hl => match us, hl with | [_, _, _], _ => rfl
      g_joined_groups := PySem.W.mg_of X G n_joined_groups
      k_joined_groups := k_joined_groups
      a_can_stay := a_can_stay
      d_can_stay := _
      f_can_stay := F_can_stay
      b_can_stay := F_can_stay.binds (ps := ["web", "place", "outs", "roads"]) fun _ _ _ _ _ _ us hl => match us, hl with | [_, _, _, _], _ => rfl
      g_can_stay := PySem.W.mg_of X G n_can_stay
      k_can_stay := k_can_stay
      a_split_once := a_split_once
      d_split_once := _
      f_split_once := F_split_once
      b_split_once := F_split_once.binds (ps := ["web", "outs", "places", "roads"]) fun _ _ _ _ _ _ us hl => match us, hl with | [_, _, _, _], _ => rfl
      g_split_once := PySem.W.mg_of X G n_split_once
      k_split_once := k_split_once
      a_is_within := a_is_within
      d_is_within := _
      f_is_within := F_is_within
      b_is_within := F_is_within.binds (ps := ["one", "two"]) fun _ _ _ _ _ _ us hl => match us, hl with | [_, _], _ => rfl
      g_is_within := PySem.W.mg_of X G n_is_within
      k_is_within := k_is_within
      a_greatest_parts := a_greatest_parts
      d_greatest_parts := _
      f_greatest_parts := F_greatest_parts
      b_greatest_parts := F_greatest_parts.binds (ps := ["web", "lot"]) fun _ _ _ _ _ _ us hl => match us, hl with | [_, _], _ => rfl
      g_greatest_parts := PySem.W.mg_of X G n_greatest_parts
      k_greatest_parts := k_greatest_parts
      a_joined_lots := a_joined_lots
      d_joined_lots := _
      f_joined_lots := F_joined_lots
      b_joined_lots := F_joined_lots.binds (ps := ["lots"]) fun _ _ _ _ _ _ us hl => match us, hl with | [_], _ => rfl
      g_joined_lots := PySem.W.mg_of X G n_joined_lots
      k_joined_lots := k_joined_lots
      a_part_rings := a_part_rings
      d_part_rings := _
      f_part_rings := F_part_rings
      b_part_rings := F_part_rings.binds (ps := ["web", "part"]) fun _ _ _ _ _ _ us hl => match us, hl with | [_, _], _ => rfl
      g_part_rings := PySem.W.mg_of X G n_part_rings
      k_part_rings := k_part_rings
      a__law_rung := a__law_rung
      d__law_rung := _
      f__law_rung := F__law_rung
      b__law_rung := F__law_rung.binds (ps := ["web", "roads"]) fun _ _ _ _ _ _ us hl => match us, hl with | [_, _], _ => rfl
      g__law_rung := PySem.W.mg_of X G n__law_rung
      k__law_rung := k__law_rung
      a_is_tuple := a_is_tuple
      d_is_tuple := _
      f_is_tuple := F_is_tuple
      b_is_tuple := by
        obtain ⟨ds, e1, e2⟩ := F_is_tuple.binds1 (ps := ["value", "many"]) 2 1 (by simp) rfl (fun T kV doc pm an cdv ct us its hl hi => match us, hl, its, hi with | [_, _], _, [_], _ => ⟨_, rfl, rfl⟩)
        cases e1; exact e2
      g_is_tuple := PySem.W.mg_of X G n_is_tuple
      k_is_tuple := k_is_tuple
      a_is_int := a_is_int
      d_is_int := _
      f_is_int := F_is_int
      b_is_int := F_is_int.binds (ps := ["value"]) fun _ _ _ _ _ _ us hl => match us, hl with | [_], _ => rfl
      g_is_int := PySem.W.mg_of X G n_is_int
      k_is_int := k_is_int
      a_is_number := a_is_number
      d_is_number := _
      f_is_number := F_is_number
      b_is_number := by
        obtain ⟨ds, e1, e2⟩ := F_is_number.binds1 (ps := ["value", "least", "most"]) 3 2 (by simp) rfl (fun T kV doc pm an cdv ct us its hl hi => match us, hl, its, hi with | [_, _, _], _, [_, _], _ => ⟨_, rfl, rfl⟩)
        cases e1; exact e2
      g_is_number := PySem.W.mg_of X G n_is_number
      k_is_number := k_is_number
      a_is_lot := a_is_lot
      d_is_lot := _
      f_is_lot := F_is_lot
      b_is_lot := by
        obtain ⟨ds, e1, e2⟩ := F_is_lot.binds1 (ps := ["value", "most", "least"]) 3 2 (by simp) rfl (fun T kV doc pm an cdv ct us its hl hi => match us, hl, its, hi with | [_, _, _], _, [_, _], _ => ⟨_, rfl, rfl⟩)
        cases e1; exact e2
      g_is_lot := PySem.W.mg_of X G n_is_lot
      k_is_lot := k_is_lot
      a_part_serves := a_part_serves
      d_part_serves := _
      f_part_serves := F_part_serves
      b_part_serves := F_part_serves.binds (ps := ["web", "told"]) fun _ _ _ _ _ _ us hl => match us, hl with | [_, _], _ => rfl
      g_part_serves := PySem.W.mg_of X G n_part_serves
      k_part_serves := k_part_serves
      a__law_is_one := a__law_is_one
      d__law_is_one := _
      f__law_is_one := F__law_is_one
      b__law_is_one := F__law_is_one.binds (ps := ["web", "value"]) fun _ _ _ _ _ _ us hl => match us, hl with | [_, _], _ => rfl
      g__law_is_one := PySem.W.mg_of X G n__law_is_one
      k__law_is_one := k__law_is_one
      a__law_lies_in := a__law_lies_in
      d__law_lies_in := _
      f__law_lies_in := F__law_lies_in
      b__law_lies_in := F__law_lies_in.binds (ps := ["one", "two"]) fun _ _ _ _ _ _ us hl => match us, hl with | [_, _], _ => rfl
      g__law_lies_in := PySem.W.mg_of X G n__law_lies_in
      k__law_lies_in := k__law_lies_in
      a_law := a_law
      d_law := _
      f_law := F_law
      b_law := F_law.binds (ps := ["script"]) fun _ _ _ _ _ _ us hl => match us, hl with | [_], _ => rfl
      g_law := PySem.W.mg_of X G n_law
      k_law := k_law
      b_is_lot_2 := F_is_lot.binds1 (ps := ["value", "most", "least"]) 2 1 (by simp) rfl (fun T kV doc pm an cdv ct us its hl hi => match us, hl, its, hi with | [_, _], _, [_, _], _ => ⟨_, rfl, rfl⟩)
      v_CHANCE := V_CHANCE
      o_CHANCE := PySem.W.mg_of X G nV_CHANCE
      z_abs := PySem.W.mg_none_of X G z_abs
      z_all := PySem.W.mg_none_of X G z_all
      z_any := PySem.W.mg_none_of X G z_any
      z_bool := PySem.W.mg_none_of X G z_bool
      z_enumerate := PySem.W.mg_none_of X G z_enumerate
      z_int := PySem.W.mg_none_of X G z_int
      z_isinstance := PySem.W.mg_none_of X G z_isinstance
      z_len := PySem.W.mg_none_of X G z_len
      z_list := PySem.W.mg_none_of X G z_list
      z_range := PySem.W.mg_none_of X G z_range
      z_sorted := PySem.W.mg_none_of X G z_sorted
      z_str := PySem.W.mg_none_of X G z_str
      z_tuple := PySem.W.mg_none_of X G z_tuple
      z_zip := PySem.W.mg_none_of X G z_zip }
  exact (ok_law GG).imp fun vs H Q E hh => spL_imp hL hh
end Lw
open PySem PySem.W PyProof.Rows
theorem PySem.Challenge.cw_bellsagain_k79_end_parts_by_listing_holds : PySem.Challenge.rw_bellsagain_k79_end_parts_by_listing.Holds := by
  w_on; o_law; k_head; (case hw => w_witness2)
  k_fill
  refine L2.walk_ofB (l := PySem.Challenge.rw_bellsagain_k79_end_parts_by_listing) (n := 63) (k := 9) (x := "script") (CX := fun w => L2.CX PySem.Challenge.rw_bellsagain_k79_end_parts_by_listing.prog w) (sp := fun w => Mir.spL _) rfl (by decide) rfl ⟨rfl, by decide, by decide⟩ (fun w h Y => PySem.W.kIn_of Y) ?F (fun _ _ a ns hl hb hO hS => ⟨a, ns, rfl, hl, hb, hO, hS, fun _ => rfl⟩) (fun _ _ _ _ _ z => Mir.cx_none z)
  case F =>
    intro w mg fa h KX G hmg
    refine' Lw.all_mk Lw.law_ok KX G hmg ?n__law_box ?l__law_box ?c__law_box ?k__law_box ?n__law_take ?l__law_take ?c__law_take ?k__law_take ?n__law_pick ?l__law_pick ?c__law_pick ?k__law_pick ?n__law_road ?l__law_road ?c__law_road ?k__law_road ?n__law_web ?l__law_web ?c__law_web ?k__law_web ?n__law_lots ?l__law_lots ?c__law_lots ?k__law_lots ?n__law_starts ?l__law_starts ?c__law_starts ?k__law_starts ?n__law_road_lots ?l__law_road_lots ?c__law_road_lots ?k__law_road_lots ?n__law_outs ?l__law_outs ?c__law_outs ?k__law_outs ?n__law_ends ?l__law_ends ?c__law_ends ?k__law_ends ?n__law_behind ?l__law_behind ?c__law_behind ?k__law_behind ?n__law_is_part ?l__law_is_part ?c__law_is_part ?k__law_is_part ?n__law_same ?l__law_same ?c__law_same ?k__law_same ?n__law_bent ?l__law_bent ?c__law_bent ?k__law_bent ?n_roads_by_place ?l_roads_by_place ?c_roads_by_place ?k_roads_by_place ?n_roads_within ?l_roads_within ?c_roads_within ?k_roads_within ?n_led_from ?l_led_from ?c_led_from ?k_led_from ?n_joined_groups ?l_joined_groups ?c_joined_groups ?k_joined_groups ?n_can_stay ?l_can_stay ?c_can_stay ?k_can_stay ?n_split_once ?l_split_once ?c_split_once ?k_split_once ?n_is_within ?l_is_within ?c_is_within ?k_is_within ?n_greatest_parts ?l_greatest_parts ?c_greatest_parts ?k_greatest_parts ?n_joined_lots ?l_joined_lots ?c_joined_lots ?k_joined_lots ?n_part_rings ?l_part_rings ?c_part_rings ?k_part_rings ?n__law_rung ?l__law_rung ?c__law_rung ?k__law_rung ?n_is_tuple ?l_is_tuple ?lT_is_tuple ?vT_is_tuple ?c_is_tuple ?k_is_tuple ?n_is_int ?l_is_int ?c_is_int ?k_is_int ?n_is_number ?l_is_number ?lT_is_number ?vT_is_number ?c_is_number ?k_is_number ?n_is_lot ?l_is_lot ?lT_is_lot ?vT_is_lot ?c_is_lot ?k_is_lot ?n_part_serves ?l_part_serves ?c_part_serves ?k_part_serves ?n__law_is_one ?l__law_is_one ?c__law_is_one ?k__law_is_one ?n__law_lies_in ?l__law_lies_in ?c__law_lies_in ?k__law_lies_in ?n_law ?l_law ?c_law ?k_law ?z_abs ?z_all ?z_any ?z_bool ?z_enumerate ?z_int ?z_isinstance ?z_len ?z_list ?z_range ?z_sorted ?z_str ?z_tuple ?z_zip ?nV_CHANCE
    (case n__law_box => k_is)
    (case l__law_box => k_is)
    (case c__law_box => k_is)
    (case k__law_box => k_is)
    (case n__law_take => k_is)
    (case l__law_take => k_is)
    (case c__law_take => k_is)
    (case k__law_take => k_is)
    (case n__law_pick => k_is)
    (case l__law_pick => k_is)
    (case c__law_pick => k_is)
    (case k__law_pick => k_is)
    (case n__law_road => k_is)
    (case l__law_road => k_is)
    (case c__law_road => k_is)
    (case k__law_road => k_is)
    (case n__law_web => k_is)
    (case l__law_web => k_is)
    (case c__law_web => k_is)
    (case k__law_web => k_is)
    (case n__law_lots => k_is)
    (case l__law_lots => k_is)
    (case c__law_lots => k_is)
    (case k__law_lots => k_is)
    (case n__law_starts => k_is)
    (case l__law_starts => k_is)
    (case c__law_starts => k_is)
    (case k__law_starts => k_is)
    (case n__law_road_lots => k_is)
    (case l__law_road_lots => k_is)
    (case c__law_road_lots => k_is)
    (case k__law_road_lots => k_is)
    (case n__law_outs => k_is)
    (case l__law_outs => k_is)
    (case c__law_outs => k_is)
    (case k__law_outs => k_is)
    (case n__law_ends => k_is)
    (case l__law_ends => k_is)
    (case c__law_ends => k_is)
    (case k__law_ends => k_is)
    (case n__law_behind => k_is)
    (case l__law_behind => k_is)
    (case c__law_behind => k_is)
    (case k__law_behind => k_is)
    (case n__law_is_part => k_is)
    (case l__law_is_part => k_is)
    (case c__law_is_part => k_is)
    (case k__law_is_part => k_is)
    (case n__law_same => k_is)
    (case l__law_same => k_is)
    (case c__law_same => k_is)
    (case k__law_same => k_is)
    (case n__law_bent => k_is)
    (case l__law_bent => k_is)
    (case c__law_bent => k_is)
    (case k__law_bent => k_is)
    (case n_roads_by_place => k_is)
    (case l_roads_by_place => k_is)
    (case c_roads_by_place => k_is)
    (case k_roads_by_place => k_is)
    (case n_roads_within => k_is)
    (case l_roads_within => k_is)
    (case c_roads_within => k_is)
    (case k_roads_within => k_is)
    (case n_led_from => k_is)
    (case l_led_from => k_is)
    (case c_led_from => k_is)
    (case k_led_from => k_is)
    (case n_joined_groups => k_is)
    (case l_joined_groups => k_is)
    (case c_joined_groups => k_is)
    (case k_joined_groups => k_is)
    (case n_can_stay => k_is)
    (case l_can_stay => k_is)
    (case c_can_stay => k_is)
    (case k_can_stay => k_is)
    (case n_split_once => k_is)
    (case l_split_once => k_is)
    (case c_split_once => k_is)
    (case k_split_once => k_is)
    (case n_is_within => k_is)
    (case l_is_within => k_is)
    (case c_is_within => k_is)
    (case k_is_within => k_is)
    (case n_greatest_parts => k_is)
    (case l_greatest_parts => k_is)
    (case c_greatest_parts => k_is)
    (case k_greatest_parts => k_is)
    (case n_joined_lots => k_is)
    (case l_joined_lots => k_is)
    (case c_joined_lots => k_is)
    (case k_joined_lots => k_is)
    (case n_part_rings => k_is)
    (case l_part_rings => k_is)
    (case c_part_rings => k_is)
    (case k_part_rings => k_is)
    (case n__law_rung => k_is)
    (case l__law_rung => k_is)
    (case c__law_rung => k_is)
    (case k__law_rung => k_is)
    (case n_is_tuple => k_is)
    (case l_is_tuple => k_is)
    (case lT_is_tuple => k_is)
    (case vT_is_tuple => exact (.cons rfl .nil))
    (case c_is_tuple => k_is)
    (case k_is_tuple => k_is)
    (case n_is_int => k_is)
    (case l_is_int => k_is)
    (case c_is_int => k_is)
    (case k_is_int => k_is)
    (case n_is_number => k_is)
    (case l_is_number => k_is)
    (case lT_is_number => k_is)
    (case vT_is_number => exact (.cons ⟨_, rfl⟩ (.cons rfl .nil)))
    (case c_is_number => k_is)
    (case k_is_number => k_is)
    (case n_is_lot => k_is)
    (case l_is_lot => k_is)
    (case lT_is_lot => k_is)
    (case vT_is_lot => exact (.cons rfl (.cons ⟨_, rfl⟩ .nil)))
    (case c_is_lot => k_is)
    (case k_is_lot => k_is)
    (case n_part_serves => k_is)
    (case l_part_serves => k_is)
    (case c_part_serves => k_is)
    (case k_part_serves => k_is)
    (case n__law_is_one => k_is)
    (case l__law_is_one => k_is)
    (case c__law_is_one => k_is)
    (case k__law_is_one => k_is)
    (case n__law_lies_in => k_is)
    (case l__law_lies_in => k_is)
    (case c__law_lies_in => k_is)
    (case k__law_lies_in => k_is)
    (case n_law => k_is)
    (case l_law => k_is)
    (case c_law => k_is)
    (case k_law => k_is)
    (case z_abs => k_is)
    (case z_all => k_is)
    (case z_any => k_is)
    (case z_bool => k_is)
    (case z_enumerate => k_is)
    (case z_int => k_is)
    (case z_isinstance => k_is)
    (case z_len => k_is)
    (case z_list => k_is)
    (case z_range => k_is)
    (case z_sorted => k_is)
    (case z_str => k_is)
    (case z_tuple => k_is)
    (case z_zip => k_is)
    (case nV_CHANCE => k_is)

