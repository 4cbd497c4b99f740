import PyProof.Rows.All
import Wide.All
import OpenK.AllK
import Wide.FinOn
import HandS.ForMost
import HandS.Exc
import HandS.TryOnly
import HandS.TryMany
import HandS.ExcOwn
import HandS.WordsExc
import HandS.ExcInit
import HandS.Flow
import HandS.IsInst
import HandS.StrMore
import HandS.TupAny
import HandS.TupMul
import HandS.Wide
import HandS.WideBits
import HandS.Zip
import HandS.Deep
import HandS.Style
import HandS.Defaults
import HandS.TupLe
import HandS.RaiseMore
import HandS.NoneIn
import HandS.Replace
import HandS.Codes
import KE.IntTextLaws
import PySem.Challenge.RW_paidinfull_k77_whole_frames_and_bursts
set_option Elab.async false
set_option linter.all false
set_option autoImplicit false
set_option maxRecDepth 100000
/-! Itp, part A: values, heap, outcomes; how they lie in the hand layer's abstract heap. -/
namespace Itp
open PySem PySem.Spec PyProof.Rows L2

/-- a value of the interpreter -/
inductive W where
  | non | bl (b : Bool) | int (i : Int) | str (s : Str) | tup (xs : List W) | ref (n : Nat) | ty (n : String)

/-- what stands at a place of the interpreter's heap: a list; a list that is only read -/
inductive IO where
  | lst (xs : List W)
  | flst (xs : List W)

abbrev IH := List IO
abbrev IS := List (Option W)

/-- how code ends -/
inductive Out (α : Type) where
  | ok (a : α) (hp : IH)
  | err (c : Nat) (fs : List (Str × W)) (hp : IH)
  | stuck

def Out.bind {α β : Type} (o : Out α) (k : α → IH → Out β) : Out β := match o with
  | .ok a hp => k a hp
  | .err c fs hp => .err c fs hp
  | .stuck => .stuck
@[simp] theorem Out.bind_ok {α β : Type} (a : α) (hp : IH) (k : α → IH → Out β) : (Out.ok a hp).bind k = k a hp := rfl
@[simp] theorem Out.bind_err {α β : Type} (c : Nat) (fs : List (Str × W)) (hp : IH) (k : α → IH → Out β) : (Out.err c fs hp).bind k = .err c fs hp := rfl
@[simp] theorem Out.bind_stuck {α β : Type} (k : α → IH → Out β) : (Out.stuck : Out α).bind k = .stuck := rfl
/-- a built-in operation: done, or not served -/
def Out.of {α : Type} : Option (α × IH) → Out α
  | some (a, hp) => .ok a hp
  | none => .stuck
@[simp] theorem Out.of_some {α : Type} (a : α) (hp : IH) : Out.of (some (a, hp)) = .ok a hp := rfl
@[simp] theorem Out.of_none {α : Type} : Out.of (none : Option (α × IH)) = .stuck := rfl

/-- what is fixed through a law: the written part, the addresses of the own exception classes -/
structure Gx where
  K : PySem.W.Frag
  ca : Nat → Addr

mutual
def Rep (K : PySem.W.Frag) (ι : List Addr) (H : Hp) : W → V → Prop
  | .non, v => v = .non
  | .bl b, v => v = .bl b
  | .int i, v => v = .int i
  | .str s, v => v = .str s
  | .tup ws, v => ∃ a xs, v = .ref a ∧ SqT K H a xs ∧ Reps K ι H ws xs
  | .ref n, v => ∃ a, ι[n]? = some a ∧ v = .ref a
  | .ty n, v => v = .ty n
def Reps (K : PySem.W.Frag) (ι : List Addr) (H : Hp) : List W → List V → Prop
  | [], xs => xs = []
  | w :: ws, xs => ∃ v vs, xs = v :: vs ∧ Rep K ι H w v ∧ Reps K ι H ws vs
end

/-- the later state keeps what is said of values of the elder one -/
structure Ext (ι : List Addr) (H : Hp) (ι' : List Addr) (H' : Hp) : Prop where
  pre : ι <+: ι'
  tup : ∀ a xs, H a = some (.tup xs) → H' a = some (.tup xs)
  frz : ∀ a o u, H a = some (.frz o u) → H' a = some (.frz o u)
theorem Ext.refl (ι : List Addr) (H : Hp) : Ext ι H ι H := ⟨List.prefix_rfl, fun _ _ h => h, fun _ _ _ h => h⟩
theorem Ext.trans {ι ι1 ι2 : List Addr} {H H1 H2 : Hp} (a : Ext ι H ι1 H1) (b : Ext ι1 H1 ι2 H2) : Ext ι H ι2 H2 :=
  ⟨a.pre.trans b.pre, fun c xs h => b.tup c xs (a.tup c xs h), fun c o u h => b.frz c o u (a.frz c o u h)⟩
section
variable {K : PySem.W.Frag} {ι ι' : List Addr} {H H' : Hp} {a : Addr}
theorem Ext.sqT (e : Ext ι H ι' H') {xs : List V} (h : SqT K H a xs) : SqT K H' a xs := by
  rcases h with (h | ⟨o, h⟩) | h
  · exact .inl (.inl (e.tup _ _ h))
  · exact .inl (.inr ⟨o, e.frz _ _ _ h⟩)
  · exact .inr h
theorem Ext.at (e : Ext ι H ι' H') {n : Nat} (h : ι[n]? = some a) : ι'[n]? = some a := by
  obtain ⟨t, rfl⟩ := e.pre
  rw [List.getElem?_append_left (List.getElem?_eq_some_iff.mp h).1]
  exact h
mutual
theorem Rep.ext (e : Ext ι H ι' H') : ∀ (w : W) (v : V), Rep K ι H w v → Rep K ι' H' w v
  | .non, _, h => h
  | .bl _, _, h => h
  | .int _, _, h => h
  | .str _, _, h => h
  | .tup ws, _, h => by
    obtain ⟨a, xs, rfl, hs, hr⟩ := h
    exact ⟨a, xs, rfl, e.sqT hs, Reps.ext e ws xs hr⟩
  | .ref _, _, h => by
    obtain ⟨a, ha, rfl⟩ := h
    exact ⟨a, e.at ha, rfl⟩
  | .ty _, _, h => h
theorem Reps.ext (e : Ext ι H ι' H') : ∀ (ws : List W) (xs : List V), Reps K ι H ws xs → Reps K ι' H' ws xs
  | [], _, h => h
  | w :: ws, _, h => by
    obtain ⟨v, vs, rfl, h1, h2⟩ := h
    exact ⟨v, vs, rfl, Rep.ext e w v h1, Reps.ext e ws vs h2⟩
end
theorem Reps.length : ∀ {ws : List W} {xs : List V}, Reps K ι H ws xs → xs.length = ws.length
  | [], _, h => by subst h; rfl
  | _ :: _, _, h => by
    obtain ⟨_, _, rfl, _, h2⟩ := h
    show _ + 1 = _ + 1
    rw [Reps.length h2]
theorem Reps.get : ∀ {ws : List W} {xs : List V} {i : Nat} {w : W}, Reps K ι H ws xs → ws[i]? = some w → ∃ v, xs[i]? = some v ∧ Rep K ι H w v
  | [], _, _, _, _, e => by simp at e
  | _ :: _, _, 0, w, h, e => by
    obtain ⟨v, vs, rfl, h1, _⟩ := h
    have e' := Option.some.inj e
    subst e'
    exact ⟨v, rfl, h1⟩
  | _ :: _, _, i + 1, w, h, e => by
    obtain ⟨v, vs, rfl, _, h2⟩ := h
    exact Reps.get (i := i) h2 e
theorem Reps.getV : ∀ {ws : List W} {xs : List V} {i : Nat} {v : V}, Reps K ι H ws xs → xs[i]? = some v → ∃ w, ws[i]? = some w ∧ Rep K ι H w v
  | [], _, _, _, h, e => by subst h; simp at e
  | w :: _, _, 0, v, h, e => by
    obtain ⟨v', vs, rfl, h1, _⟩ := h
    have e' := Option.some.inj e
    subst e'
    exact ⟨w, rfl, h1⟩
  | _ :: _, _, i + 1, v, h, e => by
    obtain ⟨v', vs, rfl, _, h2⟩ := h
    exact Reps.getV (i := i) h2 e
theorem Reps.append : ∀ {ws us : List W} {xs ys : List V}, Reps K ι H ws xs → Reps K ι H us ys → Reps K ι H (ws ++ us) (xs ++ ys)
  | [], _, _, _, h, k => by subst h; exact k
  | _ :: _, _, _, _, h, k => by
    obtain ⟨v, vs, rfl, h1, h2⟩ := h
    exact ⟨v, _, rfl, h1, Reps.append h2 k⟩
theorem Reps.one {w : W} {v : V} (h : Rep K ι H w v) : Reps K ι H [w] [v] := ⟨v, [], rfl, h, rfl⟩
theorem Reps.set : ∀ {ws : List W} {xs : List V} {w : W} {v : V} (i : Nat), Reps K ι H ws xs → Rep K ι H w v → Reps K ι H (ws.set i w) (xs.set i v)
  | [], _, _, _, _, h, _ => by subst h; exact rfl
  | _ :: _, _, _, _, 0, h, k => by
    obtain ⟨v, vs, rfl, _, h2⟩ := h
    exact ⟨_, _, rfl, k, h2⟩
  | _ :: _, _, _, _, i + 1, h, k => by
    obtain ⟨v, vs, rfl, h1, h2⟩ := h
    exact ⟨_, _, rfl, h1, Reps.set i h2 k⟩
theorem Reps.take : ∀ {ws : List W} {xs : List V} (n : Nat), Reps K ι H ws xs → Reps K ι H (ws.take n) (xs.take n)
  | _, _, 0, _ => rfl
  | [], _, _ + 1, h => by subst h; exact rfl
  | _ :: _, _, n + 1, h => by
    obtain ⟨v, vs, rfl, h1, h2⟩ := h
    exact ⟨_, _, rfl, h1, Reps.take n h2⟩
theorem Reps.drop : ∀ {ws : List W} {xs : List V} (n : Nat), Reps K ι H ws xs → Reps K ι H (ws.drop n) (xs.drop n)
  | _, _, 0, h => h
  | [], _, _ + 1, h => by subst h; exact rfl
  | _ :: _, _, n + 1, h => by
    obtain ⟨v, vs, rfl, h1, h2⟩ := h
    exact Reps.drop n h2
end

/-! ### the heap -/
/-- a list that is only read: frozen, or an object of the module -/
def FzL (K : PySem.W.Frag) (H : Hp) (a : Addr) (xs : List V) : Prop := (∃ o, H a = some (.frz o (.lst xs))) ∨
  ∃ (o : Obj) (its : Array Value) (n : Nat), K.lookup a = some o ∧ o.cls = .type "list" ∧ o.dict = none ∧ o.data = .seq its n ∧ its.size ≤ sizeLine ∧ Vals xs its.toList
theorem FzL.sq {K : PySem.W.Frag} {H : Hp} {a : Addr} {xs : List V} (h : FzL K H a xs) : SqL K H a xs := by
  rcases h with ⟨o, h⟩ | h
  · exact .inl (.inr ⟨o, h⟩)
  · exact .inr h
theorem Ext.fz {K : PySem.W.Frag} {ι ι' : List Addr} {H H' : Hp} {a : Addr} {xs : List V} (e : Ext ι H ι' H') (h : FzL K H a xs) : FzL K H' a xs := by
  rcases h with ⟨o, h⟩ | h
  · exact .inl ⟨o, e.frz _ _ _ h⟩
  · exact .inr h
def ORep (K : PySem.W.Frag) (ι : List Addr) (H : Hp) (a : Addr) : IO → Prop
  | .lst ws => ∃ xs, H a = some (.lst xs) ∧ Reps K ι H ws xs
  | .flst ws => ∃ xs, FzL K H a xs ∧ Reps K ι H ws xs
structure Sim (K : PySem.W.Frag) (ι : List Addr) (hp : IH) (H : Hp) : Prop where
  len : ι.length = hp.length
  nd : ∀ (i j : Nat) (a : Addr) (us ws : List W), ι[i]? = some a → ι[j]? = some a → hp[i]? = some (.lst us) → hp[j]? = some (.lst ws) → i = j
  cell : ∀ (n : Nat) (a : Addr) (o : IO), ι[n]? = some a → hp[n]? = some o → ORep K ι H a o
section
variable {K : PySem.W.Frag} {ι ι' : List Addr} {hp : IH} {H H' : Hp} {a p : Addr} {n : Nat}
theorem Sim.there (s : Sim K ι hp H) (h : ι[n]? = some a) : ∃ o, hp[n]? = some o ∧ ORep K ι H a o := by
  have hn : n < hp.length := by rw [← s.len]; exact (List.getElem?_eq_some_iff.mp h).1
  exact ⟨hp[n], List.getElem?_eq_getElem hn, s.cell n a _ h (List.getElem?_eq_getElem hn)⟩
theorem Sim.addr (s : Sim K ι hp H) {o : IO} (h : hp[n]? = some o) : ∃ a, ι[n]? = some a ∧ ORep K ι H a o := by
  have hn : n < ι.length := by rw [s.len]; exact (List.getElem?_eq_some_iff.mp h).1
  exact ⟨ι[n], List.getElem?_eq_getElem hn, s.cell n _ o (List.getElem?_eq_getElem hn) h⟩
/-- an object at another address, or a new one -/
theorem ORep.move {o : IO} (e : Ext ι H ι' H') (h : ORep K ι H a o) (k : (∃ ws, o = .lst ws) → H' a = H a) : ORep K ι' H' a o := by
  cases o with
  | lst ws =>
    obtain ⟨xs, h1, h2⟩ := h
    exact ⟨xs, (k ⟨_, rfl⟩).trans h1, Reps.ext e _ _ h2⟩
  | flst ws =>
    obtain ⟨xs, h1, h2⟩ := h
    exact ⟨xs, e.fz h1, Reps.ext e _ _ h2⟩
/-- any new object -/
theorem Ext.new {o : HO} (h : H p = none) : Ext ι H ι (upd H p o) :=
  ⟨List.prefix_rfl, fun a xs e => by rw [upd_ne (ne_of_none e h)]; exact e, fun a q u e => by rw [upd_ne (ne_of_none e h)]; exact e⟩
theorem Sim.new {o : HO} (s : Sim K ι hp H) (h : H p = none) : Sim K ι hp (upd H p o) :=
  ⟨s.len, s.nd, fun n a q e1 e2 => by
    have r := s.cell n a q e1 e2
    refine r.move (Ext.new h) fun ⟨ws, eq⟩ => ?_
    subst eq
    obtain ⟨xs, hx, _⟩ := r
    exact upd_ne (ne_of_none hx h)⟩
/-- a new list -/
theorem Ext.lst {xs : List V} (h : H p = none) : Ext ι H (ι ++ [p]) (upd H p (.lst xs)) :=
  ⟨List.prefix_append _ _, (Ext.new (ι := ι) h).tup, (Ext.new (ι := ι) h).frz⟩
theorem Sim.lst {ws : List W} {xs : List V} (s : Sim K ι hp H) (h : H p = none) (r : Reps K ι H ws xs) : Sim K (ι ++ [p]) (hp ++ [.lst ws]) (upd H p (.lst xs)) := by
  have old : ∀ (i : Nat) (a : Addr) (us : List W), i < ι.length → (ι ++ [p])[i]? = some a → (hp ++ [.lst ws])[i]? = some (.lst us) → H a ≠ none ∧ ι[i]? = some a ∧ hp[i]? = some (.lst us) := fun i a us hi e1 e2 => by
    rw [List.getElem?_append_left hi] at e1
    rw [List.getElem?_append_left (by rw [← s.len]; exact hi)] at e2
    obtain ⟨xs, hx, _⟩ := s.cell i a _ e1 e2
    exact ⟨by rw [hx]; simp, e1, e2⟩
  have lastI : ∀ (i : Nat) (a : Addr), ¬ i < ι.length → (ι ++ [p])[i]? = some a → i = ι.length ∧ a = p := fun i a hi e => by
    have h1 := (List.getElem?_eq_some_iff.mp e).1
    rw [List.length_append] at h1
    simp only [List.length_cons, List.length_nil] at h1
    have h2 : i = ι.length := by omega
    subst h2
    rw [List.getElem?_append_right (Nat.le_refl _)] at e
    simp at e
    exact ⟨rfl, e.symm⟩
  refine ⟨by rw [List.length_append, List.length_append, s.len]; rfl, fun i j a us vs e1 e2 e3 e4 => ?_, fun n a q e1 e2 => ?_⟩
  · by_cases hi : i < ι.length
    · obtain ⟨n1, i1, i2⟩ := old i a us hi e1 e3
      by_cases hj : j < ι.length
      · obtain ⟨_, j1, j2⟩ := old j a vs hj e2 e4
        exact s.nd i j a us vs i1 j1 i2 j2
      · obtain ⟨_, rfl⟩ := lastI j a hj e2
        exact absurd h n1
    · obtain ⟨i1, rfl⟩ := lastI i a hi e1
      by_cases hj : j < ι.length
      · obtain ⟨n1, _, _⟩ := old j _ vs hj e2 e4
        exact absurd h n1
      · exact i1.trans (lastI j _ hj e2).1.symm
  · by_cases hn : n < ι.length
    · rw [List.getElem?_append_left hn] at e1
      rw [List.getElem?_append_left (by rw [← s.len]; exact hn)] at e2
      have r1 := s.cell n a q e1 e2
      refine r1.move (Ext.lst h) fun ⟨ws, eq⟩ => ?_
      subst eq
      obtain ⟨xs, hx, _⟩ := r1
      exact upd_ne (ne_of_none hx h)
    · obtain ⟨rfl, rfl⟩ := lastI n a hn e1
      rw [s.len, List.getElem?_append_right (Nat.le_refl _)] at e2
      simp at e2
      subst e2
      exact ⟨xs, upd_same, Reps.ext (Ext.lst h) _ _ r⟩
/-- a list changed -/
theorem Ext.set {xs ys : List V} (h : H a = some (.lst xs)) : Ext ι H ι (upd H a (.lst ys)) :=
  ⟨List.prefix_rfl, fun b zs e => by rw [upd_ne (ne_of e h (by simp))]; exact e, fun b q u e => by rw [upd_ne (ne_of e h (by simp))]; exact e⟩
theorem Sim.set {ws ws' : List W} {xs' : List V} (s : Sim K ι hp H) (ha : ι[n]? = some a) (h : hp[n]? = some (.lst ws)) (r : Reps K ι H ws' xs') : Sim K ι (hp.set n (.lst ws')) (upd H a (.lst xs')) := by
  obtain ⟨xs, hx, _⟩ := s.cell n a _ ha h
  have old : ∀ (i : Nat) (us : List W), (hp.set n (.lst ws'))[i]? = some (.lst us) → ∃ vs, hp[i]? = some (.lst vs) := fun i us e => by
    by_cases hm : i = n
    · subst hm
      exact ⟨ws, h⟩
    · rw [List.getElem?_set_ne (Ne.symm hm)] at e
      exact ⟨us, e⟩
  refine ⟨by rw [List.length_set]; exact s.len, fun i j b us vs e1 e2 e3 e4 => ?_, fun m b q e1 e2 => ?_⟩
  · obtain ⟨us', e3'⟩ := old i us e3
    obtain ⟨vs', e4'⟩ := old j vs e4
    exact s.nd i j b us' vs' e1 e2 e3' e4'
  · by_cases hm : m = n
    · subst hm
      rw [ha] at e1
      cases e1
      rw [List.getElem?_set_self (List.getElem?_eq_some_iff.mp h).1] at e2
      cases e2
      exact ⟨xs', upd_same, Reps.ext (Ext.set hx) _ _ r⟩
    · rw [List.getElem?_set_ne (Ne.symm hm)] at e2
      have r1 := s.cell m b q e1 e2
      refine r1.move (Ext.set hx) fun ⟨us, eq⟩ => upd_ne ?_
      subst eq
      rintro rfl
      exact hm (s.nd m n b us ws e1 ha e2 h)
end

/-! ### stores, outcomes, readings -/
def RepSt (K : PySem.W.Frag) (ι : List Addr) (H : Hp) (ρ : IS) (σ : L2.St) : Prop := σ.length = ρ.length ∧ ∀ (i : Nat) (w : W), ρ[i]? = some (some w) → ∃ v, σ[i]? = some (some v) ∧ Rep K ι H w v
theorem RepSt.ext {K : PySem.W.Frag} {ι ι' : List Addr} {H H' : Hp} {ρ : IS} {σ : L2.St} (e : Ext ι H ι' H') (h : RepSt K ι H ρ σ) : RepSt K ι' H' ρ σ := ⟨h.1, fun i w hi => by
  obtain ⟨v, hv, r⟩ := h.2 i w hi
  exact ⟨v, hv, Rep.ext e _ _ r⟩⟩
theorem RepSt.set {K : PySem.W.Frag} {ι : List Addr} {H : Hp} {ρ : IS} {σ : L2.St} {w : W} {v : V} (h : RepSt K ι H ρ σ) (i : Nat) (r : Rep K ι H w v) : RepSt K ι H (ρ.set i (some w)) (σ.set i (some v)) := by
  refine ⟨by rw [List.length_set, List.length_set]; exact h.1, fun j u hj => ?_⟩
  by_cases e : i = j
  · subst e
    have hl : i < ρ.length := by
      have := (List.getElem?_eq_some_iff.mp hj).1
      rwa [List.length_set] at this
    rw [List.getElem?_set_self hl] at hj
    cases hj
    exact ⟨v, List.getElem?_set_self (by rw [h.1]; exact hl), r⟩
  · rw [List.getElem?_set_ne e] at hj
    rw [List.getElem?_set_ne e]
    exact h.2 j u hj
theorem RepSt.unset {K : PySem.W.Frag} {ι : List Addr} {H : Hp} {ρ : IS} {σ : L2.St} (h : RepSt K ι H ρ σ) (i : Nat) : RepSt K ι H (ρ.set i none) (σ.set i none) := by
  refine ⟨by rw [List.length_set, List.length_set]; exact h.1, fun j u hj => ?_⟩
  by_cases e : i = j
  · subst e
    have hl : i < ρ.length := by
      have := (List.getElem?_eq_some_iff.mp hj).1
      rwa [List.length_set] at this
    rw [List.getElem?_set_self hl] at hj
    cases hj
  · rw [List.getElem?_set_ne e] at hj
    rw [List.getElem?_set_ne e]
    exact h.2 j u hj

def FReps (K : PySem.W.Frag) (ι : List Addr) (H : Hp) : List (Str × W) → List (Str × V) → Prop
  | [], xs => xs = []
  | (f, w) :: ws, xs => ∃ v vs, xs = (f, v) :: vs ∧ Rep K ι H w v ∧ FReps K ι H ws vs
/-- an exception of the class c with its fields -/
def XRep (g : Gx) (ι : List Addr) (H : Hp) (c : Nat) (fs : List (Str × W)) (cls : Value) (d : Option Addr) : Prop :=
  cls = .ref (g.ca c) ∧ (fs = [] ∨ ∃ dd ys, d = some dd ∧ H dd = some (.xd ys) ∧ FReps g.K ι H fs ys)

section
variable {α β γ δ : Type}
def OutG (g : Gx) (Wx : WX) (ι : List Addr) (σ : L2.St) (H : Hp) (R : List Addr → Hp → α → β → Prop) (o : Out α) (Q : β → Hp → Prop) : Prop := match o with
  | .ok a hp' => ∀ b H' ι', Ext ι H ι' H' → Sim g.K ι' hp' H' → R ι' H' a b → Q b H'
  | .err c fs hp' => ∀ cls d H' ι', Ext ι H ι' H' → Sim g.K ι' hp' H' → XRep g ι' H' c fs cls d → Wx cls d σ H'
  | .stuck => False
/-- the reading that an interpreter's function gives -/
def rdG (g : Gx) (Wx : WX) (R : List Addr → Hp → α → β → Prop) (f : IS → IH → Out α) : L2.St → Hp → (β → Hp → Prop) → Prop := fun σ H Q =>
  ∃ ι ρ hp, Sim g.K ι hp H ∧ RepSt g.K ι H ρ σ ∧ OutG g Wx ι σ H R (f ρ hp) Q
variable {g : Gx} {Wx : WX} {ι ι' : List Addr} {σ : L2.St} {H H' : Hp} {R : List Addr → Hp → α → β → Prop} {S : List Addr → Hp → γ → δ → Prop} {ρ : IS} {hp : IH}
theorem OutG.ext {o : Out α} {Q : β → Hp → Prop} (e : Ext ι H ι' H') (h : OutG g Wx ι σ H R o Q) : OutG g Wx ι' σ H' R o Q := by
  cases o with
  | ok a hp' => exact fun b H2 ι2 e2 => h b H2 ι2 (e.trans e2)
  | err c fs hp' => exact fun cls d H2 ι2 e2 => h cls d H2 ι2 (e.trans e2)
  | stuck => exact h
theorem rdG.mono {f : IS → IH → Out α} {Q Q' : β → Hp → Prop} (h : rdG g Wx R f σ H Q) (k : ∀ b H', Q b H' → Q' b H') : rdG g Wx R f σ H Q' := by
  obtain ⟨ι, ρ, hp, s, r, o⟩ := h
  refine ⟨ι, ρ, hp, s, r, ?_⟩
  generalize f ρ hp = z at o ⊢
  cases z with
  | ok a hp' => exact fun b H2 ι2 e2 s2 r2 => k _ _ (o b H2 ι2 e2 s2 r2)
  | err c fs hp' => exact o
  | stuck => exact o
/-- behind a first part -/
structure Aft (g : Gx) (Wx : WX) (ι : List Addr) (σ : L2.St) (H : Hp) (ρ : IS) (R : List Addr → Hp → α → β → Prop) (S : List Addr → Hp → γ → δ → Prop) (k : α → IH → Out γ) (Q : δ → Hp → Prop) (b : β) (H' : Hp) : Prop where
  ex : ∃ ι' hp' a, Ext ι H ι' H' ∧ Sim g.K ι' hp' H' ∧ R ι' H' a b ∧ RepSt g.K ι' H' ρ σ ∧ OutG g Wx ι' σ H' S (k a hp') Q
theorem bindG {f : IS → IH → Out α} {k : α → IH → Out γ} {Q : δ → Hp → Prop} (s : Sim g.K ι hp H) (r : RepSt g.K ι H ρ σ) (h : OutG g Wx ι σ H S ((f ρ hp).bind k) Q) : rdG g Wx R f σ H (Aft g Wx ι σ H ρ R S k Q) := by
  refine ⟨ι, ρ, hp, s, r, ?_⟩
  generalize f ρ hp = z at h ⊢
  cases z with
  | ok a hp' => exact fun b H2 ι2 e2 s2 r2 => ⟨ι2, hp', a, e2, s2, r2, r.ext e2, OutG.ext e2 h⟩
  | err c fs hp' => exact h
  | stuck => exact h
theorem OutG.of {o : Option (α × IH)} {Q : β → Hp → Prop} (h : OutG g Wx ι σ H R (Out.of o) Q) : ∃ a hp', o = some (a, hp') ∧ ∀ b H' ι', Ext ι H ι' H' → Sim g.K ι' hp' H' → R ι' H' a b → Q b H' := by
  cases o with
  | none => exact h.elim
  | some z => exact ⟨z.1, z.2, rfl, h⟩
end
abbrev rdE (g : Gx) (Wx : WX) (f : IS → IH → Out W) : TE := rdG g Wx (Rep g.K) f
abbrev rdA (g : Gx) (Wx : WX) (f : IS → IH → Out (List W)) : TA := rdG g Wx (Reps g.K) f
abbrev rdT (g : Gx) (Wx : WX) (f : IS → IH → Out Bool) : TT := rdG g Wx (fun _ _ a b => b = a) f

section
variable {X : Cx}
theorem PEimp {e : Expr} {t t' : TE} (h : PE X e t) (k : ∀ σ H Q, t' σ H Q → t σ H Q) : PE X e t' := ⟨fun pins s σ H Q I q => h.run pins s σ H Q I (k _ _ _ q)⟩
theorem PTimp {e : Expr} {t t' : TT} (h : PT X e t) (k : ∀ σ H Q, t' σ H Q → t σ H Q) : PT X e t' := ⟨fun pins s σ H Q I q => h.run pins s σ H Q I (k _ _ _ q)⟩
theorem PAimp {e : List Expr} {t t' : TA} (h : PA X e t) (k : ∀ σ H Q, t' σ H Q → t σ H Q) : PA X e t' := ⟨fun p pins s σ H Q I q => h.run p pins s σ H Q I (k _ _ _ q)⟩
theorem PSimp {e : Stmt} {t t' : TS} (h : PS X e t) (k : ∀ D σ H, t' D σ H → t D σ H) : PS X e t' := ⟨fun pins s σ H D I q => h.run pins s σ H D I (k _ _ _ q)⟩
theorem PSsimp {e : List Stmt} {t t' : TS} (h : PSs X e t) (k : ∀ D σ H, t' D σ H → t D σ H) : PSs X e t' := ⟨fun pins s σ H D I q => h.run pins s σ H D I (k _ _ _ q)⟩
end
end Itp

set_option Elab.async false
set_option linter.all false
set_option autoImplicit false
set_option maxRecDepth 100000
/-! Itp, part B: the built-in operations on values, as functions; the small language; how it is run. -/
namespace Itp
open PySem PySem.Spec PyProof.Rows L2

def lineLen : Nat := 1000000

/-! ### values as data -/
/-- item by item -/
def allSome {α β : Type} (f : α → Option β) : List α → Option (List β)
  | [] => some []
  | x :: xs => match f x, allSome f xs with
    | some y, some ys => some (y :: ys)
    | _, _ => none
/-- a value as data; lists are read off the heap (n: how deep) -/
def dat (hp : IH) : Nat → W → Option PyData
  | 0, _ => none
  | n + 1, w => match w with
    | .non => some .none
    | .bl b => some (.bool b)
    | .int i => some (.int i)
    | .str s => some (.str s)
    | .tup ws => (allSome (dat hp n) ws).map .tuple
    | .ref r => match hp[r]? with
      | some (.lst ws) => (allSome (dat hp n) ws).map .list
      | some (.flst ws) => (allSome (dat hp n) ws).map .list
      | none => none
    | .ty _ => none

def truth (hp : IH) : W → Option Bool
  | .non => some false
  | .bl b => some b
  | .int i => some (i != 0)
  | .str y => if y.length ≤ lineLen then some ((y.length : Int) != 0) else none
  | .tup xs => some (!xs.isEmpty)
  | .ref n => match hp[n]? with
    | some (.lst xs) => some (!xs.isEmpty)
    | some (.flst xs) => some (!xs.isEmpty)
    | none => none
  | .ty _ => none

/-- the items of a list | a tuple -/
def itemsOf (hp : IH) : W → Option (List W)
  | .tup xs => some xs
  | .ref n => match hp[n]? with
    | some (.lst xs) => some xs
    | some (.flst xs) => some xs
    | none => none
  | _ => none

/-! ### operators -/
def mulOk (i j : Int) : Bool := decide (i.natAbs.log2 + j.natAbs.log2 < 134000000)
def binF (op : Operator) (a b : W) (hp : IH) : Option (W × IH) := match op, a, b with
  | .Add, .int i, .int j => some (.int (i + j), hp)
  | .Add, .str i, .str j => if i.length + j.length ≤ lineLen then some (.str (i ++ j), hp) else none
  | .Add, .tup xs, .tup ys => if xs.length + ys.length ≤ lineLen then some (.tup (xs ++ ys), hp) else none
  | .Add, .ref m, .ref n => match hp[m]?, hp[n]? with
    | some (.lst xs), some (.lst ys) => if xs.length + ys.length ≤ lineLen then some (.ref hp.length, hp ++ [.lst (xs ++ ys)]) else none
    | _, _ => none
  | .Sub, .int i, .int j => some (.int (i - j), hp)
  | .Mult, .int i, .int j => if mulOk i j then some (.int (i * j), hp) else none
  | .Mult, .ref m, .int k => match hp[m]? with
    | some (.lst xs) => if 0 ≤ k ∧ k ≤ 1000000 ∧ xs.length * k.toNat ≤ lineLen then some (.ref hp.length, hp ++ [.lst (List.replicate k.toNat xs).flatten]) else none
    | _ => none
  | .Mult, .tup xs, .int k => if xs ≠ [] ∧ 2 ≤ k ∧ k ≤ 1000 ∧ xs.length ≤ 1000 then some (.tup (List.replicate k.toNat xs).flatten, hp) else none
  | .Mult, .str x, .int k => if 0 ≤ k ∧ k ≤ 1000000 ∧ x.length ≤ lineLen ∧ x.length * k.toNat ≤ lineLen then some (.str (Txt.mul x k), hp) else none
  | .FloorDiv, .int i, .int j => if 0 < j ∧ Builtin.divisionGoesByPylong i j = false then some (.int (i / j), hp) else none
  | .Mod, .int i, .int j => if 0 < j then some (.int (i % j), hp) else none
  | .Pow, .int i, .int j => if 0 ≤ j ∧ j ≤ 1000000 ∧ i.natAbs < 2 ^ 64 then some (.int (i ^ j.toNat), hp) else none
  | _, _, _ => none

/-- op= of values that don't change in place -/
def ipF (op : Operator) (a b : W) (hp : IH) : Option (W × IH) := match op, a, b with
  | .Add, .int i, .int j => some (.int (i + j), hp)
  | .Add, .str i, .str j => if i.length + j.length ≤ lineLen then some (.str (i ++ j), hp) else none
  | .Sub, .int i, .int j => some (.int (i - j), hp)
  | _, _, _ => none

def strLt (i j : Str) : Bool := decide (i.cps.toList < j.cps.toList)
def isIn (x y : W) (hp : IH) : Option Bool := match y with
  | .str j => match x with
    | .str i => some (!(Builtin.Str.occurrences j i 0 j.length 1).isEmpty)
    | _ => none
  | _ => none
def depthMax : Nat := 60
/-- == by what the values hold -/
def eqD (a b : W) (hp : IH) : Option Bool := match dat hp depthMax a, dat hp depthMax b with
  | some d, some e => if SeqAt.shaped d = true ∧ SeqAt.shaped e = true then some (PyData.eqv d e) else none
  | _, _ => none
/-- == -/
def eqF (a b : W) (hp : IH) : Option Bool := match a, b with
  | .str x, .str y => some (decide (x = y))
  | a, b => eqD a b hp
/-- in a list | a tuple -/
def inF (a b : W) (hp : IH) : Option Bool := match b with
  | .str j => match a with
    | .str i => some (!(Builtin.Str.occurrences j i 0 j.length 1).isEmpty)
    | _ => none
  | _ => match dat hp depthMax a, dat hp depthMax b with
    | some d, some (.list ds) => if SeqAt.shaped d = true ∧ SeqAt.shaped (.list ds) = true then some (ds.any fun z => PyData.eqv z d) else none
    | some d, some (.tuple ds) => if SeqAt.shaped d = true ∧ SeqAt.shaped (.tuple ds) = true then some (ds.any fun z => PyData.eqv z d) else none
    | _, _ => none
def cmpB (op : CmpOp) (a b : W) (hp : IH) : Option Bool := match op with
  | .Eq => eqF a b hp
  | .NotEq => (eqF a b hp).map not
  | .Lt => match a, b with
    | .int i, .int j => some (decide (i < j))
    | .str i, .str j => some (strLt i j)
    | _, _ => none
  | .LtE => match a, b with
    | .int i, .int j => some (decide (i ≤ j))
    | .str i, .str j => some (!strLt j i)
    | _, _ => none
  | .Gt => match a, b with
    | .int i, .int j => some (decide (j < i))
    | .str i, .str j => some (strLt j i)
    | _, _ => none
  | .GtE => match a, b with
    | .int i, .int j => some (decide (j ≤ i))
    | .str i, .str j => some (!strLt i j)
    | _, _ => none
  | .Is => match a, b with
    | .non, .non => some true
    | .tup _, .non => some false
    | .ref _, .non => some false
    | .int _, .non => some false
    | .str _, .non => some false
    | .bl _, .non => some false
    | .bl i, .bl j => some (decide (i = j))
    | _, _ => none
  | .IsNot => match a, b with
    | .non, .non => some false
    | .tup _, .non => some true
    | .ref _, .non => some true
    | .int _, .non => some true
    | .str _, .non => some true
    | .bl _, .non => some true
    | .bl i, .bl j => some (!decide (i = j))
    | _, _ => none
  | .In => inF a b hp
  | .NotIn => (inF a b hp).map not
def cmpF (op : CmpOp) (a b : W) (hp : IH) : Option (W × IH) := (cmpB op a b hp).map fun c => (.bl c, hp)

/-! ### subscripts -/
def subF (a i : W) (hp : IH) : Option (W × IH) := match a, i with
  | .tup xs, .int k => (atI xs k).map fun w => (w, hp)
  | .ref n, .int k => match hp[n]? with
    | some (.lst xs) => (atI xs k).map fun w => (w, hp)
    | some (.flst xs) => (atI xs k).map fun w => (w, hp)
    | none => none
  | .str z, .int k => if z.length ≤ lineLen then (atI z.cps.toList k).map fun c => (.str ⟨#[c]⟩, hp) else none
  | _, _ => none
def cutL {α : Type} (xs : List α) (lo hi : Option Int) : List α := (xs.drop (HT.sIx xs.length 0 lo)).take (HT.sIx xs.length xs.length hi - HT.sIx xs.length 0 lo)
def slcF (a : W) (lo hi : Option Int) (hp : IH) : Option (W × IH) := match a with
  | .tup xs => some (.tup (cutL xs lo hi), hp)
  | .ref n => match hp[n]? with
    | some (.lst xs) => some (.ref hp.length, hp ++ [.lst (cutL xs lo hi)])
    | some (.flst xs) => some (.ref hp.length, hp ++ [.lst (cutL xs lo hi)])
    | none => none
  | .str z => if z.length ≤ lineLen then some (.str (cutS z lo hi), hp) else none
  | _ => none
/-- o[i] of a list, i not below 0 -/
def getF (a i : W) (hp : IH) : Option W := match a, i with
  | .ref n, .int k => match hp[n]? with
    | some (.lst xs) => if 0 ≤ k ∧ k ≤ 1000000 then xs[k.toNat]? else none
    | _ => none
  | _, _ => none
/-- o[i] = v -/
def setF (o i v : W) (hp : IH) : Option IH := match o, i with
  | .ref n, .int k => match hp[n]? with
    | some (.lst xs) => (ixN xs.length k).map fun j => hp.set n (.lst (xs.set j v))
    | _ => none
  | _, _ => none

/-! ### built-in functions -/
inductive BF where
  | len | abs | max | min | divmod | all | any | sum | isinstance | ord | repr
  | tInt | tStr | tList | tTuple | tBool
  deriving DecidableEq
def tyName (hp : IH) : W → Option String
  | .non => some "NoneType"
  | .bl _ => some "bool"
  | .int _ => some "int"
  | .str _ => some "str"
  | .tup _ => some "tuple"
  | .ref n => match hp[n]? with
    | some _ => some "list"
    | none => none
  | .ty _ => none
/-- isinstance by the built-in types' names -/
def isTy (t u : String) : Bool := t == u || (t == "bool" && u == "int")
def okTy (u : String) : Bool := ["int", "bool", "str", "tuple", "list"].contains u
def boolsOf : List W → Option (List Bool)
  | [] => some []
  | .bl b :: r => (boolsOf r).map (b :: ·)
  | _ => none
def intsOf : List W → Option (List Int)
  | [] => some []
  | .int i :: r => (intsOf r).map (i :: ·)
  | _ => none
def tysOf : List W → Option (List String)
  | [] => some []
  | .ty n :: r => (tysOf r).map (n :: ·)
  | _ => none
def strsOf : List W → Option (List Str)
  | [] => some []
  | .str x :: r => (strsOf r).map (x :: ·)
  | _ => none
def bfF (f : BF) (ws : List W) (hp : IH) : Option (W × IH) := match f, ws with
  | .len, [.str y] => if y.length ≤ lineLen then some (.int y.length, hp) else none
  | .len, [w] => (itemsOf hp w).map fun xs => (.int xs.length, hp)
  | .abs, [.int i] => some (.int (if i < 0 then -i else i), hp)
  | .max, [.int i, .int j] => some (.int (if j > i then j else i), hp)
  | .min, [.int i, .int j] => some (.int (if j < i then j else i), hp)
  | .divmod, [.int i, .int j] => if 0 < j ∧ Builtin.divisionGoesByPylong i j = false then some (.tup [.int (i / j), .int (i % j)], hp) else none
  | .all, [.ref n] => match hp[n]? with
    | some (.lst xs) => (boolsOf xs).map fun bs => (.bl (bs.all id), hp)
    | _ => none
  | .any, [.ref n] => match hp[n]? with
    | some (.lst xs) => (boolsOf xs).map fun bs => (.bl (bs.any id), hp)
    | _ => none
  | .sum, [.ref n] => match hp[n]? with
    | some (.lst xs) => (intsOf xs).map fun is => (.int is.sum, hp)
    | _ => none
  | .isinstance, [w, .ty n] => if okTy n then (tyName hp w).map fun t => (.bl (isTy t n), hp) else none
  | .isinstance, [w, .tup ts] => match tysOf ts with
    | some ns => if ns.all okTy then (tyName hp w).map fun t => (.bl (ns.any fun n => isTy t n), hp) else none
    | none => none
  | .ord, [.str x] => if x.length = 1 then some (.int (x.cps.getD 0 0 : Nat), hp) else none
  | .tInt, [.int i] => some (.int i, hp)
  | .tInt, [.bl k] => some (.int (if k then 1 else 0), hp)
  | .tInt, [.str a] => if a.length ≤ 640 then (PySem.intText? a).map fun n => (.int n, hp) else none
  | .tStr, [.int i] => if i.natAbs.log2 < 1920 then some (.str (toString i), hp) else none
  | .tStr, [.str a] => some (.str a, hp)
  | .tList, [w] => (itemsOf hp w).map fun xs => (.ref hp.length, hp ++ [.lst xs])
  | .tTuple, [w] => (itemsOf hp w).map fun xs => (.tup xs, hp)
  | .repr, [w] => match dat hp depthMax w with
    | some d => if d.showable = true ∧ d.hasDict = false ∧ d.depth ≤ depthMax ∧ d.shown.length ≤ lineLen then some (.str d.shown, hp) else none
    | none => none
  | _, _ => none

/-! ### methods of built-in types -/
inductive BM where
  | append | extend | pop | join | count | rfind | isalpha | index | upper
  deriving DecidableEq
def bmF (m : BM) (o : W) (ws : List W) (hp : IH) : Option (W × IH) := match m, o, ws with
  | .append, .ref n, [w] => match hp[n]? with
    | some (.lst xs) => if xs.length < lineLen then some (.non, hp.set n (.lst (xs ++ [w]))) else none
    | _ => none
  | .extend, .ref n, [.ref m] => match hp[n]?, hp[m]? with
    | some (.lst xs), some (.lst ys) => if xs.length + ys.length ≤ lineLen then some (.non, hp.set n (.lst (xs ++ ys))) else none
    | _, _ => none
  | .pop, .ref n, [] => match hp[n]? with
    | some (.lst xs) => (xs[xs.length - 1]?).map fun w => (w, hp.set n (.lst xs.dropLast))
    | _ => none
  | .join, .str a, [w] => match itemsOf hp w with
    | some ws => match strsOf ws with
      | some ys => if (ys.map (·.length)).sum + ys.length * a.length ≤ lineLen then some (.str (Txt.join a ys), hp) else none
      | none => none
    | none => none
  | .count, .str a, [.str b] => some (.int (Txt.count a b), hp)
  | .rfind, .str a, [.str b] => some (.int (Txt.rfind a b), hp)
  | .isalpha, .str a, [] => some (.bl (Txt.isalpha a), hp)
  | .upper, .str a, [] => if a.length ≤ lineLen then some (.str (Txt.upper a), hp) else none
  | .index, .str a, [.str b] => (Builtin.Str.occurrences a b 0 a.length 1).head?.map fun i => (.int (i : Nat), hp)
  | _, _, _ => none

/-- whether the receiver is of the method's type -/
def recOk (m : BM) (o : W) (hp : IH) : Bool := match m, o with
  | .append, .ref n => match hp[n]? with | some (.lst _) => true | _ => false
  | .extend, .ref n => match hp[n]? with | some (.lst _) => true | _ => false
  | .pop, .ref n => match hp[n]? with | some (.lst _) => true | _ => false
  | .append, _ => false
  | .extend, _ => false
  | .pop, _ => false
  | _, .str _ => true
  | _, _ => false

/-! ### the language -/
inductive Tgt where
  | name (i : Nat)
  | tup (ts : List Tgt)
mutual
inductive IE where
  | var (i : Nat)
  | cst (w : W)
  | tup (es : List IE)
  | lst (es : List IE)
  | bin (op : Operator) (a b : IE)
  | neg (a : IE)
  | not (a : IE)
  | cmp (op : CmpOp) (a b : IE)
  | chn (op op' : CmpOp) (a b c : IE)
  | and (a b : IE)
  | or (a b : IE)
  | ite (c : IT) (a b : IE)
  | call (f : Nat) (es : List IE)
  | callk (f : Nat) (perm : List Nat) (es ks : List IE)
  | blt (f : BF) (es : List IE)
  | meth (m : BM) (o : IE) (es : List IE)
  | sub (a i : IE)
  | slc (a : IE) (lo hi : Option IE)
  | comp (elt : IE) (tgt : Tgt) (it : IIt) (cond : Option IT) (own : List Nat)
inductive IT where
  | not (a : IT)
  | and (a b : IT)
  | or (a b : IT)
  | cmp (op : CmpOp) (a b : IE)
  | chn (op op' : CmpOp) (a b c : IE)
  | tru (e : IE)
inductive IIt where
  | val (e : IE)
  | rng (e : IE)
  | rng2 (a b : IE)
  | enum (e : IE)
  | zip (a b : IE)
end
inductive STgt where
  | name (i : Nat)
  | sub (o i : IE)
  | tup (ts : List STgt)
inductive IStm where
  | expr (e : IE)
  | ret (e : IE)
  | retN
  | asg (t : STgt) (e : IE)
  | augN (i : Nat) (op : Operator) (e : IE)
  | augS (o i : IE) (op : Operator) (e : IE)
  | ite (c : IT) (a b : List IStm)
  | forS (t : Tgt) (it : IIt) (body : List IStm)
  | whl (c : IT) (body : List IStm)
  | pass
  | brk
  | cont
  | nev

/-! ### how it runs -/
/-- what is walked: a list (as it is at each turn), a tuple, a text, a range, with places, two at once -/
inductive Iter where
  | lstR (n : Nat)
  | tupR (ws : List W)
  | strR (s : Str)
  | rng (lo : Int) (n : Nat)
  | enum (it : Iter)
  | zip (a b : Iter)
/-- the i-th item now; none within: no further one -/
def cur : Iter → Nat → IH → Option (Option W)
  | .lstR n, i, hp => match hp[n]? with
    | some (.lst xs) => some xs[i]?
    | some (.flst xs) => some xs[i]?
    | none => none
  | .tupR xs, i, _ => some xs[i]?
  | .strR s, i, _ => some (s.cps[i]?.map fun c => .str ⟨#[c]⟩)
  | .rng lo n, i, _ => some (if i < n then some (.int (lo + i)) else none)
  | .enum it, i, hp => (cur it i hp).map fun o => o.map fun w => .tup [.int i, w]
  | .zip a b, i, hp => match cur a i hp, cur b i hp with
    | some (some x), some (some y) => some (some (.tup [x, y]))
    | some _, some _ => some none
    | _, _ => none
def itLen : Iter → IH → Nat
  | .lstR n, hp => match hp[n]? with
    | some (.lst xs) => xs.length
    | some (.flst xs) => xs.length
    | none => 0
  | .tupR xs, _ => xs.length
  | .strR s, _ => s.cps.size
  | .rng _ n, _ => n
  | .enum it, hp => itLen it hp
  | .zip a b, hp => min (itLen a hp) (itLen b hp)
/-- what a value is walked as -/
def iterOf (w : W) (hp : IH) : Option Iter := match w with
  | .tup ws => some (.tupR ws)
  | .ref n => match hp[n]? with
    | some _ => some (.lstR n)
    | none => none
  | .str s => some (.strR s)
  | _ => none
/-- what enumerate walks -/
def iterE (w : W) (hp : IH) : Option Iter := match w with
  | .ref n => match hp[n]? with
    | some _ => some (.lstR n)
    | none => none
  | .str s => some (.strR s)
  | _ => none
/-- what zip walks: two lists, two tuples -/
def iterZ (w u : W) (hp : IH) : Option Iter := match w, u with
  | .ref m, .ref n => match hp[m]?, hp[n]? with
    | some _, some _ => some (.zip (.lstR m) (.lstR n))
    | _, _ => none
  | .tup ws, .tup us => some (.zip (.tupR ws) (.tupR us))
  | _, _ => none

mutual
def asgT : Tgt → W → IS → Option IS
  | .name i, w, ρ => some (ρ.set i (some w))
  | .tup ts, .tup ws, ρ => asgTs ts ws ρ
  | .tup _, _, _ => none
def asgTs : List Tgt → List W → IS → Option IS
  | [], [], ρ => some ρ
  | t :: ts, w :: ws, ρ => match asgT t w ρ with
    | some ρ' => asgTs ts ws ρ'
    | none => none
  | _, _, _ => none
end

/-- the slots of a comprehension's own names forgotten -/
def wipeI (ρ : IS) : List Nat → IS
  | [] => ρ
  | v :: vs => (wipeI ρ vs).set v none

/-- a comprehension's turns: D the new list's place -/
def compL (elt : IS → IH → Out W) (cond : IS → IH → Out Bool) (t : Tgt) (it : Iter) (D : Nat) (ρ : IS) : Nat → Nat → IH → Out W
  | 0, i, hp => match cur it i hp with
    | some none => .ok (.ref D) hp
    | _ => .stuck
  | k + 1, i, hp => match cur it i hp with
    | some (some w) => match asgT t w ρ with
      | some ρ' => match cond ρ' hp with
        | .ok true hp1 => match elt ρ' hp1 with
          | .ok y hp2 => match hp2[D]? with
            | some (.lst acc) => if acc.length < lineLen then compL elt cond t it D ρ k (i + 1) (hp2.set D (.lst (acc ++ [y]))) else .stuck
            | _ => .stuck
          | _ => .stuck
        | .ok false hp1 => compL elt cond t it D ρ k (i + 1) hp1
        | _ => .stuck
      | none => .stuck
    | some none => .ok (.ref D) hp
    | none => .stuck

def pm {α : Type} (perm : List Nat) (l : List α) : List α := perm.filterMap fun j => l[j]?
abbrev FEnv := Nat → List W → IH → Out W
mutual
def ev (F : FEnv) : IE → IS → IH → Out W
  | .var i, ρ, hp => match ρ[i]? with
    | some (some w) => .ok w hp
    | _ => .stuck
  | .cst w, _, hp => .ok w hp
  | .tup es, ρ, hp => (evs F es ρ hp).bind fun ws hp => if ws.length ≤ lineLen then .ok (.tup ws) hp else .stuck
  | .lst es, ρ, hp => (evs F es ρ hp).bind fun ws hp => if ws.length ≤ lineLen then .ok (.ref hp.length) (hp ++ [.lst ws]) else .stuck
  | .bin op a b, ρ, hp => (ev F a ρ hp).bind fun x hp => (ev F b ρ hp).bind fun y hp => .of (binF op x y hp)
  | .neg a, ρ, hp => (ev F a ρ hp).bind fun x hp => match x with
    | .int i => .ok (.int (-i)) hp
    | _ => .stuck
  | .not a, ρ, hp => (ev F a ρ hp).bind fun x hp => match truth hp x with
    | some c => .ok (.bl (!c)) hp
    | none => .stuck
  | .cmp op a b, ρ, hp => (ev F a ρ hp).bind fun x hp => (ev F b ρ hp).bind fun y hp => .of (cmpF op x y hp)
  | .chn op op' a b c, ρ, hp => (ev F a ρ hp).bind fun x hp => (ev F b ρ hp).bind fun y hp => match cmpB op x y hp with
    | some true => (ev F c ρ hp).bind fun z hp => .of (cmpF op' y z hp)
    | some false => .ok (.bl false) hp
    | none => .stuck
  | .and a b, ρ, hp => (ev F a ρ hp).bind fun x hp => match truth hp x with
    | some true => ev F b ρ hp
    | some false => .ok x hp
    | none => .stuck
  | .or a b, ρ, hp => (ev F a ρ hp).bind fun x hp => match truth hp x with
    | some true => .ok x hp
    | some false => ev F b ρ hp
    | none => .stuck
  | .ite c a b, ρ, hp => (tst F c ρ hp).bind fun k hp => if k then ev F a ρ hp else ev F b ρ hp
  | .call f es, ρ, hp => (evs F es ρ hp).bind fun ws hp => F f ws hp
  | .callk f perm es ks, ρ, hp => (evs F es ρ hp).bind fun ws hp => (evs F ks ρ hp).bind fun zs hp => if ws.length = es.length ∧ zs.length = ks.length then F f (pm perm (ws ++ zs)) hp else .stuck
  | .blt f es, ρ, hp => (evs F es ρ hp).bind fun ws hp => .of (bfF f ws hp)
  | .meth m o es, ρ, hp => (ev F o ρ hp).bind fun x hp => if recOk m x hp then (evs F es ρ hp).bind fun ws hp => .of (bmF m x ws hp) else .stuck
  | .sub a i, ρ, hp => (ev F a ρ hp).bind fun x hp => (ev F i ρ hp).bind fun y hp => .of (subF x y hp)
  | .slc a lo hi, ρ, hp => (ev F a ρ hp).bind fun x hp => (evO F lo ρ hp).bind fun l hp => (evO F hi ρ hp).bind fun h hp => .of (slcF x l h hp)
  | .comp elt tgt it cond own, ρ, hp => (evIt F it ρ hp).bind fun J hp =>
      compL (ev F elt) (tstO F cond) tgt J hp.length (wipeI ρ own) (itLen J hp) 0 (hp ++ [.lst []])
def evs (F : FEnv) : List IE → IS → IH → Out (List W)
  | [], _, hp => .ok [] hp
  | e :: es, ρ, hp => (ev F e ρ hp).bind fun w hp => (evs F es ρ hp).bind fun ws hp => .ok (w :: ws) hp
def evO (F : FEnv) : Option IE → IS → IH → Out (Option Int)
  | none, _, hp => .ok none hp
  | some e, ρ, hp => (ev F e ρ hp).bind fun w hp => match w with
    | .int i => .ok (some i) hp
    | _ => .stuck
def tstO (F : FEnv) : Option IT → IS → IH → Out Bool
  | none, _, hp => .ok true hp
  | some e, ρ, hp => tst F e ρ hp
def evIt (F : FEnv) : IIt → IS → IH → Out Iter
  | .val e, ρ, hp => (ev F e ρ hp).bind fun w hp => match iterOf w hp with
    | some J => .ok J hp
    | none => .stuck
  | .rng e, ρ, hp => (ev F e ρ hp).bind fun w hp => match w with
    | .int j => if -(2 ^ 62) ≤ j ∧ j < 2 ^ 62 then .ok (.rng 0 j.toNat) hp else .stuck
    | _ => .stuck
  | .rng2 a b, ρ, hp => (ev F a ρ hp).bind fun w hp => (ev F b ρ hp).bind fun u hp => match w, u with
    | .int i, .int j => if -(2 ^ 62) ≤ i ∧ i < 2 ^ 62 ∧ -(2 ^ 62) ≤ j ∧ j < 2 ^ 62 then .ok (.rng i (j - i).toNat) hp else .stuck
    | _, _ => .stuck
  | .enum e, ρ, hp => (ev F e ρ hp).bind fun w hp => match iterE w hp with
    | some J => .ok (.enum J) hp
    | none => .stuck
  | .zip a b, ρ, hp => (ev F a ρ hp).bind fun w hp => (ev F b ρ hp).bind fun u hp => match iterZ w u hp with
    | some J => .ok J hp
    | none => .stuck
def tst (F : FEnv) : IT → IS → IH → Out Bool
  | .not a, ρ, hp => (tst F a ρ hp).bind fun c hp => .ok (!c) hp
  | .and a b, ρ, hp => (tst F a ρ hp).bind fun c hp => if c then tst F b ρ hp else .ok false hp
  | .or a b, ρ, hp => (tst F a ρ hp).bind fun c hp => if c then .ok true hp else tst F b ρ hp
  | .cmp op a b, ρ, hp => (ev F a ρ hp).bind fun x hp => (ev F b ρ hp).bind fun y hp => match cmpB op x y hp with
    | some c => .ok c hp
    | none => .stuck
  | .chn op op' a b c, ρ, hp => (ev F a ρ hp).bind fun x hp => (ev F b ρ hp).bind fun y hp => match cmpB op x y hp with
    | some true => (ev F c ρ hp).bind fun z hp => match cmpB op' y z hp with
      | some c => .ok c hp
      | none => .stuck
    | some false => .ok false hp
    | none => .stuck
  | .tru e, ρ, hp => (ev F e ρ hp).bind fun w hp => match truth hp w with
    | some c => .ok c hp
    | none => .stuck
end

/-- how statements end -/
inductive SOut where
  | nx (ρ : IS) (hp : IH)
  | rt (w : W) (hp : IH)
  | bk (ρ : IS) (hp : IH)
  | ct (ρ : IS) (hp : IH)
  | err (c : Nat) (fs : List (Str × W)) (ρ : IS) (hp : IH)
  | stuck
def Out.then {α : Type} (o : Out α) (ρ : IS) (k : α → IH → SOut) : SOut := match o with
  | .ok a hp => k a hp
  | .err c fs hp => .err c fs ρ hp
  | .stuck => .stuck
@[simp] theorem Out.then_ok {α : Type} (a : α) (hp : IH) (ρ : IS) (k : α → IH → SOut) : (Out.ok a hp).then ρ k = k a hp := rfl
@[simp] theorem Out.then_err {α : Type} (c : Nat) (fs : List (Str × W)) (hp : IH) (ρ : IS) (k : α → IH → SOut) : (Out.err c fs hp).then ρ k = .err c fs ρ hp := rfl
@[simp] theorem Out.then_stuck {α : Type} (ρ : IS) (k : α → IH → SOut) : (Out.stuck : Out α).then ρ k = .stuck := rfl
def SOut.seq (o : SOut) (k : IS → IH → SOut) : SOut := match o with
  | .nx ρ hp => k ρ hp
  | o => o
@[simp] theorem SOut.seq_nx (ρ : IS) (hp : IH) (k : IS → IH → SOut) : (SOut.nx ρ hp).seq k = k ρ hp := rfl
@[simp] theorem SOut.seq_rt (w : W) (hp : IH) (k : IS → IH → SOut) : (SOut.rt w hp).seq k = .rt w hp := rfl
@[simp] theorem SOut.seq_bk (ρ : IS) (hp : IH) (k : IS → IH → SOut) : (SOut.bk ρ hp).seq k = .bk ρ hp := rfl
@[simp] theorem SOut.seq_ct (ρ : IS) (hp : IH) (k : IS → IH → SOut) : (SOut.ct ρ hp).seq k = .ct ρ hp := rfl
@[simp] theorem SOut.seq_err (c : Nat) (fs : List (Str × W)) (ρ : IS) (hp : IH) (k : IS → IH → SOut) : (SOut.err c fs ρ hp).seq k = .err c fs ρ hp := rfl
@[simp] theorem SOut.seq_stuck (k : IS → IH → SOut) : SOut.stuck.seq k = .stuck := rfl

/-- what a value may be unpacked into -/
def unpk (w : W) (n : Nat) (hp : IH) : Option (List W) := match itemsOf hp w with
  | some ws => if ws.length = n then some ws else none
  | none => none
mutual
/-- a value stored; .nx: done -/
def sto (F : FEnv) : STgt → W → IS → IH → SOut
  | .name i, w, ρ, hp => .nx (ρ.set i (some w)) hp
  | .sub o i, w, ρ, hp => (ev F o ρ hp).then ρ fun x hp => (ev F i ρ hp).then ρ fun y hp => match setF x y w hp with
    | some hp => .nx ρ hp
    | none => .stuck
  | .tup ts, w, ρ, hp => match unpk w ts.length hp with
    | some ws => stos F ts ws ρ hp
    | none => .stuck
def stos (F : FEnv) : List STgt → List W → IS → IH → SOut
  | [], [], ρ, hp => .nx ρ hp
  | t :: ts, w :: ws, ρ, hp => (sto F t w ρ hp).seq fun ρ hp => stos F ts ws ρ hp
  | _, _, _, _ => .stuck
end

/-- a for's turns -/
def forL (body : IS → IH → SOut) (t : Tgt) (it : Iter) : Nat → Nat → IS → IH → SOut
  | 0, i, ρ, hp => match cur it i hp with
    | some none => .nx ρ hp
    | _ => .stuck
  | k + 1, i, ρ, hp => match cur it i hp with
    | some (some w) => match asgT t w ρ with
      | some ρ' => match body ρ' hp with
        | .nx ρ2 hp2 => forL body t it k (i + 1) ρ2 hp2
        | .ct ρ2 hp2 => forL body t it k (i + 1) ρ2 hp2
        | .bk ρ2 hp2 => .nx ρ2 hp2
        | o => o
      | none => .stuck
    | some none => .nx ρ hp
    | none => .stuck
/-- a while's turns -/
def whlL (c : IS → IH → Out Bool) (body : IS → IH → SOut) : Nat → IS → IH → SOut
  | 0, _, _ => .stuck
  | n + 1, ρ, hp => (c ρ hp).then ρ fun k hp => if k then
      match body ρ hp with
      | .nx ρ2 hp2 => whlL c body n ρ2 hp2
      | .ct ρ2 hp2 => whlL c body n ρ2 hp2
      | .bk ρ2 hp2 => .nx ρ2 hp2
      | o => o
    else .nx ρ hp

mutual
def evS (F : FEnv) (gas : Nat) : IStm → IS → IH → SOut
  | .expr e, ρ, hp => (ev F e ρ hp).then ρ fun _ hp => .nx ρ hp
  | .ret e, ρ, hp => (ev F e ρ hp).then ρ fun w hp => .rt w hp
  | .retN, _, hp => .rt .non hp
  | .asg t e, ρ, hp => (ev F e ρ hp).then ρ fun w hp => sto F t w ρ hp
  | .augN i op e, ρ, hp => match ρ[i]? with
    | some (some x) => (ev F e ρ hp).then ρ fun y hp => match ipF op x y hp with
      | some (z, hp) => .nx (ρ.set i (some z)) hp
      | none => .stuck
    | _ => .stuck
  | .augS o i op e, ρ, hp => (ev F o ρ hp).then ρ fun x hp => (ev F i ρ hp).then ρ fun j hp => match getF x j hp with
    | some v => (ev F e ρ hp).then ρ fun y hp => match ipF op v y hp with
      | some (z, hp) => match setF x j z hp with
        | some hp => .nx ρ hp
        | none => .stuck
      | none => .stuck
    | none => .stuck
  | .ite c a b, ρ, hp => (tst F c ρ hp).then ρ fun k hp => if k then evSs F gas a ρ hp else evSs F gas b ρ hp
  | .forS t it body, ρ, hp => (evIt F it ρ hp).then ρ fun J hp => forL (evSs F gas body) t J (itLen J hp) 0 ρ hp
  | .whl c body, ρ, hp => whlL (tst F c) (evSs F gas body) gas ρ hp
  | .pass, ρ, hp => .nx ρ hp
  | .brk, ρ, hp => .bk ρ hp
  | .cont, ρ, hp => .ct ρ hp
  | .nev, _, _ => .stuck
def evSs (F : FEnv) (gas : Nat) : List IStm → IS → IH → SOut
  | [], ρ, hp => .nx ρ hp
  | s :: ss, ρ, hp => (evS F gas s ρ hp).seq fun ρ hp => evSs F gas ss ρ hp
end
/-- a def's body at its arguments; n: how many names it has -/
def runB (F : FEnv) (gas : Nat) (body : List IStm) (n : Nat) (ws : List W) (hp : IH) : Out W :=
  match evSs F gas body (ws.map some ++ List.replicate (n - ws.length) none) hp with
  | .rt w hp => .ok w hp
  | .nx _ hp => .ok .non hp
  | .err c fs _ hp => .err c fs hp
  | _ => .stuck
end Itp

set_option Elab.async false
set_option linter.all false
set_option autoImplicit false
set_option maxRecDepth 100000
set_option maxHeartbeats 4000000
/-! Itp, part C: the built-in operations are what the hand layer's rules say. -/
namespace Itp
open PySem PySem.Spec PyProof.Rows L2
theorem line_le {n : Nat} (h : n ≤ lineLen) : n ≤ sizeLine := Nat.le_trans h (by decide)
theorem line_lt {n : Nat} (h : n < lineLen) : n < sizeLine := Nat.lt_of_lt_of_le h (by decide)
theorem line_le' {n : Nat} (h : n ≤ lineLen) : n ≤ 16777216 := Nat.le_trans h (by decide)

section
variable {K : PySem.W.Frag} {ι : List Addr} {hp : IH} {H : Hp} {n : Nat} {ws : List W}
theorem Sim.lstAt (s : Sim K ι hp H) (h : hp[n]? = some (.lst ws)) : ∃ a xs, ι[n]? = some a ∧ H a = some (.lst xs) ∧ Reps K ι H ws xs := by
  obtain ⟨a, ha, xs, h1, h2⟩ := s.addr h
  exact ⟨a, xs, ha, h1, h2⟩
/-- a list that is read -/
theorem Sim.seqAt (s : Sim K ι hp H) {o : IO} (h : hp[n]? = some o) : ∃ a xs ws, ι[n]? = some a ∧ SqL K H a xs ∧ Reps K ι H ws xs ∧ (o = .lst ws ∨ o = .flst ws) := by
  obtain ⟨a, ha, r⟩ := s.addr h
  cases o with
  | lst ws =>
    obtain ⟨xs, h1, h2⟩ := r
    exact ⟨a, xs, ws, ha, .inl (.inl h1), h2, .inl rfl⟩
  | flst ws =>
    obtain ⟨xs, h1, h2⟩ := r
    exact ⟨a, xs, ws, ha, h1.sq, h2, .inr rfl⟩
theorem Rep.ref {v : V} {a : Addr} (h : Rep K ι H (.ref n) v) (ha : ι[n]? = some a) : v = .ref a := by
  obtain ⟨b, hb, rfl⟩ := h
  rw [ha] at hb
  cases hb
  rfl
/-- the newest list -/
theorem Sim.newest (s : Sim K ι hp H) {p : Addr} : (ι ++ [p])[hp.length]? = some p := by
  rw [← s.len, List.getElem?_append_right (Nat.le_refl _)]
  simp
/-- items of a list | a tuple -/
theorem Sim.items (s : Sim K ι hp H) {w : W} {v : V} (h : itemsOf hp w = some ws) (r : Rep K ι H w v) : ∃ a xs, v = .ref a ∧ Reps K ι H ws xs ∧ (SqL K H a xs ∨ SqT K H a xs) := by
  cases w with
  | tup us =>
    obtain ⟨a, xs, rfl, h1, h2⟩ := r
    cases h
    exact ⟨a, xs, rfl, h2, .inr h1⟩
  | ref m =>
    cases e : hp[m]? with
    | none => simp only [itemsOf, e] at h; cases h
    | some o =>
      obtain ⟨a, xs, us, ha, hq, hr, ho⟩ := s.seqAt e
      have ev := Rep.ref r ha
      rcases ho with rfl | rfl
      · simp only [itemsOf, e] at h
        cases h
        exact ⟨a, xs, ev, hr, .inl hq⟩
      · simp only [itemsOf, e] at h
        cases h
        exact ⟨a, xs, ev, hr, .inl hq⟩
  | non => cases h
  | bl b => cases h
  | int i => cases h
  | str x => cases h
  | ty t => cases h

/-! ### data -/
theorem dat_list (K : PySem.W.Frag) (ι : List Addr) (H : Hp) {f : W → Option PyData} (hf : ∀ w d v, f w = some d → Rep K ι H w v → Dp K H v d) : ∀ (ws : List W) (ds : List PyData) (xs : List V), allSome f ws = some ds → Reps K ι H ws xs → DpAll K H xs ds
  | [], ds, xs, h, r => by
    cases h
    subst r
    exact .nil
  | w :: ws, ds, xs, h, r => by
    obtain ⟨v, vs, rfl, r1, r2⟩ := r
    unfold allSome at h
    split at h
    · rename_i d ds' e1 e2
      cases h
      exact .cons (hf _ _ _ e1 r1) (dat_list K ι H hf ws ds' vs e2 r2)
    · cases h
theorem Sim.dat (s : Sim K ι hp H) : ∀ (m : Nat) (w : W) (d : PyData) (v : V), dat hp m w = some d → Rep K ι H w v → Dp K H v d
  | 0, w, d, v, h, r => by
    simp only [Itp.dat] at h
    cases h
  | m + 1, w, d, v, h, r => by
    unfold Itp.dat at h
    cases w with
    | non => cases h; cases r; exact .non
    | bl b => cases h; cases r; exact .bl b
    | int i => cases h; cases r; exact .int i
    | str x => cases h; cases r; exact .str x
    | ty t => cases h
    | tup us =>
      obtain ⟨a, xs, rfl, h1, h2⟩ := r
      simp only [Option.map_eq_some_iff] at h
      obtain ⟨ds, e, rfl⟩ := h
      exact .tup h1 (dat_list K ι H (fun w d v => Sim.dat s m w d v) us ds xs e h2)
    | ref k =>
      cases e : hp[k]? with
      | none => simp only [e] at h; cases h
      | some o =>
        obtain ⟨a, xs, us, ha, hq, hr, ho⟩ := s.seqAt e
        have ev := Rep.ref r ha
        subst ev
        rcases ho with rfl | rfl
        · simp only [e, Option.map_eq_some_iff] at h
          obtain ⟨ds, e2, rfl⟩ := h
          exact .lst hq (dat_list K ι H (fun w d v => Sim.dat s m w d v) us ds xs e2 hr)
        · simp only [e, Option.map_eq_some_iff] at h
          obtain ⟨ds, e2, rfl⟩ := h
          exact .lst hq (dat_list K ι H (fun w d v => Sim.dat s m w d v) us ds xs e2 hr)
/-! ### truth -/
theorem isEmpty_reps {xs : List V} (h : Reps K ι H ws xs) : xs.isEmpty = ws.isEmpty := by
  cases ws with
  | nil => cases h; rfl
  | cons w ws =>
    obtain ⟨v, vs, rfl, _⟩ := h
    rfl
theorem Sim.truth (s : Sim K ι hp H) {w : W} {v : V} {k : Bool} (h : truth hp w = some k) (r : Rep K ι H w v) : TruV K v H k := by
  cases w with
  | non => cases h; cases r; rfl
  | bl b => cases h; cases r; rfl
  | int i => cases h; cases r; rfl
  | str x =>
    cases r
    simp only [Itp.truth] at h
    split at h
    · rename_i hl
      cases h
      exact ⟨line_le hl, rfl⟩
    · cases h
  | ty t => cases h
  | tup us =>
    obtain ⟨a, xs, rfl, h1, h2⟩ := r
    cases h
    exact .inr (.inl ⟨xs, h1, by rw [isEmpty_reps h2]⟩)
  | ref m =>
    cases e : hp[m]? with
    | none => simp only [Itp.truth, e] at h; cases h
    | some o =>
      obtain ⟨a, xs, us, ha, hq, hr, ho⟩ := s.seqAt e
      have ev := Rep.ref r ha
      subst ev
      rcases ho with rfl | rfl
      · simp only [Itp.truth, e] at h
        cases h
        exact .inl ⟨xs, hq, by rw [isEmpty_reps hr]⟩
      · simp only [Itp.truth, e] at h
        cases h
        exact .inl ⟨xs, hq, by rw [isEmpty_reps hr]⟩
end

/-- what an operation of two values gives -/
def rF2 (K : PySem.W.Frag) (f : W → W → IH → Option (W × IH)) : R2 := fun x y H Q => ∃ ι hp a b w hp', Sim K ι hp H ∧ Rep K ι H a x ∧ Rep K ι H b y ∧ f a b hp = some (w, hp') ∧
  ∀ v H' ι', Ext ι H ι' H' → Sim K ι' hp' H' → Rep K ι' H' w v → Q v H'
section
variable {X : Cx}
theorem op_bin (op : Operator) : OpR X (binaryOp op) (rF2 X.K (binF op)) := by
  intro pins s σ H x y v u Q I rx ry h
  obtain ⟨ι, hp, a, b, w, hp', sim, ra, rb, e, k⟩ := h
  unfold binF at e
  split at e
  · rename_i i j
    obtain rfl : x = .int i := ra
    obtain rfl : y = .int j := rb
    cases e
    exact op_add pins s σ H _ _ v u Q I rx ry ⟨i, j, rfl, rfl, k _ _ _ (Ext.refl _ _) sim rfl⟩
  · rename_i i j
    obtain rfl : x = .str i := ra
    obtain rfl : y = .str j := rb
    split at e
    · rename_i hl
      cases e
      exact op_add_str pins s σ H _ _ v u Q I rx ry ⟨i, j, rfl, rfl, line_le hl, k _ _ _ (Ext.refl _ _) sim rfl⟩
    · cases e
  · rename_i xs ys
    obtain ⟨pa, vs, rfl, ha, ra⟩ := ra
    obtain ⟨pb, us, rfl, hb, rb⟩ := rb
    split at e
    · rename_i hl
      cases e
      refine op_catA pins s σ H _ _ v u Q I rx ry ⟨pa, pb, vs, us, rfl, rfl, ha, hb, ?_, fun e0 => ?_, fun _ e1 => ?_, fun _ _ p hp0 => ?_⟩
      · rw [ra.length, rb.length]
        exact line_le hl
      · subst e0
        have ez : xs = [] := by
          have := ra.length
          exact List.length_eq_zero_iff.mp this.symm
        subst ez
        exact k _ _ _ (Ext.refl _ _) sim ⟨pb, us, rfl, hb, rb⟩
      · subst e1
        have ez : ys = [] := by
          have := rb.length
          exact List.length_eq_zero_iff.mp this.symm
        subst ez
        refine k _ _ _ (Ext.refl _ _) sim ⟨pa, vs, rfl, ha, ?_⟩
        rw [List.append_nil]
        exact ra
      · exact k _ _ _ (Ext.new hp0) (sim.new hp0) ⟨p, _, rfl, .inl (.inl upd_same), Reps.ext (Ext.new hp0) _ _ (ra.append rb)⟩
    · cases e
  · rename_i m n
    split at e
    · rename_i xs ys e1 e2
      obtain ⟨am, vs, hm, hvm, rm⟩ := sim.lstAt e1
      obtain ⟨an, us, hn, hvn, rn⟩ := sim.lstAt e2
      have ex := Rep.ref ra hm
      have ey := Rep.ref rb hn
      subst ex ey
      split at e
      · rename_i hl
        cases e
        refine op_cat pins s σ H _ _ v u Q I rx ry ⟨am, an, vs, us, rfl, rfl, hvm, hvn, ?_, fun p hp0 => ?_⟩
        · rw [rm.length, rn.length]
          exact line_le hl
        · exact k _ _ _ (Ext.lst hp0) (sim.lst hp0 (rm.append rn)) ⟨p, sim.newest, rfl⟩
      · cases e
    · cases e
  · rename_i i j
    obtain rfl : x = .int i := ra
    obtain rfl : y = .int j := rb
    cases e
    exact op_sub pins s σ H _ _ v u Q I rx ry ⟨i, j, rfl, rfl, k _ _ _ (Ext.refl _ _) sim rfl⟩
  · rename_i i j
    obtain rfl : x = .int i := ra
    obtain rfl : y = .int j := rb
    split at e
    · rename_i hm
      cases e
      refine op_mulX pins s σ H _ _ v u Q I rx ry ⟨i, j, rfl, rfl, ?_, k _ _ _ (Ext.refl _ _) sim rfl⟩
      have hm' : i.natAbs.log2 + j.natAbs.log2 < 134000000 := of_decide_eq_true hm
      have b : ∀ x : Int, Builtin.Int.intBits x ≤ x.natAbs.log2 + 1 := fun x => by
        unfold Builtin.Int.intBits
        split <;> omega
      have h1 := b i
      have h2 := b j
      unfold CMulX
      omega
    · cases e
  · rename_i m kk
    split at e
    · rename_i xs e1
      obtain ⟨am, vs, hm, hvm, rm⟩ := sim.lstAt e1
      have ex := Rep.ref ra hm
      obtain rfl : y = .int kk := rb
      subst ex
      split at e
      · rename_i hl
        cases e
        refine op_rep pins s σ H _ _ v u Q I rx ry ⟨am, kk, vs, rfl, rfl, hvm, by omega, by omega, ?_, fun p hp0 => ?_⟩
        · rw [rm.length]
          exact line_le hl.2.2
        · refine k _ _ _ (Ext.lst hp0) (sim.lst hp0 ?_) ⟨p, sim.newest, rfl⟩
          induction kk.toNat with
          | zero => exact rfl
          | succ n ih =>
            rw [List.replicate_succ, List.flatten_cons, List.replicate_succ, List.flatten_cons]
            exact rm.append ih
      · cases e
    · cases e
  · rename_i xs kk
    obtain ⟨pa, vs, rfl, ha, ra⟩ := ra
    obtain rfl : y = .int kk := rb
    split at e
    · rename_i hl
      cases e
      refine op_repT pins s σ H _ _ v u Q I rx ry ⟨pa, kk, vs, rfl, rfl, ha, fun z => ?_, hl.2.1, hl.2.2.1, ?_, fun p hp0 => ?_⟩
      · subst z
        exact hl.1 (List.length_eq_zero_iff.mp ra.length.symm)
      · rw [ra.length]
        exact hl.2.2.2
      · refine k _ _ _ (Ext.new hp0) (sim.new hp0) ⟨p, _, rfl, .inl (.inl upd_same), Reps.ext (Ext.new hp0) _ _ ?_⟩
        induction kk.toNat with
        | zero => exact rfl
        | succ n ih =>
          rw [List.replicate_succ, List.flatten_cons, List.replicate_succ, List.flatten_cons]
          exact ra.append ih
    · cases e
  · rename_i x' kk
    obtain rfl : x = .str x' := ra
    obtain rfl : y = .int kk := rb
    obtain ⟨t, rfl⟩ := rx
    obtain ⟨t', rfl⟩ := ry
    split at e
    · rename_i hl
      cases e
      refine PySem.SB.mul ⟨?_, fun _ _ => ?_, fun _ _ => ?_⟩ fun t2 tk => ⟨.str _, H, I.tok _, ⟨_, rfl⟩, k _ _ _ (Ext.refl _ _) sim rfl⟩
      · rw [decide_eq_false (by omega), decide_eq_false (by omega)]
        rfl
      · have h1 : x'.length ≤ 1000000 := hl.2.2.1
        intro z
        have : (1000000 : Int) ≤ (2 ^ 63 - 1) / kk := by
          refine (Int.le_ediv_iff_mul_le (by omega)).mpr ?_
          have : kk ≤ 1000000 := hl.2.1
          omega
        omega
      · have h1 : x'.length * kk.toNat ≤ 1000000 := hl.2.2.2
        have e2 : sizeLine = 16777216 := sizeLine_eq
        exact decide_eq_false (by omega)
    · cases e
  · rename_i i j
    obtain rfl : x = .int i := ra
    obtain rfl : y = .int j := rb
    obtain ⟨t, rfl⟩ := rx
    obtain ⟨t', rfl⟩ := ry
    split at e
    · rename_i hc
      cases e
      refine floordiv_int (by omega) ?_ (.inl hc.2)
      rw [Int.fdiv_eq_ediv_of_nonneg i (by omega)]
      exact ⟨.int _, H, I.tok _, ⟨_, rfl⟩, k _ _ _ (Ext.refl _ _) sim rfl⟩
    · cases e
  · rename_i i j
    obtain rfl : x = .int i := ra
    obtain rfl : y = .int j := rb
    split at e
    · rename_i hc
      cases e
      exact op_mod pins s σ H _ _ v u Q I rx ry ⟨i, j, rfl, rfl, hc, k _ _ _ (Ext.refl _ _) sim rfl⟩
    · cases e
  · rename_i i j
    obtain rfl : x = .int i := ra
    obtain rfl : y = .int j := rb
    split at e
    · rename_i hc
      cases e
      exact op_pow pins s σ H _ _ v u Q I rx ry ⟨i, j, rfl, rfl, hc, k _ _ _ (Ext.refl _ _) sim rfl⟩
    · cases e
  · cases e
theorem op_ipF (op : Operator) : OpR X (inplaceOp op) (rF2 X.K (ipF op)) := by
  intro pins s σ H x y v u Q I rx ry h
  obtain ⟨ι, hp, a, b, w, hp', sim, ra, rb, e, k⟩ := h
  unfold ipF at e
  split at e
  · rename_i i j
    obtain rfl : x = .int i := ra
    obtain rfl : y = .int j := rb
    cases e
    exact iop_add pins s σ H _ _ v u Q I rx ry ⟨i, j, rfl, rfl, k _ _ _ (Ext.refl _ _) sim rfl⟩
  · rename_i i j
    obtain rfl : x = .str i := ra
    obtain rfl : y = .str j := rb
    split at e
    · rename_i hl
      cases e
      exact iop_add_str pins s σ H _ _ v u Q I rx ry ⟨i, j, rfl, rfl, line_le hl, k _ _ _ (Ext.refl _ _) sim rfl⟩
    · cases e
  · rename_i i j
    obtain rfl : x = .int i := ra
    obtain rfl : y = .int j := rb
    cases e
    exact iop_sub pins s σ H _ _ v u Q I rx ry ⟨i, j, rfl, rfl, k _ _ _ (Ext.refl _ _) sim rfl⟩
  · cases e

/-- what a comparison gives -/
def rFB (K : PySem.W.Frag) (f : W → W → IH → Option Bool) : R2 := fun x y H Q => ∃ ι hp a b c, Sim K ι hp H ∧ Rep K ι H a x ∧ Rep K ι H b y ∧ f a b hp = some c ∧ Q (.bl c) H
theorem op_eqF (hu : X.A.units + 65 < cLine) : OpR X (compareOp .Eq) (rFB X.K eqF) := by
  intro pins s σ H x y v u Q I rx ry h
  obtain ⟨ι, hp, a, b, c, sim, ra, rb, e, k⟩ := h
  unfold eqF at e
  split at e
  · rename_i z z'
    cases e
    obtain rfl : x = .str z := ra
    obtain rfl : y = .str z' := rb
    exact op_eq pins s σ H _ _ v u Q I rx ry ⟨rfl, by simpa using k⟩
  · unfold eqD at e
    split at e
    · rename_i d d' e1 e2
      split at e
      · rename_i hs
        cases e
        exact op_eqD (by omega) pins s σ H _ _ v u Q I rx ry ⟨d, d', sim.dat _ _ _ _ e1 ra, sim.dat _ _ _ _ e2 rb, hs.1, hs.2, k⟩
      · cases e
    · cases e
theorem op_neF (hu : X.A.units + 65 < cLine) : OpR X (compareOp .NotEq) (rFB X.K fun a b hp => (eqF a b hp).map not) := by
  intro pins s σ H x y v u Q I rx ry h
  obtain ⟨ι, hp, a, b, c, sim, ra, rb, e, k⟩ := h
  simp only [Option.map_eq_some_iff] at e
  obtain ⟨c', e, rfl⟩ := e
  unfold eqF at e
  split at e
  · rename_i z z'
    cases e
    obtain rfl : x = .str z := ra
    obtain rfl : y = .str z' := rb
    exact op_ne pins s σ H _ _ v u Q I rx ry ⟨rfl, by simpa using k⟩
  · unfold eqD at e
    split at e
    · rename_i d d' e1 e2
      split at e
      · rename_i hs
        cases e
        exact op_neD (by omega) pins s σ H _ _ v u Q I rx ry ⟨d, d', sim.dat _ _ _ _ e1 ra, sim.dat _ _ _ _ e2 rb, hs.1, hs.2, k⟩
      · cases e
    · cases e
theorem op_inF (hu : X.A.units + 65 < cLine) : OpR X (compareOp .In) (rFB X.K inF) := by
  intro pins s σ H x y v u Q I rx ry h
  obtain ⟨ι, hp, a, b, c, sim, ra, rb, e, k⟩ := h
  unfold inF at e
  split at e
  · rename_i j
    obtain rfl : y = .str j := rb
    split at e
    · rename_i i
      obtain rfl : x = .str i := ra
      cases e
      exact op_in_str pins s σ H _ _ v u Q I rx ry ⟨i, j, rfl, rfl, k⟩
    · cases e
  · split at e
    · rename_i d ds e1 e2
      split at e
      · rename_i hs
        cases e
        exact op_inD hu pins s σ H _ _ v u Q I rx ry ⟨d, ds, sim.dat _ _ _ _ e1 ra, sim.dat _ _ _ _ e2 rb, hs.1, hs.2, k⟩
      · cases e
    · rename_i d ds e1 e2
      split at e
      · rename_i hs
        cases e
        obtain ⟨as, r1⟩ := Dp.reads I d x v (sim.dat _ _ _ _ e1 ra) rx
        obtain ⟨bs, r2⟩ := Dp.reads I (.tuple ds) y u (sim.dat _ _ _ _ e2 rb) ry
        refine SeqAt.in_tuple_reads r2 r1 (SeqAt.canLay_of_shaped hs.2) (SeqAt.canLay_of_shaped hs.1) ?_ ⟨.bl _, H, I, rfl, k⟩
        have hd := SeqAt.depth_of_shaped hs.1
        omega
      · cases e
    · cases e
theorem op_ninF (hu : X.A.units + 65 < cLine) : OpR X (compareOp .NotIn) (rFB X.K fun a b hp => (inF a b hp).map not) := by
  intro pins s σ H x y v u Q I rx ry h
  obtain ⟨ι, hp, a, b, c, sim, ra, rb, e, k⟩ := h
  simp only [Option.map_eq_some_iff] at e
  obtain ⟨c', e, rfl⟩ := e
  unfold inF at e
  split at e
  · rename_i j
    obtain rfl : y = .str j := rb
    split at e
    · rename_i i
      obtain rfl : x = .str i := ra
      cases e
      exact op_notin_str pins s σ H _ _ v u Q I rx ry ⟨i, j, rfl, rfl, k⟩
    · cases e
  · split at e
    · rename_i d ds e1 e2
      split at e
      · rename_i hs
        cases e
        exact op_notInD hu pins s σ H _ _ v u Q I rx ry ⟨d, ds, sim.dat _ _ _ _ e1 ra, sim.dat _ _ _ _ e2 rb, hs.1, hs.2, k⟩
      · cases e
    · rename_i d ds e1 e2
      split at e
      · rename_i hs
        cases e
        obtain ⟨as, r1⟩ := Dp.reads I d x v (sim.dat _ _ _ _ e1 ra) rx
        obtain ⟨bs, r2⟩ := Dp.reads I (.tuple ds) y u (sim.dat _ _ _ _ e2 rb) ry
        refine SeqAt.notIn_tuple_reads r2 r1 (SeqAt.canLay_of_shaped hs.2) (SeqAt.canLay_of_shaped hs.1) ?_ ⟨.bl _, H, I, rfl, k⟩
        have hd := SeqAt.depth_of_shaped hs.1
        omega
      · cases e
    · cases e
/-- the values that are not None -/
theorem Rep.notNone {K : PySem.W.Frag} {ι : List Addr} {H : Hp} {w : W} {v : V} (r : Rep K ι H w v) (h : w ≠ .non) : v ≠ .non := by
  cases w with
  | non => exact absurd rfl h
  | bl b => cases r; simp
  | int i => cases r; simp
  | str x => cases r; simp
  | ty t => cases r; simp
  | tup us => obtain ⟨a, xs, rfl, _⟩ := r; simp
  | ref m => obtain ⟨a, _, rfl⟩ := r; simp
theorem op_cmp (hu : X.A.units + 65 < cLine) (op : CmpOp) : OpR X (compareOp op) (rFB X.K (cmpB op)) := by
  cases op with
  | Eq => exact op_eqF hu
  | NotEq => exact op_neF hu
  | In => exact op_inF hu
  | NotIn => exact op_ninF hu
  | Lt =>
    intro pins s σ H x y v u Q I rx ry h
    obtain ⟨ι, hp, a, b, c, sim, ra, rb, e, k⟩ := h
    simp only [cmpB] at e
    split at e
    · rename_i i j
      obtain rfl : x = .int i := ra
      obtain rfl : y = .int j := rb
      cases e
      exact op_lt pins s σ H _ _ v u Q I rx ry ⟨i, j, rfl, rfl, k⟩
    · rename_i i j
      obtain rfl : x = .str i := ra
      obtain rfl : y = .str j := rb
      cases e
      exact op_lt_str pins s σ H _ _ v u Q I rx ry ⟨i, j, rfl, rfl, k⟩
    · cases e
  | LtE =>
    intro pins s σ H x y v u Q I rx ry h
    obtain ⟨ι, hp, a, b, c, sim, ra, rb, e, k⟩ := h
    simp only [cmpB] at e
    split at e
    · rename_i i j
      obtain rfl : x = .int i := ra
      obtain rfl : y = .int j := rb
      cases e
      exact op_le pins s σ H _ _ v u Q I rx ry ⟨i, j, rfl, rfl, k⟩
    · rename_i i j
      obtain rfl : x = .str i := ra
      obtain rfl : y = .str j := rb
      cases e
      exact op_le_str pins s σ H _ _ v u Q I rx ry ⟨i, j, rfl, rfl, k⟩
    · cases e
  | Gt =>
    intro pins s σ H x y v u Q I rx ry h
    obtain ⟨ι, hp, a, b, c, sim, ra, rb, e, k⟩ := h
    simp only [cmpB] at e
    split at e
    · rename_i i j
      obtain rfl : x = .int i := ra
      obtain rfl : y = .int j := rb
      cases e
      exact op_gt pins s σ H _ _ v u Q I rx ry ⟨i, j, rfl, rfl, k⟩
    · rename_i i j
      obtain rfl : x = .str i := ra
      obtain rfl : y = .str j := rb
      cases e
      exact op_gt_str pins s σ H _ _ v u Q I rx ry ⟨i, j, rfl, rfl, k⟩
    · cases e
  | GtE =>
    intro pins s σ H x y v u Q I rx ry h
    obtain ⟨ι, hp, a, b, c, sim, ra, rb, e, k⟩ := h
    simp only [cmpB] at e
    split at e
    · rename_i i j
      obtain rfl : x = .int i := ra
      obtain rfl : y = .int j := rb
      cases e
      exact op_ge pins s σ H _ _ v u Q I rx ry ⟨i, j, rfl, rfl, k⟩
    · rename_i i j
      obtain rfl : x = .str i := ra
      obtain rfl : y = .str j := rb
      cases e
      exact op_ge_str pins s σ H _ _ v u Q I rx ry ⟨i, j, rfl, rfl, k⟩
    · cases e
  | Is =>
    intro pins s σ H x y v u Q I rx ry h
    obtain ⟨ι, hp, a, b, c, sim, ra, rb, e, k⟩ := h
    have nn : b = .non → (a = .non → c = true) → (a ≠ .non → c = false) → wpAny (model X.prog X.w) X.A (compareOp .Is v u) (EP X pins σ Q) X.xe s := fun eb h1 h2 => by
      subst eb
      obtain rfl : y = .non := rb
      refine op_isN pins s σ H _ _ v u Q I rx ry ⟨rfl, ?_⟩
      by_cases ha : a = .non
      · subst ha
        obtain rfl : x = .non := ra
        rw [h1 rfl] at k
        exact k
      · rw [h2 ha] at k
        rw [decide_eq_false (Rep.notNone ra ha)]
        exact k
    simp only [cmpB] at e
    split at e
    · cases e; exact nn rfl (fun _ => rfl) (fun z => absurd rfl z)
    · cases e; exact nn rfl (fun z => nomatch z) (fun _ => rfl)
    · cases e; exact nn rfl (fun z => nomatch z) (fun _ => rfl)
    · cases e; exact nn rfl (fun z => nomatch z) (fun _ => rfl)
    · cases e; exact nn rfl (fun z => nomatch z) (fun _ => rfl)
    · cases e; exact nn rfl (fun z => nomatch z) (fun _ => rfl)
    · rename_i i j
      obtain rfl : x = .bl i := ra
      obtain rfl : y = .bl j := rb
      cases e
      exact op_is_bl pins s σ H _ _ v u Q I rx ry ⟨i, j, rfl, rfl, k⟩
    · cases e
  | IsNot =>
    intro pins s σ H x y v u Q I rx ry h
    obtain ⟨ι, hp, a, b, c, sim, ra, rb, e, k⟩ := h
    have nn : b = .non → (a = .non → c = false) → (a ≠ .non → c = true) → wpAny (model X.prog X.w) X.A (compareOp .IsNot v u) (EP X pins σ Q) X.xe s := fun eb h1 h2 => by
      subst eb
      obtain rfl : y = .non := rb
      refine op_notN pins s σ H _ _ v u Q I rx ry ⟨rfl, ?_⟩
      by_cases ha : a = .non
      · subst ha
        obtain rfl : x = .non := ra
        rw [h1 rfl] at k
        exact k
      · rw [h2 ha] at k
        rw [decide_eq_false (Rep.notNone ra ha)]
        exact k
    simp only [cmpB] at e
    split at e
    · cases e; exact nn rfl (fun _ => rfl) (fun z => absurd rfl z)
    · cases e; exact nn rfl (fun z => nomatch z) (fun _ => rfl)
    · cases e; exact nn rfl (fun z => nomatch z) (fun _ => rfl)
    · cases e; exact nn rfl (fun z => nomatch z) (fun _ => rfl)
    · cases e; exact nn rfl (fun z => nomatch z) (fun _ => rfl)
    · cases e; exact nn rfl (fun z => nomatch z) (fun _ => rfl)
    · rename_i i j
      obtain rfl : x = .bl i := ra
      obtain rfl : y = .bl j := rb
      cases e
      exact op_isnot_bl pins s σ H _ _ v u Q I rx ry ⟨i, j, rfl, rfl, k⟩
    · cases e

/-! ### subscripts -/
theorem atI_reps {K : PySem.W.Frag} {ι : List Addr} {H : Hp} {ws : List W} {xs : List V} {k : Int} {w : W} (r : Reps K ι H ws xs) (h : atI ws k = some w) : ∃ v, atI xs k = some v ∧ Rep K ι H w v := by
  unfold atI at h ⊢
  rw [r.length]
  cases e : ixN ws.length k with
  | none => rw [e] at h; cases h
  | some j =>
    rw [e] at h
    exact r.get h
theorem ix_F : IxR X (rF2 X.K subF) := by
  intro value slice pins s σ H x y v u Q I rx ry h hs
  obtain ⟨ι, hp, a, b, w, hp', sim, ra, rb, e, k⟩ := h
  unfold subF at e
  split at e
  · rename_i ws i
    obtain ⟨pa, vs, rfl, ha, ra⟩ := ra
    obtain rfl : y = .int i := rb
    simp only [Option.map_eq_some_iff] at e
    obtain ⟨w', e, e'⟩ := e
    cases e'
    obtain ⟨v', hv, rv⟩ := atI_reps ra e
    exact ix_tup value slice pins s σ H _ _ v u Q I rx ry ⟨pa, vs, i, v', rfl, rfl, ha, hv, k _ _ _ (Ext.refl _ _) sim rv⟩ hs
  · rename_i m i
    obtain rfl : y = .int i := rb
    cases eo : hp[m]? with
    | none => simp only [eo] at e; cases e
    | some o =>
      obtain ⟨am, vs, us, hm, hq, hr, ho⟩ := sim.seqAt eo
      have ex := Rep.ref ra hm
      subst ex
      rcases ho with rfl | rfl
      · simp only [eo, Option.map_eq_some_iff] at e
        obtain ⟨w', e, e'⟩ := e
        cases e'
        obtain ⟨v', hv, rv⟩ := atI_reps hr e
        exact ix_list value slice pins s σ H _ _ v u Q I rx ry ⟨am, vs, i, v', rfl, rfl, hq, hv, k _ _ _ (Ext.refl _ _) sim rv⟩ hs
      · simp only [eo, Option.map_eq_some_iff] at e
        obtain ⟨w', e, e'⟩ := e
        cases e'
        obtain ⟨v', hv, rv⟩ := atI_reps hr e
        exact ix_list value slice pins s σ H _ _ v u Q I rx ry ⟨am, vs, i, v', rfl, rfl, hq, hv, k _ _ _ (Ext.refl _ _) sim rv⟩ hs
  · rename_i z i
    obtain rfl : x = .str z := ra
    obtain rfl : y = .int i := rb
    split at e
    · rename_i hl
      simp only [Option.map_eq_some_iff] at e
      obtain ⟨c, e, e'⟩ := e
      cases e'
      exact ix_str value slice pins s σ H _ _ v u Q I rx ry ⟨z, i, c, rfl, rfl, line_le hl, e, k _ _ _ (Ext.refl _ _) sim rfl⟩ hs
    · cases e
  · cases e
def rSlF (K : PySem.W.Frag) : V → Option Int → Option Int → Hp → VK → Prop := fun x lo hi H Q => ∃ ι hp a w hp', Sim K ι hp H ∧ Rep K ι H a x ∧ slcF a lo hi hp = some (w, hp') ∧
  ∀ v H' ι', Ext ι H ι' H' → Sim K ι' hp' H' → Rep K ι' H' w v → Q v H'
theorem cut_reps {K : PySem.W.Frag} {ι : List Addr} {H : Hp} {ws : List W} {xs : List V} (lo hi : Option Int) (r : Reps K ι H ws xs) : Reps K ι H (cutL ws lo hi) (cutV xs lo hi) := by
  unfold cutL cutV
  rw [r.length]
  exact (r.drop _).take _
theorem sl_F : SlR X (rSlF X.K) := by
  intro pins s σ H x v vl vu lo hi sl Q I rx hs pl pu h
  obtain ⟨ι, hp, a, w, hp', sim, ra, e, k⟩ := h
  unfold slcF at e
  split at e
  · rename_i ws
    obtain ⟨pa, vs, rfl, ha, ra⟩ := ra
    cases e
    refine sl_tupA pins s σ H _ v vl vu lo hi sl Q I rx hs pl pu ⟨pa, vs, rfl, ha, fun hw => ?_, fun hw p hp0 => ?_⟩
    · refine k _ _ _ (Ext.refl _ _) sim ⟨pa, vs, rfl, ha, ?_⟩
      have q := cut_reps lo hi ra
      have ec : cutV vs lo hi = vs := by
        unfold cutV
        rw [hw.1, hw.2, List.drop_zero, Nat.sub_zero, List.take_length]
      rw [ec] at q
      exact q
    · exact k _ _ _ (Ext.new hp0) (sim.new hp0) ⟨p, _, rfl, .inl (.inl upd_same), Reps.ext (Ext.new hp0) _ _ (cut_reps lo hi ra)⟩
  · rename_i m
    cases eo : hp[m]? with
    | none => simp only [eo] at e; cases e
    | some o =>
      obtain ⟨am, vs, us, hm, hq, hr, ho⟩ := sim.seqAt eo
      have ex := Rep.ref ra hm
      subst ex
      rcases ho with rfl | rfl
      · simp only [eo] at e
        cases e
        exact sl_list pins s σ H _ v vl vu lo hi sl Q I rx hs pl pu ⟨am, vs, rfl, hq, fun p hp0 => k _ _ _ (Ext.lst hp0) (sim.lst hp0 (cut_reps lo hi hr)) ⟨p, sim.newest, rfl⟩⟩
      · simp only [eo] at e
        cases e
        exact sl_list pins s σ H _ v vl vu lo hi sl Q I rx hs pl pu ⟨am, vs, rfl, hq, fun p hp0 => k _ _ _ (Ext.lst hp0) (sim.lst hp0 (cut_reps lo hi hr)) ⟨p, sim.newest, rfl⟩⟩
  · rename_i z
    obtain rfl : x = .str z := ra
    split at e
    · rename_i hl
      cases e
      exact sl_str pins s σ H _ v vl vu lo hi sl Q I rx hs pl pu ⟨z, rfl, line_le hl, k _ _ _ (Ext.refl _ _) sim rfl⟩
    · cases e
  · cases e
def rSetF (K : PySem.W.Frag) : V → V → V → Hp → (Hp → Prop) → Prop := fun o i v H Q => ∃ ι hp a b w hp', Sim K ι hp H ∧ Rep K ι H a o ∧ Rep K ι H b i ∧ Rep K ι H w v ∧ setF a b w hp = some hp' ∧
  ∀ H' , Ext ι H ι H' → Sim K ι hp' H' → Q H'
theorem set_F : PSet X (rSetF X.K) := by
  intro pins s σ H o i v ov iv u Q I ro ri rv h
  obtain ⟨ι, hp, a, b, w, hp', sim, ra, rb, rw', e, k⟩ := h
  unfold setF at e
  split at e
  · rename_i m j
    obtain rfl : i = .int j := rb
    split at e
    · rename_i ws eo
      obtain ⟨am, vs, hm, hv, hr⟩ := sim.lstAt eo
      have ex := Rep.ref ra hm
      subst ex
      simp only [Option.map_eq_some_iff] at e
      obtain ⟨z, e, rfl⟩ := e
      exact set_list pins s σ H _ _ v ov iv u Q I ro ri rv ⟨am, vs, j, z, rfl, rfl, hv, by rw [hr.length]; exact e, k _ (Ext.set hv) (sim.set hm eo (hr.set z rw'))⟩
    · cases e
  · cases e
end
end Itp

set_option Elab.async false
set_option linter.all false
set_option autoImplicit false
set_option maxRecDepth 100000
set_option maxHeartbeats 4000000
/-! Itp, part D: the built-in functions and methods. -/
namespace Itp
open PySem PySem.Spec PyProof.Rows L2

def rFL (K : PySem.W.Frag) (f : List W → IH → Option (W × IH)) : List V → Hp → VK → Prop := fun vs H Q => ∃ ι hp ws w hp', Sim K ι hp H ∧ Reps K ι H ws vs ∧ f ws hp = some (w, hp') ∧
  ∀ v H' ι', Ext ι H ι' H' → Sim K ι' hp' H' → Rep K ι' H' w v → Q v H'
def bfVal : BF → Value
  | .len => .builtin "len" | .abs => .builtin "abs" | .max => .builtin "max" | .min => .builtin "min" | .divmod => .builtin "divmod"
  | .all => .builtin "all" | .any => .builtin "any" | .sum => .builtin "sum" | .isinstance => .builtin "isinstance" | .ord => .builtin "ord" | .repr => .builtin "repr"
  | .tInt => .type "int" | .tStr => .type "str" | .tList => .type "list" | .tTuple => .type "tuple" | .tBool => .type "bool"

section
variable {K : PySem.W.Frag} {ι : List Addr} {hp : IH} {H : Hp}
theorem reps1 {w : W} {vs : List V} (h : Reps K ι H [w] vs) : ∃ v, vs = [v] ∧ Rep K ι H w v := by
  obtain ⟨v, r, rfl, h1, h2⟩ := h
  obtain rfl : r = [] := h2
  exact ⟨v, rfl, h1⟩
theorem reps2 {w u : W} {vs : List V} (h : Reps K ι H [w, u] vs) : ∃ v x, vs = [v, x] ∧ Rep K ι H w v ∧ Rep K ι H u x := by
  obtain ⟨v, r, rfl, h1, h2⟩ := h
  obtain ⟨x, rfl, h3⟩ := reps1 h2
  exact ⟨v, x, rfl, h1, h3⟩
theorem reps0 {vs : List V} (h : Reps K ι H [] vs) : vs = [] := h
theorem reps_bools : ∀ {ws : List W} {bs : List Bool} {vs : List V}, boolsOf ws = some bs → Reps K ι H ws vs → vs = bs.map V.bl
  | [], _, _, e, r => by cases e; exact r
  | .bl b :: ws, bs, vs, e, r => by
    obtain ⟨v, xs, rfl, h1, h2⟩ := r
    obtain rfl : v = .bl b := h1
    simp only [boolsOf, Option.map_eq_some_iff] at e
    obtain ⟨bs', e, rfl⟩ := e
    rw [reps_bools e h2]
    rfl
  | .non :: _, _, _, e, _ => by cases e
  | .int _ :: _, _, _, e, _ => by cases e
  | .str _ :: _, _, _, e, _ => by cases e
  | .tup _ :: _, _, _, e, _ => by cases e
  | .ref _ :: _, _, _, e, _ => by cases e
  | .ty _ :: _, _, _, e, _ => by cases e
theorem reps_ints : ∀ {ws : List W} {bs : List Int} {vs : List V}, intsOf ws = some bs → Reps K ι H ws vs → vs = bs.map V.int
  | [], _, _, e, r => by cases e; exact r
  | .int b :: ws, bs, vs, e, r => by
    obtain ⟨v, xs, rfl, h1, h2⟩ := r
    obtain rfl : v = .int b := h1
    simp only [intsOf, Option.map_eq_some_iff] at e
    obtain ⟨bs', e, rfl⟩ := e
    rw [reps_ints e h2]
    rfl
  | .non :: _, _, _, e, _ => by cases e
  | .bl _ :: _, _, _, e, _ => by cases e
  | .str _ :: _, _, _, e, _ => by cases e
  | .tup _ :: _, _, _, e, _ => by cases e
  | .ref _ :: _, _, _, e, _ => by cases e
  | .ty _ :: _, _, _, e, _ => by cases e
theorem reps_strs : ∀ {ws : List W} {bs : List Str} {vs : List V}, strsOf ws = some bs → Reps K ι H ws vs → vs = bs.map V.str
  | [], _, _, e, r => by cases e; exact r
  | .str b :: ws, bs, vs, e, r => by
    obtain ⟨v, xs, rfl, h1, h2⟩ := r
    obtain rfl : v = .str b := h1
    simp only [strsOf, Option.map_eq_some_iff] at e
    obtain ⟨bs', e, rfl⟩ := e
    rw [reps_strs e h2]
    rfl
  | .non :: _, _, _, e, _ => by cases e
  | .bl _ :: _, _, _, e, _ => by cases e
  | .int _ :: _, _, _, e, _ => by cases e
  | .tup _ :: _, _, _, e, _ => by cases e
  | .ref _ :: _, _, _, e, _ => by cases e
  | .ty _ :: _, _, _, e, _ => by cases e
theorem reps_tys : ∀ {ws : List W} {ns : List String} {vs : List V}, tysOf ws = some ns → Reps K ι H ws vs → Paired ClsV vs (ns.map Value.type)
  | [], _, _, e, r => by cases e; obtain rfl := reps0 r; exact .nil
  | .ty b :: ws, bs, vs, e, r => by
    obtain ⟨v, xs, rfl, h1, h2⟩ := r
    obtain rfl : v = .ty b := h1
    simp only [tysOf, Option.map_eq_some_iff] at e
    obtain ⟨bs', e, rfl⟩ := e
    exact .cons (.ty b) (reps_tys e h2)
  | .non :: _, _, _, e, _ => by cases e
  | .bl _ :: _, _, _, e, _ => by cases e
  | .int _ :: _, _, _, e, _ => by cases e
  | .tup _ :: _, _, _, e, _ => by cases e
  | .ref _ :: _, _, _, e, _ => by cases e
  | .str _ :: _, _, _, e, _ => by cases e
theorem sqT_ty {a : Addr} {xs : List V} (h : SqT K H a xs) : TyX K H (.ref a) (.type "tuple") := by
  rcases h with (h | ⟨o, h⟩) | ⟨o, its, n, h1, h2, _⟩
  · exact .base (.tup h)
  · exact .fTuple h
  · exact .kTuple h1 h2
theorem Sim.ty (s : Sim K ι hp H) {w : W} {v : V} {t : String} (h : tyName hp w = some t) (r : Rep K ι H w v) : TyX K H v (.type t) ∧ t ∈ ["NoneType", "bool", "int", "str", "tuple", "list"] := by
  cases w with
  | non => cases h; cases r; exact ⟨.base .non, by decide⟩
  | bl b => cases h; cases r; exact ⟨.base (.bl b), by decide⟩
  | int i => cases h; cases r; exact ⟨.base (.int i), by decide⟩
  | str x => cases h; cases r; exact ⟨.base (.str x), by decide⟩
  | ty t => cases h
  | tup us =>
    obtain ⟨a, xs, rfl, h1, h2⟩ := r
    cases h
    exact ⟨sqT_ty h1, by decide⟩
  | ref m =>
    cases e : hp[m]? with
    | none => simp only [tyName, e] at h; cases h
    | some o =>
      obtain ⟨a, ha, ro⟩ := s.addr e
      have ev := Rep.ref r ha
      subst ev
      simp only [tyName, e] at h
      cases h
      refine ⟨?_, by decide⟩
      cases o with
      | lst ws => obtain ⟨xs, h1, _⟩ := ro; exact .base (.lst h1)
      | flst ws =>
        obtain ⟨xs, h1, _⟩ := ro
        rcases h1 with ⟨o, h1⟩ | ⟨o, its, n, h1, h2, _⟩
        · exact .base (.frz h1)
        · exact .kList h1 h2
theorem kit_all : ∀ t ∈ ["NoneType", "bool", "int", "str", "tuple", "list"], ∀ u ∈ ["int", "bool", "str", "tuple", "list"], kitB t u = some (isTy t u) := by decide +kernel
theorem kit_okTy {t u : String} (ht : t ∈ ["NoneType", "bool", "int", "str", "tuple", "list"]) (hu : okTy u = true) : PySem.W.kitOne K (.type t) (.type u) = some (isTy t u) := by
  refine kit_ty (kit_all t ht u ?_)
  unfold okTy at hu
  exact List.contains_iff_mem.mp hu
theorem kit_anyTy {t : String} (ht : t ∈ ["NoneType", "bool", "int", "str", "tuple", "list"]) : ∀ (us : List String), us.all okTy = true → PySem.W.kitAny K (.type t) (us.map Value.type) = some (us.any fun n => isTy t n)
  | [], _ => kitAny_nil
  | u :: us, h => by
    rw [List.all_cons, Bool.and_eq_true] at h
    rw [List.any_cons]
    refine kitAny_cons (kit_okTy ht h.1) (fun hb => ?_) (fun hb => ?_)
    · rw [hb, Bool.false_or]
      exact kit_anyTy ht us h.2
    · rw [hb, Bool.true_or]
end

section
variable {X : Cx}
/-- repr of what is read through -/
theorem repr_dp {pins : List (Addr × Obj)} {σ : L2.St} {H : Hp} {s : Shared} {Q : VK} {v : V} {u : Value} {d : PyData} (hgd : X.A.guards = some []) (hu : X.A.units + 65 < cLine) (I : Inv X pins σ H s) (h : Dp X.K H v d) (r : RelV v u)
    (h1 : d.showable = true) (h2 : d.hasDict = false) (h3 : d.depth ≤ depthMax) (h4 : d.shown.length ≤ sizeLine) (q : Q (.str d.shown) H) : wpAny (model X.prog X.w) X.A (call (.builtin "repr") [u]) (EP X pins σ Q) X.xe s := by
  have big : ∀ a : Addr, v = .ref a → wpAny (model X.prog X.w) X.A (call (.builtin "repr") [.ref a]) (EP X pins σ Q) X.xe s := fun a ea => by
    subst ea
    cases r
    obtain ⟨as, rd⟩ := Dp.reads I d _ _ h rfl
    refine repr_of_reads' rd h1 (fun z => by rw [h2] at z; cases z) hgd (by have : d.depth ≤ 60 := h3; omega) (fun _ _ e => e) (fun h' u' tk hk => ?_) h4
    exact ⟨.str d.shown, H, I.kept hk, ⟨_, rfl⟩, q⟩
  cases h with
  | non => cases r; exact PySem.P.repr_of_none ⟨.str _, H, I.tok _, ⟨_, rfl⟩, by simpa only [PyData.shown] using q⟩
  | bl b => cases r; exact PySem.P.repr_of_bool ⟨.str _, H, I.tok _, ⟨_, rfl⟩, by simpa only [PyData.shown] using q⟩
  | int i =>
    obtain ⟨t, rfl⟩ := r
    exact PySem.P.repr_of_int (by simpa [PyData.showable] using h1) ⟨.str _, H, I.tok _, ⟨_, rfl⟩, by simpa only [PyData.shown] using q⟩
  | str x =>
    obtain ⟨t, rfl⟩ := r
    exact PySem.P.repr_of_str ⟨.str _, H, I.tok _, ⟨_, rfl⟩, by simpa only [PyData.shown] using q⟩ (by simpa only [PyData.shown] using h4)
  | lst a b => cases r; exact big _ rfl
  | tup a b => cases r; exact big _ rfl
theorem call_F (hc : X.calm = true) (hgd : X.A.guards = some []) (hu : X.A.units + 65 < cLine) (f : BF) : CallR X (bfVal f) (rFL X.K (bfF f)) := by
  intro pins s σ H vs us Q I rv h
  obtain ⟨ι, hp, ws, w, hp', sim, ra, e, k⟩ := h
  unfold bfF at e
  split at e
  · -- len of a str
    rename_i y
    obtain ⟨v, rfl, hv⟩ := reps1 ra
    obtain rfl : v = .str y := hv
    split at e
    · rename_i hl
      cases e
      exact call_len_str pins s σ H _ _ Q I rv ⟨y, rfl, line_le hl, k _ _ _ (Ext.refl _ _) sim rfl⟩
    · cases e
  · -- len
    rename_i w' hw'
    obtain ⟨v, rfl, hv⟩ := reps1 ra
    simp only [Option.map_eq_some_iff] at e
    obtain ⟨xs, e, e'⟩ := e
    cases e'
    obtain ⟨a, zs, rfl, hr, hq⟩ := sim.items e hv
    refine call_len_seq pins s σ H _ _ Q I rv ⟨a, zs, rfl, hq, ?_⟩
    rw [hr.length]
    exact k _ _ _ (Ext.refl _ _) sim rfl
  · -- abs
    rename_i i
    obtain ⟨v, rfl, hv⟩ := reps1 ra
    obtain rfl : v = .int i := hv
    cases e
    exact call_abs pins s σ H _ _ Q I rv ⟨i, rfl, k _ _ _ (Ext.refl _ _) sim rfl⟩
  · rename_i i j
    obtain ⟨v, x, rfl, hv, hx⟩ := reps2 ra
    obtain rfl : v = .int i := hv
    obtain rfl : x = .int j := hx
    cases e
    exact call_max2 hc pins s σ H _ _ Q I rv ⟨i, j, rfl, k _ _ _ (Ext.refl _ _) sim rfl⟩
  · rename_i i j
    obtain ⟨v, x, rfl, hv, hx⟩ := reps2 ra
    obtain rfl : v = .int i := hv
    obtain rfl : x = .int j := hx
    cases e
    exact call_min2 hc pins s σ H _ _ Q I rv ⟨i, j, rfl, k _ _ _ (Ext.refl _ _) sim rfl⟩
  · rename_i i j
    obtain ⟨v, x, rfl, hv, hx⟩ := reps2 ra
    obtain rfl : v = .int i := hv
    obtain rfl : x = .int j := hx
    split at e
    · rename_i hcc
      cases e
      exact call_divmodW pins s σ H _ _ Q I rv ⟨i, j, rfl, hcc, fun p hp0 => k _ _ _ (Ext.new hp0) (sim.new hp0) ⟨p, _, rfl, .inl (.inl upd_same), ⟨_, _, rfl, rfl, _, _, rfl, rfl, rfl⟩⟩⟩
    · cases e
  · -- all
    rename_i m
    obtain ⟨v, rfl, hv⟩ := reps1 ra
    split at e
    · rename_i xs eo
      obtain ⟨am, zs, hm, hz, hr⟩ := sim.lstAt eo
      have ex := Rep.ref hv hm
      subst ex
      simp only [Option.map_eq_some_iff] at e
      obtain ⟨bs, e, e'⟩ := e
      cases e'
      have ez := reps_bools e hr
      subst ez
      exact cr_all hc pins s σ H _ _ Q I rv ⟨am, bs, rfl, SqL.of hz, k _ _ _ (Ext.refl _ _) sim rfl⟩
    · cases e
  · -- any
    rename_i m
    obtain ⟨v, rfl, hv⟩ := reps1 ra
    split at e
    · rename_i xs eo
      obtain ⟨am, zs, hm, hz, hr⟩ := sim.lstAt eo
      have ex := Rep.ref hv hm
      subst ex
      simp only [Option.map_eq_some_iff] at e
      obtain ⟨bs, e, e'⟩ := e
      cases e'
      have ez := reps_bools e hr
      subst ez
      exact cr_any hc pins s σ H _ _ Q I rv ⟨am, bs, rfl, SqL.of hz, k _ _ _ (Ext.refl _ _) sim rfl⟩
    · cases e
  · -- sum
    rename_i m
    obtain ⟨v, rfl, hv⟩ := reps1 ra
    split at e
    · rename_i xs eo
      obtain ⟨am, zs, hm, hz, hr⟩ := sim.lstAt eo
      have ex := Rep.ref hv hm
      subst ex
      simp only [Option.map_eq_some_iff] at e
      obtain ⟨bs, e, e'⟩ := e
      cases e'
      have ez := reps_ints e hr
      subst ez
      exact cr_sum hc pins s σ H _ _ Q I rv ⟨am, bs, rfl, SqL.of hz, k _ _ _ (Ext.refl _ _) sim rfl⟩
    · cases e
  · -- isinstance
    rename_i w' n
    obtain ⟨v, x, rfl, hv, hx⟩ := reps2 ra
    obtain rfl : x = .ty n := hx
    split at e
    · rename_i ho
      simp only [Option.map_eq_some_iff] at e
      obtain ⟨t, e, e'⟩ := e
      cases e'
      obtain ⟨ty, ht⟩ := sim.ty e hv
      exact call_isi pins s σ H _ _ Q I rv ⟨v, .ty n, .type t, .type n, isTy t n, rfl, .ty n, ty, kit_okTy ht ho, k _ _ _ (Ext.refl _ _) sim rfl⟩
    · cases e
  · rename_i w' ts
    obtain ⟨v, x, rfl, hv, hx⟩ := reps2 ra
    obtain ⟨pa, zs, rfl, hz, rz⟩ := hx
    split at e
    · rename_i ns en
      split at e
      · rename_i ho
        simp only [Option.map_eq_some_iff] at e
        obtain ⟨t, e, e'⟩ := e
        cases e'
        obtain ⟨ty, ht⟩ := sim.ty e hv
        have pz := reps_tys en rz
        rcases hz with (hz | ⟨o, hz⟩) | ⟨o, its, n, h1, h2, h3, h4, h5⟩
        · exact call_isiT pins s σ H _ _ Q I rv ⟨v, pa, zs, .type t, ns.map Value.type, _, rfl, hz, pz, ty, kit_anyTy ht ns ho, k _ _ _ (Ext.refl _ _) sim rfl⟩
        · -- a frozen tuple: by the object itself
          obtain ⟨u1, u2, rfl, r1, r2⟩ := vals2 rv
          cases (show u2 = Value.ref pa from r2)
          obtain ⟨P, Z, p, hx⟩ := kit_of I r1 ty
          obtain ⟨_, _, its, rv2, oo, h1, h2, n, h3⟩ := (show ObjOk X.prog X.w H s.heap pa (.frz o (.tup zs)) from I.hok pa _ hz)
          have e3 := ClsV.all pz rv2
          subst e3
          obtain ⟨oc, od, dt, sl⟩ := oo
          simp only at h2 h3
          subst h2 h3
          exact PySem.W.kia_tup Z I.kIn p h1 (kit_anyTy ht ns ho) hx fun tk => ⟨.bl _, H, I.tok tk, rfl, k _ _ _ (Ext.refl _ _) sim rfl⟩
        · have e3 := ClsV.all pz h5
          obtain ⟨oc, od, dt, sl⟩ := o
          simp only at h2 h3
          subst h2 h3
          have e4 : its = (ns.map Value.type).toArray := by rw [← e3]
          subst e4
          exact call_isiK pins s σ H _ _ Q I rv ⟨v, pa, od, ns.map Value.type, n, sl, .type t, _, rfl, h1, ty, kit_anyTy ht ns ho, k _ _ _ (Ext.refl _ _) sim rfl⟩
      · cases e
    · cases e
  · -- ord
    rename_i x
    obtain ⟨v, rfl, hv⟩ := reps1 ra
    obtain rfl : v = .str x := hv
    split at e
    · rename_i hl
      cases e
      exact call_ord pins s σ H _ _ Q I rv ⟨x, rfl, hl, k _ _ _ (Ext.refl _ _) sim rfl⟩
    · cases e
  · rename_i i
    obtain ⟨v, rfl, hv⟩ := reps1 ra
    obtain rfl : v = .int i := hv
    cases e
    exact call_int1 pins s σ H _ _ Q I rv (.inl ⟨i, rfl, k _ _ _ (Ext.refl _ _) sim rfl⟩)
  · rename_i b
    obtain ⟨v, rfl, hv⟩ := reps1 ra
    obtain rfl : v = .bl b := hv
    cases e
    exact call_int1 pins s σ H _ _ Q I rv (.inr ⟨b, rfl, k _ _ _ (Ext.refl _ _) sim rfl⟩)
  · rename_i a
    obtain ⟨v, rfl, hv⟩ := reps1 ra
    obtain rfl : v = .str a := hv
    split at e
    · rename_i hl
      simp only [Option.map_eq_some_iff] at e
      obtain ⟨n, e, e'⟩ := e
      cases e'
      exact call_int_str pins s σ H _ _ Q I rv ⟨a, n, rfl, e, hl, k _ _ _ (Ext.refl _ _) sim rfl⟩
    · cases e
  · rename_i i
    obtain ⟨v, rfl, hv⟩ := reps1 ra
    obtain rfl : v = .int i := hv
    split at e
    · rename_i hl
      cases e
      exact call_str_int pins s σ H _ _ Q I rv ⟨i, rfl, hl, k _ _ _ (Ext.refl _ _) sim rfl⟩
    · cases e
  · rename_i a
    obtain ⟨v, rfl, hv⟩ := reps1 ra
    obtain rfl : v = .str a := hv
    cases e
    exact SkE.call_str_str pins s σ H _ _ Q I rv ⟨a, rfl, k _ _ _ (Ext.refl _ _) sim rfl⟩
  · -- list
    rename_i w'
    obtain ⟨v, rfl, hv⟩ := reps1 ra
    simp only [Option.map_eq_some_iff] at e
    obtain ⟨xs, e, e'⟩ := e
    cases e'
    obtain ⟨a, zs, rfl, hr, hq⟩ := sim.items e hv
    exact call_list_of pins s σ H _ _ Q I rv ⟨a, zs, rfl, hq, fun p hp0 => k _ _ _ (Ext.lst hp0) (sim.lst hp0 hr) ⟨p, sim.newest, rfl⟩⟩
  · -- tuple
    rename_i w'
    obtain ⟨v, rfl, hv⟩ := reps1 ra
    simp only [Option.map_eq_some_iff] at e
    obtain ⟨xs, e, e'⟩ := e
    cases e'
    obtain ⟨a, zs, rfl, hr, hq⟩ := sim.items e hv
    refine call_tuple_of pins s σ H _ _ Q I rv ⟨a, zs, rfl, ?_⟩
    rcases hq with hq | hq
    · exact .inl ⟨hq, fun p hp0 => k _ _ _ (Ext.new hp0) (sim.new hp0) ⟨p, _, rfl, .inl (.inl upd_same), Reps.ext (Ext.new hp0) _ _ hr⟩⟩
    · exact .inr ⟨hq, k _ _ _ (Ext.refl _ _) sim ⟨a, zs, rfl, hq, hr⟩⟩
  · -- repr
    rename_i w'
    obtain ⟨v, rfl, hv⟩ := reps1 ra
    split at e
    · rename_i d ed
      split at e
      · rename_i hd
        cases e
        obtain ⟨u, rfl, ru⟩ := vals1 rv
        exact repr_dp hgd hu I (sim.dat _ _ _ _ ed hv) ru hd.1 hd.2.1 hd.2.2.1 (line_le hd.2.2.2) (k _ _ _ (Ext.refl _ _) sim rfl)
      · cases e
    · cases e
  · cases e
end

/-! ### methods -/
def bmT : BM → String
  | .append => "list" | .extend => "list" | .pop => "list"
  | .join => "str" | .count => "str" | .rfind => "str" | .isalpha => "str" | .index => "str" | .upper => "str"
def bmId : BM → String
  | .append => "list.append" | .extend => "list.extend" | .pop => "list.pop"
  | .join => "str.join" | .count => "str.count" | .rfind => "str.rfind" | .isalpha => "str.isalpha" | .index => "str.index" | .upper => "str.upper"
def bmName : BM → Str
  | .append => "append" | .extend => "extend" | .pop => "pop"
  | .join => "join" | .count => "count" | .rfind => "rfind" | .isalpha => "isalpha" | .index => "index" | .upper => "upper"
/-- o.m(..): the receiver is of the type, the method gives this -/
def rFM (K : PySem.W.Frag) (m : BM) : V → List V → Hp → VK → Prop := fun x vs H Q => ∃ ι hp o ws w hp', Sim K ι hp H ∧ Rep K ι H o x ∧ Reps K ι H ws vs ∧ bmF m o ws hp = some (w, hp') ∧
  ∀ v H' ι', Ext ι H ι' H' → Sim K ι' hp' H' → Rep K ι' H' w v → Q v H'
section
variable {X : Cx}
theorem meth_F (m : BM) : MtR X (bmId m) (rFM X.K m) := by
  intro pins s σ H x vs xv us Q I rx rv h
  obtain ⟨ι, hp, o, ws, w, hp', sim, ro, ra, e, k⟩ := h
  unfold bmF at e
  split at e
  · -- append
    rename_i n w'
    obtain ⟨v, rfl, hv⟩ := reps1 ra
    split at e
    · rename_i xs eo
      obtain ⟨am, zs, hm, hz, hr⟩ := sim.lstAt eo
      have ex := Rep.ref ro hm
      subst ex
      split at e
      · rename_i hl
        cases e
        exact mt_append pins s σ H _ _ xv us Q I rx rv ⟨am, zs, v, rfl, rfl, hz, by rw [hr.length]; exact line_lt hl, k _ _ _ (Ext.set hz) (sim.set hm eo (hr.append (Reps.one hv))) rfl⟩
      · cases e
    · cases e
  · -- extend
    rename_i n n2
    obtain ⟨v, rfl, hv⟩ := reps1 ra
    split at e
    · rename_i xs ys eo eo2
      obtain ⟨am, zs, hm, hz, hr⟩ := sim.lstAt eo
      obtain ⟨an, zs2, hn, hz2, hr2⟩ := sim.lstAt eo2
      have ex := Rep.ref ro hm
      have ey := Rep.ref hv hn
      subst ex ey
      split at e
      · rename_i hl
        cases e
        exact mt_extend pins s σ H _ _ xv us Q I rx rv ⟨am, an, zs, zs2, rfl, rfl, hz, hz2, by rw [hr.length, hr2.length]; exact line_le hl, k _ _ _ (Ext.set hz) (sim.set hm eo (hr.append hr2)) rfl⟩
      · cases e
    · cases e
  · -- pop
    rename_i n
    obtain rfl := reps0 ra
    split at e
    · rename_i xs eo
      obtain ⟨am, zs, hm, hz, hr⟩ := sim.lstAt eo
      have ex := Rep.ref ro hm
      subst ex
      simp only [Option.map_eq_some_iff] at e
      obtain ⟨w', e, e'⟩ := e
      cases e'
      obtain ⟨v', hv', rv'⟩ := hr.get e
      refine mt_pop pins s σ H _ _ xv us Q I rx rv ⟨am, zs, v', rfl, rfl, hz, by rw [hr.length]; exact hv', k _ _ _ (Ext.set hz) (sim.set hm eo ?_) (Rep.ext (Ext.set hz) _ _ rv')⟩
      rw [List.dropLast_eq_take, List.dropLast_eq_take, hr.length]
      exact hr.take _
    · cases e
  · -- join
    rename_i a w'
    obtain rfl : x = .str a := ro
    obtain ⟨v, rfl, hv⟩ := reps1 ra
    split at e
    · rename_i zs ez
      split at e
      · rename_i ys ey
        split at e
        · rename_i hl
          cases e
          obtain ⟨pa, us2, rfl, hr, hq⟩ := sim.items ez hv
          have eu := reps_strs ey hr
          subst eu
          exact mt_join pins s σ H _ _ xv us Q I rx rv ⟨a, pa, ys, rfl, rfl, hq, line_le' hl, k _ _ _ (Ext.refl _ _) sim rfl⟩
        · cases e
      · cases e
    · cases e
  · rename_i a b
    obtain rfl : x = .str a := ro
    obtain ⟨v, rfl, hv⟩ := reps1 ra
    obtain rfl : v = .str b := hv
    cases e
    exact mt_count pins s σ H _ _ xv us Q I rx rv ⟨a, b, rfl, rfl, k _ _ _ (Ext.refl _ _) sim rfl⟩
  · rename_i a b
    obtain rfl : x = .str a := ro
    obtain ⟨v, rfl, hv⟩ := reps1 ra
    obtain rfl : v = .str b := hv
    cases e
    exact mt_rfind pins s σ H _ _ xv us Q I rx rv ⟨a, b, rfl, rfl, k _ _ _ (Ext.refl _ _) sim rfl⟩
  · rename_i a
    obtain rfl : x = .str a := ro
    obtain rfl := reps0 ra
    cases e
    exact mt_isalpha pins s σ H _ _ xv us Q I rx rv ⟨a, rfl, rfl, True.intro, k _ _ _ (Ext.refl _ _) sim rfl⟩
  · rename_i a
    obtain rfl : x = .str a := ro
    obtain rfl := reps0 ra
    split at e
    · rename_i hl
      cases e
      exact mt_upper pins s σ H _ _ xv us Q I rx rv ⟨a, rfl, rfl, Nat.le_trans hl (by decide), k _ _ _ (Ext.refl _ _) sim rfl⟩
    · cases e
  · rename_i a b
    obtain rfl : x = .str a := ro
    obtain ⟨v, rfl, hv⟩ := reps1 ra
    obtain rfl : v = .str b := hv
    simp only [Option.map_eq_some_iff] at e
    obtain ⟨i, hi, e'⟩ := e
    cases e'
    obtain ⟨rest, hr⟩ : ∃ rest, Builtin.Str.occurrences a b 0 a.length 1 = i :: rest := by
      cases ho : Builtin.Str.occurrences a b 0 a.length 1 with
      | nil => rw [ho] at hi; cases hi
      | cons y r =>
        rw [ho] at hi
        cases hi
        exact ⟨r, rfl⟩
    exact mt_sindex pins s σ H _ _ xv us Q I rx rv ⟨a, b, i, rest, rfl, rfl, hr, k _ _ _ (Ext.refl _ _) sim rfl⟩
  · cases e
end
end Itp

set_option Elab.async false
set_option linter.all false
set_option autoImplicit false
set_option maxRecDepth 100000
set_option maxHeartbeats 4000000
/-! Itp, part E: each form of expression, by the hand layer's rule. -/
namespace Itp
open PySem PySem.Spec PyProof.Rows L2

/-- what is asked of a called def: by the function that it is -/
def spG (g : Gx) (n : Nat) (G : List W → IH → Out W) : Sp := fun vs H Q E => vs.length = n ∧ ∃ ι ws hp, Sim g.K ι hp H ∧ Reps g.K ι H ws vs ∧ OutG g (fun cls d _ H => E cls d H) ι [] H (Rep g.K) (G ws hp) Q

theorem notStar_each {e : Expr} {es : List Expr} {env : Env} (h : (match e with | .Starred _ _ => false | _ => true) = true) : starEach (e :: es) env = (false, eval e env) :: starEach es env := by
  cases e <;> first | rfl | cases h
def notStar : Expr → Bool
  | .Starred _ _ => false
  | _ => true
theorem star_each {e : Expr} {es : List Expr} {env : Env} (h : notStar e = true) : starEach (e :: es) env = (false, eval e env) :: starEach es env := by
  cases e <;> first | rfl | cases h
theorem star_none : ∀ {es : List Expr} {env : Env} {pos : Pos}, es.all notStar = true → (backTo pos (starEach es env)).any (·.1) = false
  | [], _, _, _ => rfl
  | e :: es, env, pos, h => by
    rw [List.all_cons, Bool.and_eq_true] at h
    rw [star_each h.1]
    show (false || (backTo pos (starEach es env)).any (·.1)) = false
    rw [star_none h.2]
    rfl
theorem star_all : ∀ {es : List Expr} {env : Env} {pos : Pos}, es.all notStar = true → (backTo pos (starEach es env)).all (fun x => !x.1) = true
  | [], _, _, _ => rfl
  | e :: es, env, pos, h => by
    rw [List.all_cons, Bool.and_eq_true] at h
    rw [star_each h.1]
    show (true && (backTo pos (starEach es env)).all (fun x => !x.1)) = true
    rw [star_all h.2]
    rfl

section
variable {X : Cx} {ca : Nat → Addr} {F : FEnv} {Wx : WX}
abbrev PEf (X : Cx) (ca : Nat → Addr) (Wx : WX) (e : Expr) (f : IS → IH → Out W) : Prop := PE X e (rdE ⟨X.K, ca⟩ Wx f)
abbrev PTf (X : Cx) (ca : Nat → Addr) (Wx : WX) (e : Expr) (f : IS → IH → Out Bool) : Prop := PT X e (rdT ⟨X.K, ca⟩ Wx f)
abbrev PAf (X : Cx) (ca : Nat → Addr) (Wx : WX) (es : List Expr) (f : IS → IH → Out (List W)) : Prop := PA X es (rdA ⟨X.K, ca⟩ Wx f)

theorem se_var {i : Nat} {x : Str} {pos : Pos} (hN : X.N[i]? = some x) (hv : Vis X.env.scope x) (hd : (x == ("__debug__" : Str)) = false) (hcd : (x == ("__classdict__" : Str)) = false) :
    PEf X ca Wx (.Name x pos) (ev F (.var i)) := by
  refine PEimp (pe_var hN hv hd hcd) fun σ H Q h => ?_
  obtain ⟨ι, ρ, hp, s, r, o⟩ := h
  simp only [ev] at o
  cases e : ρ[i]? with
  | none => simp only [e] at o; exact o.elim
  | some ow =>
    cases ow with
    | none => simp only [e] at o; exact o.elim
    | some w =>
      simp only [e] at o
      obtain ⟨v, hv, rv⟩ := r.2 i w e
      exact ⟨v, hv, o v H ι (Ext.refl _ _) s rv⟩
/-- a value that is known -/
theorem se_cst {w : W} {v : V} {e : Expr} (h : PE X e (tC v)) (r : ∀ ι H, Rep X.K ι H w v) : PEf X ca Wx e (ev F (.cst w)) := by
  refine PEimp h fun σ H Q h => ?_
  obtain ⟨ι, ρ, hp, s, _, o⟩ := h
  exact o v H ι (Ext.refl _ _) s (r _ _)
theorem sa_nil : PAf X ca Wx [] (evs F []) := by
  refine PAimp pa_nil fun σ H Q h => ?_
  obtain ⟨ι, ρ, hp, s, _, o⟩ := h
  exact o [] H ι (Ext.refl _ _) s rfl
theorem sa_cons {e : Expr} {es : List Expr} {a : IE} {as : List IE} (h1 : PEf X ca Wx e (ev F a)) (h2 : PAf X ca Wx es (evs F as)) (hs : notStar e = true) : PAf X ca Wx (e :: es) (evs F (a :: as)) := by
  refine PAimp (pa_cons h1 h2 (star_each hs)) fun σ H Q h => ?_
  obtain ⟨ι, ρ, hp, s, r, o⟩ := h
  simp only [evs] at o
  refine (bindG s r o).mono fun x H1 ⟨⟨ι1, hp1, w, e1, s1, rw1, r1, o1⟩⟩ => ?_
  refine (bindG s1 r1 o1).mono fun xs H2 ⟨⟨ι2, hp2, ws, e2, s2, rw2, r2, o2⟩⟩ => ?_
  exact o2 (x :: xs) H2 ι2 (Ext.refl _ _) s2 ⟨x, xs, rfl, Rep.ext e2 _ _ rw1, rw2⟩
theorem se_tup {es : List Expr} {as : List IE} {k : Nat} {pos : Pos} (h : PAf X ca Wx es (evs F as)) : PEf X ca Wx (.Tuple es k pos) (ev F (.tup as)) := by
  refine PEimp (pe_tup h) fun σ H Q h => ?_
  obtain ⟨ι, ρ, hp, s, r, o⟩ := h
  simp only [ev] at o
  refine (bindG s r o).mono fun xs H1 ⟨⟨ι1, hp1, ws, e1, s1, rw1, r1, o1⟩⟩ => ?_
  by_cases hl : ws.length ≤ lineLen
  · rw [if_pos hl] at o1
    refine ⟨by rw [rw1.length]; exact line_le hl, fun p hp0 => ?_⟩
    exact o1 _ _ ι1 (Ext.new hp0) (s1.new hp0) ⟨p, xs, rfl, .inl (.inl upd_same), Reps.ext (Ext.new hp0) _ _ rw1⟩
  · rw [if_neg hl] at o1
    exact o1.elim
theorem se_lst {es : List Expr} {as : List IE} {pos : Pos} (h : PAf X ca Wx es (evs F as)) : PEf X ca Wx (.List es pos) (ev F (.lst as)) := by
  refine PEimp (pe_lst h) fun σ H Q h => ?_
  obtain ⟨ι, ρ, hp, s, r, o⟩ := h
  simp only [ev] at o
  refine (bindG s r o).mono fun xs H1 ⟨⟨ι1, hp1, ws, e1, s1, rw1, r1, o1⟩⟩ => ?_
  by_cases hl : ws.length ≤ lineLen
  · rw [if_pos hl] at o1
    refine ⟨by rw [rw1.length]; exact line_le hl, fun p hp0 => ?_⟩
    exact o1 _ _ _ (Ext.lst hp0) (s1.lst hp0 rw1) ⟨p, s1.newest, rfl⟩
  · rw [if_neg hl] at o1
    exact o1.elim
theorem se_bin {op : Operator} {a b : Expr} {ia ib : IE} {pos : Pos} (ha : PEf X ca Wx a (ev F ia)) (hb : PEf X ca Wx b (ev F ib)) : PEf X ca Wx (.BinOp a op b pos) (ev F (.bin op ia ib)) := by
  refine PEimp (pe_op (op_bin op) ha hb) fun σ H Q h => ?_
  obtain ⟨ι, ρ, hp, s, r, o⟩ := h
  simp only [ev] at o
  refine (bindG s r o).mono fun x H1 ⟨⟨ι1, hp1, w, e1, s1, rw1, r1, o1⟩⟩ => ?_
  refine (bindG s1 r1 o1).mono fun y H2 ⟨⟨ι2, hp2, u, e2, s2, rw2, r2, o2⟩⟩ => ?_
  obtain ⟨z, hp', e, k⟩ := OutG.of o2
  exact ⟨ι2, hp2, w, u, z, hp', s2, Rep.ext e2 _ _ rw1, rw2, e, k⟩
theorem se_neg {a : Expr} {ia : IE} {pos : Pos} (ha : PEf X ca Wx a (ev F ia)) : PEf X ca Wx (.UnaryOp .USub a pos) (ev F (.neg ia)) := by
  refine PEimp (pe_un un_neg ha) fun σ H Q h => ?_
  obtain ⟨ι, ρ, hp, s, r, o⟩ := h
  simp only [ev] at o
  refine (bindG s r o).mono fun x H1 ⟨⟨ι1, hp1, w, e1, s1, rw1, r1, o1⟩⟩ => ?_
  cases w with
  | int i => exact ⟨i, rw1, o1 _ _ _ (Ext.refl _ _) s1 rfl⟩
  | non => exact o1.elim
  | bl _ => exact o1.elim
  | str _ => exact o1.elim
  | tup _ => exact o1.elim
  | ref _ => exact o1.elim
  | ty _ => exact o1.elim
theorem se_not {a : Expr} {ia : IE} {pos : Pos} (ha : PEf X ca Wx a (ev F ia)) : PEf X ca Wx (.UnaryOp .Not a pos) (ev F (.not ia)) := by
  refine PEimp (pe_notT ha) fun σ H Q h => ?_
  obtain ⟨ι, ρ, hp, s, r, o⟩ := h
  simp only [ev] at o
  refine (bindG s r o).mono fun x H1 ⟨⟨ι1, hp1, w, e1, s1, rw1, r1, o1⟩⟩ => ?_
  cases e : truth hp1 w with
  | none => simp only [e] at o1; exact o1.elim
  | some k =>
    simp only [e] at o1
    exact ⟨k, s1.truth e rw1, o1 _ _ _ (Ext.refl _ _) s1 rfl⟩
theorem se_cmp (hu : X.A.units + 65 < cLine) {op : CmpOp} {a b : Expr} {ia ib : IE} {pos : Pos} (ha : PEf X ca Wx a (ev F ia)) (hb : PEf X ca Wx b (ev F ib)) (hm : behindInMarks op b = false) :
    PEf X ca Wx (.Compare a [op] [b] pos) (ev F (.cmp op ia ib)) := by
  refine PEimp (pe_cmpR (op_cmp hu op) ha hb hm) fun σ H Q h => ?_
  obtain ⟨ι, ρ, hp, s, r, o⟩ := h
  simp only [ev] at o
  refine (bindG s r o).mono fun x H1 ⟨⟨ι1, hp1, w, e1, s1, rw1, r1, o1⟩⟩ => ?_
  refine (bindG s1 r1 o1).mono fun y H2 ⟨⟨ι2, hp2, u, e2, s2, rw2, r2, o2⟩⟩ => ?_
  obtain ⟨z, hp', e, k⟩ := OutG.of o2
  simp only [cmpF, Option.map_eq_some_iff] at e
  obtain ⟨c, e, e'⟩ := e
  cases e'
  exact ⟨ι2, hp2, w, u, c, s2, Rep.ext e2 _ _ rw1, rw2, e, k _ _ _ (Ext.refl _ _) s2 rfl⟩
theorem st_cmp (hu : X.A.units + 65 < cLine) {op : CmpOp} {a b : Expr} {ia ib : IE} {pos : Pos} (ha : PEf X ca Wx a (ev F ia)) (hb : PEf X ca Wx b (ev F ib)) (hm : behindInMarks op b = false) :
    PTf X ca Wx (.Compare a [op] [b] pos) (tst F (.cmp op ia ib)) := by
  refine PTimp (pt_cmpR (op_cmp hu op) ha hb hm) fun σ H Q h => ?_
  obtain ⟨ι, ρ, hp, s, r, o⟩ := h
  simp only [tst] at o
  refine (bindG s r o).mono fun x H1 ⟨⟨ι1, hp1, w, e1, s1, rw1, r1, o1⟩⟩ => ?_
  refine (bindG s1 r1 o1).mono fun y H2 ⟨⟨ι2, hp2, u, e2, s2, rw2, r2, o2⟩⟩ => ?_
  cases e : cmpB op w u hp2 with
  | none => simp only [e] at o2; exact o2.elim
  | some c =>
    simp only [e] at o2
    exact ⟨ι2, hp2, w, u, c, s2, Rep.ext e2 _ _ rw1, rw2, e, c, rfl, o2 _ _ _ (Ext.refl _ _) s2 rfl⟩
theorem se_chn (hu : X.A.units + 65 < cLine) {op op' : CmpOp} {a b c : Expr} {ia ib ic : IE} {pos : Pos} (ha : PEf X ca Wx a (ev F ia)) (hb : PEf X ca Wx b (ev F ib)) (hc : PEf X ca Wx c (ev F ic)) (hm : lastMarks [op, op'] [b, c] = false) :
    PEf X ca Wx (.Compare a [op, op'] [b, c] pos) (ev F (.chn op op' ia ib ic)) := by
  refine PEimp (pe_chain (op_cmp hu op) (op_cmp hu op') ha hb hc hm) fun σ H Q h => ?_
  obtain ⟨ι, ρ, hp, s, r, o⟩ := h
  simp only [ev] at o
  refine (bindG s r o).mono fun x H1 ⟨⟨ι1, hp1, w, e1, s1, rw1, r1, o1⟩⟩ => ?_
  refine (bindG s1 r1 o1).mono fun y H2 ⟨⟨ι2, hp2, u, e2, s2, rw2, r2, o2⟩⟩ => ?_
  cases e : cmpB op w u hp2 with
  | none => simp only [e] at o2; exact o2.elim
  | some k =>
    refine ⟨ι2, hp2, w, u, k, s2, Rep.ext e2 _ _ rw1, rw2, e, k, rfl, ?_⟩
    cases k with
    | false =>
      simp only [e] at o2
      rw [if_neg Bool.false_ne_true]
      exact o2 _ _ _ (Ext.refl _ _) s2 rfl
    | true =>
      simp only [e] at o2
      rw [if_pos rfl]
      refine (bindG s2 r2 o2).mono fun z H3 ⟨⟨ι3, hp3, q, e3, s3, rw3, r3, o3⟩⟩ => ?_
      obtain ⟨z', hp', e', k'⟩ := OutG.of o3
      simp only [cmpF, Option.map_eq_some_iff] at e'
      obtain ⟨c', e', e''⟩ := e'
      cases e''
      exact ⟨ι3, hp3, u, q, c', s3, Rep.ext e3 _ _ rw2, rw3, e', k' _ _ _ (Ext.refl _ _) s3 rfl⟩
theorem st_chn (hu : X.A.units + 65 < cLine) {op op' : CmpOp} {a b c : Expr} {ia ib ic : IE} {pos : Pos} (ha : PEf X ca Wx a (ev F ia)) (hb : PEf X ca Wx b (ev F ib)) (hc : PEf X ca Wx c (ev F ic)) (hm : lastMarks [op, op'] [b, c] = false) :
    PTf X ca Wx (.Compare a [op, op'] [b, c] pos) (tst F (.chn op op' ia ib ic)) := by
  refine PTimp (pt_chain (op_cmp hu op) (op_cmp hu op') ha hb hc hm) fun σ H Q h => ?_
  obtain ⟨ι, ρ, hp, s, r, o⟩ := h
  simp only [tst] at o
  refine (bindG s r o).mono fun x H1 ⟨⟨ι1, hp1, w, e1, s1, rw1, r1, o1⟩⟩ => ?_
  refine (bindG s1 r1 o1).mono fun y H2 ⟨⟨ι2, hp2, u, e2, s2, rw2, r2, o2⟩⟩ => ?_
  cases e : cmpB op w u hp2 with
  | none => simp only [e] at o2; exact o2.elim
  | some k =>
    refine ⟨ι2, hp2, w, u, k, s2, Rep.ext e2 _ _ rw1, rw2, e, k, rfl, ?_⟩
    cases k with
    | false =>
      simp only [e] at o2
      rw [if_neg Bool.false_ne_true]
      exact ⟨false, rfl, o2 _ _ _ (Ext.refl _ _) s2 rfl⟩
    | true =>
      simp only [e] at o2
      rw [if_pos rfl]
      refine (bindG s2 r2 o2).mono fun z H3 ⟨⟨ι3, hp3, q, e3, s3, rw3, r3, o3⟩⟩ => ?_
      cases e' : cmpB op' u q hp3 with
      | none => simp only [e'] at o3; exact o3.elim
      | some c' =>
        simp only [e'] at o3
        exact ⟨ι3, hp3, u, q, c', s3, Rep.ext e3 _ _ rw2, rw3, e', c', rfl, o3 _ _ _ (Ext.refl _ _) s3 rfl⟩
theorem se_and {a b : Expr} {rest : List Expr} {ia ib : IE} {pos : Pos} (ha : PEf X ca Wx a (ev F ia)) (hb : PEf X ca Wx (.BoolOp .And (b :: rest) pos) (ev F ib)) : PEf X ca Wx (.BoolOp .And (a :: b :: rest) pos) (ev F (.and ia ib)) := by
  refine PEimp (pe_andT ha hb) fun σ H Q h => ?_
  obtain ⟨ι, ρ, hp, s, r, o⟩ := h
  simp only [ev] at o
  refine (bindG s r o).mono fun x H1 ⟨⟨ι1, hp1, w, e1, s1, rw1, r1, o1⟩⟩ => ?_
  cases e : truth hp1 w with
  | none => simp only [e] at o1; exact o1.elim
  | some k =>
    refine ⟨k, s1.truth e rw1, ?_⟩
    cases k with
    | true =>
      simp only [e] at o1
      rw [if_pos rfl]
      exact ⟨ι1, ρ, hp1, s1, r1, o1⟩
    | false =>
      simp only [e] at o1
      rw [if_neg Bool.false_ne_true]
      exact o1 _ _ _ (Ext.refl _ _) s1 rw1
theorem se_or {a b : Expr} {rest : List Expr} {ia ib : IE} {pos : Pos} (ha : PEf X ca Wx a (ev F ia)) (hb : PEf X ca Wx (.BoolOp .Or (b :: rest) pos) (ev F ib)) : PEf X ca Wx (.BoolOp .Or (a :: b :: rest) pos) (ev F (.or ia ib)) := by
  refine PEimp (pe_orT ha hb) fun σ H Q h => ?_
  obtain ⟨ι, ρ, hp, s, r, o⟩ := h
  simp only [ev] at o
  refine (bindG s r o).mono fun x H1 ⟨⟨ι1, hp1, w, e1, s1, rw1, r1, o1⟩⟩ => ?_
  cases e : truth hp1 w with
  | none => simp only [e] at o1; exact o1.elim
  | some k =>
    refine ⟨k, s1.truth e rw1, ?_⟩
    cases k with
    | true =>
      simp only [e] at o1
      rw [if_pos rfl]
      exact o1 _ _ _ (Ext.refl _ _) s1 rw1
    | false =>
      simp only [e] at o1
      rw [if_neg Bool.false_ne_true]
      exact ⟨ι1, ρ, hp1, s1, r1, o1⟩
theorem se_ite {c a b : Expr} {ic : IT} {ia ib : IE} {pos : Pos} (hc : PTf X ca Wx c (tst F ic)) (ha : PEf X ca Wx a (ev F ia)) (hb : PEf X ca Wx b (ev F ib)) : PEf X ca Wx (.IfExp c a b pos) (ev F (.ite ic ia ib)) := by
  refine PEimp (pe_ifExp hc ha hb) fun σ H Q h => ?_
  obtain ⟨ι, ρ, hp, s, r, o⟩ := h
  simp only [ev] at o
  refine (bindG s r o).mono fun k H1 ⟨⟨ι1, hp1, w, e1, s1, rw1, r1, o1⟩⟩ => ?_
  obtain rfl : k = w := rw1
  cases k with
  | true =>
    rw [if_pos rfl] at o1
    rw [if_pos rfl]
    exact ⟨ι1, ρ, hp1, s1, r1, o1⟩
  | false =>
    rw [if_neg Bool.false_ne_true] at o1
    rw [if_neg Bool.false_ne_true]
    exact ⟨ι1, ρ, hp1, s1, r1, o1⟩
/-! tests -/
theorem st_not {a : Expr} {ia : IT} {pos : Pos} (ha : PTf X ca Wx a (tst F ia)) : PTf X ca Wx (.UnaryOp .Not a pos) (tst F (.not ia)) := by
  refine PTimp (pt_not ha) fun σ H Q h => ?_
  obtain ⟨ι, ρ, hp, s, r, o⟩ := h
  simp only [tst] at o
  refine (bindG s r o).mono fun k H1 ⟨⟨ι1, hp1, w, e1, s1, rw1, r1, o1⟩⟩ => ?_
  obtain rfl : k = w := rw1
  exact o1 _ _ _ (Ext.refl _ _) s1 rfl
theorem st_tru {e : Expr} {ie : IE} (h : PEf X ca Wx e (ev F ie)) (he : ∀ whole, isTrue e X.env whole = (do let v ← whole; standAt e.pos; holding [v] (truthy v))) : PTf X ca Wx e (tst F (.tru ie)) := by
  refine PTimp (pt_truth h he) fun σ H Q h => ?_
  obtain ⟨ι, ρ, hp, s, r, o⟩ := h
  simp only [tst] at o
  refine (bindG s r o).mono fun x H1 ⟨⟨ι1, hp1, w, e1, s1, rw1, r1, o1⟩⟩ => ?_
  cases e : truth hp1 w with
  | none => simp only [e] at o1; exact o1.elim
  | some k =>
    simp only [e] at o1
    exact ⟨k, s1.truth e rw1, o1 _ _ _ (Ext.refl _ _) s1 rfl⟩
abbrev PWf (X : Cx) (ca : Nat → Addr) (Wx : WX) (e : Expr) (f : IS → IH → Out Bool) : Prop := PW X e (rdT ⟨X.K, ca⟩ Wx f)
theorem PWimp {e : Expr} {t t' : TT} (h : PW X e t) (k : ∀ σ H Q, t' σ H Q → t σ H Q) : PW X e t' := ⟨fun wh pins s σ H Q I q => h.run wh pins s σ H Q I (k _ _ _ q)⟩
theorem sw_and1 {a : Expr} {ia : IT} {pos : Pos} (ha : PTf X ca Wx a (tst F ia)) : PWf X ca Wx (.BoolOp .And [a] pos) (tst F ia) := pw_and1 ha
theorem sw_or1 {a : Expr} {ia : IT} {pos : Pos} (ha : PTf X ca Wx a (tst F ia)) : PWf X ca Wx (.BoolOp .Or [a] pos) (tst F ia) := pw_or1 ha
theorem sw_and {a b : Expr} {rest : List Expr} {ia ib : IT} {pos : Pos} (ha : PTf X ca Wx a (tst F ia)) (hb : PWf X ca Wx (.BoolOp .And (b :: rest) pos) (tst F ib)) : PWf X ca Wx (.BoolOp .And (a :: b :: rest) pos) (tst F (.and ia ib)) := by
  refine PWimp (pw_and ha hb) fun σ H Q h => ?_
  obtain ⟨ι, ρ, hp, s, r, o⟩ := h
  simp only [tst] at o
  refine (bindG s r o).mono fun k H1 ⟨⟨ι1, hp1, w, e1, s1, rw1, r1, o1⟩⟩ => ?_
  obtain rfl : k = w := rw1
  cases k with
  | true =>
    rw [if_pos rfl] at o1
    rw [if_pos rfl]
    exact ⟨ι1, ρ, hp1, s1, r1, o1⟩
  | false =>
    rw [if_neg Bool.false_ne_true] at o1
    rw [if_neg Bool.false_ne_true]
    exact o1 _ _ _ (Ext.refl _ _) s1 rfl
theorem sw_or {a b : Expr} {rest : List Expr} {ia ib : IT} {pos : Pos} (ha : PTf X ca Wx a (tst F ia)) (hb : PWf X ca Wx (.BoolOp .Or (b :: rest) pos) (tst F ib)) : PWf X ca Wx (.BoolOp .Or (a :: b :: rest) pos) (tst F (.or ia ib)) := by
  refine PWimp (pw_or ha hb) fun σ H Q h => ?_
  obtain ⟨ι, ρ, hp, s, r, o⟩ := h
  simp only [tst] at o
  refine (bindG s r o).mono fun k H1 ⟨⟨ι1, hp1, w, e1, s1, rw1, r1, o1⟩⟩ => ?_
  obtain rfl : k = w := rw1
  cases k with
  | true =>
    rw [if_pos rfl] at o1
    rw [if_pos rfl]
    exact o1 _ _ _ (Ext.refl _ _) s1 rfl
  | false =>
    rw [if_neg Bool.false_ne_true] at o1
    rw [if_neg Bool.false_ne_true]
    exact ⟨ι1, ρ, hp1, s1, r1, o1⟩
/-! subscripts -/
theorem se_sub {a b : Expr} {ia ib : IE} {pos : Pos} (ha : PEf X ca Wx a (ev F ia)) (hb : PEf X ca Wx b (ev F ib)) (hs : PlainIx b) : PEf X ca Wx (.Subscript a b pos) (ev F (.sub ia ib)) := by
  refine PEimp (pe_ix ix_F ha hb hs) fun σ H Q h => ?_
  obtain ⟨ι, ρ, hp, s, r, o⟩ := h
  simp only [ev] at o
  refine (bindG s r o).mono fun x H1 ⟨⟨ι1, hp1, w, e1, s1, rw1, r1, o1⟩⟩ => ?_
  refine (bindG s1 r1 o1).mono fun y H2 ⟨⟨ι2, hp2, u, e2, s2, rw2, r2, o2⟩⟩ => ?_
  obtain ⟨z, hp', e, k⟩ := OutG.of o2
  exact ⟨ι2, hp2, w, u, z, hp', s2, Rep.ext e2 _ _ rw1, rw2, e, k⟩
abbrev POf (X : Cx) (ca : Nat → Addr) (Wx : WX) (e : Option Expr) (f : IS → IH → Out (Option Int)) : Prop := PO X e (rdG ⟨X.K, ca⟩ Wx (fun _ _ a b => b = a) f)
theorem POimp {e : Option Expr} {t t' : TO} (h : PO X e t) (k : ∀ σ H Q, t' σ H Q → t σ H Q) : PO X e t' := ⟨fun pins s σ H Q I q => h.run pins s σ H Q I (k _ _ _ q)⟩
theorem so_none : POf X ca Wx none (evO F none) := by
  refine POimp po_none fun σ H Q h => ?_
  obtain ⟨ι, ρ, hp, s, r, o⟩ := h
  exact o _ _ _ (Ext.refl _ _) s rfl
theorem so_some {e : Expr} {ie : IE} (h : PEf X ca Wx e (ev F ie)) : POf X ca Wx (some e) (evO F (some ie)) := by
  refine POimp (po_some h) fun σ H Q h => ?_
  obtain ⟨ι, ρ, hp, s, r, o⟩ := h
  simp only [evO] at o
  refine (bindG s r o).mono fun x H1 ⟨⟨ι1, hp1, w, e1, s1, rw1, r1, o1⟩⟩ => ?_
  cases w with
  | int i => exact ⟨i, rw1, o1 _ _ _ (Ext.refl _ _) s1 rfl⟩
  | non => exact o1.elim
  | bl _ => exact o1.elim
  | str _ => exact o1.elim
  | tup _ => exact o1.elim
  | ref _ => exact o1.elim
  | ty _ => exact o1.elim
theorem se_slc {a : Expr} {lo hi : Option Expr} {ia : IE} {il ih : Option IE} {pos p2 : Pos} (ha : PEf X ca Wx a (ev F ia)) (hl : POf X ca Wx lo (evO F il)) (hh : POf X ca Wx hi (evO F ih)) :
    PEf X ca Wx (.Subscript a (.Slice lo hi none p2) pos) (ev F (.slc ia il ih)) := by
  refine PEimp (pe_slice sl_F ha hl hh) fun σ H Q h => ?_
  obtain ⟨ι, ρ, hp, s, r, o⟩ := h
  simp only [ev] at o
  refine (bindG s r o).mono fun x H1 ⟨⟨ι1, hp1, w, e1, s1, rw1, r1, o1⟩⟩ => ?_
  refine (bindG s1 r1 o1).mono fun l H2 ⟨⟨ι2, hp2, l', e2, s2, rw2, r2, o2⟩⟩ => ?_
  refine (bindG s2 r2 o2).mono fun u H3 ⟨⟨ι3, hp3, u', e3, s3, rw3, r3, o3⟩⟩ => ?_
  obtain rfl : l = l' := rw2
  obtain rfl : u = u' := rw3
  obtain ⟨z, hp', e, k⟩ := OutG.of o3
  exact ⟨ι3, hp3, w, z, hp', s3, Rep.ext (e2.trans e3) _ _ rw1, e, k⟩
/-! built-in functions and methods -/
theorem se_bltB {f : BF} {id : String} {x : Str} {e : Expr} {es : List Expr} {as : List IE} {p pos : Pos} (hid : bfVal f = .builtin id) (hc : X.calm = true) (hgd : X.A.guards = some []) (hu : X.A.units + 65 < cLine) (hg : Gl X x) (hm : X.mg x = none) (hv : bootBuiltins x = some (.builtin id))
    (ha : PAf X ca Wx (e :: es) (evs F as)) (hs : (e :: es).all notStar = true) (hn : x ≠ "__name__") (hdb : (x == ("__debug__" : Str)) = false) : PEf X ca Wx (.Call (.Name x p) (e :: es) [] pos) (ev F (.blt f as)) := by
  have h2 := hs
  rw [List.all_cons, Bool.and_eq_true] at h2
  have cF := call_F (X := X) hc hgd hu f
  rw [hid] at cF
  refine PEimp (pe_callB cF hg hm hv ha hn hdb (star_each h2.1) (star_none h2.2)) fun σ H Q h => ?_
  obtain ⟨ι, ρ, hp, s, r, o⟩ := h
  simp only [ev] at o
  refine (bindG s r o).mono fun xs H1 ⟨⟨ι1, hp1, ws, e1, s1, rw1, r1, o1⟩⟩ => ?_
  obtain ⟨z, hp', e, k⟩ := OutG.of o1
  exact ⟨ι1, hp1, ws, z, hp', s1, rw1, e, k⟩
theorem se_bltT {f : BF} {id : String} {x : Str} {e : Expr} {es : List Expr} {as : List IE} {p pos : Pos} (hid : bfVal f = .type id) (hc : X.calm = true) (hgd : X.A.guards = some []) (hu : X.A.units + 65 < cLine) (hg : Gl X x) (hm : X.mg x = none) (hv : bootBuiltins x = some (.type id))
    (ha : PAf X ca Wx (e :: es) (evs F as)) (hs : (e :: es).all notStar = true) (hn : x ≠ "__name__") (hdb : (x == ("__debug__" : Str)) = false) : PEf X ca Wx (.Call (.Name x p) (e :: es) [] pos) (ev F (.blt f as)) := by
  have h2 := hs
  rw [List.all_cons, Bool.and_eq_true] at h2
  have cF := call_F (X := X) hc hgd hu f
  rw [hid] at cF
  refine PEimp (pe_callTy cF hg hm hv ha hn hdb (star_each h2.1) (star_none h2.2)) fun σ H Q h => ?_
  obtain ⟨ι, ρ, hp, s, r, o⟩ := h
  simp only [ev] at o
  refine (bindG s r o).mono fun xs H1 ⟨⟨ι1, hp1, ws, e1, s1, rw1, r1, o1⟩⟩ => ?_
  obtain ⟨z, hp', e, k⟩ := OutG.of o1
  exact ⟨ι1, hp1, ws, z, hp', s1, rw1, e, k⟩
theorem rec_ty {K : PySem.W.Frag} {ι : List Addr} {hp : IH} {H : Hp} {m : BM} {w : W} {v : V} (s : Sim K ι hp H) (h : recOk m w hp = true) (r : Rep K ι H w v) : tyV K (bmT m) v H := by
  cases w with
  | str x => cases r; cases m <;> first | rfl | cases h
  | ref n =>
    cases m
    all_goals first
      | cases h
      | (simp only [recOk] at h
         split at h
         · rename_i xs e
           obtain ⟨a, vs, ha, hv, _⟩ := s.lstAt e
           have ev := Rep.ref r ha
           subst ev
           exact .inl ⟨rfl, vs, SqL.of hv⟩
         · cases h)
  | non => cases m <;> cases h
  | bl _ => cases m <;> cases h
  | int _ => cases m <;> cases h
  | tup _ => cases m <;> cases h
  | ty _ => cases m <;> cases h
theorem meth_facts (m : BM) : PlainAttrs (bmT m) ∧ Slot (bmT m) (bmName m) (bmId m) ∧ typeOf (.builtin (bmId m)) = pure (.type "method_descriptor") := by
  cases m with
  | append => exact ⟨PySem.F.plainAttrs_list, PySem.F.slot_list_append, PySem.F.type_list_append⟩
  | extend => exact ⟨PySem.F.plainAttrs_list, PySem.F.slot_list_extend, PySem.F.type_list_extend⟩
  | pop => exact ⟨PySem.F.plainAttrs_list, PySem.F.slot_list_pop, PySem.F.type_list_pop⟩
  | join => exact ⟨PySem.F.plainAttrs_str, PySem.F.slot_str_join, PySem.F.type_str_join⟩
  | count => exact ⟨PySem.F.plainAttrs_str, PySem.F.slot_str_count, PySem.F.type_str_count⟩
  | rfind => exact ⟨PySem.F.plainAttrs_str, PySem.F.slot_str_rfind, PySem.F.type_str_rfind⟩
  | isalpha => exact ⟨PySem.F.plainAttrs_str, PySem.F.slot_str_isalpha, PySem.F.type_str_isalpha⟩
  | index => exact ⟨PySem.F.plainAttrs_str, PySem.F.slot_str_index, PySem.F.type_str_index⟩
  | upper => exact ⟨PySem.F.plainAttrs_str, PySem.F.slot_str_upper, PySem.F.type_str_upper⟩
theorem se_meth {m : BM} {o e : Expr} {es : List Expr} {io : IE} {as : List IE} {apos cpos : Pos} (ho : PEf X ca Wx o (ev F io)) (ha : PAf X ca Wx (e :: es) (evs F as)) (hs : (e :: es).all notStar = true) (hlen : (e :: es).length < 30)
    (hbase : attributeBase o (bmName m) X.env (eval o X.env) = eval o X.env) (hline : (apos.endLine == cpos.line) = true) : PEf X ca Wx (.Call (.Attribute o (bmName m) apos) (e :: es) [] cpos) (ev F (.meth m io as)) := by
  have h2 := hs
  rw [List.all_cons, Bool.and_eq_true] at h2
  obtain ⟨f1, f2, f3⟩ := meth_facts m
  refine PEimp (pe_bm f1 f2 f3 (meth_F m) ho ha hbase ?_ hline (star_each h2.1) (star_none h2.2)) fun σ H Q h => ?_
  · rw [star_all hs]
    show (true && decide ((e :: es).length + 0 + 0 < 30)) = true
    rw [decide_eq_true (by omega)]
    rfl
  · obtain ⟨ι, ρ, hp, s, r, o⟩ := h
    simp only [ev] at o
    refine (bindG s r o).mono fun x H1 ⟨⟨ι1, hp1, w, e1, s1, rw1, r1, o1⟩⟩ => ?_
    cases ho : recOk m w hp1 with
    | false => rw [ho, if_neg Bool.false_ne_true] at o1; exact o1.elim
    | true =>
      rw [ho, if_pos rfl] at o1
      refine ⟨rec_ty s1 ho rw1, (bindG s1 r1 o1).mono fun xs H2 ⟨⟨ι2, hp2, ws, e2, s2, rw2, r2, o2⟩⟩ => ?_⟩
      obtain ⟨z, hp', e, k⟩ := OutG.of o2
      exact ⟨ι2, hp2, w, ws, z, hp', s2, Rep.ext e2 _ _ rw1, rw2, e, k⟩
theorem se_meth0 {m : BM} {o : Expr} {io : IE} {apos cpos : Pos} (ho : PEf X ca Wx o (ev F io))
    (hbase : attributeBase o (bmName m) X.env (eval o X.env) = eval o X.env) (hline : (apos.endLine == cpos.line) = true) : PEf X ca Wx (.Call (.Attribute o (bmName m) apos) [] [] cpos) (ev F (.meth m io [])) := by
  obtain ⟨f1, f2, f3⟩ := meth_facts m
  refine PEimp (pe_bm0 f1 f2 f3 (meth_F m) ho hbase hline) fun σ H Q h => ?_
  obtain ⟨ι, ρ, hp, s, r, o⟩ := h
  simp only [ev, evs] at o
  refine (bindG s r o).mono fun x H1 ⟨⟨ι1, hp1, w, e1, s1, rw1, r1, o1⟩⟩ => ?_
  cases ho : recOk m w hp1 with
  | false => rw [ho, if_neg Bool.false_ne_true] at o1; exact o1.elim
  | true =>
    rw [ho, if_pos rfl] at o1
    refine ⟨rec_ty s1 ho rw1, ?_⟩
    simp only [Out.bind_ok] at o1
    obtain ⟨z, hp', e, k⟩ := OutG.of o1
    exact ⟨ι1, hp1, w, [], z, hp', s1, rw1, rfl, e, k⟩
end
end Itp

set_option Elab.async false
set_option linter.all false
set_option autoImplicit false
set_option maxRecDepth 100000
set_option maxHeartbeats 4000000
/-! Itp, part G: calls of own defs, targets, what is walked, comprehensions. -/
namespace Itp
open PySem PySem.Spec PyProof.Rows L2

/-- what is told of an own def: its name, its parameters, the calls with keywords (how many by position, the keywords, where each parameter's value stands), its level -/
structure FI where
  name : Str
  ps : List Str
  kwp : List (Nat × List Str × List Nat)
  lev : Nat
/-- a def's promise where nothing is being shown (no repr is under way around it) -/
structure FnG (P : Program) (w : World) (K : PySem.W.Frag) (mg : Str → Option Value) (base : Heap) (k : Nat) (f : Addr) (fd : FuncData) (ps : List Str) (sp : Sp) : Prop where
  len : ∀ vs H Q E, sp vs H Q E → vs.length = ps.length
  go : ∀ (A : Around) (outer : List Env) (s : Shared) (H : Hp) (args : Args) (us : List Value) (vs : List V) (Q : VK) (E : XK), A.guards = some [] → Room k A → Env0 P w K mg base A outer s H →
    BindsTo s fd args (ps.zip us) → Vals vs us → sp vs H Q E → codeAny (model P w) A (.call (.ref f) args) (CR (L2.CX P w) outer P w H s Q E) s
structure FOk (X : Cx) (ca : Nat → Addr) (i : FI) (G : List W → IH → Out W) : Prop where
  ar : ∀ ws hp, G ws hp ≠ .stuck → ws.length = i.ps.length
  ex : ∃ fa fd, X.mg i.name = some (.ref fa) ∧ PySem.W.keepIn X.K (.ref fa) = true ∧ Binds X.K fd i.ps [] ∧
    (∀ q ∈ i.kwp, KBn X.K fd i.ps q.1 q.2.1 (fun us ws => pm q.2.2 (us ++ ws)) (fun vs zs => pm q.2.2 (vs ++ zs))) ∧
    FnG X.prog X.w X.K X.mg X.base i.lev fa fd i.ps (spG ⟨X.K, ca⟩ i.ps.length G) ∧ Room i.lev X.A ∧ X.A.guards = some []

theorem pm_vals {vs : List V} {us : List Value} (r : Vals vs us) : ∀ perm : List Nat, Vals (pm perm vs) (pm perm us)
  | [] => .nil
  | j :: perm => by
    unfold pm
    rw [List.filterMap_cons, List.filterMap_cons]
    cases e : vs[j]? with
    | none =>
      rw [Vals.none_of r e]
      exact pm_vals r perm
    | some v =>
      obtain ⟨u, hu, ru⟩ := r.get e
      rw [hu]
      exact .cons ru (pm_vals r perm)
theorem pm_reps {K : PySem.W.Frag} {ι : List Addr} {H : Hp} {ws : List W} {vs : List V} (r : Reps K ι H ws vs) : ∀ perm : List Nat, Reps K ι H (pm perm ws) (pm perm vs)
  | [] => rfl
  | j :: perm => by
    unfold pm
    rw [List.filterMap_cons, List.filterMap_cons]
    cases e : ws[j]? with
    | none =>
      have hj : vs[j]? = none := by
        rw [List.getElem?_eq_none_iff, r.length]
        exact List.getElem?_eq_none_iff.mp e
      rw [hj]
      exact pm_reps r perm
    | some w =>
      obtain ⟨v, hv, rv⟩ := r.get e
      rw [hv]
      exact ⟨v, _, rfl, rv, pm_reps r perm⟩

section
variable {X : Cx} {ca : Nat → Addr} {F : FEnv} {Wx : WX}
theorem spG_of {fi : FI} {f : Nat} (ok : FOk X ca fi (F f)) {ι : List Addr} {σ : L2.St} {H : Hp} {hp : IH} {ws : List W} {vs : List V} {Q : VK} (s : Sim X.K ι hp H) (r : Reps X.K ι H ws vs) (o : OutG ⟨X.K, ca⟩ Wx ι σ H (Rep X.K) (F f ws hp) Q) :
    spG ⟨X.K, ca⟩ fi.ps.length (F f) vs H Q (WE Wx σ) := by
  refine ⟨?_, ι, ws, hp, s, r, ?_⟩
  · rw [r.length]
    refine ok.ar ws hp fun z => ?_
    rw [z] at o
    exact o
  · generalize F f ws hp = z at o ⊢
    cases z with
    | ok a hp' => exact o
    | err c fs hp' => exact o
    | stuck => exact o
/-- f(e, ..): the call itself -/
theorem run_ps {k : Nat} {f : Addr} {fd : FuncData} {ps : List Str} {sp : Sp} {E : L2.St → XK} {pins : List (Addr × Obj)} {σ : L2.St} {H : Hp} {s : Shared} {Q : VK} {us : List Value} {vs : List V}
    (Fk : FnG X.prog X.w X.K X.mg X.base k f fd ps sp) (hgd : X.A.guards = some []) (hr : Room k X.A) (hb : Binds X.K fd ps []) (hx : PassesAt (L2.CX X.prog X.w) X σ (E σ)) (I : Inv X pins σ H s) (r : Vals vs us)
    (h : sp vs H Q (E σ)) : wpAny (model X.prog X.w) X.A (call (.ref f) us) (EP X pins σ Q) X.xe s := by
  have many : (us ++ []).length = ps.length := by rw [List.append_nil, ← r.length, Fk.len _ _ _ _ h]
  have bound := hb s us I.kIn many
  simp only [List.append_nil] at bound
  refine wpAny_call (codeAny_mono (Fk.go X.A X.stack s H ⟨us, []⟩ us vs Q (E σ) hgd hr I.env0 bound r h) fun rr s' hq => ?_)
  match rr, hq with
  | .error e, hq => exact hx pins H s e s' I hq
  | .ok (.ret u), hq => exact I.after hq
theorem se_call {fi : FI} {f : Nat} {e : Expr} {es : List Expr} {as : List IE} {p pos : Pos} (ok : FOk X ca fi (F f)) (tk : Takes X Wx) (hg : Gl X fi.name) (ha : PAf X ca Wx (e :: es) (evs F as)) (hs : (e :: es).all notStar = true)
    (hdb : (fi.name == ("__debug__" : Str)) = false) : PEf X ca Wx (.Call (.Name fi.name p) (e :: es) [] pos) (ev F (.call f as)) := by
  have h2 := hs
  rw [List.all_cons, Bool.and_eq_true] at h2
  obtain ⟨fa, fd, hm, hk, hb, _, Fk, hr, hgd⟩ := ok.ex
  refine ⟨fun pins s σ H Q I h => ?_⟩
  obtain ⟨ι, ρ, hp, sm, r, o⟩ := h
  simp only [ev] at o
  refine wpAny_Call_Name_kw (ld_glob I hg hm ?_ hdb)
  refine PySem.W.callWith_K (h₀ := X.base) I.ok.mod.kin hk (thn (ha.run pos pins s σ H _ I (bindG sm r o)) fun us s1 ⟨vs, H1, I1, rv, ⟨ι1, hp1, ws, e1, sm1, rw1, r1, o1⟩⟩ => ⟨I1.kIn, ?_⟩) (star_each h2.1) (star_none h2.2)
  exact run_ps (E := WE Wx) Fk hgd hr hb (passAt tk σ) I1 rv (spG_of ok sm1 rw1 o1)
theorem se_call0 {fi : FI} {f : Nat} {p pos : Pos} (ok : FOk X ca fi (F f)) (tk : Takes X Wx) (hg : Gl X fi.name) (hdb : (fi.name == ("__debug__" : Str)) = false) : PEf X ca Wx (.Call (.Name fi.name p) [] [] pos) (ev F (.call f [])) := by
  obtain ⟨fa, fd, hm, hk, hb, _, Fk, hr, hgd⟩ := ok.ex
  refine ⟨fun pins s σ H Q I h => ?_⟩
  obtain ⟨ι, ρ, hp, sm, r, o⟩ := h
  simp only [ev, evs] at o
  refine wpAny_Call_Name_kw (ld_glob I hg hm ?_ hdb)
  refine PySem.W.callWith_K0 I.kIn hk (run_ps (E := WE Wx) (us := []) (vs := []) Fk hgd hr hb (passAt tk σ) I .nil ?_)
  exact spG_of (ws := []) ok sm rfl o

/-- f(e, .., k = v, ..) with what is raised wished for at the slots -/
theorem run_kw {k n : Nat} {f : Addr} {fd : FuncData} {ps ks : List Str} {sp : Sp} {E : L2.St → XK} {g : List Value → List Value → List Value} {gV : List V → List V → List V} {pins : List (Addr × Obj)} {σ : L2.St} {H : Hp} {s : Shared} {Q : VK} {us ws : List Value} {vs zs : List V}
    (Fk : FnG X.prog X.w X.K X.mg X.base k f fd ps sp) (hgd : X.A.guards = some []) (hr : Room k X.A) (hb : KBn X.K fd ps n ks g gV) (hx : PassesAt (L2.CX X.prog X.w) X σ (E σ)) (I : Inv X pins σ H s) (r : Vals vs us) (rz : Vals zs ws) (l1 : vs.length = n) (l2 : zs.length = ks.length)
    (h : sp (gV vs zs) H Q (E σ)) : wpAny (model X.prog X.w) X.A (call (.ref f) us (ks.zip ws)) (EP X pins σ Q) X.xe s := by
  refine wpAny_call (codeAny_mono (Fk.go X.A X.stack s H ⟨us, ks.zip ws⟩ (g us ws) (gV vs zs) Q (E σ) hgd hr I.env0 (hb.to s us ws I.kIn (r.length.symm.trans l1) (rz.length.symm.trans l2)) (hb.rel r rz) h) fun rr s' hq => ?_)
  match rr, hq with
  | .error e, hq => exact hx pins H s e s' I hq
  | .ok (.ret u), hq => exact I.after hq
abbrev PKf (X : Cx) (ca : Nat → Addr) (Wx : WX) (es : List Keyword) (f : IS → IH → Out (List W)) : Prop := PK X es (rdA ⟨X.K, ca⟩ Wx f)
theorem PKimp {e : List Keyword} {t t' : TA} (h : PK X e t) (k : ∀ σ H Q, t' σ H Q → t σ H Q) : PK X e t' := ⟨fun p pins s σ H Q I q => h.run p pins s σ H Q I (k _ _ _ q)⟩
theorem sk_nil : PKf X ca Wx [] (evs F []) := by
  refine PKimp pk_nil fun σ H Q h => ?_
  obtain ⟨ι, ρ, hp, s, _, o⟩ := h
  exact o [] H ι (Ext.refl _ _) s rfl
theorem sk_cons {nm : Option Str} {e : Expr} {kp : Pos} {kws : List Keyword} {a : IE} {as : List IE} (h1 : PEf X ca Wx e (ev F a)) (h2 : PKf X ca Wx kws (evs F as)) : PKf X ca Wx (⟨nm, e, kp⟩ :: kws) (evs F (a :: as)) := by
  refine PKimp (pk_cons h1 h2) fun σ H Q h => ?_
  obtain ⟨ι, ρ, hp, s, r, o⟩ := h
  simp only [evs] at o
  refine (bindG s r o).mono fun x H1 ⟨⟨ι1, hp1, w, e1, s1, rw1, r1, o1⟩⟩ => ?_
  refine (bindG s1 r1 o1).mono fun xs H2 ⟨⟨ι2, hp2, ws, e2, s2, rw2, r2, o2⟩⟩ => ?_
  exact o2 (x :: xs) H2 ι2 (Ext.refl _ _) s2 ⟨x, xs, rfl, Rep.ext e2 _ _ rw1, rw2⟩
/-- keywords, each by a name -/
def kwNames : List Keyword → Option (List Str)
  | [] => some []
  | ⟨some n, _, _⟩ :: r => (kwNames r).map (n :: ·)
  | ⟨none, _, _⟩ :: _ => none
theorem kw_ok {pos : Pos} {env : Env} : ∀ {kws : List Keyword} {ks : List Str}, kwNames kws = some ks →
    (backToKw pos (keywordEach kws env)).all (·.1.isSome) = true ∧ (backToKw pos (keywordEach kws env)).filterMap (·.1) = ks ∧ (backToKw pos (keywordEach kws env)).any (·.1.isNone) = false
  | [], ks, h => by cases h; exact ⟨rfl, rfl, rfl⟩
  | ⟨some n, e, p⟩ :: r, ks, h => by
    simp only [kwNames, Option.map_eq_some_iff] at h
    obtain ⟨ks', h, rfl⟩ := h
    obtain ⟨h1, h2, h3⟩ := kw_ok (pos := pos) (env := env) h
    refine ⟨?_, ?_, ?_⟩
    · show (true && (backToKw pos (keywordEach r env)).all (·.1.isSome)) = true
      rw [h1]
      rfl
    · show n :: (backToKw pos (keywordEach r env)).filterMap (·.1) = n :: ks'
      rw [h2]
    · show (false || (backToKw pos (keywordEach r env)).any (·.1.isNone)) = false
      rw [h3]
      rfl
  | ⟨none, _, _⟩ :: _, _, h => by cases h
theorem se_callk {fi : FI} {f n : Nat} {ks : List Str} {perm : List Nat} {e : Expr} {es : List Expr} {kws : List Keyword} {as zs : List IE} {p pos : Pos} (ok : FOk X ca fi (F f)) (tk : Takes X Wx) (hg : Gl X fi.name) (ha : PAf X ca Wx (e :: es) (evs F as)) (hkw : PKf X ca Wx kws (evs F zs))
    (hs : (e :: es).all notStar = true) (hdb : (fi.name == ("__debug__" : Str)) = false) (hks : kwNames kws = some ks) (hq : (n, ks, perm) ∈ fi.kwp) (l1 : as.length = n) (l2 : zs.length = ks.length) :
    PEf X ca Wx (.Call (.Name fi.name p) (e :: es) kws pos) (ev F (.callk f perm as zs)) := by
  have h2 := hs
  rw [List.all_cons, Bool.and_eq_true] at h2
  obtain ⟨k1, k2, k3⟩ := kw_ok (pos := pos) (env := X.env) hks
  obtain ⟨fa, fd, hm, hk, _, hb, Fk, hr, hgd⟩ := ok.ex
  refine ⟨fun pins s σ H Q I h => ?_⟩
  obtain ⟨ι, ρ, hp, sm, r, o⟩ := h
  simp only [ev] at o
  refine wpAny_Call_Name_kw (ld_glob I hg hm ?_ hdb)
  refine PySem.W.callWith_KW (h₀ := X.base) I.ok.mod.kin hk k1 (thn (ha.run pos pins s σ H _ I (bindG sm r o)) fun us s1 ⟨vs, H1, I1, rv, ⟨ι1, hp1, ws, e1, sm1, rw1, r1, o1⟩⟩ => ?_) ?_ (star_each h2.1)
  · refine thn (hkw.run pos pins s1 σ H1 _ I1 (bindG sm1 r1 o1)) fun us2 s2 ⟨vs2, H2, I2, rv2, ⟨ι2, hp2, ws2, e2, sm2, rw2, r2, o2⟩⟩ => ⟨I2.kIn, ?_⟩
    rw [k2]
    by_cases hl : ws.length = as.length ∧ ws2.length = zs.length
    · rw [if_pos hl] at o2
      refine run_kw (E := WE Wx) Fk hgd hr (hb _ hq) (passAt tk σ) I2 rv rv2 ?_ ?_ ?_
      · rw [rw1.length, hl.1, l1]
      · rw [rw2.length, hl.2, l2]
      · exact spG_of ok sm2 (pm_reps ((Reps.ext e2 _ _ rw1).append rw2) _) o2
    · rw [if_neg hl] at o2
      exact o2.elim
  · rw [k3]
    show ((backTo pos (starEach (e :: es) X.env)).any (·.1) || false) = false
    rw [star_none hs]
    rfl
theorem se_callk0 {fi : FI} {f : Nat} {ks : List Str} {perm : List Nat} {kws : List Keyword} {zs : List IE} {p pos : Pos} (ok : FOk X ca fi (F f)) (tk : Takes X Wx) (hg : Gl X fi.name) (hkw : PKf X ca Wx kws (evs F zs))
    (hdb : (fi.name == ("__debug__" : Str)) = false) (hks : kwNames kws = some ks) (hq : (0, ks, perm) ∈ fi.kwp) (l2 : zs.length = ks.length) :
    PEf X ca Wx (.Call (.Name fi.name p) [] kws pos) (ev F (.callk f perm [] zs)) := by
  obtain ⟨k1, k2, k3⟩ := kw_ok (pos := pos) (env := X.env) hks
  obtain ⟨fa, fd, hm, hk, _, hb, Fk, hr, hgd⟩ := ok.ex
  refine ⟨fun pins s σ H Q I h => ?_⟩
  obtain ⟨ι, ρ, hp, sm, r, o⟩ := h
  simp only [ev, evs, Out.bind_ok] at o
  refine wpAny_Call_Name_kw (ld_glob I hg hm ?_ hdb)
  refine PySem.W.callWith_KW0 (h₀ := X.base) I.ok.mod.kin hk k1 (thn (hkw.run pos pins s σ H _ I (bindG sm r o)) fun us2 s2 ⟨vs2, H2, I2, rv2, ⟨ι2, hp2, ws2, e2, sm2, rw2, r2, o2⟩⟩ => ⟨I2.kIn, ?_⟩) ?_
  · rw [k2]
    by_cases hl : ([] : List W).length = ([] : List IE).length ∧ ws2.length = zs.length
    · rw [if_pos hl] at o2
      refine run_kw (E := WE Wx) (us := []) (vs := []) Fk hgd hr (hb _ hq) (passAt tk σ) I2 .nil rv2 rfl ?_ ?_
      · rw [rw2.length, hl.2, l2]
      · exact spG_of ok sm2 (pm_reps rw2 _) o2
    · rw [if_neg hl] at o2
      exact o2.elim
  · rw [k3]
    rfl

/-! ### targets that are names -/
mutual
def gT (K : PySem.W.Frag) : Tgt → TG
  | .name i => gName i
  | .tup ts => gTup K ts.length (gTs K ts)
def gTs (K : PySem.W.Frag) : List Tgt → TGs
  | [] => gNil
  | t :: ts => gCons (gT K t) (gTs K ts)
end
mutual
def tNames : Tgt → List Nat
  | .name i => [i]
  | .tup ts => tNamesL ts
def tNamesL : List Tgt → List Nat
  | [] => []
  | t :: ts => tNames t ++ tNamesL ts
end
/-- behind the stores -/
structure Stored (K : PySem.W.Frag) (ι : List Addr) (H : Hp) (ρ' : IS) (σ : L2.St) (ns : List Nat) (σ' : L2.St) (H' : Hp) : Prop where
  hp : H' = H
  rep : RepSt K ι H ρ' σ'
  out : ∀ j, j ∉ ns → σ'[j]? = σ[j]?
  len : σ'.length = σ.length
mutual
theorem gT_ok {K : PySem.W.Frag} {ι : List Addr} {H : Hp} : ∀ (t : Tgt) {w : W} {v : V} {ρ ρ' : IS} {σ : L2.St}, asgT t w ρ = some ρ' → Rep K ι H w v → RepSt K ι H ρ σ → gT K t v σ H (Stored K ι H ρ' σ (tNames t))
  | .name i, w, v, ρ, ρ', σ, h, r, rs => by
    unfold asgT at h
    cases h
    unfold gT
    exact ⟨rfl, rs.set i r, fun j hj => List.getElem?_set_ne (fun e => hj (by subst e; unfold tNames; exact List.mem_singleton.mpr rfl)), List.length_set⟩
  | .tup ts, .tup ws, v, ρ, ρ', σ, h, r, rs => by
    unfold asgT at h
    obtain ⟨a, xs, rfl, hs, hr⟩ := r
    unfold gT
    refine ⟨a, xs, rfl, hs, ?_, ?_⟩
    · rw [hr.length, gTs_len ts h]
    · have q := gTs_ok ts h hr rs
      unfold tNames
      exact q
  | .tup _, .non, _, _, _, _, h, _, _ => by unfold asgT at h; cases h
  | .tup _, .bl _, _, _, _, _, h, _, _ => by unfold asgT at h; cases h
  | .tup _, .int _, _, _, _, _, h, _, _ => by unfold asgT at h; cases h
  | .tup _, .str _, _, _, _, _, h, _, _ => by unfold asgT at h; cases h
  | .tup _, .ref _, _, _, _, _, h, _, _ => by unfold asgT at h; cases h
  | .tup _, .ty _, _, _, _, _, h, _, _ => by unfold asgT at h; cases h
theorem gTs_len : ∀ (ts : List Tgt) {ws : List W} {ρ ρ' : IS}, asgTs ts ws ρ = some ρ' → ws.length = ts.length
  | [], [], _, _, _ => rfl
  | [], _ :: _, _, _, h => by unfold asgTs at h; cases h
  | _ :: _, [], _, _, h => by unfold asgTs at h; cases h
  | t :: ts, w :: ws, ρ, ρ', h => by
    unfold asgTs at h
    split at h
    · show _ + 1 = _ + 1
      rw [gTs_len ts h]
    · cases h
theorem gTs_ok {K : PySem.W.Frag} {ι : List Addr} {H : Hp} : ∀ (ts : List Tgt) {ws : List W} {vs : List V} {ρ ρ' : IS} {σ : L2.St}, asgTs ts ws ρ = some ρ' → Reps K ι H ws vs → RepSt K ι H ρ σ → gTs K ts vs σ H (Stored K ι H ρ' σ (tNamesL ts))
  | [], [], _, _, _, σ, h, r, rs => by
    unfold asgTs at h
    cases h
    unfold gTs
    exact ⟨r, rfl, rs, fun _ _ => rfl, rfl⟩
  | [], _ :: _, _, _, _, _, h, _, _ => by unfold asgTs at h; cases h
  | _ :: _, [], _, _, _, _, h, _, _ => by unfold asgTs at h; cases h
  | t :: ts, w :: ws, vs, ρ, ρ', σ, h, r, rs => by
    unfold asgTs at h
    obtain ⟨v, vs', rfl, r1, r2⟩ := r
    split at h
    · rename_i ρ1 e1
      unfold gTs
      refine ⟨v, vs', rfl, ?_⟩
      have q1 := gT_ok t e1 r1 rs
      refine gT_mono t q1 fun σ1 H1 s1 => ?_
      obtain ⟨rfl, rep1, out1, len1⟩ := s1
      refine gTs_mono ts (gTs_ok ts h r2 rep1) fun σ2 H2 s2 => ?_
      obtain ⟨rfl, rep2, out2, len2⟩ := s2
      refine ⟨rfl, rep2, fun j hj => ?_, len2.trans len1⟩
      unfold tNamesL at hj
      rw [List.mem_append, not_or] at hj
      rw [out2 j hj.2, out1 j hj.1]
    · cases h
theorem gT_mono {K : PySem.W.Frag} : ∀ (t : Tgt) {v : V} {σ : L2.St} {H : Hp} {Q Q' : L2.St → Hp → Prop}, gT K t v σ H Q → (∀ σ' H', Q σ' H' → Q' σ' H') → gT K t v σ H Q'
  | .name i, _, _, _, _, _, h, k => by
    unfold gT at h ⊢
    exact k _ _ h
  | .tup ts, _, _, _, _, _, h, k => by
    unfold gT at h ⊢
    obtain ⟨a, xs, e, hs, hl, q⟩ := h
    exact ⟨a, xs, e, hs, hl, gTs_mono ts q k⟩
theorem gTs_mono {K : PySem.W.Frag} : ∀ (ts : List Tgt) {vs : List V} {σ : L2.St} {H : Hp} {Q Q' : L2.St → Hp → Prop}, gTs K ts vs σ H Q → (∀ σ' H', Q σ' H' → Q' σ' H') → gTs K ts vs σ H Q'
  | [], _, _, _, _, _, h, k => by
    unfold gTs at h ⊢
    exact ⟨h.1, k _ _ h.2⟩
  | t :: ts, _, _, _, _, _, h, k => by
    unfold gTs at h ⊢
    obtain ⟨v, r, e, q⟩ := h
    exact ⟨v, r, e, gT_mono t q fun σ' H' q' => gTs_mono ts q' k⟩
end
end
end Itp

set_option Elab.async false
set_option linter.all false
set_option autoImplicit false
set_option maxRecDepth 100000
set_option maxHeartbeats 4000000
/-! Itp, part I: what is walked; comprehensions. -/
namespace Itp
open PySem PySem.Spec PyProof.Rows L2

/-- enumerate of a text: the signs with their places, in new pairs -/
def ItEs (x : Str) : It where
  go := fun i _ => i < x.cps.size
  yld := fun i H v H' => ∃ T c, v = .ref T ∧ H T = none ∧ H' = upd H T (.tup [.int (i : Nat), .str ⟨#[c]⟩]) ∧ x.cps[i]? = some c
  stop := fun i _ => x.cps.size ≤ i
/-- how such a walk stands -/
def EsAt (x : Str) (t : Tok) (ty : String) (en si : Addr) (i : Nat) (h : Heap) : Prop := (∃ old, IsEnum h en si ((i : Nat) : Int) old) ∧ h.IsStrIter si ty x t i ∧ en ≠ si ∧ i ≤ x.cps.size
theorem es_draws {P : Program} {w : World} {A : Around} (hh : A.handled = none) (x : Str) (t : Tok) {ty : String} (hty : ty = "str_ascii_iterator" ∨ ty = "str_iterator") (si : Addr) :
    Draws P w A.in1 si [si] x.cps.size (fun i v => ∃ c u, x.cps[i]? = some c ∧ v = .str ⟨#[c]⟩ u) (fun i h => h.IsStrIter si ty x t i) := by
  rcases hty with rfl | rfl
  · exact Draws.strAscii (A := A.in1) hh si x t
  · exact Draws.strWide (A := A.in1) hh si x t
theorem turn_enumS {P : Program} {w : World} {K : PySem.W.Frag} {elts : List Expr} {kk : Nat} {tpos : Pos} (x : Str) (t : Tok) (ty : String) (hty : ty = "str_ascii_iterator" ∨ ty = "str_iterator") (en si : Addr) :
    Turn P w K (.Tuple elts kk tpos) (ItEs x) [en, si] en (EsAt x t ty en si) where
  mem := by simp
  obj := fun i h st b hb => by
    obtain ⟨⟨old, hen⟩, ⟨o, ho, _, hd⟩, _⟩ := st
    rcases (show b = en ∨ b = si by simpa using hb) with rfl | rfl
    · exact ⟨_, hen, fun v q => nomatch q⟩
    · exact ⟨o, ho, fun v q => by rw [hd] at q; cases q⟩
  keep := fun i h h' st k => by
    obtain ⟨⟨old, hen⟩, ⟨o, ho, r⟩, ne, le⟩ := st
    exact ⟨⟨old, k en (by simp) _ hen⟩, ⟨o, k si (by simp) o ho, r⟩, ne, le⟩
  item := by
    intro X e1 e2 e3 calm i pins s σ H E I fp st lt
    subst e1 e2 e3
    obtain ⟨⟨old, hen⟩, hsi, ne, le⟩ := st
    have len : en < s.heap.objs.size := Heap.lt_size hen
    have lsi : si < s.heap.objs.size := by
      obtain ⟨_, q, _⟩ := hsi
      exact Heap.lt_size q
    refine wpAny_pyNext_enum_itemD (es_draws (I.ok.hd calm) x t hty si) hen hsi lt ne (by simpa using ne) fun v h1 tk hv out hsi1 tup siz kept => ?_
    obtain ⟨c, u, hcx, rfl⟩ := hv
    refine ⟨_, rfl, wpAny_letOwnedTupleGo_enum (s := { s with heap := h1, toks := tk + 1 }) out fun h2 back same => ?_⟩
    have other : ∀ b, b ≠ en → ∀ o, h1.get? b = some o → h2.get? b = some o := fun b hb o q => (same.2 b hb).trans q
    have tup2 := other _ (Nat.ne_of_gt len) _ tup
    have pair : ObjOk X.prog X.w (upd H s.heap.objs.size (.tup [.int (i : Nat), .str ⟨#[c]⟩])) h2 s.heap.objs.size (.tup [.int (i : Nat), .str ⟨#[c]⟩]) :=
      ⟨by show 2 ≤ sizeLine; decide, [.int i tk, .str ⟨#[c]⟩ u], .cons ⟨_, rfl⟩ (.cons ⟨_, rfl⟩ .nil), ⟨_, tup2, rfl, _, rfl⟩⟩
    have I1 : Inv X pins σ (upd H s.heap.objs.size (.tup [.int (i : Nat), .str ⟨#[c]⟩])) { s with heap := h2, toks := tk + 1 } :=
      I.turnedNew (ch := [en, si]) (fun b ob hb q => other b (fun z => hb (by simp [z])) _ (kept b ob (fun z => hb (by simp [z])) (fun z => hb (by simp [z])) q)) fp (Nat.le_refl _) pair
    obtain ⟨oi, hoi, ri⟩ := hsi1
    refine ⟨.ref s.heap.objs.size, _, I1, rfl, ⟨_, c, rfl, I.hok.fresh (Nat.le_refl _), rfl, hcx⟩, ⟨⟨.str ⟨#[c]⟩ u, ?_⟩, ⟨oi, other si (Ne.symm ne) _ hoi, ri⟩, ne, lt⟩, fun b hb => ?_⟩
    · rw [show ((i + 1 : Nat) : Int) = (i : Int) + 1 by omega]
      exact back
    · have lb : b < s.heap.objs.size := by
        rcases (show b = en ∨ b = si by simpa using hb) with rfl | rfl
        · exact len
        · exact lsi
      rw [upd_ne (Nat.ne_of_lt lb)]
      exact (fp b hb).1
  done := by
    intro X e1 e2 e3 calm i pins s σ H E I fp st ge
    subst e1 e2 e3
    obtain ⟨⟨old, hen⟩, hsi, ne, le⟩ := st
    obtain ⟨g0, g1, g2, g3, g4, g5⟩ := fp si (by simp)
    have ei : i = x.cps.size := Nat.le_antisymm le ge
    have hsi2 : s.heap.IsStrIter si ty x t x.cps.size := by
      rw [← ei]
      exact hsi
    refine wpAny_pyNext_enum_endD (i := ((i : Nat) : Int)) (es_draws (I.ok.hd calm) x t hty si) hen hsi2 fun h1 eb => ⟨rfl, ?_⟩
    exact I.turned (t' := s.toks) (fun b o hb q => eb b o hb q) g0 g1 g3 g4 g5
  self := fun A i s Q E st h => by
    obtain ⟨⟨_, hen⟩, _⟩ := st
    exact wpAny_pyIter_enum hen h
/-- enumerate of a list, of a text -/
def iEnumA (K : PySem.W.Frag) (ta : TA) : TI := fun σ H R => ta σ H fun vs H1 => (∃ a xs, vs = [.ref a] ∧ SqL K H1 a xs ∧ R (Ite K a) H1) ∨ ∃ x : Str, vs = [.str x] ∧ R (ItEs x) H1
theorem pi_enumA {X : Cx} {e : Expr} {ta : TA} {p pos tpos : Pos} {elts : List Expr} {kk : Nat} (hg : Gl X "enumerate") (hm : X.mg "enumerate" = none) (ha : PA X [e] ta) (hs : starEach [e] X.env = [(false, eval e X.env)]) :
    PI X (.Tuple elts kk tpos) (.Call (.Name "enumerate" p) [e] [] pos) (iEnumA X.K ta) := by
  refine ⟨fun pins s σ H R I h => ?_⟩
  refine Call_ (ld_blt I hg hm boot_enumerate (PyProof.Rows.callWith_type1 (thn (ha.run pos pins s σ H _ I h) fun us s1 ⟨vs, H1, I1, r1, q1⟩ => ?_) hs rfl))
  have two : ∀ b, b ∈ [s1.heap.objs.size + 1, s1.heap.objs.size] → s1.heap.objs.size ≤ b := fun b hb => by
    rcases (show b = s1.heap.objs.size + 1 ∨ b = s1.heap.objs.size by simpa using hb) with z | z
    · rw [z]; exact Nat.le_add_right _ _
    · rw [z]; exact Nat.le_refl _
  rcases q1 with ⟨a, xs, ex, hq, q⟩ | ⟨x, ex, q⟩
  · subst ex
    obtain ⟨u, rfl, ru⟩ := vals1 r1
    cases ru
    obtain ⟨its, rv, plain, _⟩ := I1.list hq
    refine call_enumerate_list plain.isList fun h1 hen hli siz kept => wpAny_pyIter_enum hen ?_
    have I2 : Inv X pins σ H1 { s1 with heap := h1 } := I1.kept (t' := s1.toks) kept
    exact ⟨s1.heap.objs.size + 1, _, _, _, H1, rfl, I2, turn_enum a _ _, ⟨⟨.none, hen⟩, hli, Nat.succ_ne_self _⟩, fun b hb => I1.fpOk (two b hb) (I1.hok.fresh (two b hb)), q⟩
  · subst ex
    obtain ⟨u, rfl, t, rfl⟩ := vals1 r1
    have hty : strIterType x = "str_ascii_iterator" ∨ strIterType x = "str_iterator" := by
      unfold strIterType
      split
      · exact .inl rfl
      · exact .inr rfl
    refine call_enumerate_str fun h1 hen hsi siz kept => wpAny_pyIter_enum hen ?_
    have I2 : Inv X pins σ H1 { s1 with heap := h1 } := I1.kept (t' := s1.toks) kept
    exact ⟨s1.heap.objs.size + 1, _, _, _, H1, rfl, I2, turn_enumS x t _ hty _ _, ⟨⟨.none, hen⟩, hsi, Nat.succ_ne_self _, Nat.zero_le _⟩, fun b hb => I1.fpOk (two b hb) (I1.hok.fresh (two b hb)), q⟩
/-- the hand layer's iterator walks as the interpreter's -/
structure ItOk (K : PySem.W.Frag) (J : Iter) (T : It) (ι : List Addr) (H : Hp) : Prop where
  item : ∀ (ι' : List Addr) (hp' : IH) (H' : Hp), Ext ι H ι' H' → Sim K ι' hp' H' → ∀ (i : Nat) (w : W), cur J i hp' = some (some w) → T.go i H' ∧ ∀ x H3, T.yld i H' x H3 → Ext ι' H' ι' H3 ∧ Sim K ι' hp' H3 ∧ Rep K ι' H3 w x
  done : ∀ (ι' : List Addr) (hp' : IH) (H' : Hp), Ext ι H ι' H' → Sim K ι' hp' H' → ∀ (i : Nat), cur J i hp' = some none → T.stop i H'
section
variable {K : PySem.W.Frag} {ι ι' : List Addr} {H H' : Hp} {a b : Addr} {n m : Nat}
theorem ItOk.ext {J : Iter} {T : It} (e : Ext ι H ι' H') (h : ItOk K J T ι H) : ItOk K J T ι' H' :=
  ⟨fun ι2 hp2 H2 e2 => h.item ι2 hp2 H2 (e.trans e2), fun ι2 hp2 H2 e2 => h.done ι2 hp2 H2 (e.trans e2)⟩
/-- a list at its place, later -/
theorem lst_now {hp : IH} {H : Hp} (s : Sim K ι hp H) (ha : ι[n]? = some a) {o : Option W} {i : Nat} (h : cur (.lstR n) i hp = some o) : ∃ xs ws, SqL K H a xs ∧ Reps K ι H ws xs ∧ ws[i]? = o := by
  cases e : hp[n]? with
  | none => simp only [cur, e] at h; cases h
  | some q =>
    obtain ⟨a', xs, ws, ha', hq, hr, ho⟩ := s.seqAt e
    rw [ha] at ha'
    cases ha'
    rcases ho with rfl | rfl
    · simp only [cur, e] at h
      cases h
      exact ⟨xs, ws, hq, hr, rfl⟩
    · simp only [cur, e] at h
      cases h
      exact ⟨xs, ws, hq, hr, rfl⟩
theorem reps_none {ws : List W} {xs : List V} {i : Nat} (r : Reps K ι H ws xs) (h : ws[i]? = none) : xs.length ≤ i := by
  rw [r.length]
  exact List.getElem?_eq_none_iff.mp h
theorem ItOk.lst (ha : ι[n]? = some a) : ItOk K (.lstR n) (Itl K a) ι H := by
  refine ⟨fun ι' hp' H' e s i w hw => ?_, fun ι' hp' H' e s i hw => ?_⟩
  · obtain ⟨xs, ws, hq, hr, hi⟩ := lst_now s (e.at ha) hw
    obtain ⟨v, hv, rv⟩ := hr.get hi
    refine ⟨⟨xs, v, hq, hv⟩, fun x H3 hy => ?_⟩
    obtain ⟨rfl, hx⟩ := hy
    have := hx xs hq
    rw [hv] at this
    cases this
    exact ⟨Ext.refl _ _, s, rv⟩
  · obtain ⟨xs, ws, hq, hr, hi⟩ := lst_now s (e.at ha) hw
    exact ⟨xs, hq, reps_none hr hi⟩
theorem ItOk.tup {ws : List W} {xs : List V} (hs : SqT K H a xs) (hr : Reps K ι H ws xs) : ItOk K (.tupR ws) (Itt K a) ι H := by
  refine ⟨fun ι' hp' H' e s i w hw => ?_, fun ι' hp' H' e s i hw => ?_⟩
  · simp only [cur, Option.some.injEq] at hw
    obtain ⟨v, hv, rv⟩ := hr.get hw
    refine ⟨⟨xs, v, e.sqT hs, hv⟩, fun x H3 hy => ?_⟩
    obtain ⟨rfl, hx⟩ := hy
    have := hx xs (e.sqT hs)
    rw [hv] at this
    cases this
    exact ⟨Ext.refl _ _, s, Rep.ext e _ _ rv⟩
  · simp only [cur, Option.some.injEq] at hw
    exact ⟨xs, e.sqT hs, reps_none hr hw⟩
theorem ItOk.str (z : Str) : ItOk K (.strR z) (Its z) ι H := by
  refine ⟨fun ι' hp' H' e s i w hw => ?_, fun ι' hp' H' e s i hw => ?_⟩
  · simp only [cur, Option.some.injEq, Option.map_eq_some_iff] at hw
    obtain ⟨c, hc, rfl⟩ := hw
    refine ⟨(Array.getElem?_eq_some_iff.mp hc).1, fun x H3 hy => ?_⟩
    obtain ⟨rfl, c', hc', rfl⟩ := hy
    rw [hc] at hc'
    cases hc'
    exact ⟨Ext.refl _ _, s, rfl⟩
  · simp only [cur, Option.some.injEq, Option.map_eq_none_iff] at hw
    exact Array.getElem?_eq_none_iff.mp hw
theorem ItOk.rng (lo : Int) (k : Nat) : ItOk K (.rng lo k) (Itr lo k) ι H := by
  refine ⟨fun ι' hp' H' e s i w hw => ?_, fun ι' hp' H' e s i hw => ?_⟩
  · simp only [cur, Option.some.injEq] at hw
    split at hw
    · rename_i hi
      cases hw
      refine ⟨hi, fun x H3 hy => ?_⟩
      obtain ⟨rfl, rfl⟩ := hy
      exact ⟨Ext.refl _ _, s, rfl⟩
    · cases hw
  · simp only [cur, Option.some.injEq] at hw
    split at hw
    · cases hw
    · rename_i hi
      exact Nat.le_of_not_lt hi
theorem ItOk.enumL (ha : ι[n]? = some a) : ItOk K (.enum (.lstR n)) (Ite K a) ι H := by
  refine ⟨fun ι' hp' H' e s i w hw => ?_, fun ι' hp' H' e s i hw => ?_⟩
  · simp only [cur, Option.map_eq_some_iff] at hw
    obtain ⟨o, ho, u, rfl, rfl⟩ := hw
    obtain ⟨xs, ws, hq, hr, hi⟩ := lst_now s (e.at ha) (o := some u) (i := i) (by simpa only [cur] using ho)
    obtain ⟨v, hv, rv⟩ := hr.get hi
    refine ⟨⟨xs, v, hq, hv⟩, fun x H3 hy => ?_⟩
    obtain ⟨T, x', rfl, hT, rfl, hx⟩ := hy
    have := hx xs hq
    rw [hv] at this
    cases this
    exact ⟨Ext.new hT, s.new hT, T, _, rfl, .inl (.inl upd_same), .int i, _, rfl, rfl, _, _, rfl, Rep.ext (Ext.new hT) _ _ rv, rfl⟩
  · simp only [cur, Option.map_eq_some_iff] at hw
    obtain ⟨o, ho, hn⟩ := hw
    cases o with
    | some u => cases hn
    | none =>
      obtain ⟨xs, ws, hq, hr, hi⟩ := lst_now s (e.at ha) (o := none) (i := i) (by simpa only [cur] using ho)
      exact ⟨xs, hq, reps_none hr hi⟩
theorem ItOk.enumS {x : Str} : ItOk K (.enum (.strR x)) (ItEs x) ι H := by
  refine ⟨fun ι' hp' H' e s i w hw => ?_, fun ι' hp' H' e s i hw => ?_⟩
  · simp only [cur, Option.map_some, Option.some.injEq, Option.map_eq_some_iff] at hw
    obtain ⟨u, ⟨c, hc, rfl⟩, rfl⟩ := hw
    refine ⟨(Array.getElem?_eq_some_iff.mp hc).1, fun y H3 hy => ?_⟩
    obtain ⟨T, c', rfl, hT, rfl, hc'⟩ := hy
    rw [hc] at hc'
    cases hc'
    exact ⟨Ext.new hT, s.new hT, T, _, rfl, .inl (.inl upd_same), .int i, _, rfl, rfl, .str ⟨#[c]⟩, _, rfl, rfl, rfl⟩
  · simp only [cur, Option.map_some, Option.some.injEq, Option.map_eq_none_iff] at hw
    exact Array.getElem?_eq_none_iff.mp hw
theorem cur_zip {J J' : Iter} {i : Nat} {hp : IH} {w : W} (h : cur (.zip J J') i hp = some (some w)) : ∃ x y, w = .tup [x, y] ∧ cur J i hp = some (some x) ∧ cur J' i hp = some (some y) := by
  unfold cur at h
  split at h
  · rename_i x y e1 e2
    cases h
    exact ⟨x, y, rfl, e1, e2⟩
  · cases h
  · cases h
theorem cur_zip_none {J J' : Iter} {i : Nat} {hp : IH} (h : cur (.zip J J') i hp = some none) : ∃ o o', cur J i hp = some o ∧ cur J' i hp = some o' ∧ (o = none ∨ o' = none) := by
  unfold cur at h
  split at h
  · cases h
  · rename_i o o' hno e1 e2
    refine ⟨o, o', e1, e2, ?_⟩
    cases o with
    | none => exact .inl rfl
    | some x =>
      cases o' with
      | none => exact .inr rfl
      | some y => exact (hno x y rfl rfl).elim
  · cases h
theorem ItOk.zipL (ha : ι[n]? = some a) (hb : ι[m]? = some b) : ItOk K (.zip (.lstR n) (.lstR m)) (Itz K a b) ι H := by
  refine ⟨fun ι' hp' H' e s i w hw => ?_, fun ι' hp' H' e s i hw => ?_⟩
  · obtain ⟨u1, u2, rfl, h1, h2⟩ := cur_zip hw
    obtain ⟨xs, ws, hq, hr, hi⟩ := lst_now s (e.at ha) h1
    obtain ⟨ys, us, hq2, hr2, hi2⟩ := lst_now s (e.at hb) h2
    obtain ⟨v, hv, rv⟩ := hr.get hi
    obtain ⟨v2, hv2, rv2⟩ := hr2.get hi2
    refine ⟨⟨xs, ys, v, v2, hq, hq2, hv, hv2⟩, fun x H3 hy => ?_⟩
    obtain ⟨T, x1, x2, rfl, hT, rfl, hx, hx2⟩ := hy
    have q1 := hx xs hq
    rw [hv] at q1
    cases q1
    have q2 := hx2 ys hq2
    rw [hv2] at q2
    cases q2
    exact ⟨Ext.new hT, s.new hT, T, _, rfl, .inl (.inl upd_same), _, _, rfl, Rep.ext (Ext.new hT) _ _ rv, _, _, rfl, Rep.ext (Ext.new hT) _ _ rv2, rfl⟩
  · obtain ⟨o, o', h1, h2, h3⟩ := cur_zip_none hw
    obtain ⟨xs, ws, hq, hr, hi⟩ := lst_now s (e.at ha) h1
    obtain ⟨ys, us, hq2, hr2, hi2⟩ := lst_now s (e.at hb) h2
    refine ⟨xs, ys, hq, hq2, ?_⟩
    rcases h3 with rfl | rfl
    · exact .inl (reps_none hr hi)
    · exact .inr (reps_none hr2 hi2)
theorem ItOk.zipT {ws us : List W} {xs ys : List V} (hs : SqT K H a xs) (hr : Reps K ι H ws xs) (hs2 : SqT K H b ys) (hr2 : Reps K ι H us ys) : ItOk K (.zip (.tupR ws) (.tupR us)) (RZ.ItzT K a b) ι H := by
  refine ⟨fun ι' hp' H' e s i w hw => ?_, fun ι' hp' H' e s i hw => ?_⟩
  · obtain ⟨u1, u2, rfl, h1, h2⟩ := cur_zip hw
    simp only [cur, Option.some.injEq] at h1 h2
    obtain ⟨v, hv, rv⟩ := hr.get h1
    obtain ⟨v2, hv2, rv2⟩ := hr2.get h2
    refine ⟨⟨xs, ys, v, v2, e.sqT hs, e.sqT hs2, hv, hv2⟩, fun x H3 hy => ?_⟩
    obtain ⟨T, x1, x2, rfl, hT, rfl, hx, hx2⟩ := hy
    have q1 := hx xs (e.sqT hs)
    rw [hv] at q1
    cases q1
    have q2 := hx2 ys (e.sqT hs2)
    rw [hv2] at q2
    cases q2
    have e3 := e.trans (Ext.new (ι := ι') (o := .tup [v, v2]) hT)
    exact ⟨Ext.new hT, s.new hT, T, _, rfl, .inl (.inl upd_same), _, _, rfl, Rep.ext e3 _ _ rv, _, _, rfl, Rep.ext e3 _ _ rv2, rfl⟩
  · obtain ⟨o, o', h1, h2, h3⟩ := cur_zip_none hw
    simp only [cur, Option.some.injEq] at h1 h2
    refine ⟨xs, ys, e.sqT hs, e.sqT hs2, ?_⟩
    rcases h3 with rfl | rfl
    · exact .inl (reps_none hr h1)
    · exact .inr (reps_none hr2 h2)
end

section
variable {X : Cx} {ca : Nat → Addr} {F : FEnv} {Wx : WX} {tg : Expr}
abbrev PIf (X : Cx) (ca : Nat → Addr) (Wx : WX) (tg e : Expr) (f : IS → IH → Out Iter) : Prop := PI X tg e (rdG ⟨X.K, ca⟩ Wx (fun ι H J T => ItOk X.K J T ι H) f)
theorem PIimp {e : Expr} {t t' : TI} (h : PI X tg e t) (k : ∀ σ H Q, t' σ H Q → t σ H Q) : PI X tg e t' := ⟨fun pins s σ H Q I q => h.run pins s σ H Q I (k _ _ _ q)⟩
theorem si_val {e : Expr} {ie : IE} (he : PEf X ca Wx e (ev F ie)) : PIf X ca Wx tg e (evIt F (.val ie)) := by
  refine ⟨fun pins s σ H R I h => ?_⟩
  obtain ⟨ι, ρ, hp, sm, r, o⟩ := h
  simp only [evIt] at o
  cases ew : ev F ie ρ hp with
  | stuck => rw [ew] at o; exact o.elim
  | err c fs hp1 =>
    rw [ew] at o
    exact (pi_list he).run pins s σ H R I ⟨ι, ρ, hp, sm, r, by rw [ew]; exact o⟩
  | ok w hp1 =>
    rw [ew] at o
    simp only [Out.bind_ok] at o
    cases w with
    | tup ws =>
      refine (pi_tup he).run pins s σ H R I ⟨ι, ρ, hp, sm, r, ?_⟩
      rw [ew]
      intro v H1 ι1 e1 s1 rv
      obtain ⟨a, xs, rfl, hs, hr⟩ := rv
      exact ⟨a, rfl, ⟨xs, hs⟩, o _ H1 ι1 e1 s1 (ItOk.tup hs hr)⟩
    | ref n =>
      cases en : hp1[n]? with
      | none => simp only [iterOf, en] at o; exact o.elim
      | some q =>
        simp only [iterOf, en] at o
        refine (pi_list he).run pins s σ H R I ⟨ι, ρ, hp, sm, r, ?_⟩
        rw [ew]
        intro v H1 ι1 e1 s1 rv
        obtain ⟨a, xs, ws, ha, hq, hr, _⟩ := s1.seqAt en
        have ev' := Rep.ref rv ha
        exact ⟨a, ev', ⟨xs, hq⟩, o _ H1 ι1 e1 s1 (ItOk.lst ha)⟩
    | str z =>
      refine (pi_str he).run pins s σ H R I ⟨ι, ρ, hp, sm, r, ?_⟩
      rw [ew]
      intro v H1 ι1 e1 s1 rv
      exact ⟨z, rv, o _ H1 ι1 e1 s1 (ItOk.str z)⟩
    | non => exact o.elim
    | bl _ => exact o.elim
    | int _ => exact o.elim
    | ty _ => exact o.elim
theorem si_rng {e : Expr} {ie : IE} {p pos : Pos} (he : PEf X ca Wx e (ev F ie)) (hs : notStar e = true) (hg : Gl X "range") (hm : X.mg "range" = none) : PIf X ca Wx tg (.Call (.Name "range" p) [e] [] pos) (evIt F (.rng ie)) := by
  refine PIimp (pi_range1 hg hm (pa_cons he pa_nil (star_each hs)) (star_each hs)) fun σ H Q h => ?_
  obtain ⟨ι, ρ, hp, s, r, o⟩ := h
  simp only [evIt] at o
  refine (bindG s r o).mono fun x H1 ⟨⟨ι1, hp1, w, e1, s1, rw1, r1, o1⟩⟩ => ?_
  cases w with
  | int j =>
    obtain rfl : x = .int j := rw1
    by_cases hj : -(2 ^ 62) ≤ j ∧ j < 2 ^ 62
    · simp only [if_pos hj] at o1
      exact ⟨j, rfl, hj.1, hj.2, o1 _ _ _ (Ext.refl _ _) s1 (ItOk.rng 0 _)⟩
    · simp only [if_neg hj] at o1
      exact o1.elim
  | non => exact o1.elim
  | bl _ => exact o1.elim
  | str _ => exact o1.elim
  | tup _ => exact o1.elim
  | ref _ => exact o1.elim
  | ty _ => exact o1.elim
theorem si_rng2 {a b : Expr} {ia ib : IE} {p pos : Pos} (ha : PEf X ca Wx a (ev F ia)) (hb : PEf X ca Wx b (ev F ib)) (hs : notStar a = true) (hs2 : notStar b = true) (hg : Gl X "range") (hm : X.mg "range" = none) : PIf X ca Wx tg (.Call (.Name "range" p) [a, b] [] pos) (evIt F (.rng2 ia ib)) := by
  refine PIimp (pi_range2 hg hm (pa_cons ha (pa_cons hb pa_nil (star_each hs2)) (star_each hs)) (by rw [star_each hs, star_each hs2]; rfl) (star_each hs2)) fun σ H Q h => ?_
  obtain ⟨ι, ρ, hp, s, r, o⟩ := h
  simp only [evIt] at o
  refine (bindG s r o).mono fun x H1 ⟨⟨ι1, hp1, w, e1, s1, rw1, r1, o1⟩⟩ => ?_
  refine (bindG s1 r1 o1).mono fun y H2 ⟨⟨ι2, hp2, u, e2, s2, rw2, r2, o2⟩⟩ => ?_
  cases w with
  | int i =>
    cases u with
    | int j =>
      obtain rfl : x = .int i := rw1
      obtain rfl : y = .int j := rw2
      by_cases hj : -(2 ^ 62) ≤ i ∧ i < 2 ^ 62 ∧ -(2 ^ 62) ≤ j ∧ j < 2 ^ 62
      · simp only [if_pos hj] at o2
        exact ⟨i, j, rfl, hj, o2 _ _ _ (Ext.refl _ _) s2 (ItOk.rng _ _)⟩
      · simp only [if_neg hj] at o2
        exact o2.elim
    | non => exact o2.elim
    | bl _ => exact o2.elim
    | str _ => exact o2.elim
    | tup _ => exact o2.elim
    | ref _ => exact o2.elim
    | ty _ => exact o2.elim
  | non => exact o2.elim
  | bl _ => exact o2.elim
  | str _ => exact o2.elim
  | tup _ => exact o2.elim
  | ref _ => exact o2.elim
  | ty _ => exact o2.elim
theorem si_enum {e : Expr} {ie : IE} {elts : List Expr} {kk : Nat} {p pos tpos : Pos} (he : PEf X ca Wx e (ev F ie)) (hs : notStar e = true) (hg : Gl X "enumerate") (hm : X.mg "enumerate" = none) : PIf X ca Wx (.Tuple elts kk tpos) (.Call (.Name "enumerate" p) [e] [] pos) (evIt F (.enum ie)) := by
  refine PIimp (pi_enumA hg hm (pa_cons he pa_nil (star_each hs)) (star_each hs)) fun σ H Q h => ?_
  obtain ⟨ι, ρ, hp, s, r, o⟩ := h
  simp only [evIt] at o
  refine (bindG s r o).mono fun x H1 ⟨⟨ι1, hp1, w, e1, s1, rw1, r1, o1⟩⟩ => ?_
  cases w with
  | ref n =>
    cases en : hp1[n]? with
    | none => simp only [iterE, en] at o1; exact o1.elim
    | some q =>
      simp only [iterE, en] at o1
      obtain ⟨a, xs, ws, ha, hq, hr, _⟩ := s1.seqAt en
      have ev' := Rep.ref rw1 ha
      subst ev'
      exact .inl ⟨a, xs, rfl, hq, o1 _ _ _ (Ext.refl _ _) s1 (ItOk.enumL ha)⟩
  | str z =>
    simp only [iterE] at o1
    obtain rfl : x = .str z := rw1
    exact .inr ⟨z, rfl, o1 _ _ _ (Ext.refl _ _) s1 ItOk.enumS⟩
  | non => exact o1.elim
  | bl _ => exact o1.elim
  | int _ => exact o1.elim
  | tup _ => exact o1.elim
  | ty _ => exact o1.elim
theorem si_zip {a b : Expr} {ia ib : IE} {elts : List Expr} {kk : Nat} {p pos tpos : Pos} (ha : PEf X ca Wx a (ev F ia)) (hb : PEf X ca Wx b (ev F ib)) (hs : notStar a = true) (hs2 : notStar b = true) (hg : Gl X "zip") (hm : X.mg "zip" = none) :
    PIf X ca Wx (.Tuple elts kk tpos) (.Call (.Name "zip" p) [a, b] [] pos) (evIt F (.zip ia ib)) := by
  refine PIimp (RZ.pi_zipA hg hm (pa_cons ha (pa_cons hb pa_nil (star_each hs2)) (star_each hs)) (star_each hs) (star_none (by rw [List.all_cons, hs2]; rfl))) fun σ H Q h => ?_
  obtain ⟨ι, ρ, hp, s, r, o⟩ := h
  simp only [evIt] at o
  refine (bindG s r o).mono fun x H1 ⟨⟨ι1, hp1, w, e1, s1, rw1, r1, o1⟩⟩ => ?_
  refine (bindG s1 r1 o1).mono fun y H2 ⟨⟨ι2, hp2, u, e2, s2, rw2, r2, o2⟩⟩ => ?_
  have rw1' := Rep.ext e2 _ _ rw1
  cases ez : iterZ w u hp2 with
  | none => simp only [ez] at o2; exact o2.elim
  | some J =>
    simp only [ez] at o2
    unfold iterZ at ez
    split at ez
    · rename_i n m
      split at ez
      · rename_i q1 q2 e3 e4
        cases ez
        obtain ⟨pa, xs, ws, hpa, hq, hr, _⟩ := s2.seqAt e3
        obtain ⟨pb, ys, us, hpb, hq2, hr2, _⟩ := s2.seqAt e4
        have ev1 := Rep.ref rw1' hpa
        have ev2 := Rep.ref rw2 hpb
        subst ev1 ev2
        exact ⟨pa, pb, xs, ys, rfl, .inl ⟨hq, hq2, o2 _ _ _ (Ext.refl _ _) s2 (ItOk.zipL hpa hpb)⟩⟩
      · cases ez
    · rename_i ws us
      cases ez
      obtain ⟨pa, xs, rfl, hq, hr⟩ := rw1'
      obtain ⟨pb, ys, rfl, hq2, hr2⟩ := rw2
      exact ⟨pa, pb, xs, ys, rfl, .inr ⟨hq, hq2, o2 _ _ _ (Ext.refl _ _) s2 (ItOk.zipT hq hr hq2 hr2)⟩⟩
    · cases ez

/-! ### comprehensions -/
theorem wipe_rep {K : PySem.W.Frag} {ι : List Addr} {H : Hp} {ρ : IS} {σ : L2.St} (h : RepSt K ι H ρ σ) : ∀ vs : List Nat, RepSt K ι H (wipeI ρ vs) (wipe σ vs)
  | [] => h
  | v :: vs => (wipe_rep h vs).unset v
theorem wipe_in {σ : L2.St} {j : Nat} : ∀ {vs : List Nat}, j ∈ vs → (wipe σ vs)[j]? = if j < σ.length then some none else none
  | [], h => by cases h
  | v :: vs, h => by
    unfold wipe
    by_cases e : v = j
    · subst e
      by_cases hl : v < σ.length
      · rw [if_pos hl, List.getElem?_set_self (by rw [wipe_length]; exact hl)]
      · rw [if_neg hl, List.getElem?_eq_none (by rw [List.length_set, wipe_length]; omega)]
    · rw [List.getElem?_set_ne e]
      rcases List.mem_cons.mp h with q | q
      · exact absurd q.symm e
      · exact wipe_in q
theorem wipe_same {σ σ2 : L2.St} {vs ns : List Nat} (hl : σ2.length = (wipe σ vs).length) (ho : ∀ j, j ∉ ns → σ2[j]? = (wipe σ vs)[j]?) (hs : ∀ j ∈ ns, j ∈ vs) : wipe σ2 vs = wipe σ vs := by
  refine List.ext_getElem? fun j => ?_
  by_cases hj : j ∈ vs
  · rw [wipe_in hj, wipe_in hj, hl, wipe_length]
  · rw [wipe_out hj]
    exact ho j fun z => hj (hs j z)
abbrev W0 : WX := fun _ _ _ _ => False
theorem se_comp {elt iter : Expr} {ifs : List Expr} {scope : Scope} {own : List (Str × Nat)} {pos : Pos} {ie : IE} {tgt : Tgt} {it : IIt} {cond : Option IT} (hc : X.calm = true) (hN : X.N.Nodup) (hi : PIf X ca Wx tg iter (evIt F it)) (ok : BlkOk X.N X.env.scope scope own)
    (hg : ∀ (s : Shared) (H : Hp) (C : Addr) (cl : List (Str × Addr)) (fp : List Addr), PG (X.blk s H scope (compEnvC scope cl C X.env) fp) tg (gT X.K tgt))
    (ht : ∀ (s : Shared) (H : Hp) (C : Addr) (cl : List (Str × Addr)) (fp : List Addr), PTs (X.blk s H scope (compEnvC scope cl C X.env) fp) ifs (rdT ⟨X.K, ca⟩ W0 (tstO F cond)))
    (he : ∀ (s : Shared) (H : Hp) (C : Addr) (cl : List (Str × Addr)) (fp : List Addr), PE (X.blk s H scope (compEnvC scope cl C X.env) fp) elt (rdE ⟨X.K, ca⟩ W0 (ev F ie)))
    (hs : ∀ x, foldedSetIterable iter X.env x = pure x) (hown : ∀ j ∈ tNames tgt, j ∈ own.map (·.2)) :
    PEf X ca Wx (.ListComp elt [⟨tg, iter, ifs, 0⟩] scope pos) (ev F (.comp ie tgt it cond (own.map (·.2)))) := by
  refine PEimp (pe_lc hc hN hi ok hg ht he hs) fun σ H Q h => ?_
  exact comp_read hown h
where
  comp_read {own : List (Str × Nat)} {ie : IE} {tgt : Tgt} {it : IIt} {cond : Option IT} {σ : L2.St} {H : Hp} {Q : VK} (hown : ∀ j ∈ tNames tgt, j ∈ own.map (·.2)) (h : rdE ⟨X.K, ca⟩ Wx (ev F (.comp ie tgt it cond (own.map (·.2)))) σ H Q) :
      tLc (rdG ⟨X.K, ca⟩ Wx (fun ι H J T => ItOk X.K J T ι H) (evIt F it)) (gT X.K tgt) (rdT ⟨X.K, ca⟩ W0 (tstO F cond)) (rdE ⟨X.K, ca⟩ W0 (ev F ie)) (own.map (·.2)) σ H Q := by
    obtain ⟨ι, ρ, hp, s, r, o⟩ := h
    simp only [ev] at o
    refine (bindG s r o).mono fun T H1 ⟨⟨ι1, hp1, J, e1, s1, itok, r1, o1⟩⟩ => ?_
    intro D hD
    cases ec : compL (ev F ie) (tstO F cond) tgt J hp1.length (wipeI ρ (own.map (·.2))) (itLen J hp1) 0 (hp1 ++ [.lst []]) with
    | stuck => rw [ec] at o1; exact o1.elim
    | err c fs hpF => exact absurd ec (no_err _ _ _)
    | ok w hpF =>
      rw [ec] at o1
      have o1' : ∀ b H' ι', Ext ι1 H1 ι' H' → Sim X.K ι' hpF H' → Rep X.K ι' H' w b → Q b H' := o1
      refine ⟨fun i m H' => ∃ ι' hp', Ext ι1 H1 ι' H' ∧ Sim X.K ι' hp' H' ∧ ι'[hp1.length]? = some D ∧ compL (ev F ie) (tstO F cond) tgt J hp1.length (wipeI ρ (own.map (·.2))) m i hp' = .ok w hpF, ⟨itLen J hp1, ι1 ++ [D], _, Ext.lst hD, s1.lst (ws := []) hD rfl, s1.newest, ec⟩, fun i m H' hW => ?_⟩
      obtain ⟨ι', hp', e', s', hd, ec'⟩ := hW
      have stop : cur J i hp' = some none → Out.ok (.ref hp1.length) hp' = Out.ok w hpF → T.stop i H' ∧ Q (.ref D) H' := fun hcur hz => by
        cases hz
        exact ⟨itok.done _ _ _ e' s' i hcur, o1' _ _ _ e' s' ⟨D, hd, rfl⟩⟩
      cases m with
      | zero =>
        unfold compL at ec'
        split at ec'
        · rename_i hcur
          exact .inl (stop hcur ec')
        · cases ec'
      | succ k =>
        unfold compL at ec'
        split at ec'
        · rename_i wv hcur
          obtain ⟨go, yl⟩ := itok.item _ _ _ e' s' i wv hcur
          refine .inr ⟨go, fun H'' => ∃ ι' hp', Ext ι1 H1 ι' H'' ∧ Sim X.K ι' hp' H'' ∧ ι'[hp1.length]? = some D ∧ compL (ev F ie) (tstO F cond) tgt J hp1.length (wipeI ρ (own.map (·.2))) k (i + 1) hp' = .ok w hpF, fun H'' hh => ⟨k, Nat.lt_succ_self k, hh⟩, fun x H3 hy => ?_⟩
          obtain ⟨e3, s3, rx⟩ := yl x H3 hy
          split at ec'
          · rename_i ρ1 eρ
            have rw0 := wipe_rep (r1.ext (e'.trans e3)) (own.map (·.2))
            refine gT_mono tgt (gT_ok tgt eρ rx rw0) fun σ2 H2 st => ?_
            obtain ⟨rfl, rep2, out2, len2⟩ := st
            refine ⟨wipe_same len2 out2 hown, ι', ρ1, hp', s3, rep2, ?_⟩
            split at ec'
            · rename_i hpA econd
              rw [econd]
              intro b' H4 ι4 e4 s4 hb
              obtain rfl : b' = true := hb
              rw [if_pos rfl]
              refine ⟨ι4, ρ1, hpA, s4, rep2.ext e4, ?_⟩
              split at ec'
              · rename_i y hpB eelt
                rw [eelt]
                intro yv H5 ι5 e5 s5 ry
                split at ec'
                · rename_i acc eacc
                  split at ec'
                  · rename_i hlen
                    obtain ⟨a5, vs5, ha5, hv5, hr5⟩ := s5.lstAt eacc
                    have hD5 : ι5[hp1.length]? = some D := e5.at (e4.at (e3.at hd))
                    rw [hD5] at ha5
                    cases ha5
                    exact ⟨vs5, hv5, by rw [hr5.length]; exact line_lt hlen, ι5, _, ((((e'.trans e3).trans e4).trans e5).trans (Ext.set hv5)), s5.set hD5 eacc (hr5.append (Reps.one ry)), hD5, ec'⟩
                  · cases ec'
                · cases ec'
              · cases ec'
            · rename_i hpA econd
              rw [econd]
              intro b' H4 ι4 e4 s4 hb
              obtain rfl : b' = false := hb
              rw [if_neg Bool.false_ne_true]
              exact ⟨ι4, hpA, (e'.trans e3).trans e4, s4, e4.at (e3.at hd), ec'⟩
            · cases ec'
          · cases ec'
        · rename_i hcur
          exact .inl (stop hcur ec')
        · cases ec'
  no_err {elt : IS → IH → Out W} {cond : IS → IH → Out Bool} {t : Tgt} {J : Iter} {D : Nat} {ρ : IS} {c : Nat} {fs : List (Str × W)} {hpF : IH} : ∀ (k i : Nat) (hp : IH), compL elt cond t J D ρ k i hp ≠ .err c fs hpF
    | 0, i, hp, h => by
      unfold compL at h
      split at h <;> cases h
    | k + 1, i, hp, h => by
      unfold compL at h
      split at h
      · split at h
        · split at h
          · split at h
            · split at h
              · split at h
                · exact no_err k _ _ h
                · cases h
              · cases h
            · cases h
          · exact no_err k _ _ h
          · cases h
        · cases h
      · cases h
      · cases h
end
end Itp

set_option Elab.async false
set_option linter.all false
set_option autoImplicit false
set_option maxRecDepth 100000
set_option maxHeartbeats 4000000
/-! Itp, part S: statements; a def's body. -/
namespace Itp
open PySem PySem.Spec PyProof.Rows L2

def OutS (g : Gx) (Wx : WX) (ι : List Addr) (H : Hp) (o : SOut) (D : Ends) : Prop := match o with
  | .nx ρ hp => ∀ σ' H' ι', Ext ι H ι' H' → Sim g.K ι' hp H' → RepSt g.K ι' H' ρ σ' → D.nx σ' H'
  | .rt w hp => ∀ v H' ι', Ext ι H ι' H' → Sim g.K ι' hp H' → Rep g.K ι' H' w v → D.rt v H'
  | .bk ρ hp => ∀ σ' H' ι', Ext ι H ι' H' → Sim g.K ι' hp H' → RepSt g.K ι' H' ρ σ' → D.bk σ' H'
  | .ct ρ hp => ∀ σ' H' ι', Ext ι H ι' H' → Sim g.K ι' hp H' → RepSt g.K ι' H' ρ σ' → D.ct σ' H'
  | .err c fs ρ hp => ∀ cls d σ' H' ι', Ext ι H ι' H' → Sim g.K ι' hp H' → RepSt g.K ι' H' ρ σ' → XRep g ι' H' c fs cls d → Wx cls d σ' H'
  | .stuck => False
def rdS (g : Gx) (Wx : WX) (f : IS → IH → SOut) : TS := fun D σ H => ∃ ι ρ hp, Sim g.K ι hp H ∧ RepSt g.K ι H ρ σ ∧ OutS g Wx ι H (f ρ hp) D
section
variable {g : Gx} {Wx : WX} {ι ι' : List Addr} {H H' : Hp} {D : Ends}
theorem OutS.ext {o : SOut} (e : Ext ι H ι' H') (h : OutS g Wx ι H o D) : OutS g Wx ι' H' o D := by
  cases o with
  | nx ρ hp => exact fun σ' H2 ι2 e2 => h σ' H2 ι2 (e.trans e2)
  | rt w hp => exact fun v H2 ι2 e2 => h v H2 ι2 (e.trans e2)
  | bk ρ hp => exact fun σ' H2 ι2 e2 => h σ' H2 ι2 (e.trans e2)
  | ct ρ hp => exact fun σ' H2 ι2 e2 => h σ' H2 ι2 (e.trans e2)
  | err c fs ρ hp => exact fun cls d σ' H2 ι2 e2 => h cls d σ' H2 ι2 (e.trans e2)
  | stuck => exact h
structure AftS {α β : Type} (g : Gx) (Wx : WX) (ι : List Addr) (H : Hp) (ρ : IS) (σ : L2.St) (R : List Addr → Hp → α → β → Prop) (k : α → IH → SOut) (D : Ends) (b : β) (H' : Hp) : Prop where
  ex : ∃ ι' hp' a, Ext ι H ι' H' ∧ Sim g.K ι' hp' H' ∧ R ι' H' a b ∧ RepSt g.K ι' H' ρ σ ∧ OutS g Wx ι' H' (k a hp') D
theorem thenG {α β : Type} {R : List Addr → Hp → α → β → Prop} {ρ : IS} {σ : L2.St} {hp : IH} {f : IS → IH → Out α} {k : α → IH → SOut} (s : Sim g.K ι hp H) (r : RepSt g.K ι H ρ σ) (h : OutS g Wx ι H ((f ρ hp).then ρ k) D) :
    rdG g Wx R f σ H (AftS g Wx ι H ρ σ R k D) := by
  refine ⟨ι, ρ, hp, s, r, ?_⟩
  generalize f ρ hp = z at h ⊢
  cases z with
  | ok a hp' => exact fun b H2 ι2 e2 s2 r2 => ⟨ι2, hp', a, e2, s2, r2, r.ext e2, OutS.ext e2 h⟩
  | err c fs hp' => exact fun cls d H2 ι2 e2 s2 x => h cls d σ H2 ι2 e2 s2 (r.ext e2) x
  | stuck => exact h
end

section
variable {X : Cx} {ca : Nat → Addr} {F : FEnv} {gas : Nat} {Wx : WX}
abbrev PSf (X : Cx) (ca : Nat → Addr) (Wx : WX) (s : Stmt) (f : IS → IH → SOut) : Prop := PS X s (rdS ⟨X.K, ca⟩ Wx f)
abbrev PSsf (X : Cx) (ca : Nat → Addr) (Wx : WX) (s : List Stmt) (f : IS → IH → SOut) : Prop := PSs X s (rdS ⟨X.K, ca⟩ Wx f)
theorem ss_nil : PSsf X ca Wx [] (evSs F gas []) := by
  refine PSsimp pss_nil fun D σ H h => ?_
  obtain ⟨ι, ρ, hp, s, r, o⟩ := h
  exact o σ H ι (Ext.refl _ _) s r
theorem ss_cons {st : Stmt} {sts : List Stmt} {a : IStm} {as : List IStm} (h1 : PSf X ca Wx st (evS F gas a)) (h2 : PSsf X ca Wx sts (evSs F gas as)) : PSsf X ca Wx (st :: sts) (evSs F gas (a :: as)) := by
  refine PSsimp (pss_cons h1 h2) fun D σ H h => ?_
  obtain ⟨ι, ρ, hp, s, r, o⟩ := h
  simp only [evSs] at o
  refine ⟨ι, ρ, hp, s, r, ?_⟩
  generalize evS F gas a ρ hp = z at o ⊢
  cases z with
  | nx ρ1 hp1 => exact fun σ' H' ι' e1 s1 r1 => ⟨ι', ρ1, hp1, s1, r1, OutS.ext e1 o⟩
  | rt w hp1 => exact o
  | bk ρ1 hp1 => exact o
  | ct ρ1 hp1 => exact o
  | err c fs ρ1 hp1 => exact o
  | stuck => exact o
theorem ss_expr {e : Expr} {ie : IE} {pos : Pos} (he : PEf X ca Wx e (ev F ie)) (hs : swapsWith e none pos.line X.env = pure false) : PSf X ca Wx (.Expr e pos) (evS F gas (.expr ie)) := by
  refine PSimp (ps_expr he hs) fun D σ H h => ?_
  obtain ⟨ι, ρ, hp, s, r, o⟩ := h
  simp only [evS] at o
  refine (thenG s r o).mono fun x H1 ⟨⟨ι1, hp1, w, e1, s1, rw1, r1, o1⟩⟩ => ?_
  exact o1 _ _ _ (Ext.refl _ _) s1 r1
theorem ss_ret {e : Expr} {ie : IE} {pos : Pos} (he : PEf X ca Wx e (ev F ie)) : PSf X ca Wx (.Return (some e) pos) (evS F gas (.ret ie)) := by
  refine PSimp (ps_ret he) fun D σ H h => ?_
  obtain ⟨ι, ρ, hp, s, r, o⟩ := h
  simp only [evS] at o
  refine (thenG s r o).mono fun x H1 ⟨⟨ι1, hp1, w, e1, s1, rw1, r1, o1⟩⟩ => ?_
  exact o1 _ _ _ (Ext.refl _ _) s1 rw1
theorem ss_retN {pos : Pos} : PSf X ca Wx (.Return none pos) (evS F gas .retN) := by
  refine PSimp ps_retN fun D σ H h => ?_
  obtain ⟨ι, ρ, hp, s, r, o⟩ := h
  simp only [evS] at o
  exact o _ _ _ (Ext.refl _ _) s rfl
theorem ss_pass {pos : Pos} : PSf X ca Wx (.Pass pos) (evS F gas .pass) := by
  refine PSimp ps_pass fun D σ H h => ?_
  obtain ⟨ι, ρ, hp, s, r, o⟩ := h
  exact o _ _ _ (Ext.refl _ _) s r
theorem ss_brk {pos : Pos} : PSf X ca Wx (.Break pos) (evS F gas .brk) := by
  refine PSimp ps_break fun D σ H h => ?_
  obtain ⟨ι, ρ, hp, s, r, o⟩ := h
  exact o _ _ _ (Ext.refl _ _) s r
theorem ss_cont {pos : Pos} : PSf X ca Wx (.Continue pos) (evS F gas .cont) := by
  refine PSimp ps_continue fun D σ H h => ?_
  obtain ⟨ι, ρ, hp, s, r, o⟩ := h
  exact o _ _ _ (Ext.refl _ _) s r
theorem ss_nev {st : Stmt} : PSf X ca Wx st (evS F gas .nev) := by
  refine PSimp ps_never fun D σ H h => ?_
  obtain ⟨ι, ρ, hp, s, r, o⟩ := h
  exact o
theorem ss_ite {c : Expr} {a b : List Stmt} {ic : IT} {ia ib : List IStm} {pos : Pos} (hc : PTf X ca Wx c (tst F ic)) (ha : PSsf X ca Wx a (evSs F gas ia)) (hb : PSsf X ca Wx b (evSs F gas ib)) : PSf X ca Wx (.If c a b pos) (evS F gas (.ite ic ia ib)) := by
  refine PSimp (ps_if hc ha hb) fun D σ H h => ?_
  obtain ⟨ι, ρ, hp, s, r, o⟩ := h
  simp only [evS] at o
  refine (thenG s r o).mono fun k H1 ⟨⟨ι1, hp1, w, e1, s1, rw1, r1, o1⟩⟩ => ?_
  obtain rfl : k = w := rw1
  cases k with
  | true =>
    rw [if_pos rfl] at o1
    rw [if_pos rfl]
    exact ⟨ι1, ρ, hp1, s1, r1, o1⟩
  | false =>
    rw [if_neg Bool.false_ne_true] at o1
    rw [if_neg Bool.false_ne_true]
    exact ⟨ι1, ρ, hp1, s1, r1, o1⟩

/-! ### stores -/
abbrev endsQ (Q : L2.St → Hp → Prop) : Ends := { nx := Q, rt := fun _ _ => False }
def rdTG (g : Gx) (Wx : WX) (f : W → IS → IH → SOut) : TG := fun v σ H Q => ∃ ι ρ hp w, Sim g.K ι hp H ∧ RepSt g.K ι H ρ σ ∧ Rep g.K ι H w v ∧ OutS g Wx ι H (f w ρ hp) (endsQ Q)
def rdTGs (g : Gx) (Wx : WX) (f : List W → IS → IH → SOut) : TGs := fun vs σ H Q => ∃ ι ρ hp ws, Sim g.K ι hp H ∧ RepSt g.K ι H ρ σ ∧ Reps g.K ι H ws vs ∧ OutS g Wx ι H (f ws ρ hp) (endsQ Q)
abbrev PGf (X : Cx) (ca : Nat → Addr) (Wx : WX) (e : Expr) (f : W → IS → IH → SOut) : Prop := PG X e (rdTG ⟨X.K, ca⟩ Wx f)
abbrev PGsf (X : Cx) (ca : Nat → Addr) (Wx : WX) (e : List Expr) (f : List W → IS → IH → SOut) : Prop := PGs X e (rdTGs ⟨X.K, ca⟩ Wx f)
theorem PGimp {e : Expr} {t t' : TG} (h : PG X e t) (k : ∀ v σ H Q, t' v σ H Q → t v σ H Q) : PG X e t' := ⟨fun pins s σ H v u Q I r q => h.run pins s σ H v u Q I r (k _ _ _ _ q)⟩
theorem PGsimp {e : List Expr} {t t' : TGs} (h : PGs X e t) (k : ∀ v σ H Q, t' v σ H Q → t v σ H Q) : PGs X e t' := ⟨fun pins s σ H v u Q I r q => h.run pins s σ H v u Q I r (k _ _ _ _ q)⟩
theorem sg_name {i : Nat} {x : Str} {pos : Pos} (hN : X.N.Nodup) (hi : X.N[i]? = some x) (hx : Loc X.env.scope x) (hf : X.fn x = true ∨ X.env.scope.names.lookup x = some .local) : PGf X ca Wx (.Name x pos) (sto F (.name i)) := by
  refine PGimp (pg_name hN hi hx hf) fun v σ H Q h => ?_
  obtain ⟨ι, ρ, hp, w, s, r, rw1, o⟩ := h
  simp only [sto] at o
  exact o _ _ _ (Ext.refl _ _) s (r.set i rw1)
theorem sg_sub {o i : Expr} {io ii : IE} {pos : Pos} (ho : PEf X ca Wx o (ev F io)) (hi : PEf X ca Wx i (ev F ii))
    (ha : ∀ v, assign (.Subscript o i pos) X.env v = (do
      let ov ← holding [v] (eval o X.env)
      let iv ← holding [v, ov] (eval i X.env)
      standAt pos
      holding [v, ov, iv] (setItem ov iv v)
      release [v, ov, iv] [])) : PGf X ca Wx (.Subscript o i pos) (sto F (.sub io ii)) := by
  refine PGimp (pg_sub ho hi set_F ha) fun v σ H Q h => ?_
  obtain ⟨ι, ρ, hp, w, s, r, rw1, o⟩ := h
  simp only [sto] at o
  refine (thenG s r o).mono fun x H1 ⟨⟨ι1, hp1, w1, e1, s1, rx, r1, o1⟩⟩ => ?_
  refine (thenG s1 r1 o1).mono fun y H2 ⟨⟨ι2, hp2, w2, e2, s2, ry, r2, o2⟩⟩ => ?_
  cases es : setF w1 w2 w hp2 with
  | none => simp only [es] at o2; exact o2.elim
  | some hp3 =>
    simp only [es] at o2
    exact ⟨ι2, hp2, w1, w2, w, hp3, s2, Rep.ext e2 _ _ rx, ry, Rep.ext (e1.trans e2) _ _ rw1, es, fun H3 e3 s3 => o2 σ H3 ι2 e3 s3 (r2.ext e3)⟩
theorem sgs_nil : PGsf X ca Wx [] (stos F []) := by
  refine PGsimp pgs_nil fun vs σ H Q h => ?_
  obtain ⟨ι, ρ, hp, ws, s, r, rw1, o⟩ := h
  cases ws with
  | nil =>
    simp only [stos] at o
    exact ⟨rw1, o _ _ _ (Ext.refl _ _) s r⟩
  | cons w ws => simp only [stos] at o; exact o.elim
theorem asg_each {e : Expr} {es : List Expr} {env : Env} (h : notStar e = true) : (assignEach (e :: es) env).map (·.2) = assign e env :: (assignEach es env).map (·.2) := by
  cases e <;> first | rfl | cases h
theorem sgs_cons {e : Expr} {es : List Expr} {t : STgt} {ts : List STgt} (h1 : PGf X ca Wx e (sto F t)) (h2 : PGsf X ca Wx es (stos F ts)) (hs : notStar e = true) : PGsf X ca Wx (e :: es) (stos F (t :: ts)) := by
  refine PGsimp (pgs_cons h1 h2 (asg_each hs)) fun vs σ H Q h => ?_
  obtain ⟨ι, ρ, hp, ws, s, r, rw1, o⟩ := h
  cases ws with
  | nil => simp only [stos] at o; exact o.elim
  | cons w ws =>
    simp only [stos] at o
    obtain ⟨v, vs', rfl, rv, rvs⟩ := rw1
    refine ⟨v, vs', rfl, ι, ρ, hp, w, s, r, rv, ?_⟩
    generalize sto F t w ρ hp = z at o ⊢
    cases z with
    | nx ρ1 hp1 => exact fun σ' H' ι' e1 s1 r1 => ⟨ι', ρ1, hp1, ws, s1, r1, Reps.ext e1 _ _ rvs, OutS.ext e1 o⟩
    | rt w hp1 => exact o
    | bk ρ1 hp1 => exact o
    | ct ρ1 hp1 => exact o
    | err c fs ρ1 hp1 => exact o
    | stuck => exact o
theorem each_len : ∀ {es : List Expr} {env : Env}, (assignEach es env).length = es.length
  | [], _ => rfl
  | e :: es, env => by
    cases e <;> (show (assignEach es env).length + 1 = es.length + 1; rw [each_len])
theorem each_none : ∀ {es : List Expr} {env : Env}, es.all notStar = true → (assignEach es env).findIdx? (·.1) = none
  | [], _, _ => rfl
  | e :: es, env, h => by
    rw [List.all_cons, Bool.and_eq_true] at h
    have q : assignEach (e :: es) env = (false, assign e env) :: assignEach es env := by cases e <;> first | rfl | cases h.1
    rw [q, List.findIdx?_cons, each_none h.2]
    rfl
/-- a list or a tuple, unpacked -/
theorem pg_seq {es : List Expr} {k : Nat} {t : TGs} {n : Nat} {pos : Pos} (hc : X.calm = true) (h : PGs X es t) (hn : (assignEach es X.env).length = n) (hst : (assignEach es X.env).findIdx? (·.1) = none) :
    PG X (.Tuple es k pos) (fun v σ H Q => ∃ a xs, v = .ref a ∧ (SqT X.K H a xs ∨ SqL X.K H a xs) ∧ xs.length = n ∧ t xs σ H Q) := by
  refine ⟨fun pins s σ H v u Q I r hw => ?_⟩
  obtain ⟨a, xs, e1, hq, hl, q⟩ := hw
  rcases hq with hq | hq
  · exact (pg_tup hc h hn hst).run pins s σ H v u Q I r ⟨a, xs, e1, hq, hl, q⟩
  · exact (pg_unl hc h hn hst).run pins s σ H v u Q I r ⟨a, xs, e1, hq, hl, q⟩
theorem sg_tup {es : List Expr} {ts : List STgt} {k : Nat} {pos : Pos} (hc : X.calm = true) (h : PGsf X ca Wx es (stos F ts)) (hl : es.length = ts.length) (hs : es.all notStar = true) : PGf X ca Wx (.Tuple es k pos) (sto F (.tup ts)) := by
  refine PGimp (pg_seq (n := es.length) hc h each_len (each_none hs)) fun v σ H Q hh => ?_
  obtain ⟨ι, ρ, hp, w, s, r, rw1, o⟩ := hh
  simp only [sto, unpk] at o
  cases ei : itemsOf hp w with
  | none => simp only [ei] at o; exact o.elim
  | some ws =>
    simp only [ei] at o
    by_cases hn : ws.length = ts.length
    · simp only [if_pos hn] at o
      obtain ⟨a, xs, rfl, hr, hq⟩ := s.items ei rw1
      exact ⟨a, xs, rfl, hq.symm, by rw [hr.length, hn, hl], ι, ρ, hp, ws, s, r, hr, o⟩
    · simp only [if_neg hn] at o
      exact o.elim
/-- a store is done, raises or is not served -/
def isPlain : SOut → Prop
  | .rt _ _ => False
  | .bk _ _ => False
  | .ct _ _ => False
  | _ => True
theorem then_plain {α : Type} {o : Out α} {ρ : IS} {k : α → IH → SOut} (hk : ∀ a hp, isPlain (k a hp)) : isPlain (o.then ρ k) := by
  cases o with
  | ok a hp => exact hk a hp
  | err c fs hp => exact True.intro
  | stuck => exact True.intro
mutual
theorem sto_plain (F : FEnv) : ∀ (t : STgt) (w : W) (ρ : IS) (hp : IH), isPlain (sto F t w ρ hp)
  | .name i, w, ρ, hp => by simp only [sto, isPlain]
  | .sub o i, w, ρ, hp => by
    simp only [sto]
    refine then_plain fun a hp => then_plain fun b hp => ?_
    split <;> exact True.intro
  | .tup ts, w, ρ, hp => by
    simp only [sto]
    split
    · exact stos_plain F ts _ _ _
    · exact True.intro
theorem stos_plain (F : FEnv) : ∀ (ts : List STgt) (ws : List W) (ρ : IS) (hp : IH), isPlain (stos F ts ws ρ hp)
  | [], [], ρ, hp => by simp only [stos, isPlain]
  | [], _ :: _, ρ, hp => by simp only [stos, isPlain]
  | _ :: _, [], ρ, hp => by simp only [stos, isPlain]
  | t :: ts, w :: ws, ρ, hp => by
    simp only [stos]
    have q := sto_plain F t w ρ hp
    generalize sto F t w ρ hp = z at q ⊢
    cases z with
    | nx ρ1 hp1 => exact stos_plain F ts ws ρ1 hp1
    | rt _ _ => exact q
    | bk _ _ => exact q
    | ct _ _ => exact q
    | err _ _ _ _ => exact True.intro
    | stuck => exact True.intro
end
/-- target = e, plainly -/
theorem ss_asg {tg e : Expr} {t : STgt} {ie : IE} {pos : Pos} (he : PEf X ca Wx e (ev F ie)) (hg : PGf X ca Wx tg (sto F t)) (hs : swapsWithSole [tg] e pos.line X.env = pure false) (hw : swappedStores [tg] e X.env = pure none) (hn : notStar tg = true) :
    PSf X ca Wx (.Assign [tg] e pos) (evS F gas (.asg t ie)) := by
  refine PSimp (ps_asg he hg hs hw (asg_each hn)) fun D σ H h => ?_
  obtain ⟨ι, ρ, hp, s, r, o⟩ := h
  simp only [evS] at o
  refine (thenG s r o).mono fun x H1 ⟨⟨ι1, hp1, w, e1, s1, rw1, r1, o1⟩⟩ => ?_
  refine ⟨ι1, ρ, hp1, w, s1, r1, rw1, ?_⟩
  have key : ∀ (t : STgt) (w : W) (ρ : IS) (hp : IH), ∀ o, sto F t w ρ hp = o → OutS ⟨X.K, ca⟩ Wx ι1 H1 o D → OutS ⟨X.K, ca⟩ Wx ι1 H1 o (endsQ D.nx) := fun t w ρ hp o ho h => by
    cases o with
    | nx ρ1 hp1 => exact h
    | rt w1 hp1 => have q := sto_plain F t w ρ hp; rw [ho] at q; exact q.elim
    | bk ρ1 hp1 => have q := sto_plain F t w ρ hp; rw [ho] at q; exact q.elim
    | ct ρ1 hp1 => have q := sto_plain F t w ρ hp; rw [ho] at q; exact q.elim
    | err c fs ρ1 hp1 => exact h
    | stuck => exact h
  exact key t w ρ hp1 _ rfl o1
/-- name = e -/
theorem ss_set {i : Nat} {x : Str} {e : Expr} {ie : IE} {p pos : Pos} (hN : X.N.Nodup) (hi : X.N[i]? = some x) (hx : Loc X.env.scope x) (hf : X.fn x = true ∨ X.env.scope.names.lookup x = some .local) (he : PEf X ca Wx e (ev F ie))
    (hs : swapsWith e (some (.Name x p)) pos.line X.env = pure false) : PSf X ca Wx (.Assign [.Name x p] e pos) (evS F gas (.asg (.name i) ie)) := by
  refine PSimp (ps_set hN hi hx he hs hf) fun D σ H h => ?_
  obtain ⟨ι, ρ, hp, s, r, o⟩ := h
  simp only [evS, sto] at o
  refine (thenG s r o).mono fun x H1 ⟨⟨ι1, hp1, w, e1, s1, rw1, r1, o1⟩⟩ => ?_
  exact o1 _ _ _ (Ext.refl _ _) s1 (r1.set i rw1)
/-- name = [..] on one line -/
theorem ss_setLc {i : Nat} {y : Str} {py : Pos} {elt iter tg : Expr} {ifs : List Expr} {scope : Scope} {own : List (Str × Nat)} {pos spos : Pos} {ie : IE} {tgt : Tgt} {it : IIt} {cond : Option IT} (hc : X.calm = true) (hN : X.N.Nodup) (hy : X.N[i]? = some y) (hyl : X.env.scope.names.lookup y = some .local)
    (hsw : swapsWith (.ListComp elt [⟨tg, iter, ifs, 0⟩] scope pos) (some (.Name y py)) spos.line X.env = pure true)
    (hi : PIf X ca Wx tg iter (evIt F it)) (ok : BlkOk X.N X.env.scope scope own)
    (hg : ∀ (s : Shared) (H : Hp) (C : Addr) (cl : List (Str × Addr)) (fp : List Addr), PG (X.blk s H scope (compEnvC scope cl C X.env) fp) tg (gT X.K tgt))
    (ht : ∀ (s : Shared) (H : Hp) (C : Addr) (cl : List (Str × Addr)) (fp : List Addr), PTs (X.blk s H scope (compEnvC scope cl C X.env) fp) ifs (rdT ⟨X.K, ca⟩ W0 (tstO F cond)))
    (he : ∀ (s : Shared) (H : Hp) (C : Addr) (cl : List (Str × Addr)) (fp : List Addr), PE (X.blk s H scope (compEnvC scope cl C X.env) fp) elt (rdE ⟨X.K, ca⟩ W0 (ev F ie)))
    (hs : ∀ x, foldedSetIterable iter X.env x = pure x) (hown : ∀ j ∈ tNames tgt, j ∈ own.map (·.2)) :
    PSf X ca Wx (.Assign [.Name y py] (.ListComp elt [⟨tg, iter, ifs, 0⟩] scope pos) spos) (evS F gas (.asg (.name i) (.comp ie tgt it cond (own.map (·.2))))) := by
  refine PSimp (ps_setLc hc hN hy hyl hsw hi ok hg ht he hs) fun D σ H h => ?_
  obtain ⟨ι, ρ, hp, s, r, o⟩ := h
  simp only [evS, sto] at o
  refine se_comp.comp_read (Wx := Wx) hown ((thenG s r o).mono fun x H1 ⟨⟨ι1, hp1, w, e1, s1, rw1, r1, o1⟩⟩ => ?_)
  exact o1 _ _ _ (Ext.refl _ _) s1 (r1.set i rw1)
/-- a, b = x, y stored from the right -/
theorem ss_par {i j : Nat} {x y : Str} {a b : Expr} {ia ib : IE} {px py pt pos : Pos} {kt k2 : Nat} {pt2 : Pos} (hc : X.calm = true) (hN : X.N.Nodup) (hi : X.N[i]? = some x) (hj : X.N[j]? = some y) (hij : i ≠ j)
    (hx : X.env.scope.names.lookup x = some .local) (hy : X.env.scope.names.lookup y = some .local) (ha : PAf X ca Wx [a, b] (evs F [ia, ib]))
    (hw : swappedStores [.Tuple [.Name x px, .Name y py] kt pt] (.Tuple [a, b] k2 pt2) X.env = pure (some [x, y]))
    (hs : swapsWithSole [.Tuple [.Name x px, .Name y py] kt pt] (.Tuple [a, b] k2 pt2) pos.line X.env = pure false) :
    PSf X ca Wx (.Assign [.Tuple [.Name x px, .Name y py] kt pt] (.Tuple [a, b] k2 pt2) pos) (evS F gas (.asg (.tup [.name i, .name j]) (.tup [ia, ib]))) := by
  refine PSimp (ps_par hc hN hi hj hij hx hy ha hw hs) fun D σ H h => ?_
  obtain ⟨ι, ρ, hp, s, r, o⟩ := h
  have o' : OutS ⟨X.K, ca⟩ Wx ι H ((evs F [ia, ib] ρ hp).then ρ fun ws hp => (if ws.length ≤ lineLen then (Out.ok (.tup ws) hp) else .stuck).then ρ fun w hp => sto F (.tup [.name i, .name j]) w ρ hp) D := by
    have e : evS F gas (.asg (.tup [.name i, .name j]) (.tup [ia, ib])) ρ hp = (evs F [ia, ib] ρ hp).then ρ fun ws hp => (if ws.length ≤ lineLen then (Out.ok (.tup ws) hp) else .stuck).then ρ fun w hp => sto F (.tup [.name i, .name j]) w ρ hp := by
      simp only [evS, ev]
      generalize evs F [ia, ib] ρ hp = z
      cases z <;> rfl
    rw [← e]
    exact o
  refine (thenG s r o').mono fun xs H1 ⟨⟨ι1, hp1, ws, e1, s1, rw1, r1, o1⟩⟩ => ?_
  by_cases hl : ws.length ≤ lineLen
  · rw [if_pos hl] at o1
    simp only [Out.then_ok, sto] at o1
    by_cases hn : ws.length = 2
    · match ws, hn, rw1 with
      | [w1, w2], _, rw1 =>
        obtain ⟨v1, v2, rfl, h1, h2⟩ := reps2 rw1
        simp only [unpk, itemsOf, List.length_cons, List.length_nil, stos, sto, SOut.seq_nx, if_true] at o1
        exact ⟨v1, v2, rfl, o1 _ _ _ (Ext.refl _ _) s1 ((r1.set i h1).set j h2)⟩
    · simp only [unpk, itemsOf, List.length_cons, List.length_nil, if_neg hn] at o1
      exact o1.elim
  · rw [if_neg hl] at o1
    exact o1.elim
theorem ss_par3 {i j l : Nat} {x y z : Str} {a b c : Expr} {ia ib ic : IE} {px py pz pt pos : Pos} {kt k2 : Nat} {pt2 : Pos} (hc : X.calm = true) (hN : X.N.Nodup) (hi : X.N[i]? = some x) (hj : X.N[j]? = some y) (hl : X.N[l]? = some z) (hij : i ≠ j) (hil : i ≠ l) (hjl : j ≠ l)
    (hx : X.env.scope.names.lookup x = some .local) (hy : X.env.scope.names.lookup y = some .local) (hz : X.env.scope.names.lookup z = some .local) (ha : PAf X ca Wx [a, b, c] (evs F [ia, ib, ic]))
    (hw : swappedStores [.Tuple [.Name x px, .Name y py, .Name z pz] kt pt] (.Tuple [a, b, c] k2 pt2) X.env = pure (some [x, y, z]))
    (hs : swapsWithSole [.Tuple [.Name x px, .Name y py, .Name z pz] kt pt] (.Tuple [a, b, c] k2 pt2) pos.line X.env = pure false) :
    PSf X ca Wx (.Assign [.Tuple [.Name x px, .Name y py, .Name z pz] kt pt] (.Tuple [a, b, c] k2 pt2) pos) (evS F gas (.asg (.tup [.name i, .name j, .name l]) (.tup [ia, ib, ic]))) := by
  refine PSimp (ps_par3 hc hN hi hj hl hij hil hjl hx hy hz ha hw hs) fun D σ H h => ?_
  obtain ⟨ι, ρ, hp, s, r, o⟩ := h
  have o' : OutS ⟨X.K, ca⟩ Wx ι H ((evs F [ia, ib, ic] ρ hp).then ρ fun ws hp => (if ws.length ≤ lineLen then (Out.ok (.tup ws) hp) else .stuck).then ρ fun w hp => sto F (.tup [.name i, .name j, .name l]) w ρ hp) D := by
    have e : evS F gas (.asg (.tup [.name i, .name j, .name l]) (.tup [ia, ib, ic])) ρ hp = (evs F [ia, ib, ic] ρ hp).then ρ fun ws hp => (if ws.length ≤ lineLen then (Out.ok (.tup ws) hp) else .stuck).then ρ fun w hp => sto F (.tup [.name i, .name j, .name l]) w ρ hp := by
      simp only [evS, ev]
      generalize evs F [ia, ib, ic] ρ hp = z
      cases z <;> rfl
    rw [← e]
    exact o
  refine (thenG s r o').mono fun xs H1 ⟨⟨ι1, hp1, ws, e1, s1, rw1, r1, o1⟩⟩ => ?_
  by_cases hl : ws.length ≤ lineLen
  · rw [if_pos hl] at o1
    simp only [Out.then_ok, sto] at o1
    by_cases hn : ws.length = 3
    · match ws, hn, rw1 with
      | [w1, w2, w3], _, rw1 =>
        obtain ⟨v1, r', rfl, h1, h2⟩ := rw1
        obtain ⟨v2, v3, rfl, h2, h3⟩ := reps2 h2
        simp only [unpk, itemsOf, List.length_cons, List.length_nil, stos, sto, SOut.seq_nx, if_true] at o1
        exact ⟨v1, v2, v3, rfl, o1 _ _ _ (Ext.refl _ _) s1 (((r1.set i h1).set j h2).set l h3)⟩
    · simp only [unpk, itemsOf, List.length_cons, List.length_nil, if_neg hn] at o1
      exact o1.elim
  · rw [if_neg hl] at o1
    exact o1.elim
/-- name op= e -/
theorem ss_augN {i : Nat} {x : Str} {op : Operator} {e : Expr} {ie : IE} {p pos : Pos} (hN : X.N.Nodup) (hi : X.N[i]? = some x) (hx : Loc X.env.scope x) (hf : X.fn x = true ∨ X.env.scope.names.lookup x = some .local) (he : PEf X ca Wx e (ev F ie)) :
    PSf X ca Wx (.AugAssign (.Name x p) op e pos) (evS F gas (.augN i op ie)) := by
  have hip : PIp X op (rF2 X.K (ipF op)) := fun pins s σ H x y v u Q I rx ry h => op_ipF op pins s σ H x y v u Q I rx ry h
  refine PSimp (ps_aug hN hi hx he hip hf) fun D σ H h => ?_
  obtain ⟨ι, ρ, hp, s, r, o⟩ := h
  simp only [evS] at o
  cases ei : ρ[i]? with
  | none => simp only [ei] at o; exact o.elim
  | some ow =>
    cases ow with
    | none => simp only [ei] at o; exact o.elim
    | some w =>
      simp only [ei] at o
      obtain ⟨v, hv, rv⟩ := r.2 i w ei
      refine ⟨v, hv, (thenG s r o).mono fun y H1 ⟨⟨ι1, hp1, u, e1, s1, ru, r1, o1⟩⟩ => ?_⟩
      cases eb : ipF op w u hp1 with
      | none => simp only [eb] at o1; exact o1.elim
      | some z =>
        simp only [eb] at o1
        exact ⟨ι1, hp1, w, u, z.1, z.2, s1, Rep.ext e1 _ _ rv, ru, eb, fun zv H2 ι2 e2 s2 rz => o1 _ _ _ e2 s2 ((r1.ext e2).set i rz)⟩

/-- o[i] op= e -/
def rGetF (K : PySem.W.Frag) : V → V → Hp → VK → Prop := fun o i H Q => ∃ ι hp a b w, Sim K ι hp H ∧ Rep K ι H a o ∧ Rep K ι H b i ∧ getF a b hp = some w ∧ ∀ v, Rep K ι H w v → Q v H
theorem get_F : PGet X (rGetF X.K) := by
  intro pins s σ H o i ov iv Q I ro ri h
  obtain ⟨ι, hp, a, b, w, sim, ra, rb, e, k⟩ := h
  unfold getF at e
  split at e
  · rename_i n j
    obtain rfl : i = .int j := rb
    split at e
    · rename_i ws eo
      split at e
      · rename_i hj
        obtain ⟨am, vs, hm, hv, hr⟩ := sim.lstAt eo
        have ex := Rep.ref ra hm
        subst ex
        cases ro
        obtain ⟨t, rfl⟩ := ri
        obtain ⟨v, hv2, rv⟩ := hr.get e
        obtain ⟨its, r, pl, hz⟩ := I.list (SqL.of hv)
        obtain ⟨u, eu, ru⟩ := r.get hv2
        exact wpAny_getItem_list pl.isList hj.1 (by omega) (by simpa using eu) ⟨v, H, I, ru, k v rv⟩
      · cases e
    · cases e
  · cases e
theorem ss_augS {o i e : Expr} {io ii ie : IE} {op : Operator} {tpos pos : Pos} (ho : PEf X ca Wx o (ev F io)) (hi : PEf X ca Wx i (ev F ii)) (he : PEf X ca Wx e (ev F ie))
    (ha : ∀ ov iv new, augStore i ov iv new = (do holding [new, ov, iv] (setItem ov iv new); release [new, ov, iv] []; pure .next)) : PSf X ca Wx (.AugAssign (.Subscript o i tpos) op e pos) (evS F gas (.augS io ii op ie)) := by
  have hip : PIp X op (rF2 X.K (ipF op)) := fun pins s σ H x y v u Q I rx ry h => op_ipF op pins s σ H x y v u Q I rx ry h
  refine PSimp (ps_augS ho hi get_F he hip set_F ha) fun D σ H h => ?_
  obtain ⟨ι, ρ, hp, s, r, o⟩ := h
  simp only [evS] at o
  refine (thenG s r o).mono fun x H1 ⟨⟨ι1, hp1, w1, e1, s1, rx, r1, o1⟩⟩ => ?_
  refine (thenG s1 r1 o1).mono fun y H2 ⟨⟨ι2, hp2, w2, e2, s2, ry, r2, o2⟩⟩ => ?_
  cases eg : getF w1 w2 hp2 with
  | none => simp only [eg] at o2; exact o2.elim
  | some v0 =>
    simp only [eg] at o2
    refine ⟨ι2, hp2, w1, w2, v0, s2, Rep.ext e2 _ _ rx, ry, eg, fun v rv => ?_⟩
    refine (thenG s2 r2 o2).mono fun z H3 ⟨⟨ι3, hp3, w3, e3, s3, rz, r3, o3⟩⟩ => ?_
    cases eb : ipF op v0 w3 hp3 with
    | none => simp only [eb] at o3; exact o3.elim
    | some q =>
      simp only [eb] at o3
      refine ⟨ι3, hp3, v0, w3, q.1, q.2, s3, Rep.ext e3 _ _ rv, rz, eb, fun zv H4 ι4 e4 s4 rq => ?_⟩
      cases es : setF w1 w2 q.1 q.2 with
      | none => simp only [es] at o3; exact o3.elim
      | some hp5 =>
        simp only [es] at o3
        exact ⟨ι4, q.2, w1, w2, q.1, hp5, s4, Rep.ext ((e2.trans e3).trans e4) _ _ rx, Rep.ext (e3.trans e4) _ _ ry, rq, es, fun H5 e5 s5 => o3 σ H5 ι4 (e4.trans e5) s5 (r3.ext (e4.trans e5))⟩

/-! ### loops -/
theorem ss_for {tg iter : Expr} {body : List Stmt} {t : Tgt} {it : IIt} {ib : List IStm} {pos : Pos} (hp : PassesOwn (model X.prog X.w) X.A X.env X.xe) (hc : X.calm = true) (hi : PIf X ca Wx tg iter (evIt F it)) (hg : PG X tg (gT X.K t)) (hb : PSsf X ca Wx body (evSs F gas ib))
    (hs : ∀ x, foldedSetIterable iter X.env x = pure x) : PSf X ca Wx (.For tg iter body [] pos) (evS F gas (.forS t it ib)) := by
  refine PSimp (ps_for hp hc hi hg hb hs) fun D σ H h => ?_
  obtain ⟨ι, ρ, hp, s, r, o⟩ := h
  simp only [evS] at o
  refine (thenG s r o).mono fun T H1 ⟨⟨ι1, hp1, J, e1, s1, itok, r1, o1⟩⟩ => ?_
  refine ⟨fun i m σ' H' => ∃ ι' ρ' hp', Ext ι1 H1 ι' H' ∧ Sim X.K ι' hp' H' ∧ RepSt X.K ι' H' ρ' σ' ∧ OutS ⟨X.K, ca⟩ Wx ι' H' (forL (evSs F gas ib) t J m i ρ' hp') D, ⟨itLen J hp1, ι1, ρ, hp1, Ext.refl _ _, s1, r1, o1⟩, fun i m σ' H' hW => ?_⟩
  obtain ⟨ι', ρ', hp', e', s', r', o'⟩ := hW
  cases m with
  | zero =>
    unfold forL at o'
    split at o'
    · rename_i hcur
      exact .inl ⟨itok.done _ _ _ e' s' i hcur, o' _ _ _ (Ext.refl _ _) s' r'⟩
    · exact o'.elim
  | succ k =>
    unfold forL at o'
    split at o'
    · rename_i wv hcur
      obtain ⟨go, yl⟩ := itok.item _ _ _ e' s' i wv hcur
      refine .inr ⟨go, fun σ2 H2 => ∃ ι' ρ' hp', Ext ι1 H1 ι' H2 ∧ Sim X.K ι' hp' H2 ∧ RepSt X.K ι' H2 ρ' σ2 ∧ OutS ⟨X.K, ca⟩ Wx ι' H2 (forL (evSs F gas ib) t J k (i + 1) ρ' hp') D, fun σ2 H2 hh => ⟨k, Nat.lt_succ_self k, hh⟩, fun x H3 hy => ?_⟩
      obtain ⟨e3, s3, rx⟩ := yl x H3 hy
      split at o'
      · rename_i ρ1 eρ
        refine gT_mono t (gT_ok t eρ rx (r'.ext e3)) fun σ2 H2 st => ?_
        obtain ⟨rfl, rep2, out2, len2⟩ := st
        refine ⟨ι', ρ1, hp', s3, rep2, ?_⟩
        generalize evSs F gas ib ρ1 hp' = z at o' ⊢
        cases z with
        | nx ρ2 hp2 => exact fun σ4 H4 ι4 e4 s4 r4 => ⟨ι4, ρ2, hp2, (e'.trans e3).trans e4, s4, r4, OutS.ext (e3.trans e4) o'⟩
        | ct ρ2 hp2 => exact fun σ4 H4 ι4 e4 s4 r4 => ⟨ι4, ρ2, hp2, (e'.trans e3).trans e4, s4, r4, OutS.ext (e3.trans e4) o'⟩
        | bk ρ2 hp2 => exact fun σ4 H4 ι4 e4 s4 r4 => o' _ _ _ (e3.trans e4) s4 r4
        | rt w hp2 => exact OutS.ext e3 o'
        | err c fs ρ2 hp2 => exact OutS.ext e3 o'
        | stuck => exact o'.elim
      · exact o'.elim
    · rename_i hcur
      exact .inl ⟨itok.done _ _ _ e' s' i hcur, o' _ _ _ (Ext.refl _ _) s' r'⟩
    · exact o'.elim
theorem ss_whl {c : Expr} {body : List Stmt} {ic : IT} {ib : List IStm} {pos : Pos} (hp : PassesOwn (model X.prog X.w) X.A X.env X.xe) (hc : PTf X ca Wx c (tst F ic)) (hb : PSsf X ca Wx body (evSs F gas ib)) : PSf X ca Wx (.While c body [] pos) (evS F gas (.whl ic ib)) := by
  refine PSimp (ps_while hp hc hb) fun D σ H h => ?_
  obtain ⟨ι, ρ, hp, s, r, o⟩ := h
  simp only [evS] at o
  refine ⟨fun m σ' H' => ∃ ι' ρ' hp', Sim X.K ι' hp' H' ∧ RepSt X.K ι' H' ρ' σ' ∧ OutS ⟨X.K, ca⟩ Wx ι' H' (whlL (tst F ic) (evSs F gas ib) m ρ' hp') D, ⟨gas, ι, ρ, hp, s, r, o⟩, fun m σ' H' hW => ?_⟩
  obtain ⟨ι', ρ', hp', s', r', o'⟩ := hW
  cases m with
  | zero => unfold whlL at o'; exact o'.elim
  | succ k =>
    unfold whlL at o'
    refine (thenG s' r' o').mono fun b H1 ⟨⟨ι1, hp1, w, e1, s1, rw1, r1, o1⟩⟩ => ?_
    obtain rfl : b = w := rw1
    cases b with
    | false =>
      rw [if_neg Bool.false_ne_true] at o1
      rw [if_neg Bool.false_ne_true]
      exact o1 _ _ _ (Ext.refl _ _) s1 r1
    | true =>
      rw [if_pos rfl] at o1
      rw [if_pos rfl]
      refine ⟨fun σ2 H2 => ∃ ι' ρ' hp', Sim X.K ι' hp' H2 ∧ RepSt X.K ι' H2 ρ' σ2 ∧ OutS ⟨X.K, ca⟩ Wx ι' H2 (whlL (tst F ic) (evSs F gas ib) k ρ' hp') D, fun σ2 H2 hh => ⟨k, Nat.lt_succ_self k, hh⟩, ι1, ρ', hp1, s1, r1, ?_⟩
      generalize evSs F gas ib ρ' hp1 = z at o1 ⊢
      cases z with
      | nx ρ2 hp2 => exact fun σ4 H4 ι4 e4 s4 r4 => ⟨ι4, ρ2, hp2, s4, r4, OutS.ext e4 o1⟩
      | ct ρ2 hp2 => exact fun σ4 H4 ι4 e4 s4 r4 => ⟨ι4, ρ2, hp2, s4, r4, OutS.ext e4 o1⟩
      | bk ρ2 hp2 => exact fun σ4 H4 ι4 e4 s4 r4 => o1 _ _ _ e4 s4 r4
      | rt w hp2 => exact o1
      | err c fs ρ2 hp2 => exact o1
      | stuck => exact o1.elim
end
end Itp

set_option Elab.async false
set_option linter.all false
set_option autoImplicit false
set_option maxRecDepth 100000
set_option maxHeartbeats 4000000
/-! Itp, part X: from the text's own trees to the small language, with the proof that it says the same. -/
namespace Itp
open PySem PySem.Spec PyProof.Rows L2

/-- what the reading of a def knows: its names by slot, its scope, the defs it may call, the constants, the built-in names that are still built in -/
structure Ctx where
  N : List Str
  sc : Scope
  top : Bool
  fns : List FI
  glb : List (Str × W)
  blt : List Str
structure Good (c : Ctx) (ca : Nat → Addr) (F : FEnv) (Wx : WX) (X : Cx) : Prop where
  N : X.N = c.N
  nd : c.N.Nodup
  sc : X.env.scope = c.sc
  kind : c.sc.kind = .function
  calm : X.calm = true
  hu : X.A.units + 65 < cLine
  gd : X.A.guards = some []
  tk : Takes X Wx
  po : PassesOwn (model X.prog X.w) X.A X.env X.xe
  fn : c.top = true → ∀ x, X.fn x = true
  fok : ∀ (i : Nat) (fi : FI), c.fns[i]? = some fi → FOk X ca fi (F i)
  glb : ∀ (x : Str) (w : W), (x, w) ∈ c.glb → ∃ u v, X.mg x = some u ∧ RelV v u ∧ ∀ ι H, Rep X.K ι H w v
  blt : ∀ x ∈ c.blt, X.mg x = none

/-! ### names -/
def ixOf : List Str → Str → Option Nat
  | [], _ => none
  | y :: ys, x => if y = x then some 0 else (ixOf ys x).map (· + 1)
theorem ixOf_ok : ∀ {N : List Str} {x : Str} {i : Nat}, ixOf N x = some i → N[i]? = some x
  | [], _, _, h => by cases h
  | y :: ys, x, i, h => by
    unfold ixOf at h
    split at h
    · rename_i e
      cases h
      subst e
      rfl
    · simp only [Option.map_eq_some_iff] at h
      obtain ⟨j, hj, rfl⟩ := h
      show ys[j]? = some x
      exact ixOf_ok hj
def visC (sc : Scope) (x : Str) : Bool := match sc.names.lookup x with
  | some .local => true
  | some .cell => true
  | some .free => true
  | _ => false
def locC (c : Ctx) (x : Str) : Bool := match c.sc.names.lookup x with
  | some .local => true
  | some .cell => c.top
  | _ => false
def glC (sc : Scope) (x : Str) : Bool := match sc.names.lookup x with
  | some .globalImplicit => true
  | _ => false
def okN (x : Str) : Bool := !(x == ("__debug__" : Str)) && !(x == ("__classdict__" : Str)) && !(decide (x = "__name__"))
theorem okN_1 {x : Str} (h : okN x = true) : (x == ("__debug__" : Str)) = false := by
  unfold okN at h
  simp only [Bool.and_eq_true, Bool.not_eq_true'] at h
  exact h.1.1
theorem okN_2 {x : Str} (h : okN x = true) : (x == ("__classdict__" : Str)) = false := by
  unfold okN at h
  simp only [Bool.and_eq_true, Bool.not_eq_true'] at h
  exact h.1.2
theorem okN_3 {x : Str} (h : okN x = true) : x ≠ "__name__" := by
  unfold okN at h
  simp only [Bool.and_eq_true, Bool.not_eq_true', decide_eq_false_iff_not] at h
  exact h.2
theorem visC_ok {sc : Scope} {x : Str} (h : visC sc x = true) : Vis sc x := by
  unfold visC at h
  split at h
  · rename_i e; exact .inl e
  · rename_i e; exact .inr (.inl e)
  · rename_i e; exact .inr (.inr e)
  · cases h
theorem locC_ok {c : Ctx} {x : Str} (h : locC c x = true) : Loc c.sc x ∧ (c.top = true ∨ c.sc.names.lookup x = some .local) := by
  unfold locC at h
  split at h
  · rename_i e; exact ⟨.inl e, .inr e⟩
  · rename_i e; exact ⟨.inr e, .inl h⟩
  · cases h
theorem glC_ok {X : Cx} {sc : Scope} {x : Str} (hs : X.env.scope = sc) (h : glC sc x = true) : Gl X x := by
  unfold glC at h
  split at h
  · rename_i e
    show X.env.scope.names.lookup x = some .globalImplicit
    rw [hs]
    exact e
  · cases h
/-- built-in types as values -/
def tyOf (x : Str) : Option String :=
  if x = "int" then some "int" else if x = "str" then some "str" else if x = "bool" then some "bool" else if x = "tuple" then some "tuple" else if x = "list" then some "list" else none
theorem tyOf_ok {x : Str} {n : String} (h : tyOf x = some n) : bootBuiltins x = some (.type n) := by
  unfold tyOf at h
  split at h
  · rename_i e; subst e; cases h; decide +kernel
  split at h
  · rename_i e; subst e; cases h; decide +kernel
  split at h
  · rename_i e; subst e; cases h; decide +kernel
  split at h
  · rename_i e; subst e; cases h; decide +kernel
  split at h
  · rename_i e; subst e; cases h; decide +kernel
  cases h
/-- built-in functions -/
def bfTab : List (Str × BF) := [("len", .len), ("abs", .abs), ("max", .max), ("min", .min), ("divmod", .divmod), ("all", .all), ("any", .any), ("sum", .sum), ("isinstance", .isinstance), ("ord", .ord), ("repr", .repr), ("int", .tInt), ("str", .tStr), ("list", .tList), ("tuple", .tTuple)]
def bfOf (x : Str) : Option BF := bfTab.lookup x
theorem bfTab_ok : ∀ p ∈ bfTab, bootBuiltins p.1 = some (bfVal p.2) := by decide +kernel
theorem bfVal_ok (f : BF) : (∃ id, bfVal f = .builtin id) ∨ ∃ id, bfVal f = .type id := by
  cases f <;> first | exact .inl ⟨_, rfl⟩ | exact .inr ⟨_, rfl⟩
theorem bfOf_ok {x : Str} {f : BF} (h : bfOf x = some f) : bootBuiltins x = some (bfVal f) := bfTab_ok _ (PySem.mem_of_lookup h)
def bmOf (x : Str) : Option BM :=
  if x = "append" then some .append else if x = "extend" then some .extend else if x = "pop" then some .pop else if x = "join" then some .join
  else if x = "count" then some .count else if x = "rfind" then some .rfind else if x = "isalpha" then some .isalpha else if x = "index" then some .index else if x = "upper" then some .upper else none
theorem bmOf_ok {x : Str} {m : BM} (h : bmOf x = some m) : x = bmName m := by
  unfold bmOf at h
  repeat' (split at h)
  all_goals first
    | (rename_i e; subst e; cases h; rfl)
    | cases h
def fnIx : List FI → Str → Option (Nat × FI)
  | [], _ => none
  | f :: fs, x => if f.name = x then some (0, f) else (fnIx fs x).map fun p => (p.1 + 1, p.2)
theorem fnIx_ok : ∀ {fs : List FI} {x : Str} {i : Nat} {fi : FI}, fnIx fs x = some (i, fi) → fs[i]? = some fi ∧ fi.name = x
  | [], _, _, _, h => by cases h
  | f :: fs, x, i, fi, h => by
    unfold fnIx at h
    split at h
    · rename_i e
      cases h
      exact ⟨rfl, e⟩
    · simp only [Option.map_eq_some_iff] at h
      obtain ⟨⟨j, fj⟩, hj, e⟩ := h
      cases e
      show fs[j]? = some fj ∧ fj.name = x
      exact fnIx_ok hj

/-! ### small looks at trees -/
def plainIx : Expr → Bool
  | .Slice _ _ _ _ => false
  | _ => true
theorem plainIx_ok {e : Expr} (h : plainIx e = true) : PlainIx e := by
  intro o i
  cases e <;> first | rfl | cases h
def noCall0 : Expr → Bool
  | .Call _ [] [] _ => false
  | _ => true
theorem base_ok {e : Expr} {a : Str} {env : Env} {w : Sem Value} (h : noCall0 e = true) : attributeBase e a env w = w := by
  cases e with
  | Call f args kws p =>
    cases args with
    | nil =>
      cases kws with
      | nil => cases h
      | cons k ks => cases f <;> rfl
    | cons x xs => cases f <;> rfl
  | _ => rfl
def noSet : Expr → Bool
  | .Set _ _ _ => false
  | _ => true
theorem fold_ok {e : Expr} {env : Env} (h : noSet e = true) : ∀ x, foldedSetIterable e env x = pure x := by
  intro x
  cases e <;> first | rfl | cases h
def noComp : Expr → Bool
  | .ListComp _ _ _ _ => false
  | .SetComp _ _ _ _ => false
  | .DictComp _ _ _ _ _ => false
  | _ => true
theorem swap_ok {e : Expr} {t : Option Expr} {l : Nat} {env : Env} (h : noComp e = true) : swapsWith e t l env = pure false := by
  cases e <;> first | rfl | cases h
def plainTest : Expr → Bool
  | .UnaryOp .Not _ _ => false
  | .BoolOp _ _ _ => false
  | .IfExp _ _ _ _ => false
  | .Compare _ _ _ _ => false
  | _ => true
theorem test_ok {e : Expr} {env : Env} (h : plainTest e = true) : ∀ whole, isTrue e env whole = (do let v ← whole; standAt e.pos; holding [v] (truthy v)) := by
  intro whole
  cases e with
  | UnaryOp op a p => cases op <;> first | rfl | cases h
  | BoolOp _ _ _ => cases h
  | IfExp _ _ _ _ => cases h
  | Compare _ _ _ _ => cases h
  | _ => rfl
def augPlain : Expr → Bool
  | .Slice _ _ _ _ => false
  | _ => true
theorem aug_ok {e : Expr} (h : augPlain e = true) : ∀ ov iv new, augStore e ov iv new = (do holding [new, ov, iv] (setItem ov iv new); release [new, ov, iv] []; pure .next) := by
  intro ov iv new
  cases e <;> first | rfl | cases h
theorem sub_ok {o i : Expr} {pos : Pos} {env : Env} (h : plainIx i = true) : ∀ v, assign (.Subscript o i pos) env v = (do
      let ov ← holding [v] (eval o env)
      let iv ← holding [v, ov] (eval i env)
      standAt pos
      holding [v, ov, iv] (setItem ov iv v)
      release [v, ov, iv] []) := by
  intro v
  cases i <;> first | rfl | cases h
def isTuple : Expr → Bool
  | .Tuple _ _ _ => true
  | _ => false
theorem isTuple_ok {e : Expr} (h : isTuple e = true) : ∃ es k p, e = .Tuple es k p := by
  cases e <;> first | exact ⟨_, _, _, rfl⟩ | cases h
def fnKind : ScopeKind → Bool
  | .function => true
  | _ => false
theorem fnKind_ok {k : ScopeKind} (h : fnKind k = true) : k = .function := by
  cases k <;> first | rfl | cases h
def cConst : Const → Option W
  | .none => some .non
  | .bool b => some (.bl b)
  | .int i => some (.int i)
  | .str s => some (.str s)
  | _ => none
/-- the perm of a call with keywords -/
def kwFind (fi : FI) (n : Nat) (ks : List Str) : Option (List Nat) := (fi.kwp.find? fun q => decide (q.1 = n ∧ q.2.1 = ks)).map (·.2.2)
theorem kwFind_ok {fi : FI} {n : Nat} {ks : List Str} {perm : List Nat} (h : kwFind fi n ks = some perm) : (n, ks, perm) ∈ fi.kwp := by
  unfold kwFind at h
  simp only [Option.map_eq_some_iff] at h
  obtain ⟨q, hq, rfl⟩ := h
  have h1 := List.find?_some hq
  have h2 := List.mem_of_find?_eq_some hq
  obtain ⟨e1, e2⟩ := of_decide_eq_true h1
  obtain ⟨a, b, d⟩ := q
  simp only at e1 e2
  subst e1 e2
  exact h2

/-! ### the translation -/
def cAll (f : Expr → Option IE) : List Expr → Option (List IE)
  | [] => some []
  | e :: es => if notStar e then match f e, cAll f es with
      | some a, some as => some (a :: as)
      | _, _ => none
    else none
def cKws (f : Expr → Option IE) : List Keyword → Option (List IE)
  | [] => some []
  | ⟨_, e, _⟩ :: es => match f e, cKws f es with
    | some a, some as => some (a :: as)
    | _, _ => none
def cOpt (f : Expr → Option IE) : Option Expr → Option (Option IE)
  | none => some none
  | some e => (f e).map some
mutual
def cTgt (c : Ctx) : Nat → Expr → Option Tgt
  | 0, _ => none
  | n + 1, e => match e with
    | .Name x _ => if locC c x then (ixOf c.N x).map .name else none
    | .Tuple es _ _ => (cTgts c n es).map .tup
    | _ => none
def cTgts (c : Ctx) : Nat → List Expr → Option (List Tgt)
  | _, [] => some []
  | 0, _ :: _ => none
  | n + 1, e :: es => if notStar e then match cTgt c n e, cTgts c n es with
      | some t, some ts => some (t :: ts)
      | _, _ => none
    else none
end
def ownOf (N : List Str) (scope : Scope) : List (Str × Nat) := scope.names.filterMap fun y => match y.2 with
  | .local => (ixOf N y.1).map fun i => (y.1, i)
  | .cell => (ixOf N y.1).map fun i => (y.1, i)
  | _ => none
def blkCtx (c : Ctx) (scope : Scope) : Ctx := { c with sc := relS scope c.sc, top := false }
def cName (c : Ctx) (x : Str) : Option IE :=
  if okN x then
    if visC c.sc x then (ixOf c.N x).map .var
    else if glC c.sc x then match c.glb.lookup x with
      | some w => some (.cst w)
      | none => match tyOf x with
        | some n => if x ∈ c.blt then some (.cst (.ty n)) else none
        | none => none
    else none
  else none
mutual
def cE : Nat → Ctx → Expr → Option IE
  | 0, _, _ => none
  | n + 1, c, e => match e with
    | .Name x _ => cName c x
    | .Constant k _ _ => (cConst k).map .cst
    | .Tuple es _ _ => (cAll (cE n c) es).map .tup
    | .List es _ => (cAll (cE n c) es).map .lst
    | .BinOp a op b _ => match cE n c a, cE n c b with
      | some x, some y => some (.bin op x y)
      | _, _ => none
    | .UnaryOp .USub a _ => (cE n c a).map .neg
    | .UnaryOp .Not a _ => (cE n c a).map .not
    | .Compare a [op] [b] _ => if behindInMarks op b then none else match cE n c a, cE n c b with
      | some x, some y => some (.cmp op x y)
      | _, _ => none
    | .Compare a [op, op'] [b, d] _ => if lastMarks [op, op'] [b, d] then none else match cE n c a, cE n c b, cE n c d with
      | some x, some y, some z => some (.chn op op' x y z)
      | _, _, _ => none
    | .BoolOp op (a :: b :: rest) pos => match cE n c a, cE n c (.BoolOp op (b :: rest) pos) with
      | some x, some y => some (match op with
        | .And => .and x y
        | .Or => .or x y)
      | _, _ => none
    | .BoolOp _ [a] _ => cE n c a
    | .IfExp t a b _ => match cT n c t, cE n c a, cE n c b with
      | some z, some x, some y => some (.ite z x y)
      | _, _, _ => none
    | .Call (.Name f _) args kws _ => if okN f && glC c.sc f then match fnIx c.fns f with
        | some (i, fi) => match kws with
          | [] => (cAll (cE n c) args).map (.call i)
          | kws => match kwNames kws with
            | some ks => match kwFind fi args.length ks, cAll (cE n c) args, cKws (cE n c) kws with
              | some perm, some as, some zs => some (.callk i perm as zs)
              | _, _, _ => none
            | none => none
        | none => match bfOf f with
          | some b => if f ∈ c.blt then match args, kws with
              | _ :: _, [] => (cAll (cE n c) args).map (.blt b)
              | _, _ => none
            else none
          | none => none
      else none
    | .Call (.Attribute o m apos) args [] cpos => match bmOf m with
      | some b => if noCall0 o && apos.endLine == cpos.line && decide (args.length < 30) then match cE n c o, cAll (cE n c) args with
          | some x, some as => some (.meth b x as)
          | _, _ => none
        else none
      | none => none
    | .Subscript a (.Slice lo hi none _) _ => match cE n c a, cOpt (cE n c) lo, cOpt (cE n c) hi with
      | some x, some l, some h => some (.slc x l h)
      | _, _, _ => none
    | .Subscript a i _ => if plainIx i then match cE n c a, cE n c i with
        | some x, some y => some (.sub x y)
        | _, _ => none
      else none
    | .ListComp elt [⟨tg, iter, ifs, async⟩] scope _ => cC n c elt tg iter ifs async scope
    | _ => none
def cT : Nat → Ctx → Expr → Option IT
  | 0, _, _ => none
  | n + 1, c, e => match e with
    | .UnaryOp .Not a _ => (cT n c a).map .not
    | .Compare a [op] [b] _ => if behindInMarks op b then none else match cE n c a, cE n c b with
      | some x, some y => some (.cmp op x y)
      | _, _ => none
    | .Compare a [op, op'] [b, d] _ => if lastMarks [op, op'] [b, d] then none else match cE n c a, cE n c b, cE n c d with
      | some x, some y, some z => some (.chn op op' x y z)
      | _, _, _ => none
    | .BoolOp op (a :: b :: rest) pos => match cT n c a, cT n c (.BoolOp op (b :: rest) pos) with
      | some x, some y => some (match op with
        | .And => .and x y
        | .Or => .or x y)
      | _, _ => none
    | .BoolOp _ [a] _ => cT n c a
    | e => if plainTest e then (cE n c e).map .tru else none
def cI : Nat → Ctx → Expr → Expr → Option IIt
  | 0, _, _, _ => none
  | n + 1, c, tg, e => match e with
    | .Call (.Name f p) [a] [] pos =>
      if f = "range" then if glC c.sc f && decide (f ∈ c.blt) && notStar a then (cE n c a).map .rng else none
      else if f = "enumerate" then if glC c.sc f && decide (f ∈ c.blt) && notStar a && isTuple tg then (cE n c a).map .enum else none
      else (cE n c (.Call (.Name f p) [a] [] pos)).map .val
    | .Call (.Name f p) [a, b] [] pos =>
      if f = "range" then if glC c.sc f && decide (f ∈ c.blt) && notStar a && notStar b then match cE n c a, cE n c b with
          | some x, some y => some (.rng2 x y)
          | _, _ => none
        else none
      else if f = "zip" then if glC c.sc f && decide (f ∈ c.blt) && notStar a && notStar b && isTuple tg then match cE n c a, cE n c b with
          | some x, some y => some (.zip x y)
          | _, _ => none
        else none
      else (cE n c (.Call (.Name f p) [a, b] [] pos)).map .val
    | e => (cE n c e).map .val
def cC : Nat → Ctx → Expr → Expr → Expr → List Expr → Int → Scope → Option IE
  | 0, _, _, _, _, _, _, _ => none
  | n + 1, c, elt, tg, iter, ifs, async, scope =>
    if async = 0 then
      if noSet iter && blkC c.N c.sc scope (ownOf c.N scope) && fnKind (relS scope c.sc).kind then
        match cI n c tg iter, cTgt (blkCtx c scope) n tg, cE n (blkCtx c scope) elt with
        | some it, some t, some x => if (tNames t).all (fun j => decide (j ∈ (ownOf c.N scope).map (·.2))) then match ifs with
            | [] => some (.comp x t it none ((ownOf c.N scope).map (·.2)))
            | [q] => (cT n (blkCtx c scope) q).map fun z => .comp x t it (some z) ((ownOf c.N scope).map (·.2))
            | _ => none
          else none
        | _, _, _ => none
      else none
    else none
end
end Itp

set_option Elab.async false
set_option linter.all false
set_option autoImplicit false
set_option maxRecDepth 100000
set_option maxHeartbeats 8000000
/-! Itp, part Y: the translation of expressions is sound. -/
namespace Itp
open PySem PySem.Spec PyProof.Rows L2
section
variable {X : Cx} {ca : Nat → Addr} {F : FEnv} {Wx : WX} {c : Ctx}
theorem cAll_ok {f : Expr → Option IE} (hf : ∀ e a, f e = some a → PEf X ca Wx e (ev F a)) : ∀ {es : List Expr} {as : List IE}, cAll f es = some as → PAf X ca Wx es (evs F as) ∧ es.all notStar = true ∧ as.length = es.length
  | [], as, h => by
    cases h
    exact ⟨sa_nil, rfl, rfl⟩
  | e :: es, as, h => by
    unfold cAll at h
    split at h
    · rename_i hs
      split at h
      · rename_i a as' e1 e2
        cases h
        obtain ⟨h1, h2, h3⟩ := cAll_ok hf e2
        refine ⟨sa_cons (hf _ _ e1) h1 hs, ?_, ?_⟩
        · rw [List.all_cons, hs, h2]; rfl
        · show _ + 1 = _ + 1
          rw [h3]
      · cases h
    · cases h
theorem cKws_ok {f : Expr → Option IE} (hf : ∀ e a, f e = some a → PEf X ca Wx e (ev F a)) : ∀ {es : List Keyword} {as : List IE}, cKws f es = some as → PKf X ca Wx es (evs F as) ∧ as.length = es.length
  | [], as, h => by
    cases h
    exact ⟨sk_nil, rfl⟩
  | ⟨_, e, _⟩ :: es, as, h => by
    unfold cKws at h
    split at h
    · rename_i a as' e1 e2
      cases h
      obtain ⟨h1, h3⟩ := cKws_ok hf e2
      refine ⟨sk_cons (hf _ _ e1) h1, ?_⟩
      show _ + 1 = _ + 1
      rw [h3]
    · cases h
theorem cOpt_ok {f : Expr → Option IE} (hf : ∀ e a, f e = some a → PEf X ca Wx e (ev F a)) {o : Option Expr} {i : Option IE} (h : cOpt f o = some i) : POf X ca Wx o (evO F i) := by
  cases o with
  | none => cases h; exact so_none
  | some e =>
    simp only [cOpt, Option.map_eq_some_iff] at h
    obtain ⟨a, ha, rfl⟩ := h
    exact so_some (hf _ _ ha)
theorem kwNames_len : ∀ {kws : List Keyword} {ks : List Str}, kwNames kws = some ks → ks.length = kws.length
  | [], _, h => by cases h; rfl
  | ⟨some n, e, p⟩ :: r, ks, h => by
    simp only [kwNames, Option.map_eq_some_iff] at h
    obtain ⟨ks', h, rfl⟩ := h
    show _ + 1 = _ + 1
    rw [kwNames_len h]
  | ⟨none, _, _⟩ :: _, _, h => by cases h
theorem cName_ok (G : Good c ca F Wx X) {x : Str} {pos : Pos} {ie : IE} (h : cName c x = some ie) : PEf X ca Wx (.Name x pos) (ev F ie) := by
  unfold cName at h
  split at h
  · rename_i hok
    split at h
    · rename_i hv
      simp only [Option.map_eq_some_iff] at h
      obtain ⟨i, hi, rfl⟩ := h
      refine se_var (by rw [G.N]; exact ixOf_ok hi) (by rw [G.sc]; exact visC_ok hv) (okN_1 hok) (okN_2 hok)
    · split at h
      · rename_i hg
        have gl := glC_ok G.sc hg
        split at h
        · rename_i w hw
          cases h
          obtain ⟨u, v, hm, rv, rp⟩ := G.glb x w (PySem.mem_of_lookup hw)
          exact se_cst (pe_glob gl hm rv (okN_1 hok)) rp
        · split at h
          · rename_i n hn
            split at h
            · rename_i hb
              cases h
              exact se_cst (v := .ty n) (pe_bltn gl (G.blt x hb) (tyOf_ok hn) rfl (okN_3 hok) (okN_1 hok)) fun _ _ => rfl
            · cases h
          · cases h
      · cases h
  · cases h
theorem cConst_ok {k : Const} {j : Nat} {pos : Pos} {w : W} (h : cConst k = some w) : PEf X ca Wx (.Constant k j pos) (ev F (.cst w)) := by
  cases k with
  | none => cases h; exact se_cst pe_non fun _ _ => rfl
  | bool b => cases h; exact se_cst pe_bl fun _ _ => rfl
  | int i => cases h; exact se_cst pe_int fun _ _ => rfl
  | str s => cases h; exact se_cst pe_str fun _ _ => rfl
  | float _ => cases h
  | complex _ _ => cases h
  | bytes _ => cases h
  | ellipsis => cases h
mutual
theorem cTgt_ok (G : Good c ca F Wx X) : ∀ (n : Nat) (e : Expr) (t : Tgt), cTgt c n e = some t → PG X e (gT X.K t)
  | 0, e, t, h => by unfold cTgt at h; cases h
  | n + 1, e, t, h => by
    unfold cTgt at h
    split at h
    · rename_i x p
      split at h
      · rename_i hl
        simp only [Option.map_eq_some_iff] at h
        obtain ⟨i, hi, rfl⟩ := h
        obtain ⟨h1, h2⟩ := locC_ok hl
        unfold gT
        refine pg_name (by rw [G.N]; exact G.nd) (by rw [G.N]; exact ixOf_ok hi) (by rw [G.sc]; exact h1) ?_
        rcases h2 with h2 | h2
        · exact .inl (G.fn h2 x)
        · exact .inr (by rw [G.sc]; exact h2)
      · cases h
    · rename_i es k p
      simp only [Option.map_eq_some_iff] at h
      obtain ⟨ts, hts, rfl⟩ := h
      obtain ⟨h1, h2, h3⟩ := cTgts_ok G n es ts hts
      unfold gT
      refine pg_tup G.calm h1 ?_ (each_none h2)
      rw [each_len, h3]
    · cases h
theorem cTgts_ok (G : Good c ca F Wx X) : ∀ (n : Nat) (es : List Expr) (ts : List Tgt), cTgts c n es = some ts → PGs X es (gTs X.K ts) ∧ es.all notStar = true ∧ es.length = ts.length
  | 0, [], ts, h => by
    unfold cTgts at h
    cases h
    unfold gTs
    exact ⟨pgs_nil, rfl, rfl⟩
  | n + 1, [], ts, h => by
    unfold cTgts at h
    cases h
    unfold gTs
    exact ⟨pgs_nil, rfl, rfl⟩
  | 0, _ :: _, ts, h => by unfold cTgts at h; cases h
  | n + 1, e :: es, ts, h => by
    unfold cTgts at h
    split at h
    · rename_i hs
      split at h
      · rename_i t ts' e1 e2
        cases h
        obtain ⟨h1, h2, h3⟩ := cTgts_ok G n es ts' e2
        unfold gTs
        refine ⟨pgs_cons (cTgt_ok G n e t e1) h1 (asg_each hs), ?_, ?_⟩
        · rw [List.all_cons, hs, h2]; rfl
        · show _ + 1 = _ + 1
          rw [h3]
      · cases h
    · cases h
end
/-- within a comprehension -/
theorem Good.blk (G : Good c ca F Wx X) {scope : Scope} (hk : (relS scope c.sc).kind = .function) (s : Shared) (H : Hp) (C : Addr) (cl : List (Str × Addr)) (fp : List Addr) : Good (blkCtx c scope) ca F W0 (X.blk s H scope (compEnvC scope cl C X.env) fp) where
  N := G.N
  nd := G.nd
  sc := by
    show relabel scope X.env = relS scope c.sc
    rw [← G.sc]
    rfl
  kind := hk
  calm := G.calm
  hu := G.hu
  gd := G.gd
  tk := takes0
  po := PassesOwn.never
  fn := fun h => nomatch h
  fok := fun i fi h => ⟨(G.fok i fi h).ar, (G.fok i fi h).ex⟩
  glb := G.glb
  blt := G.blt
end

/-- what the translation promises at a depth -/
structure Sound (n : Nat) : Prop where
  e : ∀ {c : Ctx} {x : Expr} {ie : IE}, cE n c x = some ie → ∀ {X : Cx} {ca : Nat → Addr} {F : FEnv} {Wx : WX}, Good c ca F Wx X → PEf X ca Wx x (ev F ie)
  t : ∀ {c : Ctx} {x : Expr} {it : IT}, cT n c x = some it → ∀ {X : Cx} {ca : Nat → Addr} {F : FEnv} {Wx : WX}, Good c ca F Wx X → PTf X ca Wx x (tst F it) ∧ ∀ op vs pos, x = .BoolOp op vs pos → PWf X ca Wx x (tst F it)
  i : ∀ {c : Ctx} {tg x : Expr} {ii : IIt}, cI n c tg x = some ii → ∀ {X : Cx} {ca : Nat → Addr} {F : FEnv} {Wx : WX}, Good c ca F Wx X → PIf X ca Wx tg x (evIt F ii)
  c : ∀ {c : Ctx} {elt tg iter : Expr} {ifs : List Expr} {async : Int} {scope : Scope} {ie : IE}, cC n c elt tg iter ifs async scope = some ie → ∀ {X : Cx} {ca : Nat → Addr} {F : FEnv} {Wx : WX}, Good c ca F Wx X →
    async = 0 ∧ (∀ x, foldedSetIterable iter X.env x = pure x) ∧ ∃ (a : IE) (t : Tgt) (it : IIt) (cond : Option IT), ie = .comp a t it cond ((ownOf c.N scope).map (·.2)) ∧ PIf X ca Wx tg iter (evIt F it) ∧ BlkOk X.N X.env.scope scope (ownOf c.N scope) ∧
      (∀ (s : Shared) (H : Hp) (C : Addr) (cl : List (Str × Addr)) (fp : List Addr), PG (X.blk s H scope (compEnvC scope cl C X.env) fp) tg (gT X.K t)) ∧
      (∀ (s : Shared) (H : Hp) (C : Addr) (cl : List (Str × Addr)) (fp : List Addr), PTs (X.blk s H scope (compEnvC scope cl C X.env) fp) ifs (rdT ⟨X.K, ca⟩ W0 (tstO F cond))) ∧
      (∀ (s : Shared) (H : Hp) (C : Addr) (cl : List (Str × Addr)) (fp : List Addr), PE (X.blk s H scope (compEnvC scope cl C X.env) fp) elt (rdE ⟨X.K, ca⟩ W0 (ev F a))) ∧
      ∀ j ∈ tNames t, j ∈ (ownOf c.N scope).map (·.2)
theorem PTsimp {X : Cx} {ifs : List Expr} {t t' : TT} (h : PTs X ifs t) (k : ∀ σ H Q, t' σ H Q → t σ H Q) : PTs X ifs t' := ⟨fun pins s σ H Q I q => h.run pins s σ H Q I (k _ _ _ q)⟩
theorem sound_c {n : Nat} (S : Sound n) {c : Ctx} {elt tg iter : Expr} {ifs : List Expr} {async : Int} {scope : Scope} {ie : IE} (h : cC (n + 1) c elt tg iter ifs async scope = some ie) {X : Cx} {ca : Nat → Addr} {F : FEnv} {Wx : WX} (G : Good c ca F Wx X) :
    async = 0 ∧ (∀ x, foldedSetIterable iter X.env x = pure x) ∧ ∃ (a : IE) (t : Tgt) (it : IIt) (cond : Option IT), ie = .comp a t it cond ((ownOf c.N scope).map (·.2)) ∧ PIf X ca Wx tg iter (evIt F it) ∧ BlkOk X.N X.env.scope scope (ownOf c.N scope) ∧
      (∀ (s : Shared) (H : Hp) (C : Addr) (cl : List (Str × Addr)) (fp : List Addr), PG (X.blk s H scope (compEnvC scope cl C X.env) fp) tg (gT X.K t)) ∧
      (∀ (s : Shared) (H : Hp) (C : Addr) (cl : List (Str × Addr)) (fp : List Addr), PTs (X.blk s H scope (compEnvC scope cl C X.env) fp) ifs (rdT ⟨X.K, ca⟩ W0 (tstO F cond))) ∧
      (∀ (s : Shared) (H : Hp) (C : Addr) (cl : List (Str × Addr)) (fp : List Addr), PE (X.blk s H scope (compEnvC scope cl C X.env) fp) elt (rdE ⟨X.K, ca⟩ W0 (ev F a))) ∧
      ∀ j ∈ tNames t, j ∈ (ownOf c.N scope).map (·.2) := by
  unfold cC at h
  split at h
  · rename_i ha
    split at h
    · rename_i hb
      simp only [Bool.and_eq_true] at hb
      obtain ⟨⟨hb1, hb2⟩, hb3⟩ := hb
      have hk : (relS scope c.sc).kind = .function := fnKind_ok hb3
      have hblk : BlkOk X.N X.env.scope scope (ownOf c.N scope) := by
        rw [G.N, G.sc]
        exact blkOk_by hb2
      split at h
      · rename_i it t x e1 e2 e3
        split at h
        · rename_i hown
          have hown' : ∀ j ∈ tNames t, j ∈ (ownOf c.N scope).map (·.2) := fun j hj => of_decide_eq_true (List.all_eq_true.mp hown j hj)
          have pg : ∀ (s : Shared) (H : Hp) (C : Addr) (cl : List (Str × Addr)) (fp : List Addr), PG (X.blk s H scope (compEnvC scope cl C X.env) fp) tg (gT X.K t) := fun s H C cl fp => cTgt_ok (G.blk hk s H C cl fp) n tg t e2
          have pe : ∀ (s : Shared) (H : Hp) (C : Addr) (cl : List (Str × Addr)) (fp : List Addr), PE (X.blk s H scope (compEnvC scope cl C X.env) fp) elt (rdE ⟨X.K, ca⟩ W0 (ev F x)) := fun s H C cl fp => S.e e3 (G.blk hk s H C cl fp)
          split at h
          · cases h
            refine ⟨ha, fold_ok hb1, x, t, it, none, rfl, S.i e1 G, hblk, pg, fun s H C cl fp => ?_, pe, hown'⟩
            refine PTsimp pts_nil fun σ H Q h => ?_
            obtain ⟨ι, ρ, hp, sm, r, o⟩ := h
            simp only [tstO] at o
            exact o _ _ _ (Ext.refl _ _) sm rfl
          · simp only [Option.map_eq_some_iff] at h
            obtain ⟨z, hz, rfl⟩ := h
            refine ⟨ha, fold_ok hb1, x, t, it, some z, rfl, S.i e1 G, hblk, pg, fun s H C cl fp => ?_, pe, hown'⟩
            exact PTsimp (pts_one (S.t hz (G.blk hk s H C cl fp)).1) fun σ H Q h => h
          · cases h
        · cases h
      · cases h
    · cases h
  · cases h
theorem sound_e {n : Nat} (S : Sound n) {c : Ctx} {x : Expr} {ie : IE} (h : cE (n + 1) c x = some ie) {X : Cx} {ca : Nat → Addr} {F : FEnv} {Wx : WX} (G : Good c ca F Wx X) : PEf X ca Wx x (ev F ie) := by
  have SE : ∀ e a, cE n c e = some a → PEf X ca Wx e (ev F a) := fun e a h => S.e h G
  unfold cE at h
  split at h
  · exact cName_ok G h
  · simp only [Option.map_eq_some_iff] at h
    obtain ⟨w, hw, rfl⟩ := h
    exact cConst_ok hw
  · simp only [Option.map_eq_some_iff] at h
    obtain ⟨as, ha, rfl⟩ := h
    exact se_tup (cAll_ok SE ha).1
  · simp only [Option.map_eq_some_iff] at h
    obtain ⟨as, ha, rfl⟩ := h
    exact se_lst (cAll_ok SE ha).1
  · split at h
    · rename_i e1 e2
      cases h
      exact se_bin (SE _ _ e1) (SE _ _ e2)
    · cases h
  · simp only [Option.map_eq_some_iff] at h
    obtain ⟨a, ha, rfl⟩ := h
    exact se_neg (SE _ _ ha)
  · simp only [Option.map_eq_some_iff] at h
    obtain ⟨a, ha, rfl⟩ := h
    exact se_not (SE _ _ ha)
  · split at h
    · cases h
    · rename_i hm
      split at h
      · rename_i e1 e2
        cases h
        exact se_cmp G.hu (SE _ _ e1) (SE _ _ e2) (by simpa using hm)
      · cases h
  · split at h
    · cases h
    · rename_i hm
      split at h
      · rename_i e1 e2 e3
        cases h
        exact se_chn G.hu (SE _ _ e1) (SE _ _ e2) (SE _ _ e3) (by simpa using hm)
      · cases h
  · rename_i op a b rest pos
    split at h
    · rename_i e1 e2
      cases h
      cases op with
      | And => exact se_and (SE _ _ e1) (SE _ _ e2)
      | Or => exact se_or (SE _ _ e1) (SE _ _ e2)
    · cases h
  · exact pe_one (SE _ _ h)
  · split at h
    · rename_i e1 e2 e3
      cases h
      exact se_ite (S.t e1 G).1 (SE _ _ e2) (SE _ _ e3)
    · cases h
  · -- a call of a name
    rename_i f p args kws pos
    split at h
    · rename_i hok
      simp only [Bool.and_eq_true] at hok
      have gl := glC_ok G.sc hok.2
      split at h
      · rename_i i fi hfi
        obtain ⟨hi, hname⟩ := fnIx_ok hfi
        subst hname
        have fok := G.fok i fi hi
        split at h
        · simp only [Option.map_eq_some_iff] at h
          obtain ⟨as, ha, rfl⟩ := h
          obtain ⟨h1, h2, h3⟩ := cAll_ok SE ha
          cases args with
          | nil =>
            have e0 : as = [] := List.length_eq_zero_iff.mp h3
            subst e0
            exact se_call0 fok G.tk gl (okN_1 hok.1)
          | cons e es => exact se_call fok G.tk gl h1 h2 (okN_1 hok.1)
        · split at h
          · rename_i ks hks
            split at h
            · rename_i perm as zs e1 e2 e3
              cases h
              obtain ⟨h1, h2, h3⟩ := cAll_ok SE e2
              obtain ⟨k1, k2⟩ := cKws_ok SE e3
              have hq := kwFind_ok e1
              have l2 : zs.length = ks.length := by rw [k2, kwNames_len hks]
              cases args with
              | nil =>
                have e0 : as = [] := List.length_eq_zero_iff.mp h3
                subst e0
                exact se_callk0 fok G.tk gl k1 (okN_1 hok.1) hks hq l2
              | cons e es => exact se_callk fok G.tk gl h1 k1 h2 (okN_1 hok.1) hks hq h3 l2
            · cases h
          · cases h
      · split at h
        · rename_i b hb
          split at h
          · rename_i hbl
            split at h
            · rename_i e es
              simp only [Option.map_eq_some_iff] at h
              obtain ⟨as, ha, rfl⟩ := h
              obtain ⟨h1, h2, h3⟩ := cAll_ok SE ha
              have hv := bfOf_ok hb
              rcases bfVal_ok b with ⟨id, hid⟩ | ⟨id, hid⟩
              · exact se_bltB hid G.calm G.gd G.hu gl (G.blt f hbl) (by rw [hv, hid]) h1 h2 (okN_3 hok.1) (okN_1 hok.1)
              · exact se_bltT hid G.calm G.gd G.hu gl (G.blt f hbl) (by rw [hv, hid]) h1 h2 (okN_3 hok.1) (okN_1 hok.1)
            · cases h
          · cases h
        · cases h
    · cases h
  · -- a method
    rename_i o m apos args cpos
    split at h
    · rename_i b hb
      have hname := bmOf_ok hb
      subst hname
      split at h
      · rename_i hc
        simp only [Bool.and_eq_true] at hc
        obtain ⟨⟨c1, c2⟩, c3⟩ := hc
        split at h
        · rename_i x as e1 e2
          cases h
          obtain ⟨h1, h2, h3⟩ := cAll_ok SE e2
          cases args with
          | nil =>
            have e0 : as = [] := List.length_eq_zero_iff.mp h3
            subst e0
            exact se_meth0 (SE _ _ e1) (base_ok c1) c2
          | cons e es => exact se_meth (SE _ _ e1) h1 h2 (of_decide_eq_true c3) (base_ok c1) c2
        · cases h
      · cases h
    · cases h
  · split at h
    · rename_i e1 e2 e3
      cases h
      exact se_slc (SE _ _ e1) (cOpt_ok SE e2) (cOpt_ok SE e3)
    · cases h
  · split at h
    · rename_i hp
      split at h
      · rename_i e1 e2
        cases h
        exact se_sub (SE _ _ e1) (SE _ _ e2) (plainIx_ok hp)
      · cases h
    · cases h
  · rename_i elt tg iter ifs async scope pos
    obtain ⟨rfl, hf, a, t, it, cond, rfl, pi, bo, pg, pt, pe, ho⟩ := S.c h G
    exact se_comp G.calm (by rw [G.N]; exact G.nd) pi bo pg pt pe hf ho
  · cases h
theorem sound_t {n : Nat} (S : Sound n) {c : Ctx} {x : Expr} {it : IT} (h : cT (n + 1) c x = some it) {X : Cx} {ca : Nat → Addr} {F : FEnv} {Wx : WX} (G : Good c ca F Wx X) :
    PTf X ca Wx x (tst F it) ∧ ∀ op vs pos, x = .BoolOp op vs pos → PWf X ca Wx x (tst F it) := by
  have SE : ∀ e a, cE n c e = some a → PEf X ca Wx e (ev F a) := fun e a h => S.e h G
  unfold cT at h
  split at h
  · simp only [Option.map_eq_some_iff] at h
    obtain ⟨a, ha, rfl⟩ := h
    exact ⟨st_not (S.t ha G).1, fun _ _ _ z => nomatch z⟩
  · split at h
    · cases h
    · rename_i hm
      split at h
      · rename_i e1 e2
        cases h
        exact ⟨st_cmp G.hu (SE _ _ e1) (SE _ _ e2) (by simpa using hm), fun _ _ _ z => nomatch z⟩
      · cases h
  · split at h
    · cases h
    · rename_i hm
      split at h
      · rename_i e1 e2 e3
        cases h
        exact ⟨st_chn G.hu (SE _ _ e1) (SE _ _ e2) (SE _ _ e3) (by simpa using hm), fun _ _ _ z => nomatch z⟩
      · cases h
  · rename_i op a b rest pos
    split at h
    · rename_i e1 e2
      cases h
      have ha := (S.t e1 G).1
      have hb := (S.t e2 G).2 _ _ _ rfl
      cases op with
      | And => exact ⟨(sw_and ha hb).pt, fun _ _ _ _ => sw_and ha hb⟩
      | Or => exact ⟨(sw_or ha hb).pt, fun _ _ _ _ => sw_or ha hb⟩
    · cases h
  · rename_i op a pos
    have ha := (S.t h G).1
    cases op with
    | And => exact ⟨(sw_and1 ha).pt, fun _ _ _ _ => sw_and1 ha⟩
    | Or => exact ⟨(sw_or1 ha).pt, fun _ _ _ _ => sw_or1 ha⟩
  · split at h
    · rename_i hp
      simp only [Option.map_eq_some_iff] at h
      obtain ⟨a, ha, rfl⟩ := h
      refine ⟨st_tru (SE _ _ ha) (test_ok hp), fun op vs pos e => ?_⟩
      subst e
      cases hp
    · cases h
theorem sound_i {n : Nat} (S : Sound n) {c : Ctx} {tg x : Expr} {ii : IIt} (h : cI (n + 1) c tg x = some ii) {X : Cx} {ca : Nat → Addr} {F : FEnv} {Wx : WX} (G : Good c ca F Wx X) : PIf X ca Wx tg x (evIt F ii) := by
  have SE : ∀ e a, cE n c e = some a → PEf X ca Wx e (ev F a) := fun e a h => S.e h G
  unfold cI at h
  split at h
  · rename_i f p a pos
    split at h
    · rename_i hf
      subst hf
      split at h
      · rename_i hc
        simp only [Bool.and_eq_true] at hc
        obtain ⟨⟨c1, c2⟩, c3⟩ := hc
        simp only [Option.map_eq_some_iff] at h
        obtain ⟨ia, ha, rfl⟩ := h
        exact si_rng (SE _ _ ha) c3 (glC_ok G.sc c1) (G.blt _ (of_decide_eq_true c2))
      · cases h
    · split at h
      · rename_i hf
        subst hf
        split at h
        · rename_i hc
          simp only [Bool.and_eq_true] at hc
          obtain ⟨⟨⟨c1, c2⟩, c3⟩, c4⟩ := hc
          simp only [Option.map_eq_some_iff] at h
          obtain ⟨ia, ha, rfl⟩ := h
          obtain ⟨es, k, p', rfl⟩ := isTuple_ok c4
          exact si_enum (SE _ _ ha) c3 (glC_ok G.sc c1) (G.blt _ (of_decide_eq_true c2))
        · cases h
      · simp only [Option.map_eq_some_iff] at h
        obtain ⟨ia, ha, rfl⟩ := h
        exact si_val (SE _ _ ha)
  · rename_i f p a b pos
    split at h
    · rename_i hf
      subst hf
      split at h
      · rename_i hc
        simp only [Bool.and_eq_true] at hc
        obtain ⟨⟨⟨c1, c2⟩, c3⟩, c4⟩ := hc
        split at h
        · rename_i e1 e2
          cases h
          exact si_rng2 (SE _ _ e1) (SE _ _ e2) c3 c4 (glC_ok G.sc c1) (G.blt _ (of_decide_eq_true c2))
        · cases h
      · cases h
    · split at h
      · rename_i hf
        subst hf
        split at h
        · rename_i hc
          simp only [Bool.and_eq_true] at hc
          obtain ⟨⟨⟨⟨c1, c2⟩, c3⟩, c4⟩, c5⟩ := hc
          obtain ⟨es, k, p', rfl⟩ := isTuple_ok c5
          split at h
          · rename_i e1 e2
            cases h
            exact si_zip (SE _ _ e1) (SE _ _ e2) c3 c4 (glC_ok G.sc c1) (G.blt _ (of_decide_eq_true c2))
          · cases h
        · cases h
      · simp only [Option.map_eq_some_iff] at h
        obtain ⟨ia, ha, rfl⟩ := h
        exact si_val (SE _ _ ha)
  · simp only [Option.map_eq_some_iff] at h
    obtain ⟨ia, ha, rfl⟩ := h
    exact si_val (SE _ _ ha)
theorem sound (n : Nat) : Sound n := by
  induction n with
  | zero => exact { e := fun h => (by unfold cE at h; cases h), t := fun h => (by unfold cT at h; cases h), i := fun h => (by unfold cI at h; cases h), c := fun h => (by unfold cC at h; cases h) }
  | succ n ih => exact { e := fun h => sound_e ih h, t := fun h => sound_t ih h, i := fun h => sound_i ih h, c := fun h => sound_c ih h }
end Itp

set_option Elab.async false
set_option linter.all false
set_option autoImplicit false
set_option maxRecDepth 100000
set_option maxHeartbeats 8000000
/-! Itp, part Z: the translation of statements, and that it is sound. -/
namespace Itp
open PySem PySem.Spec PyProof.Rows L2
/-- what the stores of a tuple of names are exchanged to -/
def swC (sc : Scope) (ts vs : List Expr) : Option (Option (List Str)) :=
  if !(ts.length == 2 || ts.length == 3) || vs.length != ts.length then some none
  else if vs.any (fun | .Starred .. => true | _ => false) then some none
  else
    let line := (ts.head?.map (·.pos.line)).getD 0
    let names := ts.filterMap fun
      | .Name id pos => if sc.names.lookup id == some .local && pos.line == line then some id else none
      | _ => none
    if names.length != ts.length || names.eraseDups.length != names.length then some none
    else if vs.all (foldedForSure 8) then some none
    else if vs.all (constantsAlone 8) then none
    else some (some names)
theorem swC_ok {sc : Scope} {env : Env} {ts vs : List Expr} {k k2 : Nat} {p p2 : Pos} {r : Option (List Str)} (hs : env.scope = sc) (hk : sc.kind = .function) (h : swC sc ts vs = some r) :
    swappedStores [.Tuple ts k p] (.Tuple vs k2 p2) env = pure r := by
  subst hs
  have hb : env.blockKind = .function := by unfold Env.blockKind; rw [hk]; rfl
  have hbb : (env.blockKind != .function) = false := by rw [hb]; rfl
  unfold swC at h
  unfold swappedStores
  simp only [hbb, Bool.or_false]
  have key : ∀ (b1 b2 b3 b4 b5 : Bool) (ns : List Str) (z : Sem (Option (List Str))), (if b1 = true then some none else if b2 = true then some none else if b3 = true then some none else if b4 = true then some none else if b5 = true then none else some (some ns)) = some r →
      (if b1 = true then pure none else if b2 = true then pure none else if b3 = true then pure none else if b4 = true then pure none else if b5 = true then z else pure (some ns)) = (pure r : Sem (Option (List Str))) := by
    intro b1 b2 b3 b4 b5 ns z h
    cases b1 <;> cases b2 <;> cases b3 <;> cases b4 <;> cases b5 <;> simp_all
  exact key _ _ _ _ _ _ _ h
theorem sw_noTup {tg e : Expr} {env : Env} (h : isTuple e = false) : swappedStores [tg] e env = pure none := by
  cases e <;> first | (cases tg <;> rfl) | cases h
theorem sw_noTgt {tg e : Expr} {env : Env} (h : ∀ ts k p, tg ≠ .Tuple ts k p) (h2 : ∀ ts p, tg ≠ .List ts p) : swappedStores [tg] e env = pure none := by
  cases tg <;> first | exact absurd rfl (h _ _ _) | exact absurd rfl (h2 _ _) | rfl

mutual
def cSt (c : Ctx) : Nat → Expr → Option STgt
  | 0, _ => none
  | n + 1, e => match e with
    | .Name x _ => if locC c x then (ixOf c.N x).map .name else none
    | .Subscript o i _ => if plainIx i then match cE n c o, cE n c i with
        | some x, some y => some (.sub x y)
        | _, _ => none
      else none
    | .Tuple es _ _ => (cSts c n es).map .tup
    | _ => none
def cSts (c : Ctx) : Nat → List Expr → Option (List STgt)
  | _, [] => some []
  | 0, _ :: _ => none
  | n + 1, e :: es => if notStar e then match cSt c n e, cSts c n es with
      | some t, some ts => some (t :: ts)
      | _, _ => none
    else none
end
/-- whether a comprehension stores into the name itself -/
def lcSw (c : Ctx) (x : Str) (p : Pos) (scope : Scope) (lpos : Pos) : Bool := c.sc.names.lookup x == some .local && p.line == lpos.line && !(scope.names.any fun (n, k) => n == x && (k == .local || k == .cell))
def isList : Expr → Bool
  | .List _ _ => true
  | _ => false
def parC (c : Ctx) : List Expr → Option (List Nat)
  | [.Name x _, .Name y _] => match ixOf c.N x, ixOf c.N y with
    | some i, some j => if decide (i ≠ j) && c.sc.names.lookup x == some .local && c.sc.names.lookup y == some .local then some [i, j] else none
    | _, _ => none
  | [.Name x _, .Name y _, .Name z _] => match ixOf c.N x, ixOf c.N y, ixOf c.N z with
    | some i, some j, some l => if decide (i ≠ j ∧ i ≠ l ∧ j ≠ l) && c.sc.names.lookup x == some .local && c.sc.names.lookup y == some .local && c.sc.names.lookup z == some .local then some [i, j, l] else none
    | _, _, _ => none
  | _ => none
mutual
def cS : Nat → Ctx → Stmt → IStm
  | 0, _, _ => .nev
  | n + 1, c, s => match s with
    | .Expr e _ => if noComp e then match cE n c e with
        | some x => .expr x
        | none => .nev
      else .nev
    | .Return none _ => .retN
    | .Return (some e) _ => match cE n c e with
      | some x => .ret x
      | none => .nev
    | .Pass _ => .pass
    | .Break _ => .brk
    | .Continue _ => .cont
    | .Assign [.Name x p] e pos => if locC c x then match ixOf c.N x, cE (n + 1) c e with
        | some i, some a => if noComp e then .asg (.name i) a else match e with
          | .ListComp elt [⟨tg, iter, ifs, async⟩] scope lpos => if lcSw c x p scope lpos then match cC n c elt tg iter ifs async scope with
              | some b => .asg (.name i) b
              | none => .nev
            else .asg (.name i) a
          | _ => .nev
        | _, _ => .nev
      else .nev
    | .Assign [.Tuple ts k p] e pos => match e with
        | .Tuple vs k2 p2 => match swC c.sc ts vs with
          | some none => match cSt c n (.Tuple ts k p), cE n c (.Tuple vs k2 p2) with
            | some t, some a => .asg t a
            | _, _ => .nev
          | some (some names) => match parC c ts, cAll (cE n c) vs with
            | some is, some as => if decide (names = ts.filterMap fun | .Name id _ => some id | _ => none) && decide (as.length = is.length) then .asg (.tup (is.map .name)) (.tup as) else .nev
            | _, _ => .nev
          | none => .nev
        | e => match cSt c n (.Tuple ts k p), cE n c e with
          | some t, some a => .asg t a
          | _, _ => .nev
    | .Assign [.Subscript o i p] e pos => match cSt c n (.Subscript o i p), cE n c e with
        | some t, some a => .asg t a
        | _, _ => .nev
    | .AugAssign (.Name x p) op e pos => if locC c x then match ixOf c.N x, cE n c e with
        | some i, some a => .augN i op a
        | _, _ => .nev
      else .nev
    | .AugAssign (.Subscript o i p) op e pos => if augPlain i then match cE n c o, cE n c i, cE n c e with
        | some x, some y, some z => .augS x y op z
        | _, _, _ => .nev
      else .nev
    | .If t a b _ => match cT n c t with
      | some x => .ite x (cSs n c a) (cSs n c b)
      | none => .nev
    | .For tg iter body [] _ => if noSet iter then match cI n c tg iter, cTgt c n tg with
        | some it, some t => .forS t it (cSs n c body)
        | _, _ => .nev
      else .nev
    | .While t body [] _ => match cT n c t with
      | some x => .whl x (cSs n c body)
      | none => .nev
    | _ => .nev
def cSs : Nat → Ctx → List Stmt → List IStm
  | _, _, [] => []
  | 0, _, _ :: _ => [.nev]
  | n + 1, c, s :: ss => cS n c s :: cSs n c ss
end
section
variable {X : Cx} {ca : Nat → Addr} {F : FEnv} {gas : Nat} {Wx : WX} {c : Ctx}
mutual
theorem cSt_ok (G : Good c ca F Wx X) : ∀ (n : Nat) (e : Expr) (t : STgt), cSt c n e = some t → PGf X ca Wx e (sto F t)
  | 0, e, t, h => by unfold cSt at h; cases h
  | n + 1, e, t, h => by
    unfold cSt at h
    split at h
    · split at h
      · rename_i hl
        simp only [Option.map_eq_some_iff] at h
        obtain ⟨i, hi, rfl⟩ := h
        obtain ⟨l1, l2⟩ := locC_ok hl
        refine sg_name (by rw [G.N]; exact G.nd) (by rw [G.N]; exact ixOf_ok hi) (by rw [G.sc]; exact l1) ?_
        rcases l2 with q | q
        · exact .inl (G.fn q _)
        · exact .inr (by rw [G.sc]; exact q)
      · cases h
    · split at h
      · rename_i hp
        split at h
        · rename_i e1 e2
          cases h
          exact sg_sub ((sound n).e e1 G) ((sound n).e e2 G) (sub_ok hp)
        · cases h
      · cases h
    · rename_i es k p
      simp only [Option.map_eq_some_iff] at h
      obtain ⟨ts, ht, rfl⟩ := h
      obtain ⟨h1, h2, h3⟩ := cSts_ok G n es ts ht
      exact sg_tup G.calm h1 h3.symm h2
    · cases h
theorem cSts_ok (G : Good c ca F Wx X) : ∀ (n : Nat) (es : List Expr) (ts : List STgt), cSts c n es = some ts → PGsf X ca Wx es (stos F ts) ∧ es.all notStar = true ∧ ts.length = es.length
  | n, [], ts, h => by
    unfold cSts at h
    cases h
    exact ⟨sgs_nil, rfl, rfl⟩
  | 0, e :: es, ts, h => by unfold cSts at h; cases h
  | n + 1, e :: es, ts, h => by
    unfold cSts at h
    split at h
    · rename_i hs
      split at h
      · rename_i t ts' e1 e2
        cases h
        obtain ⟨h1, h2, h3⟩ := cSts_ok G n es ts' e2
        refine ⟨sgs_cons (cSt_ok G n e t e1) h1 hs, ?_, ?_⟩
        · rw [List.all_cons, hs, h2]; rfl
        · show _ + 1 = _ + 1
          rw [h3]
      · cases h
    · cases h
end
theorem lc_false {elt : Expr} {gs : List Comprehension} {scope : Scope} {lpos py : Pos} {y : Str} {l : Nat} {env : Env} (hs : env.scope = c.sc) (hk : c.sc.kind = .function) (h : lcSw c y py scope lpos = false) : swapsWith (.ListComp elt gs scope lpos) (some (.Name y py)) l env = pure false := by
  have hb : env.blockKind = .function := by unfold Env.blockKind; rw [hs, hk]; rfl
  have ky : env.kindOf y = c.sc.names.lookup y := by rw [← hs]; rfl
  unfold lcSw at h
  unfold swapsWith
  simp only [hb, ky, Expr.pos]
  show pure _ = pure _
  congr 1
theorem lc_true {elt : Expr} {gs : List Comprehension} {scope : Scope} {lpos py : Pos} {y : Str} {l : Nat} {env : Env} (hs : env.scope = c.sc) (hk : c.sc.kind = .function) (h : lcSw c y py scope lpos = true) : swapsWith (.ListComp elt gs scope lpos) (some (.Name y py)) l env = pure true := by
  have hb : env.blockKind = .function := by unfold Env.blockKind; rw [hs, hk]; rfl
  have ky : env.kindOf y = c.sc.names.lookup y := by rw [← hs]; rfl
  unfold lcSw at h
  unfold swapsWith
  simp only [hb, ky, Expr.pos]
  show pure _ = pure _
  congr 1
theorem lcSw_loc {x : Str} {p : Pos} {scope : Scope} {lpos : Pos} (h : lcSw c x p scope lpos = true) : c.sc.names.lookup x = some .local := by
  unfold lcSw at h
  simp only [Bool.and_eq_true, beq_iff_eq] at h
  exact h.1.1
theorem noSwapTup {ts : List Expr} {k : Nat} {p pos : Pos} {e : Expr} {env : Env} : swapsWithSole [.Tuple ts k p] e pos.line env = pure false := by
  show swapsWith e (some (.Tuple ts k p)) pos.line env = pure false
  cases e <;> rfl
theorem noSwapSub {o i : Expr} {p pos : Pos} {e : Expr} {env : Env} : swapsWithSole [.Subscript o i p] e pos.line env = pure false := by
  show swapsWith e (some (.Subscript o i p)) pos.line env = pure false
  cases e <;> rfl
theorem parC_two {ts : List Expr} {is : List Nat} (h : parC c ts = some is) :
    (∃ x px y py i j, ts = [.Name x px, .Name y py] ∧ is = [i, j] ∧ ixOf c.N x = some i ∧ ixOf c.N y = some j ∧ i ≠ j ∧ c.sc.names.lookup x = some .local ∧ c.sc.names.lookup y = some .local) ∨
    (∃ x px y py z pz i j l, ts = [.Name x px, .Name y py, .Name z pz] ∧ is = [i, j, l] ∧ ixOf c.N x = some i ∧ ixOf c.N y = some j ∧ ixOf c.N z = some l ∧ (i ≠ j ∧ i ≠ l ∧ j ≠ l) ∧ c.sc.names.lookup x = some .local ∧ c.sc.names.lookup y = some .local ∧ c.sc.names.lookup z = some .local) := by
  unfold parC at h
  split at h
  · rename_i x px y py
    split at h
    · rename_i i j e1 e2
      split at h
      · rename_i hc
        cases h
        simp only [Bool.and_eq_true, decide_eq_true_eq, beq_iff_eq] at hc
        exact .inl ⟨x, px, y, py, i, j, rfl, rfl, e1, e2, hc.1.1, hc.1.2, hc.2⟩
      · cases h
    · cases h
  · rename_i x px y py z pz
    split at h
    · rename_i i j l e1 e2 e3
      split at h
      · rename_i hc
        cases h
        simp only [Bool.and_eq_true, decide_eq_true_eq, beq_iff_eq] at hc
        exact .inr ⟨x, px, y, py, z, pz, i, j, l, rfl, rfl, e1, e2, e3, hc.1.1.1, hc.1.1.2, hc.1.2, hc.2⟩
      · cases h
    · cases h
  · cases h
theorem ss_dead : ∀ ss : List Stmt, PSsf X ca Wx ss (evSs F gas [.nev])
  | [] => PSsimp (ss_nil (X := X) (ca := ca) (Wx := Wx) (F := F) (gas := gas)) fun D σ H h => by
    obtain ⟨ι, ρ, hp, s, r, o⟩ := h
    simp only [evSs, evS, SOut.seq_stuck] at o
    exact o.elim
  | s :: ss => PSsimp (ss_cons (a := .nev) ss_nev (ss_dead ss)) fun D σ H h => by
    obtain ⟨ι, ρ, hp, s, r, o⟩ := h
    simp only [evSs, evS, SOut.seq_stuck] at o
    exact o.elim
mutual
theorem cS_ok (G : Good c ca F Wx X) : ∀ (n : Nat) (s : Stmt), PSf X ca Wx s (evS F gas (cS n c s))
  | 0, s => by unfold cS; exact ss_nev
  | n + 1, s => by
    have hN : X.N.Nodup := by rw [G.N]; exact G.nd
    have hix : ∀ {x : Str} {i : Nat}, ixOf c.N x = some i → X.N[i]? = some x := fun h => by rw [G.N]; exact ixOf_ok h
    have hloc : ∀ {x : Str}, c.sc.names.lookup x = some .local → X.env.scope.names.lookup x = some .local := fun h => by rw [G.sc]; exact h
    have hfn : ∀ {x : Str}, (c.top = true ∨ c.sc.names.lookup x = some .local) → (X.fn x = true ∨ X.env.scope.names.lookup x = some .local) := fun h => by
      rcases h with q | q
      · exact .inl (G.fn q _)
      · exact .inr (hloc q)
    unfold cS
    split
    · split
      · rename_i hn
        split
        · rename_i e1
          exact ss_expr ((sound n).e e1 G) (swap_ok hn)
        · exact ss_nev
      · exact ss_nev
    · exact ss_retN
    · split
      · rename_i e1
        exact ss_ret ((sound n).e e1 G)
      · exact ss_nev
    · exact ss_pass
    · exact ss_brk
    · exact ss_cont
    · rename_i x p e pos
      split
      · rename_i hl
        obtain ⟨l1, l2⟩ := locC_ok hl
        have hx : Loc X.env.scope x := by rw [G.sc]; exact l1
        split
        · rename_i i a e1 e2
          split
          · rename_i hn
            exact ss_set hN (hix e1) hx (hfn l2) ((sound (n + 1)).e e2 G) (swap_ok hn)
          · split
            · rename_i elt tg iter ifs async scope lpos _
              split
              · rename_i hsw
                split
                · rename_i b e3
                  obtain ⟨rfl, hf, a', t, it, cond, rfl, pi, bo, pg, pt, pe, ho⟩ := (sound n).c e3 G
                  exact ss_setLc G.calm hN (hix e1) (hloc (lcSw_loc hsw)) (lc_true G.sc G.kind hsw) pi bo pg pt pe hf ho
                · exact ss_nev
              · rename_i hsw
                exact ss_set hN (hix e1) hx (hfn l2) ((sound (n + 1)).e e2 G) (lc_false G.sc G.kind (by simpa using hsw))
            · exact ss_nev
        · exact ss_nev
      · exact ss_nev
    · rename_i ts k p e pos
      split
      · rename_i vs k2 p2
        split
        · rename_i hsw
          split
          · rename_i e1 e2
            exact ss_asg ((sound n).e e2 G) (cSt_ok G n _ _ e1) noSwapTup (swC_ok G.sc G.kind hsw) rfl
          · exact ss_nev
        · rename_i names hsw
          split
          · rename_i is as e1 e2
            split
            · rename_i hc
              simp only [Bool.and_eq_true, decide_eq_true_eq] at hc
              obtain ⟨c1, c2⟩ := hc
              obtain ⟨h1, h2, h3⟩ := cAll_ok (fun e a h => (sound n).e h G) e2
              have hw := swC_ok (k := k) (k2 := k2) (p := p) (p2 := p2) G.sc G.kind hsw
              rcases parC_two e1 with ⟨x, px, y, py, i, j, rfl, rfl, i1, i2, ne, lx, ly⟩ | ⟨x, px, y, py, z, pz, i, j, l, rfl, rfl, i1, i2, i3, ne, lx, ly, lz⟩
              · have c1' : names = [x, y] := c1
                subst c1'
                match as, c2, vs, h3 with
                | [a1, a2], _, [v1, v2], _ =>
                  exact ss_par G.calm hN (hix i1) (hix i2) ne (hloc lx) (hloc ly) h1 hw noSwapTup
              · have c1' : names = [x, y, z] := c1
                subst c1'
                match as, c2, vs, h3 with
                | [a1, a2, a3], _, [v1, v2, v3], _ =>
                  exact ss_par3 G.calm hN (hix i1) (hix i2) (hix i3) ne.1 ne.2.1 ne.2.2 (hloc lx) (hloc ly) (hloc lz) h1 hw noSwapTup
            · exact ss_nev
          · exact ss_nev
        · exact ss_nev
      · rename_i hne
        split
        · rename_i e1 e2
          refine ss_asg ((sound n).e e2 G) (cSt_ok G n _ _ e1) noSwapTup (sw_noTup ?_) rfl
          cases hq : isTuple e with
          | false => rfl
          | true =>
            obtain ⟨es, k', p', rfl⟩ := isTuple_ok hq
            exact absurd rfl (hne _ _ _)
        · exact ss_nev
    · split
      · rename_i e1 e2
        exact ss_asg ((sound n).e e2 G) (cSt_ok G n _ _ e1) noSwapSub (sw_noTgt (fun _ _ _ h => nomatch h) (fun _ _ h => nomatch h)) rfl
      · exact ss_nev
    · split
      · rename_i hl
        obtain ⟨l1, l2⟩ := locC_ok hl
        split
        · rename_i e1 e2
          exact ss_augN hN (hix e1) (by rw [G.sc]; exact l1) (hfn l2) ((sound n).e e2 G)
        · exact ss_nev
      · exact ss_nev
    · split
      · rename_i hp
        split
        · rename_i e1 e2 e3
          exact ss_augS ((sound n).e e1 G) ((sound n).e e2 G) ((sound n).e e3 G) (aug_ok hp)
        · exact ss_nev
      · exact ss_nev
    · split
      · rename_i e1
        exact ss_ite ((sound n).t e1 G).1 (cSs_ok G n _) (cSs_ok G n _)
      · exact ss_nev
    · split
      · rename_i hs
        split
        · rename_i e1 e2
          exact ss_for G.po G.calm ((sound n).i e1 G) (cTgt_ok G n _ _ e2) (cSs_ok G n _) (fold_ok hs)
        · exact ss_nev
      · exact ss_nev
    · split
      · rename_i e1
        exact ss_whl G.po ((sound n).t e1 G).1 (cSs_ok G n _)
      · exact ss_nev
    · exact ss_nev
theorem cSs_ok (G : Good c ca F Wx X) : ∀ (n : Nat) (s : List Stmt), PSsf X ca Wx s (evSs F gas (cSs n c s))
  | n, [] => by unfold cSs; exact ss_nil
  | 0, s :: ss => by unfold cSs; exact ss_dead _
  | n + 1, s :: ss => by unfold cSs; exact ss_cons (cS_ok G n s) (cSs_ok G n ss)
end
end
end Itp

set_option Elab.async false
set_option linter.all false
set_option autoImplicit false
set_option maxRecDepth 100000
set_option maxHeartbeats 8000000
/-! Itp, part M: what is claimed of a def may forget lists that nothing leads to; a def by its translated body; the law. -/
namespace Itp
open PySem PySem.Spec PyProof.Rows L2
mutual
def rnW (φ : List Nat) : W → W
  | .tup ws => .tup (rnWs φ ws)
  | .ref n => .ref (φ.getD n 0)
  | .non => .non
  | .bl b => .bl b
  | .int i => .int i
  | .str s => .str s
  | .ty n => .ty n
def rnWs (φ : List Nat) : List W → List W
  | [] => []
  | w :: ws => rnW φ w :: rnWs φ ws
end
mutual
def bndW (n : Nat) : W → Bool
  | .tup ws => bndWs n ws
  | .ref m => decide (m < n)
  | .non => true
  | .bl _ => true
  | .int _ => true
  | .str _ => true
  | .ty _ => true
def bndWs (n : Nat) : List W → Bool
  | [] => true
  | w :: ws => bndW n w && bndWs n ws
end
def rnO (φ : List Nat) : IO → IO
  | .lst ws => .lst (rnWs φ ws)
  | .flst ws => .flst (rnWs φ ws)
def bndO (n : Nat) : IO → Bool
  | .lst ws => bndWs n ws
  | .flst ws => bndWs n ws
theorem range_getD {n m : Nat} (h : m < n) : (List.range n).getD m 0 = m := by
  rw [List.getD_eq_getElem?_getD, List.getElem?_range h]
  rfl
mutual
theorem rnW_id {n : Nat} {φ : List Nat} (hφ : ∀ m, m < n → φ.getD m 0 = m) : ∀ w : W, bndW n w = true → rnW φ w = w
  | .tup ws, h => by
    unfold bndW at h
    unfold rnW
    rw [rnWs_id hφ ws h]
  | .ref m, h => by
    unfold bndW at h
    unfold rnW
    rw [hφ m (of_decide_eq_true h)]
  | .non, _ => by unfold rnW; rfl
  | .bl _, _ => by unfold rnW; rfl
  | .int _, _ => by unfold rnW; rfl
  | .str _, _ => by unfold rnW; rfl
  | .ty _, _ => by unfold rnW; rfl
theorem rnWs_id {n : Nat} {φ : List Nat} (hφ : ∀ m, m < n → φ.getD m 0 = m) : ∀ ws : List W, bndWs n ws = true → rnWs φ ws = ws
  | [], _ => by unfold rnWs; rfl
  | w :: ws, h => by
    unfold bndWs at h
    rw [Bool.and_eq_true] at h
    unfold rnWs
    rw [rnW_id hφ w h.1, rnWs_id hφ ws h.2]
end
theorem rnO_id {n : Nat} {φ : List Nat} (hφ : ∀ m, m < n → φ.getD m 0 = m) (o : IO) (h : bndO n o = true) : rnO φ o = o := by
  cases o with
  | lst ws => show IO.lst _ = _; rw [rnWs_id hφ ws h]
  | flst ws => show IO.flst _ = _; rw [rnWs_id hφ ws h]
mutual
theorem bndW_mono {n m : Nat} (h : n ≤ m) : ∀ w : W, bndW n w = true → bndW m w = true
  | .tup ws, q => by
    unfold bndW at q ⊢
    exact bndWs_mono h ws q
  | .ref k, q => by
    unfold bndW at q ⊢
    exact decide_eq_true (Nat.lt_of_lt_of_le (of_decide_eq_true q) h)
  | .non, _ => by unfold bndW; rfl
  | .bl _, _ => by unfold bndW; rfl
  | .int _, _ => by unfold bndW; rfl
  | .str _, _ => by unfold bndW; rfl
  | .ty _, _ => by unfold bndW; rfl
theorem bndWs_mono {n m : Nat} (h : n ≤ m) : ∀ ws : List W, bndWs n ws = true → bndWs m ws = true
  | [], _ => by unfold bndWs; rfl
  | w :: ws, q => by
    unfold bndWs at q ⊢
    rw [Bool.and_eq_true] at q ⊢
    exact ⟨bndW_mono h w q.1, bndWs_mono h ws q.2⟩
end
theorem bndO_mono {n m : Nat} (h : n ≤ m) (o : IO) (q : bndO n o = true) : bndO m o = true := by
  cases o with
  | lst ws => exact bndWs_mono h ws q
  | flst ws => exact bndWs_mono h ws q
def bndH (n : Nat) (hp : IH) : Bool := hp.all (bndO n)

/-- the claimed end is the real one, places renamed, the others forgotten -/
structure Gc (n : Nat) (w : W) (hp : IH) (w' : W) (hp' : IH) (φ : List Nat) : Prop where
  len : φ.length = hp'.length
  nd : φ.Nodup
  pre : ∀ i, i < n → φ[i]? = some i
  le : n ≤ hp'.length
  val : w = rnW φ w'
  bnd : bndW hp'.length w' = true
  cell : ∀ (k : Nat) (o : IO), hp'[k]? = some o → ∃ m, φ[k]? = some m ∧ hp[m]? = some (rnO φ o) ∧ bndO hp'.length o = true
def GcOut (n : Nat) (real claimed : Out W) : Prop := real = claimed ∨ ∃ w hp w' hp' φ, real = .ok w hp ∧ claimed = .ok w' hp' ∧ Gc n w hp w' hp' φ
theorem GcOut.refl {n : Nat} (o : Out W) : GcOut n o o := .inl rfl
/-- what hangs behind is forgotten -/
theorem gc_drop {n : Nat} {w : W} {h g : IH} (hn : n ≤ h.length) (hw : bndW h.length w = true) (hh : bndH h.length h = true) : GcOut n (.ok w (h ++ g)) (.ok w h) := by
  have hφ : ∀ m, m < h.length → (List.range h.length).getD m 0 = m := fun m hm => range_getD hm
  refine .inr ⟨w, h ++ g, w, h, List.range h.length, rfl, rfl, List.length_range, List.nodup_range, fun i hi => List.getElem?_range (by omega), hn, (rnW_id hφ w hw).symm, hw, fun k o e => ?_⟩
  have hk := (List.getElem?_eq_some_iff.mp e).1
  have hb : bndO h.length o = true := List.all_eq_true.mp hh o (List.mem_of_getElem? e)
  refine ⟨k, List.getElem?_range hk, ?_, hb⟩
  rw [List.getElem?_append_left hk, rnO_id hφ o hb]
  exact e
/-- a new list, and what hangs between and behind -/
theorem gc_keep {n : Nat} {h g g2 : IH} {o : IO} (hn : n ≤ h.length) (hh : bndH h.length h = true) (ho : bndO h.length o = true) :
    GcOut n (.ok (.ref (h.length + g.length)) (h ++ g ++ [o] ++ g2)) (.ok (.ref h.length) (h ++ [o])) := by
  have e1 : ∀ m, m < h.length → (List.range h.length ++ [h.length + g.length])[m]? = some m := fun m hm => by
    rw [List.getElem?_append_left (by rw [List.length_range]; exact hm)]
    exact List.getElem?_range hm
  have e2 : (List.range h.length ++ [h.length + g.length])[h.length]? = some (h.length + g.length) := by
    rw [List.getElem?_append_right (by rw [List.length_range]; exact Nat.le_refl _), List.length_range, Nat.sub_self]
    rfl
  have hφ : ∀ m, m < h.length → (List.range h.length ++ [h.length + g.length]).getD m 0 = m := fun m hm => by
    rw [List.getD_eq_getElem?_getD, e1 m hm]
    rfl
  refine .inr ⟨_, _, _, _, List.range h.length ++ [h.length + g.length], rfl, rfl, by simp, ?_, fun i hi => e1 i (by omega), by simp; omega, ?_, ?_, fun k o' e => ?_⟩
  · refine List.nodup_append.mpr ⟨List.nodup_range, by simp, fun a ha b hb => ?_⟩
    have := List.mem_range.mp ha
    have : b = h.length + g.length := by simpa using hb
    omega
  · unfold rnW
    rw [List.getD_eq_getElem?_getD, e2]
    rfl
  · unfold bndW
    simp
  · by_cases hk : k < h.length
    · rw [List.getElem?_append_left hk] at e
      have hb : bndO h.length o' = true := List.all_eq_true.mp hh o' (List.mem_of_getElem? e)
      refine ⟨k, e1 k hk, ?_, bndO_mono (by simp) _ hb⟩
      rw [rnO_id hφ o' hb, List.append_assoc, List.append_assoc, List.getElem?_append_left hk]
      exact e
    · have hk2 : k = h.length := by
        have := (List.getElem?_eq_some_iff.mp e).1
        simp at this
        omega
      subst hk2
      rw [List.getElem?_append_right (Nat.le_refl _), Nat.sub_self] at e
      have e' : o = o' := Option.some.inj e
      subst e'
      refine ⟨_, e2, ?_, bndO_mono (by simp) _ ho⟩
      rw [rnO_id hφ o ho, List.append_assoc, List.getElem?_append_right (by simp)]
      simp
section
variable {K : PySem.W.Frag} {ι ι' : List Addr} {H H' : Hp}
mutual
theorem Rep.unrn {φ : List Nat} {ι2 : List Addr} (hι : ∀ m a, m < φ.length → ι'[φ.getD m 0]? = some a → ι2[m]? = some a) : ∀ (w : W) (v : V), bndW φ.length w = true → Rep K ι' H' (rnW φ w) v → Rep K ι2 H' w v
  | .non, _, _, h => by unfold rnW at h; exact h
  | .bl _, _, _, h => by unfold rnW at h; exact h
  | .int _, _, _, h => by unfold rnW at h; exact h
  | .str _, _, _, h => by unfold rnW at h; exact h
  | .ty _, _, _, h => by unfold rnW at h; exact h
  | .ref m, _, hb, h => by
    unfold rnW at h
    unfold bndW at hb
    obtain ⟨a, ha, rfl⟩ := h
    exact ⟨a, hι m a (of_decide_eq_true hb) ha, rfl⟩
  | .tup ws, _, hb, h => by
    unfold rnW at h
    unfold bndW at hb
    obtain ⟨a, xs, rfl, hs, hr⟩ := h
    exact ⟨a, xs, rfl, hs, Reps.unrn hι ws xs hb hr⟩
theorem Reps.unrn {φ : List Nat} {ι2 : List Addr} (hι : ∀ m a, m < φ.length → ι'[φ.getD m 0]? = some a → ι2[m]? = some a) : ∀ (ws : List W) (xs : List V), bndWs φ.length ws = true → Reps K ι' H' (rnWs φ ws) xs → Reps K ι2 H' ws xs
  | [], _, _, h => by unfold rnWs at h; exact h
  | w :: ws, _, hb, h => by
    unfold rnWs at h
    unfold bndWs at hb
    rw [Bool.and_eq_true] at hb
    obtain ⟨v, vs, rfl, h1, h2⟩ := h
    exact ⟨v, vs, rfl, Rep.unrn hι w v hb.1 h1, Reps.unrn hι ws vs hb.2 h2⟩
end
/-- what is claimed may be asked for instead of what is -/
theorem OutG.gc {g : Gx} {Wx : WX} {σ : L2.St} {real claimed : Out W} {Q : V → Hp → Prop} (gc : GcOut ι.length real claimed) (h : OutG g Wx ι σ H (Rep g.K) claimed Q) : OutG g Wx ι σ H (Rep g.K) real Q := by
  rcases gc with rfl | ⟨w, hp, w', hp', φ, rfl, rfl, c⟩
  · exact h
  · intro v H' ι' ex sim rep
    obtain ⟨ι2, hι2⟩ : ∃ ι2 : List Addr, ι2 = φ.map fun m => ι'.getD m 0 := ⟨_, rfl⟩
    have at2 : ∀ m a, m < φ.length → ι'[φ.getD m 0]? = some a → ι2[m]? = some a := fun m a hm ha => by
      rw [hι2, List.getElem?_map, List.getElem?_eq_getElem hm]
      rw [List.getD_eq_getElem?_getD, List.getElem?_eq_getElem hm] at ha
      show some (ι'.getD φ[m] 0) = some a
      rw [List.getD_eq_getElem?_getD]
      have ha' : ι'[φ[m]]? = some a := ha
      rw [ha']
      rfl
    have inb : ∀ m, m ∈ φ → m < ι'.length := fun m hm => by
      obtain ⟨k, hk, rfl⟩ := List.mem_iff_getElem.mp hm
      have hk' : k < hp'.length := by rw [← c.len]; exact hk
      obtain ⟨m, e1, e2, _⟩ := c.cell k _ (List.getElem?_eq_getElem hk')
      rw [List.getElem?_eq_getElem hk] at e1
      cases e1
      rw [sim.len]
      exact (List.getElem?_eq_some_iff.mp e2).1
    have getI : ∀ m, m < ι'.length → ι'[m]? = some (ι'.getD m 0) := fun m hm => by
      rw [List.getD_eq_getElem?_getD, List.getElem?_eq_getElem hm]
      rfl
    have unre : ∀ (o : IO) (a : Addr), bndO φ.length o = true → ORep g.K ι' H' a (rnO φ o) → ORep g.K ι2 H' a o := fun o a hb r => by
      cases o with
      | lst ws =>
        obtain ⟨xs, h1, h2⟩ := r
        exact ⟨xs, h1, Reps.unrn at2 ws xs hb h2⟩
      | flst ws =>
        obtain ⟨xs, h1, h2⟩ := r
        exact ⟨xs, h1, Reps.unrn at2 ws xs hb h2⟩
    have len2 : ι2.length = hp'.length := by rw [hι2, List.length_map, c.len]
    refine h v H' ι2 ⟨?_, ex.tup, ex.frz⟩ ⟨len2, ?_, fun n a o e1 e2 => ?_⟩ ?_
    · -- what stood at the entry stands
      refine List.prefix_iff_getElem?.mpr fun i hi => ?_
      rw [hι2, List.getElem?_map, c.pre i hi]
      show some (ι'.getD i 0) = some ι[i]
      have := ex.at (List.getElem?_eq_getElem hi)
      rw [List.getD_eq_getElem?_getD, this]
      rfl
    · intro i j a us ws e1 e2 e3 e4
      obtain ⟨m, q1, q2, q3⟩ := c.cell i _ e3
      obtain ⟨m', r1, r2, r3⟩ := c.cell j _ e4
      have h1 := getI m (inb m (List.mem_of_getElem? q1))
      have h2 := getI m' (inb m' (List.mem_of_getElem? r1))
      rw [hι2, List.getElem?_map, q1] at e1
      rw [hι2, List.getElem?_map, r1] at e2
      have e1' : ι'.getD m 0 = a := Option.some.inj e1
      have e2' : ι'.getD m' 0 = a := Option.some.inj e2
      rw [e1'] at h1
      rw [e2'] at h2
      have e := sim.nd m m' a _ _ h1 h2 q2 r2
      subst e
      obtain ⟨l1, g1⟩ := List.getElem?_eq_some_iff.mp q1
      obtain ⟨l2, g2⟩ := List.getElem?_eq_some_iff.mp r1
      exact (List.getElem_inj c.nd).mp (g1.trans g2.symm)
    · obtain ⟨m, q1, q2, q3⟩ := c.cell n o e2
      rw [hι2, List.getElem?_map, q1] at e1
      have e1' : ι'.getD m 0 = a := Option.some.inj e1
      subst e1'
      refine unre o _ (by rw [c.len]; exact q3) ?_
      refine sim.cell m _ _ (getI m (inb m (List.mem_of_getElem? q1))) q2
    · refine Rep.unrn at2 w' v (by rw [c.len]; exact c.bnd) ?_
      rw [← c.val]
      exact rep
/-! ### at a def's entry -/
mutual
theorem Rep.bnd {hp : IH} (s : Sim K ι hp H) : ∀ (w : W) (v : V), Rep K ι H w v → bndW hp.length w = true
  | .non, _, _ => by unfold bndW; rfl
  | .bl _, _, _ => by unfold bndW; rfl
  | .int _, _, _ => by unfold bndW; rfl
  | .str _, _, _ => by unfold bndW; rfl
  | .ty _, _, _ => by unfold bndW; rfl
  | .ref m, _, h => by
    obtain ⟨a, ha, rfl⟩ := h
    unfold bndW
    refine decide_eq_true ?_
    rw [← s.len]
    exact (List.getElem?_eq_some_iff.mp ha).1
  | .tup ws, _, h => by
    obtain ⟨a, xs, rfl, hs, hr⟩ := h
    unfold bndW
    exact Reps.bnd s ws xs hr
theorem Reps.bnd {hp : IH} (s : Sim K ι hp H) : ∀ (ws : List W) (xs : List V), Reps K ι H ws xs → bndWs hp.length ws = true
  | [], _, _ => by unfold bndWs; rfl
  | w :: ws, _, h => by
    obtain ⟨v, vs, rfl, h1, h2⟩ := h
    unfold bndWs
    rw [Rep.bnd s w v h1, Reps.bnd s ws vs h2]
    rfl
end
theorem Sim.bnd {hp : IH} (s : Sim K ι hp H) : bndH hp.length hp = true := by
  refine List.all_eq_true.mpr fun o ho => ?_
  obtain ⟨n, hn, rfl⟩ := List.mem_iff_getElem.mp ho
  obtain ⟨a, ha, r⟩ := s.addr (List.getElem?_eq_getElem hn)
  cases e : hp[n] with
  | lst ws =>
    rw [e] at r
    obtain ⟨xs, _, h2⟩ := r
    exact Reps.bnd s _ _ h2
  | flst ws =>
    rw [e] at r
    obtain ⟨xs, _, h2⟩ := r
    exact Reps.bnd s _ _ h2
theorem repSt_start {N : List Str} {ws : List W} {vs : List V} (r : Reps K ι H ws vs) : RepSt K ι H (ws.map some ++ List.replicate (N.length - ws.length) none) (L2.start N vs) := by
  unfold L2.start
  refine ⟨by simp [r.length], fun i w e => ?_⟩
  by_cases hi : i < ws.length
  · rw [List.getElem?_append_left (by simpa using hi), List.getElem?_map] at e
    cases q : ws[i]? with
    | none => rw [q] at e; cases e
    | some u =>
      rw [q] at e
      cases e
      obtain ⟨v, hv, rv⟩ := r.get q
      refine ⟨v, ?_, rv⟩
      rw [List.getElem?_append_left (by simpa [r.length] using hi), List.getElem?_map, hv]
      rfl
  · rw [List.getElem?_append_right (by simpa using hi), List.getElem?_replicate] at e
    split at e <;> cases e
end

/-- what is promised of a def, wherever it is called -/
structure DefOk (P : Program) (w : World) (K : PySem.W.Frag) (mg : Str → Option Value) (base : Heap) (ca : Nat → Addr) (i : FI) (G : List W → IH → Out W) : Prop where
  ar : ∀ ws hp, G ws hp ≠ .stuck → ws.length = i.ps.length
  ex : ∃ fa fd, mg i.name = some (.ref fa) ∧ PySem.W.keepIn K (.ref fa) = true ∧ Binds K fd i.ps [] ∧
    (∀ q ∈ i.kwp, KBn K fd i.ps q.1 q.2.1 (fun us ws => pm q.2.2 (us ++ ws)) (fun vs zs => pm q.2.2 (vs ++ zs))) ∧
    FnG P w K mg base i.lev fa fd i.ps (spG ⟨K, ca⟩ i.ps.length G)
theorem DefOk.at {X : Cx} {ca : Nat → Addr} {i : FI} {G : List W → IH → Out W} {k : Nat} (h : DefOk X.prog X.w X.K X.mg X.base ca i G) (r : Room k X.A) (hgd : X.A.guards = some []) (hl : i.lev ≤ k) : FOk X ca i G := by
  obtain ⟨fa, fd, h1, h2, h3, h4, h5⟩ := h.ex
  exact ⟨h.ar, fa, fd, h1, h2, h3, h4, h5, r.mono hl, hgd⟩
section
variable {P : Program} {w : World} {K : PySem.W.Frag} {mg : Str → Option Value} {base : Heap} {ca : Nat → Addr} {F : FEnv}
/-- what holds of the top for a def's reading -/
structure TopOk (K : PySem.W.Frag) (mg : Str → Option Value) (glb : List (Str × W)) (blt : List Str) : Prop where
  glb : ∀ (x : Str) (w : W), (x, w) ∈ glb → ∃ u v, mg x = some u ∧ RelV v u ∧ ∀ ι H, Rep K ι H w v
  blt : ∀ x ∈ blt, mg x = none
/-- entering a def: the frame is made, its body runs, what it returns is handed on -/
theorem enter_def {qual : Str} {st : Stmt} {f : Addr} {fd : FuncData} {N ps : List Str} {k : Nat} {nm : Str} {sp : Sp} (Fn : L2.Fun K nm qual st f fd) (S : FnScope N ps (defScope st)) (len : ∀ vs H Q E, sp vs H Q E → vs.length = ps.length)
    (hbody : ∀ (cdv : Value) (A : Around) (outer : List Env) (s : Shared) (H : Hp) (vs : List V) (Q : VK) (E : XK), A.guards = some [] → Room k (A.deeper (envOfC qual (defScope st) s.heap.objs.size f cdv)) → sp vs H Q E →
      ∃ t, PSs (cxOf (L2.CX P w) P w K mg base N qual (defScope st) f cdv A outer s H E) (defBody st) t ∧ t { nx := fun _ H' => Q .non H', rt := Q } (L2.start N vs) H) : FnG P w K mg base (k + 1) f fd ps sp := by
  obtain ⟨oc, od, kV, doc, pm, an, cdv, ct, osl, rfl, lk, hcd⟩ := Fn.ex
  refine ⟨len, fun A outer s H args us vs Q E hgd hr e0 hb r hsp => ?_⟩
  have keeps : ∀ b o, base.get? b = some o → s.heap.get? b = some o := fun b o e => (e0.bs b o e).1
  have inH : K.In s.heap := e0.mod.kin.keeps keeps
  have kinds : ∀ y ∈ ps.zip us, (defScope st).names.lookup y.1 = some .local ∨ ((defScope st).names.lookup y.1 = some .cell ∧ ((cellsFrom (s.heap.objs.size + 1) (defScope st).names []).lookup y.1).isSome = true) := fun ⟨n, v⟩ hy =>
    (S.par n (List.of_mem_zip hy).1).imp id fun q => ⟨q, PySem.W.cellsFrom_some _ _ _ (.inl q)⟩
  refine codeAny_call_function hr.depth (inH _ _ lk) rfl S.co S.gen rfl (PySem.W.codeRec_of inH hcd) (hb _ _ _ _ ?_)
  refine wpAny_newFunctionEnv_cells S.kind kinds fun env he s1 x => ?_
  subst he
  refine ⟨(e0.mod.nolimit.keeps keeps).keeps x.toInCall.keep, codeAny_func ?_⟩
  obtain ⟨t, ht, hq⟩ := hbody cdv A outer s H vs Q E hgd (hr.deeper _) hsp
  refine wpAny_mono (ht.run [] s1 (L2.start N vs) H _ (inv_start S hr.hd e0 (len _ _ _ _ hsp) r x) hq) (fun fl s' hs => ?_) fun e s' hs => hs
  match fl, hs with
  | .ret u, ⟨v, σ', H', J, rv, q⟩ => exact ⟨v, H', J.os, J.bare, J.base, J.hok, rv, q⟩
  | .next, ⟨σ', H', J, q⟩ => exact ⟨V.non, H', J.os, J.bare, J.base, J.hok, rfl, q⟩
  | .brk, ⟨_, _, _, q⟩ => exact q.elim
  | .cont, ⟨_, _, _, q⟩ => exact q.elim
theorem fnOk_of {qual : Str} {st : Stmt} {fa : Addr} {fd : FuncData} {c : Ctx} {n k : Nat} {i : FI} {G : List W → IH → Out W} (Fn : L2.Fun K i.name qual st fa fd) (S : FnScope c.N i.ps (defScope st)) (hsc : c.sc = defScope st)
    (hlev : i.lev = k + 1) (T : TopOk K mg c.glb c.blt) (fok : ∀ (j : Nat) (fi : FI), c.fns[j]? = some fi → DefOk P w K mg base ca fi (F j) ∧ fi.lev ≤ k)
    (run : ∀ ws hp, bndWs hp.length ws = true → bndH hp.length hp = true → G ws hp ≠ .stuck → ∃ gas, GcOut hp.length (runB F gas (cSs n c (defBody st)) c.N.length ws hp) (G ws hp)) :
    FnG P w K mg base i.lev fa fd i.ps (spG ⟨K, ca⟩ i.ps.length G) := by
  rw [hlev]
  refine enter_def Fn S (fun vs H Q E h => h.1) fun cdv A outer s H vs Q E hgd hr h => ?_
  obtain ⟨hl, ι, ws, hp, sim, rep, out⟩ := h
  have ns : G ws hp ≠ .stuck := fun z => by
    rw [z] at out
    exact out
  obtain ⟨gas, gc⟩ := run ws hp (Reps.bnd sim _ _ rep) sim.bnd ns
  rw [← sim.len] at gc
  have out2 := OutG.gc gc out
  let X := cxOf (L2.CX P w) P w K mg base c.N qual (defScope st) fa cdv A outer s H E
  have G' : Good c ca F (fun cls d _ H => E cls d H) X := {
    N := rfl
    nd := S.nd
    sc := hsc.symm
    kind := by rw [hsc]; exact S.kind
    calm := rfl
    hu := by have := hr.un; show (A.deeper (envOfC qual (defScope st) s.heap.objs.size fa cdv)).units + 65 < cLine; omega
    gd := hgd
    tk := takes_of rfl rfl rfl rfl
    po := passes_of rfl
    fn := fun _ _ => rfl
    fok := fun j fi hj => (fok j fi hj).1.at hr hgd (fok j fi hj).2
    glb := T.glb
    blt := T.blt }
  refine ⟨_, cSs_ok (gas := gas) G' n (defBody st), ι, _, hp, sim, repSt_start (N := c.N) rep, ?_⟩
  unfold runB at out2
  generalize evSs F gas (cSs n c (defBody st)) (ws.map some ++ List.replicate (c.N.length - ws.length) none) hp = z at out2 ⊢
  cases z with
  | nx ρ hp1 => exact fun σ' H' ι' e1 s1 r1 => out2 .non H' ι' e1 s1 rfl
  | rt u hp1 => exact fun v H' ι' e1 s1 r1 => out2 v H' ι' e1 s1 r1
  | bk ρ hp1 => exact out2.elim
  | ct ρ hp1 => exact out2.elim
  | err c fs ρ hp1 => exact fun cls d σ' H' ι' e1 s1 r1 x => out2 cls d H' ι' e1 s1 x
  | stuck => exact out2.elim
theorem kbn_of {x qual : Str} {st : Stmt} {f : Addr} {fd : FuncData} (F : L2.Fun K x qual st f fd) {ps ks : List Str} {n : Nat} {perm : List Nat}
    (h : ∀ (kV doc pm' : Value) (an : Option Addr) (cdv ct : Value) (us ws : List Value), us.length = n → ws.length = ks.length → bindArgs (PySem.W.fnOf x qual (defArgs st) (defBody st) (defScope st) .none kV doc pm' an cdv ct) ⟨us, ks.zip ws⟩ = pure (ps.zip (pm perm (us ++ ws)))) :
    KBn K fd ps n ks (fun us ws => pm perm (us ++ ws)) (fun vs zs => pm perm (vs ++ zs)) := by
  obtain ⟨oc, od, kV, doc, pm', an, cdv, ct, osl, rfl, lk, hcd⟩ := F.ex
  exact ⟨fun s us ws _ h1 h2 => .of_eq (h kV doc pm' an cdv ct us ws h1 h2), fun r1 r2 => pm_vals (r1.append r2) perm⟩
end
/-! ### the law -/
theorem vals_of_ints : ∀ {vs : List Value} {ns : List Int}, IntsAre vs ns → Vals (ns.map V.int) vs
  | _, _, .nil => .nil
  | _, _, .cons n t h => .cons ⟨t, rfl⟩ (vals_of_ints h)
theorem reps_of_ints {K : PySem.W.Frag} {ι : List Addr} {H : Hp} : ∀ ns : List Int, Reps K ι H (ns.map W.int) (ns.map V.int)
  | [] => rfl
  | n :: ns => ⟨_, _, rfl, rfl, reps_of_ints ns⟩
/-- what is tracked at the law's call: the script, if the module knows nothing of it -/
def onlyA (K : PySem.W.Frag) (a : Addr) (vs : List Value) (ns : List Int) : Hp := fun b => if b = a ∧ (K.lookup a).isNone = true then some (.frz { cls := .type "list", data := .seq vs.toArray } (.lst (ns.map V.int))) else none
section
variable {P : Program} {w : World} {K : PySem.W.Frag} {mg mb : Str → Option Value} {ca : Nat → Addr} {k : Nat} {fa a : Addr} {fd : FuncData} {s₁ : Shared} {vs : List Value} {ns : List Int} {x : Str} {G : List W → IH → Out W}
/-- the law's def, called with a script, answers True -/
theorem law_go (KX : K.In s₁.heap) (hns : s₁.heap.Ns mainGlobals mg) (hb : s₁.heap.Ns builtinsNs mb) (hbb : ∀ y : Str, y ≠ "__name__" → mb y = bootBuiltins y) (hlim : s₁.heap.NoLimit) (hg : s₁.gens = #[])
    (ha : s₁.heap.get? a = some { cls := .type "list", data := .seq vs.toArray }) (hi : IntsAre vs ns) (hl : ns.length ≤ sizeLine) (hr : Room k callerA)
    (hF : ∀ base : Heap, K.In base → base.Ns mainGlobals mg → FnG P w K mg base k fa fd [x] (spG ⟨K, ca⟩ 1 G)) (hbind : ∀ (s : Shared) (u : Value), BindsTo s fd ⟨[u], []⟩ [(x, u)])
    (law : ∃ hp, G [.ref 0] [.flst (ns.map W.int)] = .ok (.bl true) hp) :
    codeAny (model P w) callerA (.call (.ref fa) ⟨[.ref a], []⟩) (fun r s' => r = .ok (.ret (.bool true)) ∧ OldK s₁.heap s'.heap ∧ s'.os = s₁.os ∧ AllBare s'.gens) s₁ := by
  have rv := vals_of_ints hi
  have lenV := hi.length
  obtain ⟨H, eH⟩ : ∃ H, H = onlyA K a vs ns := ⟨_, rfl⟩
  have tracked : ∀ b u, H b = some u → b = a ∧ K.lookup a = none ∧ u = .frz { cls := .type "list", data := .seq vs.toArray } (.lst (ns.map V.int)) := fun b u e => by
    rw [eH] at e
    unfold onlyA at e
    split at e
    · rename_i c
      exact ⟨c.1, by simpa using c.2, (Option.some.inj e).symm⟩
    · cases e
  have free : ∀ b o, s₁.heap.get? b = some o → (b = a → K.lookup a ≠ none) → H b = none := fun b o e n => by
    cases q : H b with
    | none => rfl
    | some u =>
      obtain ⟨h1, h2, _⟩ := tracked b u q
      exact absurd h2 (n h1)
  have notA : ∀ b o es ep, s₁.heap.get? b = some o → o.data = .dict es ep → b ≠ a := fun b o es ep e d => by
    rintro rfl
    rw [ha] at e
    cases e
    cases d
  have nsB : ∀ {b : Addr} {m : Str → Option Value}, s₁.heap.Ns b m → (hidT s₁.heap H).Ns b m := fun {b m} ⟨o, es, ep, e, d, r⟩ =>
    ⟨o, es, ep, hidT_get e (free b o e fun z => absurd z (notA b o es ep e d)), d, r⟩
  have inB : K.In (hidT s₁.heap H) := fun b o e => hidT_get (KX b o e) (free b o (KX b o e) fun z => by rw [← z, e]; simp)
  have okH : HOk P w H s₁.heap := fun b u e => by
    obtain ⟨rfl, _, rfl⟩ := tracked b u e
    exact ⟨ha, by rw [List.length_map]; exact hl, vs, _, rv, ha⟩
  have modB : Mod K mg (hidT s₁.heap H) := ⟨inB, nsB hns, ⟨mb, nsB hb, hbb⟩, by
    obtain ⟨mc, h1, h2⟩ := hlim
    exact ⟨mc, nsB h1, h2⟩⟩
  have e0 : Env0 P w K mg (hidT s₁.heap H) callerA [] s₁ H := ⟨rfl, modB, fun b o e => of_hidT e, Nat.le_of_eq (hidT_size _ _), trivial, fun b z => (nomatch z), okH, .of_eq hg⟩
  have fz : FzL K H a (ns.map V.int) := by
    cases q : K.lookup a with
    | none =>
      refine .inl ⟨{ cls := .type "list", data := .seq vs.toArray }, ?_⟩
      rw [eH]
      exact if_pos ⟨rfl, by rw [q]; rfl⟩
    | some o =>
      have e := KX a o q
      rw [ha] at e
      cases e
      exact .inr ⟨_, vs.toArray, _, q, rfl, rfl, rfl, by rw [List.size_toArray, lenV]; exact hl, by simpa using rv⟩
  have sim : Sim K [a] [.flst (ns.map W.int)] H := ⟨rfl, fun i j b us ws e1 e2 e3 e4 => by
    match i, e3 with
    | 0, e3 => simp at e3
    | i + 1, e3 => simp at e3, fun n b o e1 e2 => by
    match n, e1, e2 with
    | 0, e1, e2 =>
      cases e1
      cases e2
      exact ⟨_, fz, reps_of_ints ns⟩
    | n + 1, e1, e2 => simp at e1⟩
  have asked : spG ⟨K, ca⟩ 1 G [.ref a] H (fun v _ => v = .bl true) fun _ _ _ => False := by
    refine ⟨rfl, [a], [.ref 0], _, sim, ⟨_, _, rfl, ⟨a, rfl, rfl⟩, rfl⟩, ?_⟩
    obtain ⟨hp, e⟩ := law
    rw [e]
    exact fun v H' ι' _ _ r => r
  refine codeAny_mono ((hF _ inB (nsB hns)).go callerA [] s₁ H ⟨[.ref a], []⟩ [.ref a] [.ref a] _ _ rfl hr e0 (hbind s₁ (.ref a)) (.cons rfl .nil) asked) fun r s' h => ?_
  match r, h with
  | .error e, h =>
    obtain ⟨_, _, _, _, _, _, _, _, _, _, _, _, z⟩ := h
    exact z.elim
  | .ok (.ret u), ⟨v, H', os, bare, un, hok', r', q⟩ =>
    subst q
    obtain rfl : u = Value.bool true := r'
    refine ⟨rfl, OldK.of_keep fun b o e => ?_, os, bare⟩
    cases q : H b with
    | none => exact un.keep b o e q (fun z => nomatch z) (fun z => nomatch z)
    | some u =>
      obtain ⟨rfl, _, rfl⟩ := tracked b u q
      obtain ⟨e1, _⟩ := okH _ _ q
      obtain ⟨e2, _⟩ := hok' _ _ (un.frzs _ _ _ q)
      rw [e] at e1
      cases e1
      exact e2
end
/-- the goal behind the head -/
theorem walk_itp {l : PySem.W.OpenLaw} {n k : Nat} {q : Program} {loose : List Str} {XP : (Str → Option Value) → Heap → Prop} {YP : World → Heap → Prop} {d : DefRec} {K : Params → PySem.W.Frag} {x : Str} {G : List W → IH → Out W} {ca : World → Nat → Addr}
    (hn : l.most = some n) (hn2 : n ≤ sizeLine) (hdf : d.params.defaults = []) (hr : Room k callerA)
    (hY : ∀ (w : World) (h : Heap), YP w h → (K w.params).In h)
    (F : ∀ (w : World) (mg : Str → Option Value) (fa : Addr) (h : Heap), (K w.params).In h → h.Ns mainGlobals mg → mg d.name = some (.ref fa) →
      ∃ fd : FuncData, (∀ (s : Shared) (u : Value), BindsTo s fd ⟨[u], []⟩ [(x, u)]) ∧
        ∀ base : Heap, (K w.params).In base → base.Ns mainGlobals mg → FnG l.prog w (K w.params) mg base k fa fd [x] (spG ⟨K w.params, ca w⟩ 1 G))
    (law : ∀ ns : List Int, ns.length ≤ n → ∃ hp, G [.ref 0] [.flst (ns.map W.int)] = .ok (.bl true) hp) :
    PySem.W.WalkO q loose XP YP l.row.toRowW d [] (fun f vs => PySem.call f vs) := by
  refine Att.attach_call hn hdf fun w s₀ s₁ mg mb fa o pm cd doc a vs ns Gr Y ho hd hcd hmg hobj hints hlen hg => ?_
  obtain ⟨fd, hb, hF⟩ := F w mg fa _ (hY w _ Y) Gr.T.g hmg
  exact law_go (hY w _ Y) Gr.T.g Gr.T.b Gr.T.builtins Gr.T.nolimit hg hobj hints (Nat.le_trans hlen hn2) hr hF hb (law ns hlen)
end Itp

set_option Elab.async false
set_option linter.all false
set_option autoImplicit false
set_option maxRecDepth 100000
set_option maxHeartbeats 8000000
/-! Itp, part N: a row of defs, each running over the earlier ones; what is left behind is forgotten at each return. -/
namespace Itp
open PySem PySem.Spec PyProof.Rows L2
/-- what a return may forget: nothing that was there leads to what is new, and neither does the answer -/
def Clean (hp : IH) (w : W) (hp' : IH) : Prop := hp.length ≤ hp'.length ∧ bndW hp.length w = true ∧ ∀ i, i < hp.length → hp'[i]? = hp[i]? ∨ ∃ o, hp'[i]? = some o ∧ bndO hp.length o = true
open Classical in
noncomputable def fin (cl : Bool) (hp : IH) (o : Out W) : Out W := match cl, o with
  | true, .ok w hp' => if Clean hp w hp' then .ok w (hp'.take hp.length) else .ok w hp'
  | _, o => o
theorem Clean.bnd {hp hp' : IH} {w : W} (c : Clean hp w hp') (h : bndH hp.length hp = true) : bndH hp.length (hp'.take hp.length) = true := by
  refine List.all_eq_true.mpr fun o ho => ?_
  obtain ⟨i, hi, e⟩ := List.mem_iff_getElem.mp ho
  have hi' : i < hp.length := by
    rw [List.length_take] at hi
    omega
  have e2 : hp'[i]? = some o := by
    rw [List.getElem_take] at e
    rw [List.getElem?_eq_getElem (by have := c.1; omega), e]
  rcases c.2.2 i hi' with q | ⟨o', q, b⟩
  · rw [q] at e2
    exact List.all_eq_true.mp h o (List.mem_of_getElem? e2)
  · rw [q] at e2
    cases e2
    exact b
theorem gc_fin {cl : Bool} {hp : IH} {o : Out W} (h : bndH hp.length hp = true) : GcOut hp.length o (fin cl hp o) := by
  unfold fin
  split
  · rename_i w hp'
    split
    · rename_i c
      have hl : (hp'.take hp.length).length = hp.length := by
        rw [List.length_take]
        exact Nat.min_eq_left c.1
      have e : hp' = hp'.take hp.length ++ hp'.drop hp.length := (List.take_append_drop _ _).symm
      have g := gc_drop (n := hp.length) (w := w) (h := hp'.take hp.length) (g := hp'.drop hp.length) (by omega) (by rw [hl]; exact c.2.1) (by rw [hl]; exact c.bnd h)
      rw [← e] at g
      exact g
    · exact .inl rfl
  · exact .inl rfl
/-- a def of the row -/
structure DC where
  code : List IStm
  n : Nat
  ar : Nat
  gas : Nat
  cl : Bool
noncomputable def envTo (dcs : Nat → DC) : Nat → FEnv
  | 0 => fun _ _ _ => .stuck
  | k + 1 => fun i ws hp => if i = k then (if ws.length = (dcs k).ar then fin (dcs k).cl hp (runB (envTo dcs k) (dcs k).gas (dcs k).code (dcs k).n ws hp) else .stuck) else envTo dcs k i ws hp
noncomputable def G (dcs : Nat → DC) (i : Nat) : List W → IH → Out W := envTo dcs (i + 1) i
theorem env_lt {dcs : Nat → DC} : ∀ {k i : Nat}, i < k → envTo dcs k i = G dcs i
  | 0, _, h => absurd h (Nat.not_lt_zero _)
  | k + 1, i, h => by
    by_cases e : i = k
    · subst e
      rfl
    · rw [← env_lt (show i < k by omega)]
      funext ws hp
      show (if i = k then _ else _) = _
      rw [if_neg e]
theorem G_eq {dcs : Nat → DC} {i : Nat} {ws : List W} {hp : IH} (h : ws.length = (dcs i).ar) : G dcs i ws hp = fin (dcs i).cl hp (runB (envTo dcs i) (dcs i).gas (dcs i).code (dcs i).n ws hp) := by
  show (if i = i then _ else _) = _
  rw [if_pos rfl, if_pos h]
section
variable {P : Program} {w : World} {K : PySem.W.Frag} {mg : Str → Option Value} {base : Heap} {ca : Nat → Addr} {dcs : Nat → DC}
def DefsOk (P : Program) (w : World) (K : PySem.W.Frag) (mg : Str → Option Value) (base : Heap) (ca : Nat → Addr) (dcs : Nat → DC) (fs : List FI) : Prop := ∀ (j : Nat) (fi : FI), fs[j]? = some fi → DefOk P w K mg base ca fi (G dcs j)
theorem defs_nil : DefsOk P w K mg base ca dcs [] := fun j fi h => by simp at h
theorem defs_snoc {fs : List FI} {fi : FI} (h : DefsOk P w K mg base ca dcs fs) (d : DefOk P w K mg base ca fi (G dcs fs.length)) : DefsOk P w K mg base ca dcs (fs ++ [fi]) := fun j f e => by
  by_cases hj : j < fs.length
  · rw [List.getElem?_append_left hj] at e
    exact h j f e
  · have hj2 : j = fs.length := by
      have := (List.getElem?_eq_some_iff.mp e).1
      simp at this
      omega
    subst hj2
    rw [List.getElem?_append_right (Nat.le_refl _), Nat.sub_self] at e
    cases e
    exact d
theorem def_ar {k n : Nat} (har : n = (dcs k).ar) : ∀ ws hp, G dcs k ws hp ≠ .stuck → ws.length = n := fun ws hp h => by
  rw [har]
  by_cases e : ws.length = (dcs k).ar
  · exact e
  · refine absurd ?_ h
    show (if _ then (if _ then _ else _) else _) = _
    rw [if_pos rfl, if_neg e]
/-- the i-th def of the row, run -/
theorem def_g {qual : Str} {st : Stmt} {fa : Addr} {fd : FuncData} {c : Itp.Ctx} {n : Nat} {i : FI} (A : DefsOk P w K mg base ca dcs c.fns) (Fn : L2.Fun K i.name qual st fa fd)
    (S : FnScope c.N i.ps (defScope st)) (hsc : c.sc = defScope st) (hlev : i.lev = c.fns.length + 1) (hlevs : ∀ fi ∈ c.fns, fi.lev ≤ c.fns.length) (T : TopOk K mg c.glb c.blt)
    (hcode : cSs n c (defBody st) = (dcs c.fns.length).code) (hn : c.N.length = (dcs c.fns.length).n) (har : i.ps.length = (dcs c.fns.length).ar) : FnG P w K mg base i.lev fa fd i.ps (spG ⟨K, ca⟩ i.ps.length (G dcs c.fns.length)) := by
  refine fnOk_of (F := envTo dcs c.fns.length) (c := c) (n := n) Fn S hsc hlev T (fun j fi h => ?_) fun ws hp h1 h2 h3 => ?_
  · have hj := (List.getElem?_eq_some_iff.mp h).1
    rw [env_lt hj]
    exact ⟨A j fi h, hlevs fi (List.mem_of_getElem? h)⟩
  · refine ⟨(dcs c.fns.length).gas, ?_⟩
    rw [hcode, hn, G_eq (by rw [def_ar har ws hp h3, har])]
    exact gc_fin h2
/-- .. as the later ones may call it -/
theorem def_mk {qual : Str} {st : Stmt} {fa : Addr} {fd : FuncData} {c : Itp.Ctx} {n : Nat} {i : FI} (A : DefsOk P w K mg base ca dcs c.fns) (Fn : L2.Fun K i.name qual st fa fd) (hm : mg i.name = some (.ref fa)) (hk : PySem.W.keepIn K (.ref fa) = true)
    (hb : Binds K fd i.ps []) (hq : ∀ q ∈ i.kwp, KBn K fd i.ps q.1 q.2.1 (fun us ws => pm q.2.2 (us ++ ws)) (fun vs zs => pm q.2.2 (vs ++ zs)))
    (S : FnScope c.N i.ps (defScope st)) (hsc : c.sc = defScope st) (hlev : i.lev = c.fns.length + 1) (hlevs : ∀ fi ∈ c.fns, fi.lev ≤ c.fns.length) (T : TopOk K mg c.glb c.blt)
    (hcode : cSs n c (defBody st) = (dcs c.fns.length).code) (hn : c.N.length = (dcs c.fns.length).n) (har : i.ps.length = (dcs c.fns.length).ar) : DefOk P w K mg base ca i (G dcs c.fns.length) :=
  ⟨def_ar har, fa, fd, hm, hk, hb, hq, def_g A Fn S hsc hlev hlevs T hcode hn har⟩
end
/-! ### constants of the top -/
def GlbOk (K : PySem.W.Frag) (mg : Str → Option Value) (l : List (Str × W)) : Prop := ∀ (x : Str) (w : W), (x, w) ∈ l → ∃ u v, mg x = some u ∧ RelV v u ∧ ∀ ι H, Rep K ι H w v
section
variable {K : PySem.W.Frag} {mg : Str → Option Value} {x : Str} {l : List (Str × W)}
theorem glb_nil : GlbOk K mg [] := fun _ _ h => nomatch h
theorem glb_cons {w : W} {u : Value} {v : V} (hm : mg x = some u) (r : RelV v u) (p : ∀ ι H, Rep K ι H w v) (t : GlbOk K mg l) : GlbOk K mg ((x, w) :: l) := fun y z h => by
  cases h with
  | head => exact ⟨u, v, hm, r, p⟩
  | tail _ h => exact t y z h
theorem glb_int {i : Int} {t : Tok} (hm : mg x = some (.int i t)) (r : GlbOk K mg l) : GlbOk K mg ((x, .int i) :: l) := glb_cons (v := .int i) hm ⟨t, rfl⟩ (fun _ _ => rfl) r
theorem glb_str {i : Str} {t : Tok} (hm : mg x = some (.str i t)) (r : GlbOk K mg l) : GlbOk K mg ((x, .str i) :: l) := glb_cons (v := .str i) hm ⟨t, rfl⟩ (fun _ _ => rfl) r
theorem glb_bool {i : Bool} (hm : mg x = some (.bool i)) (r : GlbOk K mg l) : GlbOk K mg ((x, .bl i) :: l) := glb_cons (v := .bl i) hm rfl (fun _ _ => rfl) r
/-- a tuple of the top whose items are known -/
theorem krep_tup {ws : List W} {xs : List V} {a : Addr} {o : Obj} {its : Array Value} {n : Nat} (e : K.lookup a = some o) (c : o.cls = .type "tuple") (d : o.data = .seq its n) (z : its.size ≤ sizeLine) (r : Vals xs its.toList) (h : ∀ ι H, Reps K ι H ws xs) :
    ∀ ι H, Rep K ι H (.tup ws) (.ref a) := fun ι H => ⟨a, xs, rfl, .inr ⟨o, its, n, e, c, d, z, r⟩, h ι H⟩
theorem relI (i : Int) (t : Tok) : RelV (.int i) (.int i t) := ⟨t, rfl⟩
theorem relS (i : Str) (t : Tok) : RelV (.str i) (.str i t) := ⟨t, rfl⟩
theorem relB (i : Bool) : RelV (.bl i) (.bool i) := rfl
theorem relN : RelV .non .none := rfl
theorem relR (a : Addr) : RelV (.ref a) (.ref a) := rfl
theorem krep_nil : ∀ ι H, Reps K ι H [] [] := fun _ _ => rfl
theorem krep_cons {w : W} {ws : List W} {v : V} {vs : List V} (h : ∀ ι H, Rep K ι H w v) (t : ∀ ι H, Reps K ι H ws vs) : ∀ ι H, Reps K ι H (w :: ws) (v :: vs) := fun ι H => ⟨v, vs, rfl, h ι H, t ι H⟩
theorem krep_int (i : Int) : ∀ ι H, Rep K ι H (.int i) (.int i) := fun _ _ => rfl
theorem krep_str (i : Str) : ∀ ι H, Rep K ι H (.str i) (.str i) := fun _ _ => rfl
theorem krep_bl (i : Bool) : ∀ ι H, Rep K ι H (.bl i) (.bl i) := fun _ _ => rfl
theorem krep_non : ∀ ι H, Rep K ι H .non .non := fun _ _ => rfl
end
/-! ### how a return reads -/
theorem fin_ok {hp h g : IH} {w : W} (hl : h.length = hp.length) (hw : bndW hp.length w = true) (hc : ∀ i, i < hp.length → h[i]? = hp[i]? ∨ ∃ o, h[i]? = some o ∧ bndO hp.length o = true) : fin true hp (.ok w (h ++ g)) = .ok w h := by
  have c : Clean hp w (h ++ g) := ⟨by rw [List.length_append]; omega, hw, fun i hi => by
    rw [List.getElem?_append_left (by omega)]
    exact hc i hi⟩
  unfold fin
  dsimp only
  rw [if_pos c, ← hl, List.take_left]
theorem fin_same {hp g : IH} {w : W} (hw : bndW hp.length w = true) : fin true hp (.ok w (hp ++ g)) = .ok w hp := fin_ok rfl hw fun _ _ => .inl rfl
theorem fin_same0 {hp : IH} {w : W} (hw : bndW hp.length w = true) : fin true hp (.ok w hp) = .ok w hp := by
  have h := fin_same (hp := hp) (g := []) hw
  rwa [List.append_nil] at h
theorem fin_set {hp g : IH} {w : W} {k : Nat} {o : IO} (hw : bndW hp.length w = true) (ho : bndO hp.length o = true) : fin true hp (.ok w (hp.set k o ++ g)) = .ok w (hp.set k o) := by
  refine fin_ok (List.length_set ..) hw fun i hi => ?_
  by_cases e : k = i
  · subst e
    exact .inr ⟨o, List.getElem?_set_self hi, ho⟩
  · exact .inl (List.getElem?_set_ne e)
theorem fin_set0 {hp : IH} {w : W} {k : Nat} {o : IO} (hw : bndW hp.length w = true) (ho : bndO hp.length o = true) : fin true hp (.ok w (hp.set k o)) = .ok w (hp.set k o) := by
  have h := fin_set (hp := hp) (g := []) (k := k) hw ho
  rwa [List.append_nil] at h
theorem fin_f {hp : IH} {o : Out W} : fin false hp o = o := by unfold fin; rfl
end Itp

set_option Elab.async false
set_option linter.all false
set_option autoImplicit false
set_option maxRecDepth 100000
set_option maxHeartbeats 4000000
/-! Itp, part Q: sizes of whole numbers, fractions as pairs. -/
namespace Itp
open PySem PySem.Spec PyProof.Rows L2
/-- fewer than so many bits -/
def B (k : Nat) (x : Int) : Prop := x.natAbs < 2 ^ k
theorem B.mono {k l : Nat} {x : Int} (h : B k x) (q : k ≤ l) : B l x := Nat.lt_of_lt_of_le h (Nat.pow_le_pow_right (by decide) q)
theorem B.mul {k l : Nat} {x y : Int} (h : B k x) (q : B l y) : B (k + l) (x * y) := by
  unfold B
  rw [Int.natAbs_mul, Nat.pow_add]
  exact Nat.mul_lt_mul'' h q
theorem B.neg {k : Nat} {x : Int} (h : B k x) : B k (-x) := by
  unfold B
  rw [Int.natAbs_neg]
  exact h
theorem B.add {k l m : Nat} {x y : Int} (h : B k x) (q : B l y) (h1 : k + 1 ≤ m) (h2 : l + 1 ≤ m) : B m (x + y) := by
  have a := h.mono (show k ≤ m - 1 by omega)
  have b := q.mono (show l ≤ m - 1 by omega)
  unfold B at *
  have e : 2 ^ m = 2 * 2 ^ (m - 1) := by
    rw [← Nat.pow_succ']
    congr 1
    omega
  have := Int.natAbs_add_le x y
  omega
theorem B.sub {k l m : Nat} {x y : Int} (h : B k x) (q : B l y) (h1 : k + 1 ≤ m) (h2 : l + 1 ≤ m) : B m (x - y) := by
  rw [Int.sub_eq_add_neg]
  exact h.add q.neg h1 h2
theorem B.abs {k : Nat} {x y : Int} (h : B k x) (q : y.natAbs ≤ x.natAbs) : B k y := Nat.lt_of_le_of_lt q h
theorem B.log2 {k : Nat} {x : Int} (h : B k x) : x.natAbs.log2 ≤ k := by
  by_cases e : x.natAbs = 0
  · rw [e]
    exact Nat.zero_le _
  · exact Nat.le_of_lt ((Nat.log2_lt e).mpr h)
theorem mulOk_of {k l : Nat} {x y : Int} (h : B k x) (q : B l y) (z : k + l < 134000000) : mulOk x y = true := by
  have a := h.log2
  have b := q.log2
  exact decide_eq_true (by omega)
theorem noPy {k : Nat} {x y : Int} (h : B k y) (z : k < 9000) : Builtin.divisionGoesByPylong x y = false := PyProof.noPylong_of_log2 (by have := h.log2; omega)
theorem B.small {x : Int} {k : Nat} (h : x.natAbs < 2 ^ k) : B k x := h
/-- a fraction as the program has it -/
def frW (r : Rat) : W := .tup [.int r.num, .int (r.den : Int)]
def okR (k : Nat) (r : Rat) : Prop := B k r.num ∧ B k (r.den : Int)
theorem okR.mono {k l : Nat} {r : Rat} (h : okR k r) (q : k ≤ l) : okR l r := ⟨h.1.mono q, h.2.mono q⟩
theorem natAbs_div_le (a : Int) (n : Nat) : (a / (n : Int)).natAbs ≤ a.natAbs := by
  have := Int.natAbs_ediv_le_natAbs a n
  exact this
theorem okR_divInt {k : Nat} {t b : Int} (h1 : B k t) (h2 : B k b) (hb : b ≠ 0) : okR k (Rat.divInt t b) := by
  constructor
  · rw [Rat.num_divInt]
    refine h1.abs (Nat.le_trans (natAbs_div_le _ _) ?_)
    rw [Int.natAbs_mul, Int.natAbs_sign_of_ne_zero hb, Nat.one_mul]
    exact Nat.le_refl _
  · rw [Rat.den_divInt, if_neg hb]
    refine h2.abs ?_
    show Int.natAbs ((b.natAbs / b.gcd t : Nat) : Int) ≤ b.natAbs
    rw [Int.natAbs_natCast]
    exact Nat.div_le_self _ _
theorem rat_add (r s : Rat) : r + s = Rat.divInt (r.num * s.den + s.num * r.den) (r.den * s.den) := by
  rw [← Rat.divInt_add_divInt _ _ (by exact_mod_cast r.den_nz) (by exact_mod_cast s.den_nz), Rat.num_divInt_den, Rat.num_divInt_den]
theorem rat_sub (r s : Rat) : r - s = Rat.divInt (r.num * s.den - s.num * r.den) (r.den * s.den) := by
  rw [← Rat.divInt_sub_divInt _ _ (by exact_mod_cast r.den_nz) (by exact_mod_cast s.den_nz), Rat.num_divInt_den, Rat.num_divInt_den]
theorem rat_mul (r s : Rat) : r * s = Rat.divInt (r.num * s.num) (r.den * s.den) := by
  rw [← Rat.divInt_mul_divInt, Rat.num_divInt_den, Rat.num_divInt_den]
theorem rat_div (r s : Rat) : r / s = Rat.divInt (r.num * s.den) (r.den * s.num) := by
  rw [Rat.div_def, ← Rat.num_divInt_den s, Rat.inv_divInt, ← Rat.divInt_mul_divInt, Rat.num_divInt_den, Rat.num_divInt_den]
theorem den_ne (r : Rat) : (r.den : Int) ≠ 0 := by exact_mod_cast r.den_nz
theorem okR_add {k : Nat} {r s : Rat} (h : okR k r) (q : okR k s) : okR (2 * k + 1) (r + s) := by
  rw [rat_add]
  refine okR_divInt ((h.1.mul q.2).add (q.1.mul h.2) (by omega) (by omega)) ((h.2.mul q.2).mono (by omega)) (Int.mul_ne_zero (den_ne r) (den_ne s))
theorem okR_sub {k : Nat} {r s : Rat} (h : okR k r) (q : okR k s) : okR (2 * k + 1) (r - s) := by
  rw [rat_sub]
  refine okR_divInt ((h.1.mul q.2).sub (q.1.mul h.2) (by omega) (by omega)) ((h.2.mul q.2).mono (by omega)) (Int.mul_ne_zero (den_ne r) (den_ne s))
theorem okR_mul {k : Nat} {r s : Rat} (h : okR k r) (q : okR k s) : okR (2 * k + 1) (r * s) := by
  rw [rat_mul]
  exact okR_divInt ((h.1.mul q.1).mono (by omega)) ((h.2.mul q.2).mono (by omega)) (Int.mul_ne_zero (den_ne r) (den_ne s))
theorem okR_div {k : Nat} {r s : Rat} (h : okR k r) (q : okR k s) (hs : s.num ≠ 0) : okR (2 * k + 1) (r / s) := by
  rw [rat_div]
  exact okR_divInt ((h.1.mul q.2).mono (by omega)) ((h.2.mul q.1).mono (by omega)) (Int.mul_ne_zero (den_ne r) hs)
theorem rat_ext {r s : Rat} (h1 : r.num = s.num) (h2 : r.den = s.den) : r = s := Rat.ext h1 h2
theorem rat_gcd (r : Rat) : Int.gcd r.num r.den = 1 := r.reduced
/-- the same as so much over so much -/
theorem rat_is {r : Rat} {t b : Int} (hb : b ≠ 0) : r.num * b = t * r.den ↔ r = Rat.divInt t b := by
  rw [← Rat.divInt_eq_divInt_iff (den_ne r) hb, Rat.num_divInt_den]
end Itp

set_option Elab.async false
set_option linter.all false
set_option autoImplicit false
set_option maxRecDepth 100000
set_option maxHeartbeats 4000000
/-! Itp, part L: how operations on plain values read. -/
namespace Itp
open PySem PySem.Spec PyProof.Rows L2
section
variable {hp : IH} {i j : Int} {s t : Str} {b c : Bool} {ws us : List W} {n : Nat} {r q : Rat}
@[simp] theorem dat_non : dat hp (n + 1) .non = some .none := rfl
@[simp] theorem dat_bl : dat hp (n + 1) (.bl b) = some (.bool b) := rfl
@[simp] theorem dat_int : dat hp (n + 1) (.int i) = some (.int i) := rfl
@[simp] theorem dat_str : dat hp (n + 1) (.str s) = some (.str s) := rfl
@[simp] theorem dat_tup : dat hp (n + 1) (.tup ws) = (allSome (dat hp n) ws).map .tuple := rfl
theorem dat_ref {k : Nat} (h : hp[k]? = some (.lst ws)) : dat hp (n + 1) (.ref k) = (allSome (dat hp n) ws).map .list := by
  show (match hp[k]? with
    | some (.lst ws) => (allSome (dat hp n) ws).map PyData.list
    | some (.flst ws) => (allSome (dat hp n) ws).map PyData.list
    | none => none) = _
  rw [h]
@[simp] theorem allSome_nil {α β : Type} {f : α → Option β} : allSome f [] = some [] := rfl
@[simp] theorem allSome_cons {α β : Type} {f : α → Option β} {x : α} {xs : List α} : allSome f (x :: xs) = (match f x, allSome f xs with
    | some y, some ys => some (y :: ys)
    | _, _ => none) := rfl
@[simp] theorem eqF_int : eqF (.int i) (.int j) hp = some (decide (i = j)) := by
  show (if SeqAt.shaped (.int i) = true ∧ SeqAt.shaped (.int j) = true then some (i == j) else none) = _
  rw [if_pos ⟨rfl, rfl⟩]
  rfl
@[simp] theorem eqF_str : eqF (.str s) (.str t) hp = some (decide (s = t)) := rfl
@[simp] theorem eqF_bl : eqF (.bl b) (.bl c) hp = some (b == c) := by
  show (if SeqAt.shaped (.bool b) = true ∧ SeqAt.shaped (.bool c) = true then some (b == c) else none) = _
  rw [if_pos ⟨rfl, rfl⟩]
theorem eqF_two {k l : Int} : eqF (.tup [.int i, .int j]) (.tup [.int k, .int l]) hp = some (decide (i = k ∧ j = l)) := by
  show (if SeqAt.shaped (.tuple [.int i, .int j]) = true ∧ SeqAt.shaped (.tuple [.int k, .int l]) = true then some (i == k && (j == l && true)) else none) = _
  rw [if_pos ⟨rfl, rfl⟩]
  by_cases h1 : i = k <;> by_cases h2 : j = l <;> simp [h1, h2]
@[simp] theorem eqF_fr : eqF (frW r) (frW q) hp = some (decide (r = q)) := by
  unfold frW
  rw [eqF_two]
  congr 1
  refine decide_eq_decide.mpr ⟨fun h => Rat.ext h.1 (by exact_mod_cast h.2), fun h => by subst h; exact ⟨rfl, rfl⟩⟩
@[simp] theorem truth_non : truth hp .non = some false := rfl
@[simp] theorem truth_bl : truth hp (.bl b) = some b := rfl
@[simp] theorem truth_int : truth hp (.int i) = some (i != 0) := rfl
@[simp] theorem truth_tup : truth hp (.tup ws) = some (!ws.isEmpty) := rfl
@[simp] theorem tyName_int : tyName hp (.int i) = some "int" := rfl
@[simp] theorem tyName_non : tyName hp .non = some "NoneType" := rfl
@[simp] theorem tyName_bl : tyName hp (.bl b) = some "bool" := rfl
@[simp] theorem tyName_str : tyName hp (.str s) = some "str" := rfl
@[simp] theorem tyName_tup : tyName hp (.tup ws) = some "tuple" := rfl
theorem tyName_ref {k : Nat} {o : IO} (h : hp[k]? = some o) : tyName hp (.ref k) = some "list" := by unfold tyName; simp only [h]
@[simp] theorem bndW_int {m : Nat} : bndW m (.int i) = true := by unfold bndW; rfl
@[simp] theorem bndW_bl {m : Nat} : bndW m (.bl b) = true := by unfold bndW; rfl
@[simp] theorem bndW_non {m : Nat} : bndW m .non = true := by unfold bndW; rfl
@[simp] theorem bndW_str {m : Nat} : bndW m (.str s) = true := by unfold bndW; rfl
@[simp] theorem bndW_tup {m : Nat} : bndW m (.tup ws) = bndWs m ws := by conv => lhs; unfold bndW
@[simp] theorem bndWs_nil {m : Nat} : bndWs m [] = true := by unfold bndWs; rfl
@[simp] theorem bndWs_cons {m : Nat} {w : W} : bndWs m (w :: ws) = (bndW m w && bndWs m ws) := by conv => lhs; unfold bndWs
@[simp] theorem bndW_fr {m : Nat} : bndW m (frW r) = true := by unfold frW; simp
@[simp] theorem bndO_lst {m : Nat} : bndO m (.lst ws) = bndWs m ws := rfl
@[simp] theorem itemsOf_tup : itemsOf hp (.tup ws) = some ws := rfl
@[simp] theorem frW_sub0 : subF (frW r) (.int 0) hp = some (.int r.num, hp) := rfl
@[simp] theorem frW_sub1 : subF (frW r) (.int 1) hp = some (.int r.den, hp) := rfl
@[simp] theorem tyName_fr : tyName hp (frW r) = some "tuple" := rfl
@[simp] theorem itemsOf_fr : itemsOf hp (frW r) = some [.int r.num, .int r.den] := rfl
@[simp] theorem sub_int0 {w : W} : subF (.tup (w :: ws)) (.int 0) hp = some (w, hp) := by
  show (atI (w :: ws) 0).map _ = _
  rw [show atI (w :: ws) 0 = some w from atI_nat (j := 0) rfl]
  rfl
@[simp] theorem sub_int1 {w v : W} : subF (.tup (w :: v :: ws)) (.int 1) hp = some (v, hp) := by
  show (atI (w :: v :: ws) 1).map _ = _
  rw [show atI (w :: v :: ws) 1 = some v from atI_nat (j := 1) rfl]
  rfl
@[simp] theorem bf_abs : bfF .abs [.int i] hp = some (.int (i.natAbs : Int), hp) := by
  show some (W.int (if i < 0 then -i else i), hp) = _
  congr 3
  split <;> omega
@[simp] theorem bf_len_tup : bfF .len [.tup ws] hp = some (.int ws.length, hp) := rfl
@[simp] theorem bf_len_fr : bfF .len [frW r] hp = some (.int 2, hp) := rfl
theorem bf_len_ref {k : Nat} (h : hp[k]? = some (.lst ws)) : bfF .len [.ref k] hp = some (.int ws.length, hp) := by
  show (itemsOf hp (.ref k)).map _ = _
  unfold itemsOf
  simp only [h]
  rfl
theorem items_ref {k : Nat} (h : hp[k]? = some (.lst ws)) : itemsOf hp (.ref k) = some ws := by
  unfold itemsOf
  simp only [h]
theorem sub_ref {k : Nat} {i : Int} (h : hp[k]? = some (.lst ws)) : subF (.ref k) (.int i) hp = (atI ws i).map fun w => (w, hp) := by
  unfold subF
  simp only [h]
theorem sub_fref {k : Nat} {i : Int} (h : hp[k]? = some (.flst ws)) : subF (.ref k) (.int i) hp = (atI ws i).map fun w => (w, hp) := by
  unfold subF
  simp only [h]
theorem set_ref {k : Nat} {i : Int} {v : W} (h : hp[k]? = some (.lst ws)) : setF (.ref k) (.int i) v hp = (ixN ws.length i).map fun j => hp.set k (.lst (ws.set j v)) := by
  unfold setF
  simp only [h]
theorem all_ref {k : Nat} {bs : List Bool} (h : hp[k]? = some (.lst ws)) (h2 : boolsOf ws = some bs) : bfF .all [.ref k] hp = some (.bl (bs.all id), hp) := by
  unfold bfF
  simp only [h, h2]
  rfl
theorem bools_map {α : Type} (l : List α) (f : α → Bool) : boolsOf (l.map fun x => .bl (f x)) = some (l.map f) := by
  induction l with
  | nil => rfl
  | cons x l ih =>
    show (boolsOf (l.map fun x => .bl (f x))).map (f x :: ·) = _
    rw [ih]
    rfl
theorem bools_true : ∀ (l : List W), (∀ w ∈ l, w = .bl true) → ∃ bs, boolsOf l = some bs ∧ bs.all id = true
  | [], _ => ⟨[], rfl, rfl⟩
  | w :: l, h => by
    obtain ⟨bs, e, q⟩ := bools_true l fun w hw => h w (List.mem_cons_of_mem _ hw)
    obtain rfl := h w (List.mem_cons_self ..)
    refine ⟨true :: bs, ?_, by simpa using q⟩
    show (boolsOf l).map (true :: ·) = _
    rw [e]
    rfl
@[simp] theorem set_last {o p : IO} : (hp ++ [o]).set hp.length p = hp ++ [p] := by
  rw [List.set_append_right _ _ (Nat.le_refl _), Nat.sub_self]
  rfl
@[simp] theorem get_last {o : IO} : (hp ++ [o])[hp.length]? = some o := by
  rw [List.getElem?_append_right (Nat.le_refl _), Nat.sub_self]
  rfl
theorem bin_pow {e : Nat} (h1 : e ≤ 1000000) (h2 : i.natAbs < 2 ^ 64) : binF .Pow (.int i) (.int (e : Int)) hp = some (.int (i ^ e), hp) := by
  show (if 0 ≤ (e : Int) ∧ (e : Int) ≤ 1000000 ∧ i.natAbs < 2 ^ 64 then _ else none) = _
  rw [if_pos ⟨by omega, by omega, h2⟩]
  rfl
@[simp] theorem iterOf_tup : iterOf (.tup ws) hp = some (.tupR ws) := rfl
@[simp] theorem iterOf_fr : iterOf (frW r) hp = some (.tupR [.int r.num, .int r.den]) := rfl
theorem iterOf_ref {k : Nat} {o : IO} (h : hp[k]? = some o) : iterOf (.ref k) hp = some (.lstR k) := by
  unfold iterOf
  simp only [h]
@[simp] theorem cur_tup {k : Nat} : cur (.tupR ws) k hp = some ws[k]? := rfl
@[simp] theorem itLen_tup : itLen (.tupR ws) hp = ws.length := rfl
@[simp] theorem cur_rng {l : Int} {m k : Nat} : cur (.rng l m) k hp = some (if k < m then some (.int (l + k)) else none) := rfl
@[simp] theorem itLen_rng {l : Int} {m : Nat} : itLen (.rng l m) hp = m := rfl
theorem cur_lst {k i : Nat} (h : hp[k]? = some (.lst ws)) : cur (.lstR k) i hp = some ws[i]? := by
  unfold cur
  simp only [h]
theorem itLen_lst {k : Nat} (h : hp[k]? = some (.lst ws)) : itLen (.lstR k) hp = ws.length := by
  unfold itLen
  simp only [h]
@[simp] theorem bf_tInt : bfF .tInt [.int i] hp = some (.int i, hp) := rfl
@[simp] theorem bin_add : binF .Add (.int i) (.int j) hp = some (.int (i + j), hp) := rfl
@[simp] theorem bin_sub : binF .Sub (.int i) (.int j) hp = some (.int (i - j), hp) := rfl
theorem bin_mul (h : mulOk i j = true) : binF .Mult (.int i) (.int j) hp = some (.int (i * j), hp) := by
  show (if mulOk i j = true then _ else none) = _
  rw [if_pos h]
theorem bin_div (h : 0 < j) (h2 : Builtin.divisionGoesByPylong i j = false) : binF .FloorDiv (.int i) (.int j) hp = some (.int (i / j), hp) := by
  show (if 0 < j ∧ Builtin.divisionGoesByPylong i j = false then _ else none) = _
  rw [if_pos ⟨h, h2⟩]
theorem bin_mod (h : 0 < j) : binF .Mod (.int i) (.int j) hp = some (.int (i % j), hp) := by
  show (if 0 < j then _ else none) = _
  rw [if_pos h]
theorem bf_divmod (h : 0 < j) (h2 : Builtin.divisionGoesByPylong i j = false) : bfF .divmod [.int i, .int j] hp = some (.tup [.int (i / j), .int (i % j)], hp) := by
  show (if 0 < j ∧ Builtin.divisionGoesByPylong i j = false then _ else none) = _
  rw [if_pos ⟨h, h2⟩]
@[simp] theorem cmp_lt : cmpB .Lt (.int i) (.int j) hp = some (decide (i < j)) := rfl
@[simp] theorem cmp_le : cmpB .LtE (.int i) (.int j) hp = some (decide (i ≤ j)) := rfl
@[simp] theorem cmp_gt : cmpB .Gt (.int i) (.int j) hp = some (decide (j < i)) := rfl
@[simp] theorem cmp_ge : cmpB .GtE (.int i) (.int j) hp = some (decide (j ≤ i)) := rfl
@[simp] theorem cmp_eq {x y : W} : cmpB .Eq x y hp = eqF x y hp := rfl
@[simp] theorem cmp_ne {x y : W} : cmpB .NotEq x y hp = (eqF x y hp).map not := rfl
@[simp] theorem cmpF_eq {op : CmpOp} {x y : W} : cmpF op x y hp = (cmpB op x y hp).map fun c => (.bl c, hp) := rfl
@[simp] theorem bf_isi {w : W} {t : String} (h : okTy t = true) : bfF .isinstance [w, .ty t] hp = (tyName hp w).map fun u => (.bl (isTy u t), hp) := by
  show (if okTy t = true then _ else none) = _
  rw [if_pos h]
@[simp] theorem okTy_int : okTy "int" = true := by decide
@[simp] theorem okTy_bool : okTy "bool" = true := by decide
@[simp] theorem okTy_str : okTy "str" = true := by decide
@[simp] theorem okTy_tuple : okTy "tuple" = true := by decide
@[simp] theorem okTy_list : okTy "list" = true := by decide
@[simp] theorem small2 : 2 ≤ lineLen := by decide
@[simp] theorem small1 : 1 ≤ lineLen := by decide
@[simp] theorem small0 : 0 ≤ lineLen := by decide
@[simp] theorem small3 : 3 ≤ lineLen := by decide
@[simp] theorem small4 : 4 ≤ lineLen := by decide
@[simp] theorem small5 : 5 ≤ lineLen := by decide
end
theorem gcd_mod (a b : Int) : Int.gcd b (a % b) = Int.gcd a b := by rw [Int.emod_def, Int.gcd_sub_mul_left_right, Int.gcd_comm]
theorem gcd_abs (a b : Int) : Int.gcd (a.natAbs : Int) b = Int.gcd a b := by
  show Nat.gcd _ _ = Nat.gcd _ _
  rw [Int.natAbs_natCast]
theorem gcd_pos {a b : Int} (h : b ≠ 0) : 0 < (Int.gcd a b : Int) := by exact_mod_cast Int.gcd_pos_of_ne_zero_right a h
theorem B_gcd {k : Nat} {a b : Int} (h : B k b) (hb : b ≠ 0) : B k (Int.gcd a b : Int) := by
  refine h.abs ?_
  rw [Int.natAbs_natCast]
  exact Nat.le_of_dvd (by omega) (Nat.gcd_dvd_right _ _)
/-- what is made of a top and a bottom -/
theorem made_pos {t b : Int} (hb : 0 < b) : W.tup [.int (t / (Int.gcd t b : Int)), .int (b / (Int.gcd t b : Int))] = frW (Rat.divInt t b) := by
  have e : b ≠ 0 := by omega
  unfold frW
  rw [Rat.num_divInt, Rat.den_divInt, if_neg e, Int.sign_eq_one_of_pos hb, Int.one_mul, Int.gcd_comm b t]
  have q : (b.natAbs : Int) = b := Int.natAbs_of_nonneg (by omega)
  rw [Int.natCast_ediv, q]
theorem made_neg {t b : Int} (hb : b < 0) : W.tup [.int ((0 - t) / (Int.gcd (0 - t) (0 - b) : Int)), .int ((0 - b) / (Int.gcd (0 - t) (0 - b) : Int))] = frW (Rat.divInt t b) := by
  rw [made_pos (by omega)]
  congr 1
  rw [Int.zero_sub, Int.zero_sub, Rat.neg_divInt_neg]
/-- two by two the rest is halved -/
theorem euclid {α : Type} (Wl : Nat → Int → Int → α) (done : Int → α) (stop : ∀ n a, 0 ≤ a → Wl (n + 1) a 0 = done a) (step : ∀ n a b, 0 ≤ a → 0 < b → Wl (n + 1) a b = Wl n b (a % b)) :
    ∀ (k n : Nat) (a b : Int), 0 ≤ a → 0 ≤ b → B k b → 2 * k + 2 ≤ n → Wl n a b = done (Int.gcd a b) := by
  have stop' : ∀ (n : Nat) (a : Int), 0 ≤ a → 1 ≤ n → Wl n a 0 = done (Int.gcd a 0) := by
    intro n a ha hn
    obtain ⟨m, rfl⟩ : ∃ m, n = m + 1 := ⟨n - 1, by omega⟩
    have e : (a.natAbs : Int) = a := Int.natAbs_of_nonneg ha
    rw [stop m a ha, Int.gcd_zero_right, e]
  intro k
  induction k with
  | zero =>
    intro n a b ha hb hk hn
    obtain rfl : b = 0 := by
      have : b.natAbs < 1 := hk
      omega
    exact stop' n a ha (by omega)
  | succ k ih =>
    intro n a b ha hb hk hn
    by_cases h0 : b = 0
    · subst h0
      exact stop' n a ha (by omega)
    · have hb' : 0 < b := by omega
      obtain ⟨m, rfl⟩ : ∃ m, n = m + 1 + 1 := ⟨n - 2, by omega⟩
      rw [step (m + 1) a b ha hb']
      have h1 : 0 ≤ a % b := Int.emod_nonneg _ h0
      have h2 : a % b < b := Int.emod_lt_of_pos _ hb'
      have g1 : Int.gcd b (a % b) = Int.gcd a b := gcd_mod a b
      by_cases h3 : a % b = 0
      · rw [h3, stop' (m + 1) b hb (by omega)]
        rw [h3] at g1
        rw [g1]
      · have h4 : 0 < a % b := by omega
        rw [step m b (a % b) hb h4, ih m (a % b) (b % (a % b)) h1 (Int.emod_nonneg _ h3) ?_ (by omega)]
        · have g2 : Int.gcd (a % b) (b % (a % b)) = Int.gcd b (a % b) := gcd_mod b (a % b)
          rw [g2, g1]
        · have h5 : b % (a % b) < a % b := Int.emod_lt_of_pos _ h4
          have h6 : 0 ≤ b % (a % b) := Int.emod_nonneg _ h3
          have h7 : b % (a % b) + (a % b) * (b / (a % b)) = b := Int.emod_add_mul_ediv b (a % b)
          have h8 : 1 ≤ b / (a % b) := by
            refine (Int.le_ediv_iff_mul_le h4).mpr ?_
            omega
          have h9 : a % b ≤ (a % b) * (b / (a % b)) := by
            have := Int.mul_le_mul_of_nonneg_left h8 h1
            omega
          unfold B at *
          have : 2 ^ (k + 1) = 2 * 2 ^ k := by rw [Nat.pow_succ']
          omega
/-- a comprehension's turns, one by one -/
theorem comp_run {elt : IS → IH → Out W} {cond : IS → IH → Out Bool} {t : Tgt} {J : Iter} {D : Nat} {ρ : IS} (hc : ∀ ρ hp, cond ρ hp = .ok true hp) (P : Nat → IH → List W → Prop) (n : Nat) (hn : n < lineLen)
    (step : ∀ i hp acc, i < n → hp[D]? = some (.lst acc) → acc.length = i → P i hp acc → ∃ w ρ' y hp2, cur J i hp = some (some w) ∧ asgT t w ρ = some ρ' ∧ elt ρ' hp = .ok y hp2 ∧ hp2[D]? = some (.lst acc) ∧ P (i + 1) (hp2.set D (.lst (acc ++ [y]))) (acc ++ [y]))
    (stop : ∀ hp acc, P n hp acc → cur J n hp = some none) :
    ∀ (k i : Nat) (hp : IH) (acc : List W), i + k = n → hp[D]? = some (.lst acc) → acc.length = i → P i hp acc → ∃ hp' acc', compL elt cond t J D ρ k i hp = .ok (.ref D) hp' ∧ hp'[D]? = some (.lst acc') ∧ acc'.length = n ∧ P n hp' acc' := by
  intro k
  induction k with
  | zero =>
    intro i hp acc h1 h2 h3 h4
    obtain rfl : i = n := by omega
    refine ⟨hp, acc, ?_, h2, h3, h4⟩
    unfold compL
    rw [stop hp acc h4]
  | succ k ih =>
    intro i hp acc h1 h2 h3 h4
    obtain ⟨w, ρ', y, hp2, e1, e2, e3, e4, e5⟩ := step i hp acc (by omega) h2 h3 h4
    have hD : D < hp2.length := (List.getElem?_eq_some_iff.mp e4).1
    obtain ⟨hp', acc', q1, q2⟩ := ih (i + 1) _ _ (by omega) (List.getElem?_set_self hD) (by rw [List.length_append, h3]; rfl) e5
    refine ⟨hp', acc', ?_, q2⟩
    unfold compL
    rw [e1]
    simp only [e2, hc, e3, e4]
    rw [if_pos (by omega)]
    exact q1
theorem ev_comp {F : FEnv} {a : IE} {t : Tgt} {it : IIt} {c : Option IT} {own : List Nat} {ρ : IS} {hp hp1 : IH} {J : Iter} (h : evIt F it ρ hp = .ok J hp1) :
    ev F (.comp a t it c own) ρ hp = compL (ev F a) (tstO F c) t J hp1.length (wipeI ρ own) (itLen J hp1) 0 (hp1 ++ [.lst []]) := by
  simp only [ev, h, Out.bind_ok]
theorem rng_aux {n : Nat} {hp1 : IH} (c : -(2 ^ 62) ≤ (n : Int) ∧ (n : Int) < 2 ^ 62) : (if -(2 ^ 62) ≤ (n : Int) ∧ (n : Int) < 2 ^ 62 then Out.ok (Iter.rng 0 (n : Int).toNat) hp1 else .stuck) = .ok (.rng 0 n) hp1 := by
  rw [if_pos c, Int.toNat_natCast]
theorem evIt_rng {F : FEnv} {n : Nat} {e : IE} {ρ : IS} {hp hp1 : IH} (h : ev F e ρ hp = .ok (.int (n : Int)) hp1) (c : -(2 ^ 62) ≤ (n : Int) ∧ (n : Int) < 2 ^ 62) : evIt F (.rng e) ρ hp = .ok (.rng 0 n) hp1 := by
  have q : evIt F (.rng e) ρ hp = (ev F e ρ hp).bind fun w hp => match w with
    | .int j => if -(2 ^ 62) ≤ j ∧ j < 2 ^ 62 then .ok (.rng 0 j.toNat) hp else .stuck
    | _ => .stuck := by
    rw [evIt.eq_2]
    try congr 1
  rw [q, h, Out.bind_ok]
  exact rng_aux c
/-- a comprehension whose parts change nothing -/
theorem comp_pure {elt : IS → IH → Out W} {cond : IS → IH → Out Bool} {t : Tgt} {J : Iter} {ρ : IS} {hp : IH} (ws : List W) (f : W → W) (hc : ∀ ρ hp, cond ρ hp = .ok true hp) (hl : ws.length < lineLen)
    (hcur : ∀ acc i, cur J i (hp ++ [.lst acc]) = some ws[i]?) (hstep : ∀ w ∈ ws, ∀ acc, ∃ ρ', asgT t w ρ = some ρ' ∧ elt ρ' (hp ++ [.lst acc]) = .ok (f w) (hp ++ [.lst acc])) :
    compL elt cond t J hp.length ρ ws.length 0 (hp ++ [.lst []]) = .ok (.ref hp.length) (hp ++ [.lst (ws.map f)]) := by
  obtain ⟨hp', acc', q1, _, _, q2, q3⟩ := comp_run (elt := elt) (t := t) (J := J) (D := hp.length) (ρ := ρ) hc (fun i h acc => h = hp ++ [.lst acc] ∧ acc = (ws.take i).map f) ws.length hl
    (fun i h acc hi e1 e2 ⟨e3, e4⟩ => by
      obtain ⟨ρ', a1, a2⟩ := hstep ws[i] (List.getElem_mem hi) acc
      refine ⟨ws[i], ρ', f ws[i], h, ?_, a1, by rw [e3]; exact a2, e1, ?_, ?_⟩
      · rw [e3, hcur, List.getElem?_eq_getElem hi]
      · rw [e3, set_last]
      · rw [e4, List.take_add_one, List.getElem?_eq_getElem hi, List.map_append]
        rfl)
    (fun h acc ⟨e3, _⟩ => by rw [e3, hcur, List.getElem?_eq_none (Nat.le_refl _)]) ws.length 0 (hp ++ [.lst []]) [] (by omega) get_last rfl ⟨rfl, rfl⟩
  rw [q1, q2, q3, List.take_length]
theorem cur_old {hp : IH} {k i : Nat} {ws acc : List W} (h : hp[k]? = some (.lst ws)) : cur (.lstR k) i (hp ++ [.lst acc]) = some ws[i]? :=
  cur_lst (by rw [List.getElem?_append_left (List.getElem?_eq_some_iff.mp h).1]; exact h)
/-- a for's turns, one by one -/
theorem for_run {body : IS → IH → SOut} {t : Tgt} {J : Iter} (P : Nat → IS → IH → Prop) (n : Nat)
    (step : ∀ i ρ hp, i < n → P i ρ hp → ∃ w ρ' ρ2 hp2, cur J i hp = some (some w) ∧ asgT t w ρ = some ρ' ∧ (body ρ' hp = .nx ρ2 hp2 ∨ body ρ' hp = .ct ρ2 hp2) ∧ P (i + 1) ρ2 hp2)
    (stop : ∀ ρ hp, P n ρ hp → cur J n hp = some none) :
    ∀ (k i : Nat) (ρ : IS) (hp : IH), i + k = n → P i ρ hp → ∃ ρ' hp', forL body t J k i ρ hp = .nx ρ' hp' ∧ P n ρ' hp' := by
  intro k
  induction k with
  | zero =>
    intro i ρ hp h1 h4
    obtain rfl : i = n := by omega
    refine ⟨ρ, hp, ?_, h4⟩
    unfold forL
    rw [stop ρ hp h4]
  | succ k ih =>
    intro i ρ hp h1 h4
    obtain ⟨w, ρ', ρ2, hp2, e1, e2, e3, e5⟩ := step i ρ hp (by omega) h4
    obtain ⟨ρ3, hp3, q1, q2⟩ := ih (i + 1) ρ2 hp2 (by omega) e5
    refine ⟨ρ3, hp3, ?_, q2⟩
    unfold forL
    rw [e1]
    rcases e3 with e3 | e3
    · simp only [e2, e3]
      exact q1
    · simp only [e2, e3]
      exact q1
section
variable {F : FEnv} {ρ : IS} {hp h1 h2 : IH} {gas : Nat}
theorem ev_blt1 {f : BF} {c : IE} {w u : W} (h : ev F c ρ hp = .ok w h1) (q : bfF f [w] h1 = some (u, h2)) : ev F (.blt f [c]) ρ hp = .ok u h2 := by
  have e : ev F (.blt f [c]) ρ hp = (evs F [c] ρ hp).bind fun ws hp => .of (bfF f ws hp) := by simp only [ev]
  have e2 : evs F [c] ρ hp = .ok [w] h1 := by
    simp only [evs, h, Out.bind_ok]
  rw [e, e2, Out.bind_ok, q, Out.of_some]
theorem tst_tru {e : IE} {w : W} {b : Bool} (h : ev F e ρ hp = .ok w h1) (q : truth h1 w = some b) : tst F (.tru e) ρ hp = .ok b h1 := by
  have e1 : tst F (.tru e) ρ hp = (ev F e ρ hp).bind fun w hp => match truth hp w with
    | some c => .ok c hp
    | none => .stuck := by
    simp only [tst]
    try congr 1
  rw [e1, h, Out.bind_ok]
  simp only [q]
theorem tst_not {a : IT} {b : Bool} (h : tst F a ρ hp = .ok b h1) : tst F (.not a) ρ hp = .ok (!b) h1 := by
  have e1 : tst F (.not a) ρ hp = (tst F a ρ hp).bind fun c hp => .ok (!c) hp := by simp only [tst]
  rw [e1, h, Out.bind_ok]
theorem tst_or {a b : IT} {c : Bool} (h : tst F a ρ hp = .ok c h1) : tst F (.or a b) ρ hp = if c then .ok true h1 else tst F b ρ h1 := by
  have e1 : tst F (.or a b) ρ hp = (tst F a ρ hp).bind fun c hp => if c then .ok true hp else tst F b ρ hp := by simp only [tst]
  rw [e1, h, Out.bind_ok]
theorem tst_and {a b : IT} {c : Bool} (h : tst F a ρ hp = .ok c h1) : tst F (.and a b) ρ hp = if c then tst F b ρ h1 else .ok false h1 := by
  have e1 : tst F (.and a b) ρ hp = (tst F a ρ hp).bind fun c hp => if c then tst F b ρ hp else .ok false hp := by simp only [tst]
  rw [e1, h, Out.bind_ok]
theorem evS_ite {c : IT} {a b : List IStm} {k : Bool} (h : tst F c ρ hp = .ok k h1) : evS F gas (.ite c a b) ρ hp = if k then evSs F gas a ρ h1 else evSs F gas b ρ h1 := by
  have e1 : evS F gas (.ite c a b) ρ hp = (tst F c ρ hp).then ρ fun k hp => if k then evSs F gas a ρ hp else evSs F gas b ρ hp := by simp only [evS]
  rw [e1, h, Out.then_ok]
theorem evS_pass {c : IT} {a : List IStm} (h : tst F c ρ hp = .ok false h1) : evS F gas (.ite c a []) ρ hp = .nx ρ h1 := by
  rw [evS_ite h, if_neg Bool.false_ne_true]
  simp only [evSs]
theorem evSs_cons {s : IStm} {ss : List IStm} {ρ' : IS} (h : evS F gas s ρ hp = .nx ρ' h1) : evSs F gas (s :: ss) ρ hp = evSs F gas ss ρ' h1 := by
  have e1 : evSs F gas (s :: ss) ρ hp = (evS F gas s ρ hp).seq fun ρ hp => evSs F gas ss ρ hp := by simp only [evSs]
  rw [e1, h, SOut.seq_nx]
theorem evSs_ret {s : IStm} {ss : List IStm} {w : W} (h : evS F gas s ρ hp = .rt w h1) : evSs F gas (s :: ss) ρ hp = .rt w h1 := by
  have e1 : evSs F gas (s :: ss) ρ hp = (evS F gas s ρ hp).seq fun ρ hp => evSs F gas ss ρ hp := by simp only [evSs]
  rw [e1, h, SOut.seq_rt]
theorem evS_ret {e : IE} {w : W} (h : ev F e ρ hp = .ok w h1) : evS F gas (.ret e) ρ hp = .rt w h1 := by
  have e1 : evS F gas (.ret e) ρ hp = (ev F e ρ hp).then ρ fun w hp => .rt w hp := by simp only [evS]
  rw [e1, h, Out.then_ok]
theorem runB_rt {code : List IStm} {n : Nat} {ws : List W} {w : W} (h : evSs F gas code (ws.map some ++ List.replicate (n - ws.length) none) hp = .rt w h1) : runB F gas code n ws hp = .ok w h1 := by
  unfold runB
  rw [h]
end
theorem fin_new {hp hp' : IH} {w : W} (h : bndW hp.length w = false) : fin true hp (.ok w hp') = .ok w hp' := by
  unfold fin
  dsimp only
  split
  · rename_i c
    rw [c.2.1] at h
    cases h
  · rfl
theorem bndW_new {hp : IH} : bndW hp.length (.ref hp.length) = false := by
  unfold bndW
  simp
theorem bf_len_fref {hp : IH} {k : Nat} {ws : List W} (h : hp[k]? = some (.flst ws)) : bfF .len [.ref k] hp = some (.int ws.length, hp) := by
  show (itemsOf hp (.ref k)).map _ = _
  unfold itemsOf
  simp only [h]
  rfl
@[simp] theorem bf_max {hp : IH} {i j : Int} : bfF .max [.int i, .int j] hp = some (.int (if j > i then j else i), hp) := rfl
@[simp] theorem bf_min {hp : IH} {i j : Int} : bfF .min [.int i, .int j] hp = some (.int (if j < i then j else i), hp) := rfl
end Itp

set_option Elab.async false
set_option linter.all false
set_option autoImplicit false
set_option maxRecDepth 100000
set_option maxHeartbeats 4000000
/-! Itp, part P: pots that the laws draw from. -/
namespace Itp
open PySem PySem.Spec PyProof.Rows L2
/-- a pot: what is left of the cell's digits, and the mixed number -/
def Pot (hp : IH) (n : Nat) : Prop := ∃ p0 p1 : Int, hp[n]? = some (.lst [.int p0, .int p1]) ∧ 0 ≤ p0 ∧ 0 ≤ p1 ∧ p1 ≤ 2147483647
def PotS (hp : IH) (n : Nat) (hp' : IH) : Prop := ∃ q0 q1 : Int, hp' = hp.set n (.lst [.int q0, .int q1]) ∧ 0 ≤ q0 ∧ 0 ≤ q1 ∧ q1 ≤ 2147483647
theorem Pot.lt {hp : IH} {n : Nat} (h : Pot hp n) : n < hp.length := by
  obtain ⟨_, _, e, _⟩ := h
  exact (List.getElem?_eq_some_iff.mp e).1
theorem PotS.pot {hp hp' : IH} {n : Nat} (h : PotS hp n hp') (hn : n < hp.length) : Pot hp' n := by
  obtain ⟨q0, q1, rfl, z⟩ := h
  exact ⟨q0, q1, List.getElem?_set_self hn, z⟩
theorem PotS.trans {h1 h2 h3 : IH} {n : Nat} (a : PotS h1 n h2) (b : PotS h2 n h3) : PotS h1 n h3 := by
  obtain ⟨q0, q1, rfl, _⟩ := a
  obtain ⟨r0, r1, rfl, z⟩ := b
  exact ⟨r0, r1, by rw [List.set_set], z⟩
theorem PotS.len {hp hp' : IH} {n : Nat} (h : PotS hp n hp') : hp'.length = hp.length := by
  obtain ⟨_, _, rfl, _⟩ := h
  exact List.length_set ..
theorem PotS.get {hp hp' : IH} {n m : Nat} (h : PotS hp n hp') (hm : m ≠ n) : hp'[m]? = hp[m]? := by
  obtain ⟨_, _, rfl, _⟩ := h
  exact List.getElem?_set_ne (Ne.symm hm)
/-- behind a garbage end -/
theorem PotS.app {hp g hp' : IH} {n : Nat} (h : PotS (hp ++ g) n hp') (hn : n < hp.length) : ∃ hp2, PotS hp n hp2 ∧ hp' = hp2 ++ g := by
  obtain ⟨q0, q1, rfl, z⟩ := h
  exact ⟨_, ⟨q0, q1, rfl, z⟩, by rw [List.set_append_left _ _ hn]⟩
theorem Pot.app {hp g : IH} {n : Nat} (h : Pot hp n) : Pot (hp ++ g) n := by
  obtain ⟨q0, q1, e, z⟩ := h
  exact ⟨q0, q1, by rw [List.getElem?_append_left (List.getElem?_eq_some_iff.mp e).1]; exact e, z⟩
theorem fin_pot {hp hp' g : IH} {n : Nat} {w : W} (h : PotS hp n hp') (hw : bndW hp.length w = true) : fin true hp (.ok w (hp' ++ g)) = .ok w hp' := by
  obtain ⟨q0, q1, rfl, z⟩ := h
  exact fin_set hw (by simp)
theorem fin_pot0 {hp hp' : IH} {n : Nat} {w : W} (h : PotS hp n hp') (hw : bndW hp.length w = true) : fin true hp (.ok w hp') = .ok w hp' := by
  have q := fin_pot (g := []) h hw
  rwa [List.append_nil] at q
theorem PotS.refl {hp : IH} {n : Nat} (P : Pot hp n) : PotS hp n hp := by
  obtain ⟨p0, p1, e, z⟩ := P
  obtain ⟨h1, h2⟩ := (List.getElem?_eq_some_iff.mp e)
  refine ⟨p0, p1, ?_, z⟩
  rw [← h2, List.set_getElem_self]
end Itp

set_option Elab.async false
set_option linter.all false
set_option autoImplicit false
set_option maxRecDepth 100000
set_option maxHeartbeats 4000000
/-! Itp, part T: how operations on texts read; a text is told by the list of its signs. -/
namespace Itp
open PySem PySem.Spec PyProof.Rows L2
abbrev tx (l : List Nat) : W := .str (SX.S l)
section
variable {hp : IH} {a b : List Nat} {i j : Nat}
theorem tx_inj : tx a = tx b ↔ a = b := ⟨fun h => SX.S_inj (W.str.inj h), fun h => by rw [h]⟩
theorem tx_add (h : a.length + b.length ≤ lineLen) : binF .Add (tx a) (tx b) hp = some (tx (a ++ b), hp) := by
  show (if (SX.S a).length + (SX.S b).length ≤ lineLen then some (W.str (SX.S a ++ SX.S b), hp) else none) = _
  rw [SX.S_len, SX.S_len, if_pos h, SX.S_cat]
theorem tx_iadd (h : a.length + b.length ≤ lineLen) : ipF .Add (tx a) (tx b) hp = some (tx (a ++ b), hp) := by
  show (if (SX.S a).length + (SX.S b).length ≤ lineLen then some (W.str (SX.S a ++ SX.S b), hp) else none) = _
  rw [SX.S_len, SX.S_len, if_pos h, SX.S_cat]
theorem tx_len (h : a.length ≤ lineLen) : bfF .len [tx a] hp = some (.int a.length, hp) := by
  show (if (SX.S a).length ≤ lineLen then some (W.int ((SX.S a).length : Int), hp) else none) = _
  rw [SX.S_len, if_pos h]
theorem tx_eq : eqF (tx a) (tx b) hp = some (decide (a = b)) := by
  show some (decide (SX.S a = SX.S b)) = _
  congr 1
  exact decide_eq_decide.mpr ⟨SX.S_inj, fun h => by rw [h]⟩
theorem tx_in {c : Nat} : inF (tx [c]) (tx a) hp = some (decide (c ∈ a)) := by
  show some (!(Builtin.Str.occurrences (SX.S a) (SX.S [c]) 0 (SX.S a).length 1).isEmpty) = _
  congr 1
  have := StrLaws.found_one (SX.S a) c
  simpa using this
theorem tx_sub (h : a.length ≤ lineLen) {c : Nat} (e : a[i]? = some c) : subF (tx a) (.int (i : Int)) hp = some (tx [c], hp) := by
  show (if (SX.S a).length ≤ lineLen then (atI (SX.S a).cps.toList (i : Int)).map fun c => (W.str ⟨#[c]⟩, hp) else none) = _
  rw [SX.S_len, if_pos h]
  have q : atI (SX.S a).cps.toList (i : Int) = some c := atI_nat (by simpa using e)
  rw [q]
  rfl
theorem cut_nn (h : i ≤ j) : cutS (SX.S a) (some (i : Int)) (some (j : Int)) = SX.S ((a.drop i).take (j - i)) := by
  unfold cutS
  rw [HT.sIx_nat, HT.sIx_nat, SX.S_len]
  show (⟨_⟩ : Str) = ⟨_⟩
  congr 1
  congr 1
  show List.take _ (List.drop _ a) = _
  by_cases h1 : i ≤ a.length
  · rw [Nat.min_eq_left h1]
    by_cases h2 : j ≤ a.length
    · rw [Nat.min_eq_left h2]
    · rw [Nat.min_eq_right (by omega), List.take_of_length_le (by simp), List.take_of_length_le (by simp; omega)]
  · have e1 : min i a.length = a.length := by omega
    have e2 : min j a.length = a.length := by omega
    rw [e1, e2, List.drop_of_length_le (Nat.le_refl _), List.drop_of_length_le (show a.length ≤ i by omega)]
    simp
theorem tx_slc (h : a.length ≤ lineLen) (q : i ≤ j) : slcF (tx a) (some (i : Int)) (some (j : Int)) hp = some (tx ((a.drop i).take (j - i)), hp) := by
  show (if (SX.S a).length ≤ lineLen then some (W.str (cutS (SX.S a) (some (i : Int)) (some (j : Int))), hp) else none) = _
  rw [SX.S_len, if_pos h, cut_nn q]
theorem tx_to (h : a.length ≤ lineLen) : slcF (tx a) none (some (j : Int)) hp = some (tx (a.take j), hp) := by
  have e : cutS (SX.S a) none (some (j : Int)) = cutS (SX.S a) (some ((0 : Nat) : Int)) (some (j : Int)) := by
    unfold cutS
    rw [HT.sIx_none, HT.sIx_nat, HT.sIx_nat, Nat.min_eq_left (Nat.zero_le _)]
  show (if (SX.S a).length ≤ lineLen then some (W.str (cutS (SX.S a) none (some (j : Int))), hp) else none) = _
  rw [SX.S_len, if_pos h, e, cut_nn (Nat.zero_le _)]
  simp
theorem tx_from (h : a.length ≤ lineLen) : slcF (tx a) (some (i : Int)) none hp = some (tx (a.drop i), hp) := by
  show (if (SX.S a).length ≤ lineLen then some (W.str (cutS (SX.S a) (some (i : Int)) none), hp) else none) = _
  rw [SX.S_len, if_pos h]
  unfold cutS
  rw [HT.sIx_nat, HT.sIx_none, SX.S_len]
  congr 3
  show (⟨_⟩ : Str) = ⟨_⟩
  congr 1
  congr 1
  show List.take _ (List.drop _ a) = _
  by_cases h1 : i ≤ a.length
  · rw [Nat.min_eq_left h1, List.take_of_length_le (by simp)]
  · rw [Nat.min_eq_right (by omega), List.drop_of_length_le (Nat.le_refl _), List.drop_of_length_le (by omega)]
    simp
theorem tx_cur : cur (.strR (SX.S a)) i hp = some (a[i]?.map fun c => tx [c]) := by
  show some ((SX.S a).cps[i]?.map fun c => W.str ⟨#[c]⟩) = _
  congr 1
  simp
theorem tx_itLen : itLen (.strR (SX.S a)) hp = a.length := by
  show (SX.S a).cps.size = _
  simp
theorem tx_join {ys : List (List Nat)} {ws : List W} {w : W} (hi : itemsOf hp w = some ws) (hs : ws = ys.map tx) (h : (ys.map (·.length)).sum ≤ lineLen) : bmF .join (tx []) [w] hp = some (tx ys.flatten, hp) := by
  have e1 : strsOf ws = some (ys.map SX.S) := by
    rw [hs]
    clear hi hs h
    induction ys with
    | nil => rfl
    | cons y ys ih =>
      show (strsOf (ys.map tx)).map (SX.S y :: ·) = _
      rw [ih]
      rfl
  have e2 : (ys.map SX.S).map (fun x : Str => x.length) = ys.map (·.length) := SX.lens ys
  have e3 : ∀ zs : List (List Nat), TL.joinL [] zs = zs.flatten := by
    intro zs
    induction zs with
    | nil => rfl
    | cons z zs ih =>
      cases zs with
      | nil => simp [TL.joinL]
      | cons y zs =>
        rw [List.flatten_cons, ← ih]
        simp [TL.joinL]
  show (match itemsOf hp w with
    | some ws => match strsOf ws with
      | some ys => if (ys.map (fun x : Str => x.length)).sum + ys.length * (SX.S []).length ≤ lineLen then some (W.str (Txt.join (SX.S []) ys), hp) else none
      | none => none
    | none => none) = _
  rw [hi]
  dsimp only
  rw [e1]
  dsimp only
  have z : (SX.S []).length = 0 := rfl
  rw [e2, z, Nat.mul_zero, Nat.add_zero, if_pos h, SX.join_S, e3]
end
end Itp

set_option Elab.async false
set_option linter.all false
set_option autoImplicit false
set_option maxRecDepth 100000
set_option maxHeartbeats 4000000
/-! Itp, part W: runs that leave what was there as it was, but for a pot; new lists may be left behind. -/
namespace Itp
open PySem PySem.Spec PyProof.Rows L2
/-- all that was there stands as it was; at n (if any) a pot stays one -/
structure Rn (n : Option Nat) (h h' : IH) : Prop where
  le : h.length ≤ h'.length
  keep : ∀ k, k < h.length → n ≠ some k → h'[k]? = h[k]?
  pot : ∀ k, n = some k → Pot h k → Pot h' k
section
variable {n : Option Nat} {h h' h1 h2 h3 g : IH} {k m : Nat} {o p : IO} {w : W} {ws : List W}
theorem Rn.refl : Rn n h h := ⟨Nat.le_refl _, fun _ _ _ => rfl, fun _ _ p => p⟩
theorem Rn.trans (a : Rn n h1 h2) (b : Rn n h2 h3) : Rn n h1 h3 :=
  ⟨Nat.le_trans a.le b.le, fun k hk hn => (b.keep k (Nat.lt_of_lt_of_le hk a.le) hn).trans (a.keep k hk hn), fun k e p => b.pot k e (a.pot k e p)⟩
theorem Rn.app : Rn n h (h ++ g) := ⟨by rw [List.length_append]; omega, fun k hk _ => List.getElem?_append_left hk, fun _ _ p => p.app⟩
theorem Rn.get (r : Rn n h h') (e : h[k]? = some o) (hk : n ≠ some k) : h'[k]? = some o := by
  rw [r.keep k (List.getElem?_eq_some_iff.mp e).1 hk]
  exact e
/-- what is new may be changed -/
theorem Rn.set (r : Rn n h h') (hk : h.length ≤ k) (hn : n ≠ some k) : Rn n h (h'.set k o) := by
  refine ⟨by rw [List.length_set]; exact r.le, fun j hj hq => ?_, fun j e P => ?_⟩
  · rw [List.getElem?_set_ne (by omega)]
    exact r.keep j hj hq
  · obtain ⟨p0, p1, z, q⟩ := r.pot j e P
    refine ⟨p0, p1, ?_, q⟩
    rw [List.getElem?_set_ne (fun z => hn (by rw [z]; exact e))]
    exact z
theorem Rn.of_pots (hm : m < h.length) (s : PotS h m h') : Rn (some m) h h' :=
  ⟨by rw [s.len]; exact Nat.le_refl _, fun k _ hn => s.get fun z => hn (by rw [z]), fun k e _ => by cases e; exact s.pot hm⟩
theorem Rn.some (r : Rn none h h') : Rn n h h' := ⟨r.le, fun k hk _ => r.keep k hk (fun z => nomatch z), fun k _ P => by
  obtain ⟨p0, p1, e, z⟩ := P
  exact ⟨p0, p1, r.get e (fun z => nomatch z), z⟩⟩
theorem ne_new (P : ∀ k, n = some k → k < h.length) : n ≠ some h.length := fun e => absurd (P _ e) (Nat.lt_irrefl _)
/-! at a return -/
theorem fin_W (r : Rn n h h') : ∃ h2, fin true h (.ok w h') = .ok w h2 ∧ Rn n h h2 := by
  unfold fin
  dsimp only
  split
  · refine ⟨_, rfl, by rw [List.length_take]; have := r.le; omega, fun k hk hn => ?_, fun k e P => ?_⟩
    · rw [List.getElem?_take, if_pos hk]
      exact r.keep k hk hn
    · obtain ⟨p0, p1, z, q⟩ := r.pot k e P
      have hk := (List.getElem?_eq_some_iff.mp (r.pot k e P).choose_spec.choose_spec.1).1
      have hk2 : k < h.length := P.lt
      refine ⟨p0, p1, ?_, q⟩
      rw [List.getElem?_take, if_pos hk2]
      exact z
  · exact ⟨_, rfl, r⟩
theorem bnd_new (hk : h.length ≤ k) : bndW h.length (.ref k) = false := by
  unfold bndW
  exact decide_eq_false (by omega)
end
section
variable {n : Option Nat} {F : FEnv} {ρ : IS} {hp h1 h2 : IH} {gas : Nat}
/-- a comprehension's turns -/
theorem comp_inv {elt : IS → IH → Out W} {cond : IS → IH → Out Bool} {t : Tgt} {J : Iter} {D : Nat} {h0 : IH} (N : Nat) (I : Nat → List W → Prop) (hN : N < lineLen) (hD : h0.length ≤ D) (hn : n ≠ some D)
    (step : ∀ i h acc, i < N → Rn n h0 h → h[D]? = some (.lst acc) → I i acc → ∃ w ρ' b h1, cur J i h = some (some w) ∧ asgT t w ρ = some ρ' ∧ cond ρ' h = .ok b h1 ∧ Rn n h h1 ∧
      (b = true → ∃ y h2, elt ρ' h1 = .ok y h2 ∧ Rn n h1 h2 ∧ I (i + 1) (acc ++ [y])) ∧ (b = false → I (i + 1) acc))
    (stop : ∀ h, Rn n h0 h → cur J N h = some none) :
    ∀ (k i : Nat) (h : IH) (acc : List W), i + k = N → Rn n h0 h → h[D]? = some (.lst acc) → acc.length ≤ i → I i acc → ∃ h' acc', compL elt cond t J D ρ k i h = .ok (.ref D) h' ∧ Rn n h0 h' ∧ h'[D]? = some (.lst acc') ∧ acc'.length ≤ N ∧ I N acc' := by
  intro k
  induction k with
  | zero =>
    intro i h acc e1 r e2 e3 e4
    obtain rfl : i = N := by omega
    refine ⟨h, acc, ?_, r, e2, e3, e4⟩
    unfold compL
    rw [stop h r]
  | succ k ih =>
    intro i h acc e1 r e2 e3 e4
    obtain ⟨w, ρ', b, h1, c1, c2, c3, c4, c5, c6⟩ := step i h acc (by omega) r e2 e4
    unfold compL
    rw [c1]
    simp only [c2, c3]
    cases b with
    | true =>
      obtain ⟨y, h2, d1, d2, d3⟩ := c5 rfl
      have e5 := d2.get (c4.get e2 hn) hn
      simp only [d1, e5]
      rw [if_pos (by omega)]
      have hl := (List.getElem?_eq_some_iff.mp e5).1
      exact ih (i + 1) _ _ (by omega) (((r.trans c4).trans d2).set hD hn) (List.getElem?_set_self hl) (by simp; omega) d3
    | false =>
      simp only []
      exact ih (i + 1) _ _ (by omega) (r.trans c4) (c4.get e2 hn) (by omega) (c6 rfl)
theorem ev_comp_W {a : IE} {t : Tgt} {it : IIt} {c : Option IT} {own : List Nat} {J : Iter} (N : Nat) (I : Nat → List W → Prop) (hit : evIt F it ρ hp = .ok J h1) (r1 : Rn n hp h1) (hJ : itLen J h1 = N) (hN : N < lineLen) (hn : n ≠ some h1.length) (h0 : I 0 [])
    (step : ∀ i h acc, i < N → Rn n h1 h → h[h1.length]? = some (.lst acc) → I i acc → ∃ w ρ' b h2, cur J i h = some (some w) ∧ asgT t w (wipeI ρ own) = some ρ' ∧ tstO F c ρ' h = .ok b h2 ∧ Rn n h h2 ∧
      (b = true → ∃ y h3, ev F a ρ' h2 = .ok y h3 ∧ Rn n h2 h3 ∧ I (i + 1) (acc ++ [y])) ∧ (b = false → I (i + 1) acc))
    (stop : ∀ h, Rn n h1 h → cur J N h = some none) :
    ∃ h' ys, ev F (.comp a t it c own) ρ hp = .ok (.ref h1.length) h' ∧ Rn n hp h' ∧ h1.length < h'.length ∧ h'[h1.length]? = some (.lst ys) ∧ ys.length ≤ N ∧ I N ys := by
  rw [ev_comp hit, hJ]
  obtain ⟨h', ys, e1, r2, e2, e3, e4⟩ := comp_inv (n := n) (h0 := h1) (D := h1.length) (elt := ev F a) (cond := tstO F c) (t := t) (J := J) (ρ := wipeI ρ own) N I hN (Nat.le_refl _) hn step stop N 0 (h1 ++ [.lst []]) [] (by omega) Rn.app get_last (Nat.le_refl _) h0
  exact ⟨h', ys, e1, r1.trans r2, (List.getElem?_eq_some_iff.mp e2).1, e2, e3, e4⟩
theorem tstO_none {h : IH} : tstO F none ρ h = .ok true h := by simp only [tstO]
/-- a while's turns: M falls -/
theorem whl_run {c : IS → IH → Out Bool} {body : IS → IH → SOut} (P : Nat → IS → IH → Prop) (Z : SOut → Prop)
    (step : ∀ m ρ hp, P m ρ hp → ∃ b h1, c ρ hp = .ok b h1 ∧ (b = false → Z (.nx ρ h1)) ∧ (b = true → (∃ ρ2 h2 m2, (body ρ h1 = .nx ρ2 h2 ∨ body ρ h1 = .ct ρ2 h2) ∧ m2 < m ∧ P m2 ρ2 h2) ∨ (∃ w h2, body ρ h1 = .rt w h2 ∧ Z (.rt w h2)) ∨ (∃ ρ2 h2, body ρ h1 = .bk ρ2 h2 ∧ Z (.nx ρ2 h2)))) :
    ∀ (gas m : Nat) (ρ : IS) (hp : IH), m < gas → P m ρ hp → ∃ o, whlL c body gas ρ hp = o ∧ Z o := by
  intro gas
  induction gas with
  | zero => intro m ρ hp h; omega
  | succ gas ih =>
    intro m ρ hp h p
    obtain ⟨b, h1, e1, e2, e3⟩ := step m ρ hp p
    refine ⟨_, rfl, ?_⟩
    unfold whlL
    rw [e1, Out.then_ok]
    cases b with
    | false => exact e2 rfl
    | true =>
      rw [if_pos rfl]
      rcases e3 rfl with ⟨ρ2, h2, m2, q, lt, p2⟩ | ⟨w, h2, q, z⟩ | ⟨ρ2, h2, q, z⟩
      · obtain ⟨o, eo, z⟩ := ih m2 ρ2 h2 (by omega) p2
        rcases q with q | q
        · rw [q]; rw [← eo] at z; exact z
        · rw [q]; rw [← eo] at z; exact z
      · rw [q]; exact z
      · rw [q]; exact z
theorem evS_whl {c : IT} {body : List IStm} : evS F gas (.whl c body) ρ hp = whlL (tst F c) (evSs F gas body) gas ρ hp := by simp only [evS]
theorem evS_for {t : Tgt} {it : IIt} {body : List IStm} {J : Iter} (h : evIt F it ρ hp = .ok J h1) : evS F gas (.forS t it body) ρ hp = forL (evSs F gas body) t J (itLen J h1) 0 ρ h1 := by
  have e1 : evS F gas (.forS t it body) ρ hp = (evIt F it ρ hp).then ρ fun J hp => forL (evSs F gas body) t J (itLen J hp) 0 ρ hp := by simp only [evS]
  rw [e1, h, Out.then_ok]
theorem runB_nx {code : List IStm} {n : Nat} {ws : List W} {ρ' : IS} (h : evSs F gas code (ws.map some ++ List.replicate (n - ws.length) none) hp = .nx ρ' h1) : runB F gas code n ws hp = .ok .non h1 := by
  unfold runB
  rw [h]
theorem evSs_app : ∀ (a b : List IStm) (ρ : IS) (hp : IH), evSs F gas (a ++ b) ρ hp = (evSs F gas a ρ hp).seq fun ρ hp => evSs F gas b ρ hp
  | [], b, ρ, hp => by simp only [List.nil_append, evSs, SOut.seq_nx]
  | s :: a, b, ρ, hp => by
    rw [List.cons_append]
    simp only [evSs]
    generalize evS F gas s ρ hp = z
    cases z with
    | nx ρ1 h1 => simp only [SOut.seq_nx]; exact evSs_app a b ρ1 h1
    | rt w h1 => rfl
    | bk ρ1 h1 => rfl
    | ct ρ1 h1 => rfl
    | err c fs ρ1 h1 => rfl
    | stuck => rfl
end
end Itp

set_option Elab.async false
set_option linter.all false
set_option autoImplicit false
set_option maxRecDepth 100000
set_option maxHeartbeats 4000000
/-! Itp, part V: comprehensions over lists that are told by plain data; all, any of them. -/
namespace Itp
open PySem PySem.Spec PyProof.Rows L2
section
variable {α : Type} {F : FEnv} {ρ : IS} {hp h1 : IH}
/-- with an if -/
theorem comp_fil {elt : IS → IH → Out W} {cond : IS → IH → Out Bool} {t : Tgt} {J : Iter} (xs : List α) (inj : α → W) (p : α → Bool) (f : α → W) (hl : xs.length < lineLen)
    (hcur : ∀ acc i, cur J i (hp ++ [.lst acc]) = some (xs[i]?.map inj))
    (hstep : ∀ x ∈ xs, ∀ acc, ∃ ρ', asgT t (inj x) ρ = some ρ' ∧ cond ρ' (hp ++ [.lst acc]) = .ok (p x) (hp ++ [.lst acc]) ∧ (p x = true → elt ρ' (hp ++ [.lst acc]) = .ok (f x) (hp ++ [.lst acc]))) :
    compL elt cond t J hp.length ρ xs.length 0 (hp ++ [.lst []]) = .ok (.ref hp.length) (hp ++ [.lst ((xs.filter p).map f)]) := by
  have key : ∀ (k i : Nat) (acc : List W), i + k = xs.length → acc = ((xs.take i).filter p).map f → compL elt cond t J hp.length ρ k i (hp ++ [.lst acc]) = .ok (.ref hp.length) (hp ++ [.lst ((xs.filter p).map f)]) := by
    intro k
    induction k with
    | zero =>
      intro i acc e1 e2
      unfold compL
      rw [hcur, List.getElem?_eq_none (by omega), Option.map_none]
      rw [e2, List.take_of_length_le (by omega)]
    | succ k ih =>
      intro i acc e1 e2
      have hi : i < xs.length := by omega
      obtain ⟨ρ', a1, a2, a3⟩ := hstep xs[i] (List.getElem_mem hi) acc
      unfold compL
      rw [hcur, List.getElem?_eq_getElem hi, Option.map_some]
      simp only [a1, a2]
      have tk : xs.take (i + 1) = xs.take i ++ [xs[i]] := by rw [List.take_add_one, List.getElem?_eq_getElem hi]; rfl
      cases q : p xs[i] with
      | true =>
        simp only [a3 q, get_last]
        have : acc.length < lineLen := by
          rw [e2, List.length_map]
          have := List.length_filter_le p (xs.take i)
          rw [List.length_take] at this
          omega
        rw [if_pos this, set_last]
        refine ih (i + 1) _ (by omega) ?_
        rw [tk, List.filter_append, List.map_append, ← e2]
        simp [q]
      | false =>
        simp only []
        refine ih (i + 1) _ (by omega) ?_
        rw [tk, List.filter_append, List.map_append, ← e2]
        simp [q]
  exact key xs.length 0 [] (by omega) rfl
theorem comp_xs {elt : IS → IH → Out W} {t : Tgt} {J : Iter} (xs : List α) (inj : α → W) (f : α → W) (hl : xs.length < lineLen)
    (hcur : ∀ acc i, cur J i (hp ++ [.lst acc]) = some (xs[i]?.map inj))
    (hstep : ∀ x ∈ xs, ∀ acc, ∃ ρ', asgT t (inj x) ρ = some ρ' ∧ elt ρ' (hp ++ [.lst acc]) = .ok (f x) (hp ++ [.lst acc])) :
    compL elt (tstO F none) t J hp.length ρ xs.length 0 (hp ++ [.lst []]) = .ok (.ref hp.length) (hp ++ [.lst (xs.map f)]) := by
  have h := comp_fil (cond := tstO F none) (elt := elt) (t := t) (J := J) (ρ := ρ) (hp := hp) xs inj (fun _ => true) f hl hcur fun x hx acc => by
    obtain ⟨ρ', a, b⟩ := hstep x hx acc
    exact ⟨ρ', a, tstO_none, fun _ => b⟩
  rw [List.filter_eq_self.mpr (fun _ _ => rfl)] at h
  exact h
theorem bools_xs (xs : List α) (p : α → Bool) : boolsOf (xs.map fun x => .bl (p x)) = some (xs.map p) := bools_map xs p
theorem ev_comp_xs {e : IE} {t : Tgt} {it : IIt} {own : List Nat} {J : Iter} (xs : List α) (inj : α → W) (f : α → W) (hit : evIt F it ρ hp = .ok J h1) (hJ : itLen J h1 = xs.length) (hl : xs.length < lineLen)
    (hcur : ∀ acc i, cur J i (h1 ++ [.lst acc]) = some (xs[i]?.map inj))
    (hstep : ∀ x ∈ xs, ∀ acc, ∃ ρ', asgT t (inj x) (wipeI ρ own) = some ρ' ∧ ev F e ρ' (h1 ++ [.lst acc]) = .ok (f x) (h1 ++ [.lst acc])) :
    ev F (.comp e t it none own) ρ hp = .ok (.ref h1.length) (h1 ++ [.lst (xs.map f)]) := by
  rw [ev_comp hit, hJ]
  exact comp_xs xs inj f hl hcur hstep
theorem ev_comp_fil {e : IE} {t : Tgt} {it : IIt} {c : IT} {own : List Nat} {J : Iter} (xs : List α) (inj : α → W) (p : α → Bool) (f : α → W) (hit : evIt F it ρ hp = .ok J h1) (hJ : itLen J h1 = xs.length) (hl : xs.length < lineLen)
    (hcur : ∀ acc i, cur J i (h1 ++ [.lst acc]) = some (xs[i]?.map inj))
    (hstep : ∀ x ∈ xs, ∀ acc, ∃ ρ', asgT t (inj x) (wipeI ρ own) = some ρ' ∧ tst F c ρ' (h1 ++ [.lst acc]) = .ok (p x) (h1 ++ [.lst acc]) ∧ (p x = true → ev F e ρ' (h1 ++ [.lst acc]) = .ok (f x) (h1 ++ [.lst acc]))) :
    ev F (.comp e t it (some c) own) ρ hp = .ok (.ref h1.length) (h1 ++ [.lst ((xs.filter p).map f)]) := by
  rw [ev_comp hit, hJ]
  refine comp_fil xs inj p f hl hcur fun x hx acc => ?_
  obtain ⟨ρ', a, b, c⟩ := hstep x hx acc
  exact ⟨ρ', a, by simp only [tstO]; exact b, c⟩
/-- all([..]) -/
theorem ev_all_xs {e : IE} {t : Tgt} {it : IIt} {own : List Nat} {J : Iter} (xs : List α) (inj : α → W) (p : α → Bool) (hit : evIt F it ρ hp = .ok J h1) (hJ : itLen J h1 = xs.length) (hl : xs.length < lineLen)
    (hcur : ∀ acc i, cur J i (h1 ++ [.lst acc]) = some (xs[i]?.map inj))
    (hstep : ∀ x ∈ xs, ∀ acc, ∃ ρ', asgT t (inj x) (wipeI ρ own) = some ρ' ∧ ev F e ρ' (h1 ++ [.lst acc]) = .ok (.bl (p x)) (h1 ++ [.lst acc])) :
    ev F (.blt .all [.comp e t it none own]) ρ hp = .ok (.bl (xs.all p)) (h1 ++ [.lst (xs.map fun x => .bl (p x))]) := by
  have c := ev_comp_xs xs inj (fun x => .bl (p x)) hit hJ hl hcur hstep
  have b := all_ref (hp := h1 ++ [.lst (xs.map fun x => .bl (p x))]) (k := h1.length) get_last (bools_xs xs p)
  rw [List.all_map] at b
  exact ev_blt1 c b
/-- what a text is walked as -/
theorem it_text {v : Nat} {a : List Nat} (hρ : ρ[v]? = some (some (tx a))) : evIt F (.val (.var v)) ρ hp = .ok (.strR (SX.S a)) hp := by
  simp only [evIt, ev, hρ, Out.bind_ok]
  rfl
theorem cur_text {a : List Nat} {i : Nat} {h : IH} : cur (.strR (SX.S a)) i h = some (a[i]?.map fun c => tx [c]) := tx_cur
/-- all([.. for sign in text]) -/
theorem ev_all_text {e : IE} {v j : Nat} (a : List Nat) (p : Nat → Bool) (hρ : ρ[v]? = some (some (tx a))) (hl : a.length < lineLen) (he : ∀ c ∈ a, ∀ h, ev F e ((wipeI ρ [j]).set j (some (tx [c]))) h = .ok (.bl (p c)) h) :
    ev F (.blt .all [.comp e (.name j) (.val (.var v)) none [j]]) ρ hp = .ok (.bl (a.all p)) (hp ++ [.lst (a.map fun c => .bl (p c))]) :=
  ev_all_xs a (fun c => tx [c]) p (it_text hρ) tx_itLen hl (fun acc i => tx_cur) fun c hc acc => ⟨_, rfl, he c hc _⟩
/-- what is walked of a list -/
theorem it_list {v k : Nat} {ws : List W} (hρ : ρ[v]? = some (some (.ref k))) (hk : hp[k]? = some (.lst ws)) : evIt F (.val (.var v)) ρ hp = .ok (.lstR k) hp := by
  simp only [evIt, ev, hρ, Out.bind_ok, iterOf_ref hk]
theorem cur_list {k i : Nat} {xs : List α} {inj : α → W} {acc : List W} (hk : hp[k]? = some (.lst (xs.map inj))) : cur (.lstR k) i (hp ++ [.lst acc]) = some (xs[i]?.map inj) := by
  rw [cur_old hk, List.getElem?_map]
theorem it_enum {v k : Nat} {ws : List W} (hρ : ρ[v]? = some (some (.ref k))) (hk : hp[k]? = some (.lst ws)) : evIt F (.enum (.var v)) ρ hp = .ok (.enum (.lstR k)) hp := by
  simp only [evIt, ev, hρ, Out.bind_ok, iterE, hk]
theorem it_zip {v u k l : Nat} {ws us : List W} (hρ : ρ[v]? = some (some (.ref k))) (hk : hp[k]? = some (.lst ws)) (hρ2 : ρ[u]? = some (some (.ref l))) (hk2 : hp[l]? = some (.lst us)) : evIt F (.zip (.var v) (.var u)) ρ hp = .ok (.zip (.lstR k) (.lstR l)) hp := by
  simp only [evIt, ev, hρ, hρ2, Out.bind_ok, iterZ, hk, hk2]
end
end Itp

set_option Elab.async false
set_option linter.all false
set_option autoImplicit false
set_option maxRecDepth 100000
set_option maxHeartbeats 4000000
/-! Itp, part U: == of lists of numbers, of lists of texts; ends of texts. -/
namespace Itp
open PySem PySem.Spec PyProof.Rows L2
section
variable {hp : IH} {k m n : Nat}
theorem some_ints (n : Nat) : ∀ xs : List Int, allSome (dat hp (n + 1)) (xs.map .int) = some (xs.map .int)
  | [] => rfl
  | x :: xs => by rw [List.map_cons, allSome_cons, some_ints n xs]; rfl
theorem some_txts (n : Nat) : ∀ xs : List (List Nat), allSome (dat hp (n + 1)) (xs.map tx) = some (xs.map fun x => .str (SX.S x))
  | [] => rfl
  | x :: xs => by rw [List.map_cons, allSome_cons, some_txts n xs]; rfl
theorem eqv_ints : ∀ xs ys : List Int, PyData.eqvAll (xs.map .int) (ys.map .int) = decide (xs = ys)
  | [], [] => rfl
  | [], y :: ys => rfl
  | x :: xs, [] => rfl
  | x :: xs, y :: ys => by
    show (x == y && PyData.eqvAll (xs.map .int) (ys.map .int)) = _
    rw [eqv_ints xs ys, Bool.eq_iff_iff]
    simp
theorem eqv_txts : ∀ xs ys : List (List Nat), PyData.eqvAll (xs.map fun x => .str (SX.S x)) (ys.map fun x => .str (SX.S x)) = decide (xs = ys)
  | [], [] => rfl
  | [], y :: ys => rfl
  | x :: xs, [] => rfl
  | x :: xs, y :: ys => by
    show (SX.S x == SX.S y && PyData.eqvAll (xs.map fun x => .str (SX.S x)) (ys.map fun x => .str (SX.S x))) = _
    rw [eqv_txts xs ys, SX.S_beq, Bool.eq_iff_iff]
    simp
theorem shaped_ints (xs : List Int) : SeqAt.shaped (.list (xs.map .int)) = true := by
  have a : ∀ xs : List Int, PyData.canLayAll0 (xs.map .int) = true ∧ PyData.depthAll (xs.map .int) = 0 := by
    intro xs
    induction xs with
    | nil => exact ⟨rfl, rfl⟩
    | cons x xs ih =>
      refine ⟨?_, ?_⟩
      · show (true && PyData.canLayAll0 (xs.map .int)) = true
        rw [ih.1]; rfl
      · show max 0 (PyData.depthAll (xs.map .int)) = 0
        rw [ih.2]; rfl
  obtain ⟨h1, h2⟩ := a xs
  show (PyData.canLayAll0 (xs.map .int) && decide (PyData.depthAll (xs.map .int) + 1 ≤ 64)) = true
  rw [h1, h2]
  rfl
theorem shaped_txts (xs : List (List Nat)) (h : ∀ x ∈ xs, ∀ c ∈ x, c < 1114112) : SeqAt.shaped (.list (xs.map fun x => .str (SX.S x))) = true := by
  have a : ∀ xs : List (List Nat), (∀ x ∈ xs, ∀ c ∈ x, c < 1114112) → PyData.canLayAll0 (xs.map fun x => .str (SX.S x)) = true ∧ PyData.depthAll (xs.map fun x => .str (SX.S x)) = 0 := by
    intro xs
    induction xs with
    | nil => exact fun _ => ⟨rfl, rfl⟩
    | cons x xs ih =>
      intro h
      obtain ⟨i1, i2⟩ := ih fun y hy => h y (List.mem_cons_of_mem _ hy)
      refine ⟨?_, ?_⟩
      · show (PyData.strOk (SX.S x) && PyData.canLayAll0 (xs.map fun x => .str (SX.S x))) = true
        rw [i1, Bool.and_true]
        show (SX.S x).cps.all (· < 0x110000) = true
        rw [Array.all_eq_true']
        intro c hc
        exact decide_eq_true (h x (List.mem_cons_self ..) c (by simpa [SX.S] using hc))
      · show max 0 (PyData.depthAll (xs.map fun x => .str (SX.S x))) = 0
        rw [i2]; rfl
  obtain ⟨h1, h2⟩ := a xs h
  show (PyData.canLayAll0 (xs.map fun x => .str (SX.S x)) && decide (PyData.depthAll (xs.map fun x => .str (SX.S x)) + 1 ≤ 64)) = true
  rw [h1, h2]
  rfl
theorem eq_ints {xs ys : List Int} (e1 : hp[k]? = some (.lst (xs.map .int))) (e2 : hp[m]? = some (.lst (ys.map .int))) : eqF (.ref k) (.ref m) hp = some (decide (xs = ys)) := by
  have d1 : dat hp depthMax (.ref k) = some (.list (xs.map .int)) := by
    show dat hp (58 + 1 + 1) (.ref k) = _
    rw [dat_ref e1, some_ints]
    rfl
  have d2 : dat hp depthMax (.ref m) = some (.list (ys.map .int)) := by
    show dat hp (58 + 1 + 1) (.ref m) = _
    rw [dat_ref e2, some_ints]
    rfl
  show (match dat hp depthMax (.ref k), dat hp depthMax (.ref m) with
    | some d, some e => if SeqAt.shaped d = true ∧ SeqAt.shaped e = true then some (PyData.eqv d e) else none
    | _, _ => none) = _
  rw [d1, d2]
  simp only []
  rw [if_pos ⟨shaped_ints _, shaped_ints _⟩]
  show some (PyData.eqvAll _ _) = _
  rw [eqv_ints]
theorem eq_txts {xs ys : List (List Nat)} (e1 : hp[k]? = some (.lst (xs.map tx))) (e2 : hp[m]? = some (.lst (ys.map tx))) (h1 : ∀ x ∈ xs, ∀ c ∈ x, c < 1114112) (h2 : ∀ x ∈ ys, ∀ c ∈ x, c < 1114112) : eqF (.ref k) (.ref m) hp = some (decide (xs = ys)) := by
  have d1 : dat hp depthMax (.ref k) = some (.list (xs.map fun x => .str (SX.S x))) := by
    show dat hp (58 + 1 + 1) (.ref k) = _
    rw [dat_ref e1, some_txts]
    rfl
  have d2 : dat hp depthMax (.ref m) = some (.list (ys.map fun x => .str (SX.S x))) := by
    show dat hp (58 + 1 + 1) (.ref m) = _
    rw [dat_ref e2, some_txts]
    rfl
  show (match dat hp depthMax (.ref k), dat hp depthMax (.ref m) with
    | some d, some e => if SeqAt.shaped d = true ∧ SeqAt.shaped e = true then some (PyData.eqv d e) else none
    | _, _ => none) = _
  rw [d1, d2]
  simp only []
  rw [if_pos ⟨shaped_txts _ h1, shaped_txts _ h2⟩]
  show some (PyData.eqvAll _ _) = _
  rw [eqv_txts]
/-- text[-j:] -/
theorem tx_last {a : List Nat} {j : Nat} (h : a.length ≤ lineLen) (hj : 0 < j) (hl : j ≤ a.length) : slcF (tx a) (some (-(j : Int))) none hp = some (tx (a.drop (a.length - j)), hp) := by
  have e : cutS (SX.S a) (some (-(j : Int))) none = cutS (SX.S a) (some ((a.length - j : Nat) : Int)) none := by
    have s : HT.sIx (SX.S a).length 0 (some (-(j : Int))) = HT.sIx (SX.S a).length 0 (some ((a.length - j : Nat) : Int)) := by
      rw [HT.sIx_nat, SX.S_len, Nat.min_eq_left (by omega)]
      show (if -(j : Int) < 0 then (-(j : Int) + (a.length : Int)).toNat else _) = _
      rw [if_pos (by omega)]
      omega
    unfold cutS
    rw [s]
  have q := tx_from (hp := hp) (a := a) (i := a.length - j) h
  show (if (SX.S a).length ≤ lineLen then some (W.str (cutS (SX.S a) (some (-(j : Int))) none), hp) else none) = _
  rw [e]
  exact q
end
end Itp

set_option Elab.async false
set_option linter.all false
set_option autoImplicit false
set_option maxRecDepth 100000
set_option maxHeartbeats 8000000
namespace K77
open PySem PySem.Spec PyProof.Rows L2 Itp
def topS (i : Nat) : Stmt := PySem.Challenge.pw_paidinfull_k77_whole_frames_and_bursts.main.body.getD i (.Pass ⟨0, 0, 0, 0⟩)
abbrev s__law_pot : Stmt := topS 23
abbrev s_is_sign : Stmt := topS 11
abbrev s_is_body : Stmt := topS 13
abbrev s_number_of : Stmt := topS 12
abbrev s_sums_by : Stmt := topS 14
abbrev s_tail_of : Stmt := topS 15
abbrev s_size_told : Stmt := topS 16
abbrev s_frame_by : Stmt := topS 17
abbrev s_frame : Stmt := topS 20
abbrev s_body_at : Stmt := topS 18
abbrev s_bodies_by : Stmt := topS 19
abbrev s_bodies_of : Stmt := topS 21
abbrev s__law_draw : Stmt := topS 24
abbrev s__law_pick : Stmt := topS 25
abbrev s__law_number : Stmt := topS 27
abbrev s__law_sums : Stmt := topS 28
abbrev s__law_is_frame : Stmt := topS 29
abbrev s__law_bodies : Stmt := topS 30
abbrev s__law_signs : Stmt := topS 26
abbrev s__law_some_body : Stmt := topS 31
abbrev s__law_burst : Stmt := topS 32
abbrev s__law_right : Stmt := topS 33
abbrev s_law : Stmt := topS 34
def glb : List (Str × W) := [("DIGITS", (.str "0123456789")), ("NUMBERED", (.str " !\"#$%&'()*+,-./0123456789:;<=>?@ABCDEFGHIJKLMNOPQRSTUVWXYZ[\\]^_`abcdefghijklmnopqrstuvwxyz{|}~\n")), ("SIZE", (.int 4)), ("TAIL", (.int 4)), ("MOST_BODY", (.int 5000))]
def blt : List Str := ["abs", "all", "divmod", "enumerate", "int", "isinstance", "len", "max", "min", "ord", "range", "str", "zip"]
def fi__law_pot : FI := ⟨"_law_pot", ["script", "k"], [], 1⟩
def fi_is_sign : FI := ⟨"is_sign", ["sign"], [], 2⟩
def fi_is_body : FI := ⟨"is_body", ["value"], [], 3⟩
def fi_number_of : FI := ⟨"number_of", ["sign"], [], 4⟩
def fi_sums_by : FI := ⟨"sums_by", ["signs"], [], 5⟩
def fi_tail_of : FI := ⟨"tail_of", ["body"], [], 6⟩
def fi_size_told : FI := ⟨"size_told", ["size"], [], 7⟩
def fi_frame_by : FI := ⟨"frame_by", ["body"], [], 8⟩
def fi_frame : FI := ⟨"frame", ["body"], [(0, ["body"], [0])], 9⟩
def fi_body_at : FI := ⟨"body_at", ["string", "at"], [], 10⟩
def fi_bodies_by : FI := ⟨"bodies_by", ["string"], [], 11⟩
def fi_bodies_of : FI := ⟨"bodies_of", ["string"], [(0, ["string"], [0])], 12⟩
def fi__law_draw : FI := ⟨"_law_draw", ["pot", "many"], [], 13⟩
def fi__law_pick : FI := ⟨"_law_pick", ["pot", "some"], [], 14⟩
def fi__law_number : FI := ⟨"_law_number", ["sign"], [], 15⟩
def fi__law_sums : FI := ⟨"_law_sums", ["signs"], [], 16⟩
def fi__law_is_frame : FI := ⟨"_law_is_frame", ["whole", "body"], [], 17⟩
def fi__law_bodies : FI := ⟨"_law_bodies", ["string"], [], 18⟩
def fi__law_signs : FI := ⟨"_law_signs", [], [], 19⟩
def fi__law_some_body : FI := ⟨"_law_some_body", ["pot"], [], 20⟩
def fi__law_burst : FI := ⟨"_law_burst", ["pot", "string"], [], 21⟩
def fi__law_right : FI := ⟨"_law_right", ["pot"], [], 22⟩
def fi_law : FI := ⟨"law", ["script"], [], 23⟩
def fis : List FI := [fi__law_pot, fi_is_sign, fi_is_body, fi_number_of, fi_sums_by, fi_tail_of, fi_size_told, fi_frame_by, fi_frame, fi_body_at, fi_bodies_by, fi_bodies_of, fi__law_draw, fi__law_pick, fi__law_number, fi__law_sums, fi__law_is_frame, fi__law_bodies, fi__law_signs, fi__law_some_body, fi__law_burst, fi__law_right, fi_law]
def ctx (N : List Str) (i : Nat) (st : Stmt) : Itp.Ctx := ⟨N, defScope st, true, fis.take i, glb, blt⟩
def c__law_pot : Itp.Ctx := ctx ["script", "k", "cell"] 0 s__law_pot
def c_is_sign : Itp.Ctx := ctx ["sign"] 1 s_is_sign
def c_is_body : Itp.Ctx := ctx ["value", "sign"] 2 s_is_body
def c_number_of : Itp.Ctx := ctx ["sign"] 3 s_number_of
def c_sums_by : Itp.Ctx := ctx ["signs", "found", "at", "sign"] 4 s_sums_by
def c_tail_of : Itp.Ctx := ctx ["body", "sums", "found", "at"] 5 s_tail_of
def c_size_told : Itp.Ctx := ctx ["size", "digits", "digit"] 6 s_size_told
def c_frame_by : Itp.Ctx := ctx ["body"] 7 s_frame_by
def c_frame : Itp.Ctx := ctx ["body"] 8 s_frame
def c_body_at : Itp.Ctx := ctx ["string", "at", "head", "digit", "begin", "size", "signs", "sign", "one"] 9 s_body_at
def c_bodies_by : Itp.Ctx := ctx ["string", "found", "at", "body"] 10 s_bodies_by
def c_bodies_of : Itp.Ctx := ctx ["string", "body", "behind"] 11 s_bodies_of
def c__law_draw : Itp.Ctx := ctx ["pot", "many", "digit"] 12 s__law_draw
def c__law_pick : Itp.Ctx := ctx ["pot", "some"] 13 s__law_pick
def c__law_number : Itp.Ctx := ctx ["sign"] 14 s__law_number
def c__law_sums : Itp.Ctx := ctx ["signs", "found", "at", "sign", "one"] 15 s__law_sums
def c__law_is_frame : Itp.Ctx := ctx ["whole", "body", "digits", "digit", "signs", "sign"] 16 s__law_is_frame
def c__law_bodies : Itp.Ctx := ctx ["string", "found", "at", "head", "digit", "size", "body", "whole"] 17 s__law_bodies
def c__law_signs : Itp.Ctx := ctx ["letters"] 18 s__law_signs
def c__law_some_body : Itp.Ctx := ctx ["pot", "size", "turn"] 19 s__law_some_body
def c__law_burst : Itp.Ctx := ctx ["pot", "string", "many", "at", "found", "sign", "late"] 20 s__law_burst
def c__law_right : Itp.Ctx := ctx ["pot", "bodies", "turn", "frames", "body", "whole", "string", "at", "bent", "ahead", "place", "cut", "odd"] 21 s__law_right
def c_law : Itp.Ctx := ctx ["script", "k"] 22 s_law
def b__law_pot : List IStm :=
  [IStm.asg (STgt.name 2)
        (IE.ite (IT.cmp CmpOp.Lt (IE.var 1) (IE.blt BF.len [IE.var 0])) (IE.blt BF.abs [(IE.var 0).sub (IE.var 1)])
          (IE.bin Operator.Add (IE.bin Operator.Mult (IE.cst (W.int (Int.ofNat 1823))) (IE.var 1))
            (IE.cst (W.int (Int.ofNat 2237))))),
      IStm.ret
        (IE.lst
          [IE.blt BF.max
              [IE.cst (W.int (Int.ofNat 0)),
                IE.bin Operator.Sub (IE.var 2)
                  (IE.bin Operator.Pow (IE.cst (W.int (Int.ofNat 10))) (IE.cst (W.int (Int.ofNat 18))))],
            IE.bin Operator.Add
              (IE.bin Operator.Mod
                (IE.blt BF.tInt
                  [IE.bin Operator.Add
                      (IE.bin Operator.Add
                        (IE.bin Operator.Mult
                          (IE.bin Operator.Mod (IE.blt BF.tInt [IE.var 2]) (IE.cst (W.int (Int.ofNat 2147483549))))
                          (IE.cst (W.int (Int.ofNat 40014))))
                        (IE.bin Operator.Mult (IE.cst (W.int (Int.ofNat 2999))) (IE.var 1)))
                      (IE.cst (W.int (Int.ofNat 4057)))])
                (IE.cst (W.int (Int.ofNat 2147483563))))
              (IE.cst (W.int (Int.ofNat 1)))])]
def b_is_sign : List IStm :=
  [IStm.ret
        (IE.cmp CmpOp.In (IE.var 0)
          (IE.cst
            (W.str
              {
                cps :=
                  {
                    toList :=
                      [32, 33, 34, 35, 36, 37, 38, 39, 40, 41, 42, 43, 44, 45, 46, 47, 48, 49, 50, 51, 52, 53, 54, 55,
                        56, 57, 58, 59, 60, 61, 62, 63, 64, 65, 66, 67, 68, 69, 70, 71, 72, 73, 74, 75, 76, 77, 78, 79,
                        80, 81, 82, 83, 84, 85, 86, 87, 88, 89, 90, 91, 92, 93, 94, 95, 96, 97, 98, 99, 100, 101, 102,
                        103, 104, 105, 106, 107, 108, 109, 110, 111, 112, 113, 114, 115, 116, 117, 118, 119, 120, 121,
                        122, 123, 124, 125, 126, 10] } })))]
def b_is_body : List IStm :=
  [IStm.ret
        ((IE.blt BF.isinstance [IE.var 0, IE.cst (W.ty "str")]).and
          ((IE.chn CmpOp.LtE CmpOp.LtE (IE.cst (W.int (Int.ofNat 1))) (IE.blt BF.len [IE.var 0])
                (IE.cst (W.int (Int.ofNat 5000)))).and
            (IE.blt BF.all [(IE.call 1 [IE.var 1]).comp (Tgt.name 1) (IIt.val (IE.var 0)) none [1]])))]
def b_number_of : List IStm :=
  [IStm.ret
        (IE.meth BM.index
          (IE.cst
            (W.str
              {
                cps :=
                  {
                    toList :=
                      [32, 33, 34, 35, 36, 37, 38, 39, 40, 41, 42, 43, 44, 45, 46, 47, 48, 49, 50, 51, 52, 53, 54, 55,
                        56, 57, 58, 59, 60, 61, 62, 63, 64, 65, 66, 67, 68, 69, 70, 71, 72, 73, 74, 75, 76, 77, 78, 79,
                        80, 81, 82, 83, 84, 85, 86, 87, 88, 89, 90, 91, 92, 93, 94, 95, 96, 97, 98, 99, 100, 101, 102,
                        103, 104, 105, 106, 107, 108, 109, 110, 111, 112, 113, 114, 115, 116, 117, 118, 119, 120, 121,
                        122, 123, 124, 125, 126, 10] } }))
          [IE.var 0])]
def b_sums_by : List IStm :=
  [IStm.asg (STgt.name 1) (IE.bin Operator.Mult (IE.lst [IE.cst (W.int (Int.ofNat 0))]) (IE.cst (W.int (Int.ofNat 4)))),
      IStm.forS (Tgt.tup [Tgt.name 2, Tgt.name 3]) (IIt.enum (IE.var 0))
        [IStm.augS (IE.var 1) (IE.bin Operator.Mod (IE.blt BF.tInt [IE.var 2]) (IE.cst (W.int (Int.ofNat 4))))
            Operator.Add (IE.call 3 [IE.var 3])],
      IStm.ret (IE.var 1)]
def b_tail_of : List IStm :=
  [IStm.asg (STgt.tup [STgt.name 1, STgt.name 2])
        (IE.tup [IE.call 4 [IE.var 0], IE.cst (W.str { cps := { toList := [] } })]),
      IStm.forS (Tgt.name 3)
        (IIt.rng2 (IE.blt BF.len [IE.var 0])
          (IE.bin Operator.Add (IE.blt BF.len [IE.var 0]) (IE.cst (W.int (Int.ofNat 4)))))
        [IStm.augN 2 Operator.Add
            ((IE.cst
                  (W.str
                    {
                      cps :=
                        {
                          toList :=
                            [32, 33, 34, 35, 36, 37, 38, 39, 40, 41, 42, 43, 44, 45, 46, 47, 48, 49, 50, 51, 52, 53, 54,
                              55, 56, 57, 58, 59, 60, 61, 62, 63, 64, 65, 66, 67, 68, 69, 70, 71, 72, 73, 74, 75, 76,
                              77, 78, 79, 80, 81, 82, 83, 84, 85, 86, 87, 88, 89, 90, 91, 92, 93, 94, 95, 96, 97, 98,
                              99, 100, 101, 102, 103, 104, 105, 106, 107, 108, 109, 110, 111, 112, 113, 114, 115, 116,
                              117, 118, 119, 120, 121, 122, 123, 124, 125, 126, 10] } })).sub
              (IE.bin Operator.Mod
                (IE.blt BF.tInt
                  [IE.bin Operator.Sub (IE.cst (W.int (Int.ofNat 0)))
                      ((IE.var 1).sub
                        (IE.bin Operator.Mod (IE.blt BF.tInt [IE.var 3]) (IE.cst (W.int (Int.ofNat 4)))))])
                (IE.blt BF.len
                  [IE.cst
                      (W.str
                        {
                          cps :=
                            {
                              toList :=
                                [32, 33, 34, 35, 36, 37, 38, 39, 40, 41, 42, 43, 44, 45, 46, 47, 48, 49, 50, 51, 52, 53,
                                  54, 55, 56, 57, 58, 59, 60, 61, 62, 63, 64, 65, 66, 67, 68, 69, 70, 71, 72, 73, 74,
                                  75, 76, 77, 78, 79, 80, 81, 82, 83, 84, 85, 86, 87, 88, 89, 90, 91, 92, 93, 94, 95,
                                  96, 97, 98, 99, 100, 101, 102, 103, 104, 105, 106, 107, 108, 109, 110, 111, 112, 113,
                                  114, 115, 116, 117, 118, 119, 120, 121, 122, 123, 124, 125, 126, 10] } })])))],
      IStm.ret (IE.var 2)]
def b_size_told : List IStm :=
  [IStm.asg (STgt.name 1) (IE.blt BF.tStr [IE.var 0]),
      IStm.asg (STgt.name 1)
        (IE.bin Operator.Add
          (IE.bin Operator.Mult (IE.cst (W.str { cps := { toList := [48] } }))
            (IE.bin Operator.Sub (IE.cst (W.int (Int.ofNat 4))) (IE.blt BF.len [IE.var 1])))
          (IE.var 1)),
      IStm.ret
        (IE.bin Operator.Add (IE.var 1)
          (IE.meth BM.join (IE.cst (W.str { cps := { toList := [] } }))
            [(IE.blt BF.tStr [IE.bin Operator.Sub (IE.cst (W.int (Int.ofNat 9))) (IE.blt BF.tInt [IE.var 2])]).comp
                (Tgt.name 2) (IIt.val (IE.var 1)) none [2]]))]
def b_frame_by : List IStm :=
  [IStm.ret
        (IE.bin Operator.Add (IE.bin Operator.Add (IE.call 6 [IE.blt BF.len [IE.var 0]]) (IE.var 0))
          (IE.call 5 [IE.var 0]))]
def b_frame : List IStm :=
  [IStm.ite (IT.tru (IE.call 2 [IE.var 0])).not [IStm.nev] [], IStm.ret (IE.call 7 [IE.var 0])]
def b_body_at : List IStm :=
  [IStm.asg (STgt.name 2)
        ((IE.var 0).slc (some (IE.var 1))
          (some
            (IE.bin Operator.Add (IE.var 1)
              (IE.bin Operator.Mult (IE.cst (W.int (Int.ofNat 2))) (IE.cst (W.int (Int.ofNat 4))))))),
      IStm.ite
        ((IT.cmp CmpOp.Lt (IE.blt BF.len [IE.var 2])
              (IE.bin Operator.Mult (IE.cst (W.int (Int.ofNat 2))) (IE.cst (W.int (Int.ofNat 4))))).or
          ((IT.tru
                  (IE.blt BF.all
                    [(IE.cmp CmpOp.In (IE.var 3)
                            (IE.cst (W.str { cps := { toList := [48, 49, 50, 51, 52, 53, 54, 55, 56, 57] } }))).comp
                        (Tgt.name 3) (IIt.val (IE.var 2)) none [3]])).not.or
            (IT.cmp CmpOp.NotEq (IE.call 6 [IE.blt BF.tInt [(IE.var 2).slc none (some (IE.cst (W.int (Int.ofNat 4))))]])
              (IE.var 2))))
        [IStm.ret (IE.cst W.non)] [],
      IStm.asg (STgt.tup [STgt.name 4, STgt.name 5])
        (IE.tup
          [IE.bin Operator.Add (IE.var 1)
              (IE.bin Operator.Mult (IE.cst (W.int (Int.ofNat 2))) (IE.cst (W.int (Int.ofNat 4)))),
            IE.blt BF.tInt [(IE.var 2).slc none (some (IE.cst (W.int (Int.ofNat 4))))]]),
      IStm.asg (STgt.name 6)
        ((IE.var 0).slc (some (IE.var 4))
          (some (IE.bin Operator.Add (IE.bin Operator.Add (IE.var 4) (IE.var 5)) (IE.cst (W.int (Int.ofNat 4)))))),
      IStm.ite
        ((IT.chn CmpOp.LtE CmpOp.LtE (IE.cst (W.int (Int.ofNat 1))) (IE.var 5) (IE.cst (W.int (Int.ofNat 5000)))).not.or
          ((IT.cmp CmpOp.Lt (IE.blt BF.len [IE.var 6])
                (IE.bin Operator.Add (IE.var 5) (IE.cst (W.int (Int.ofNat 4))))).or
            (IT.tru (IE.blt BF.all [(IE.call 1 [IE.var 7]).comp (Tgt.name 7) (IIt.val (IE.var 6)) none [7]])).not))
        [IStm.ret (IE.cst W.non)] [],
      IStm.ret
        (IE.ite
          (IT.tru
            (IE.blt BF.all
              [(IE.cmp CmpOp.Eq
                      (IE.bin Operator.Mod (IE.blt BF.tInt [IE.var 8])
                        (IE.blt BF.len
                          [IE.cst
                              (W.str
                                {
                                  cps :=
                                    {
                                      toList :=
                                        [32, 33, 34, 35, 36, 37, 38, 39, 40, 41, 42, 43, 44, 45, 46, 47, 48, 49, 50, 51,
                                          52, 53, 54, 55, 56, 57, 58, 59, 60, 61, 62, 63, 64, 65, 66, 67, 68, 69, 70,
                                          71, 72, 73, 74, 75, 76, 77, 78, 79, 80, 81, 82, 83, 84, 85, 86, 87, 88, 89,
                                          90, 91, 92, 93, 94, 95, 96, 97, 98, 99, 100, 101, 102, 103, 104, 105, 106,
                                          107, 108, 109, 110, 111, 112, 113, 114, 115, 116, 117, 118, 119, 120, 121,
                                          122, 123, 124, 125, 126, 10] } })]))
                      (IE.cst (W.int (Int.ofNat 0)))).comp
                  (Tgt.name 8) (IIt.val (IE.call 4 [IE.var 6])) none [8]]))
          ((IE.var 6).slc none (some (IE.var 5))) (IE.cst W.non))]
def b_bodies_by : List IStm :=
  [IStm.asg (STgt.tup [STgt.name 1, STgt.name 2]) (IE.tup [IE.lst [], IE.cst (W.int (Int.ofNat 0))]),
      IStm.asg (STgt.name 3) (IE.call 9 [IE.var 0, IE.cst (W.int (Int.ofNat 0))]),
      IStm.whl (IT.cmp CmpOp.IsNot (IE.var 3) (IE.cst W.non))
        [IStm.augN 2 Operator.Add
            (IE.bin Operator.Add
              (IE.bin Operator.Add (IE.blt BF.len [IE.var 3])
                (IE.bin Operator.Mult (IE.cst (W.int (Int.ofNat 2))) (IE.cst (W.int (Int.ofNat 4)))))
              (IE.cst (W.int (Int.ofNat 4)))),
          IStm.expr (IE.meth BM.append (IE.var 1) [IE.tup [IE.var 3, IE.var 2]]),
          IStm.asg (STgt.name 3) (IE.call 9 [IE.var 0, IE.var 2])],
      IStm.ret (IE.var 1)]
def b_bodies_of : List IStm :=
  [IStm.ite (IT.tru (IE.blt BF.isinstance [IE.var 0, IE.cst (W.ty "str")])).not [IStm.nev] [],
      IStm.ret ((IE.var 1).comp (Tgt.tup [Tgt.name 1, Tgt.name 2]) (IIt.val (IE.call 10 [IE.var 0])) none [1, 2])]
def b__law_draw : List IStm :=
  [IStm.ite (IT.cmp CmpOp.Gt ((IE.var 0).sub (IE.cst (W.int (Int.ofNat 0)))) (IE.cst (W.int (Int.ofNat 0))))
        [IStm.asg (STgt.tup [STgt.sub (IE.var 0) (IE.cst (W.int (Int.ofNat 0))), STgt.name 2])
            (IE.blt BF.divmod [(IE.var 0).sub (IE.cst (W.int (Int.ofNat 0))), IE.var 1]),
          IStm.ret (IE.var 2)]
        [],
      IStm.asg (STgt.sub (IE.var 0) (IE.cst (W.int (Int.ofNat 1))))
        (IE.bin Operator.Mod
          (IE.blt BF.tInt
            [IE.bin Operator.Add
                (IE.bin Operator.Mult ((IE.var 0).sub (IE.cst (W.int (Int.ofNat 1))))
                  (IE.cst (W.int (Int.ofNat 40692))))
                (IE.cst (W.int (Int.ofNat 2999)))])
          (IE.cst (W.int (Int.ofNat 2147483563)))),
      IStm.ret
        (IE.bin Operator.Mod
          (IE.blt BF.tInt
            [IE.bin Operator.FloorDiv
                (IE.bin Operator.Mod
                  (IE.blt BF.tInt
                    [IE.bin Operator.Mult ((IE.var 0).sub (IE.cst (W.int (Int.ofNat 1))))
                        ((IE.var 0).sub (IE.cst (W.int (Int.ofNat 1))))])
                  (IE.cst (W.int (Int.ofNat 2147483549))))
                (IE.cst (W.int (Int.ofNat 19)))])
          (IE.var 1))]
def b__law_pick : List IStm :=
  [IStm.ret ((IE.var 1).sub (IE.call 12 [IE.var 0, IE.blt BF.len [IE.var 1]]))]
def b__law_number : List IStm :=
  [IStm.ret
        (IE.ite (IT.cmp CmpOp.Eq (IE.var 0) (IE.cst (W.str { cps := { toList := [10] } })))
          (IE.cst (W.int (Int.ofNat 95)))
          (IE.bin Operator.Sub (IE.blt BF.ord [IE.var 0]) (IE.cst (W.int (Int.ofNat 32)))))]
def b__law_sums : List IStm :=
  [IStm.asg (STgt.name 1)
        (IE.lst
          [IE.cst (W.int (Int.ofNat 0)), IE.cst (W.int (Int.ofNat 0)), IE.cst (W.int (Int.ofNat 0)),
            IE.cst (W.int (Int.ofNat 0))]),
      IStm.forS (Tgt.tup [Tgt.name 2, Tgt.name 3]) (IIt.enum (IE.var 0))
        [IStm.augS (IE.var 1) (IE.bin Operator.Mod (IE.blt BF.tInt [IE.var 2]) (IE.cst (W.int (Int.ofNat 4))))
            Operator.Add (IE.call 14 [IE.var 3])],
      IStm.ret
        ((IE.bin Operator.Mod (IE.blt BF.tInt [IE.var 4]) (IE.cst (W.int (Int.ofNat 96)))).comp (Tgt.name 4)
          (IIt.val (IE.var 1)) none [4])]
def b__law_is_frame : List IStm :=
  [IStm.asg (STgt.name 2)
        ((IE.bin Operator.Add (IE.cst (W.str { cps := { toList := [48, 48, 48] } }))
              (IE.blt BF.tStr [IE.blt BF.len [IE.var 1]])).slc
          (some (IE.cst (W.int (Int.ofNat 4))).neg) none),
      IStm.ite
        ((IT.tru (IE.blt BF.isinstance [IE.var 0, IE.cst (W.ty "str")])).not.or
          (IT.cmp CmpOp.NotEq
            ((IE.var 0).slc none (some (IE.bin Operator.Add (IE.blt BF.len [IE.var 1]) (IE.cst (W.int (Int.ofNat 8))))))
            (IE.bin Operator.Add
              (IE.bin Operator.Add (IE.var 2)
                (IE.meth BM.join (IE.cst (W.str { cps := { toList := [] } }))
                  [(IE.blt BF.tStr
                          [IE.bin Operator.Sub (IE.cst (W.int (Int.ofNat 9))) (IE.blt BF.tInt [IE.var 3])]).comp
                      (Tgt.name 3) (IIt.val (IE.var 2)) none [3]]))
              (IE.var 1))))
        [IStm.ret (IE.cst (W.bl false))] [],
      IStm.asg (STgt.name 4)
        (IE.blt BF.all
          [((IE.cmp CmpOp.Eq (IE.var 5) (IE.cst (W.str { cps := { toList := [10] } }))).or
                  (IE.chn CmpOp.LtE CmpOp.LtE (IE.cst (W.int (Int.ofNat 32))) (IE.blt BF.ord [IE.var 5])
                    (IE.cst (W.int (Int.ofNat 126))))).comp
              (Tgt.name 5) (IIt.val (IE.var 0)) none [5]]),
      IStm.ret
        ((IE.var 4).and
          ((IE.cmp CmpOp.Eq (IE.blt BF.len [IE.var 0])
                (IE.bin Operator.Add (IE.blt BF.len [IE.var 1]) (IE.cst (W.int (Int.ofNat 12))))).and
            (IE.cmp CmpOp.Eq (IE.call 15 [(IE.var 0).slc (some (IE.cst (W.int (Int.ofNat 8)))) none])
              (IE.lst
                [IE.cst (W.int (Int.ofNat 0)), IE.cst (W.int (Int.ofNat 0)), IE.cst (W.int (Int.ofNat 0)),
                  IE.cst (W.int (Int.ofNat 0))]))))]
def b__law_bodies : List IStm :=
  [IStm.asg (STgt.tup [STgt.name 1, STgt.name 2]) (IE.tup [IE.lst [], IE.cst (W.int (Int.ofNat 0))]),
      IStm.whl (IT.cmp CmpOp.Lt (IE.var 2) (IE.blt BF.len [IE.var 0]))
        [IStm.asg (STgt.name 3)
            ((IE.var 0).slc (some (IE.var 2)) (some (IE.bin Operator.Add (IE.var 2) (IE.cst (W.int (Int.ofNat 8)))))),
          IStm.ite
            ((IT.cmp CmpOp.Lt (IE.blt BF.len [IE.var 3]) (IE.cst (W.int (Int.ofNat 8)))).or
              (IT.tru
                  (IE.blt BF.all
                    [(IE.cmp CmpOp.In (IE.var 4)
                            (IE.cst (W.str { cps := { toList := [48, 49, 50, 51, 52, 53, 54, 55, 56, 57] } }))).comp
                        (Tgt.name 4) (IIt.val (IE.var 3)) none [4]])).not)
            [IStm.ret (IE.tup [IE.var 1, IE.var 2])] [],
          IStm.asg (STgt.name 5) (IE.blt BF.tInt [(IE.var 3).slc none (some (IE.cst (W.int (Int.ofNat 4))))]),
          IStm.asg (STgt.tup [STgt.name 6, STgt.name 7])
            (IE.tup
              [(IE.var 0).slc (some (IE.bin Operator.Add (IE.var 2) (IE.cst (W.int (Int.ofNat 8)))))
                  (some
                    (IE.bin Operator.Add (IE.bin Operator.Add (IE.var 2) (IE.cst (W.int (Int.ofNat 8)))) (IE.var 5))),
                (IE.var 0).slc (some (IE.var 2))
                  (some
                    (IE.bin Operator.Add (IE.bin Operator.Add (IE.var 2) (IE.var 5))
                      (IE.cst (W.int (Int.ofNat 12)))))]),
          IStm.ite
            ((IT.cmp CmpOp.Lt (IE.var 5) (IE.cst (W.int (Int.ofNat 1)))).or
              ((IT.cmp CmpOp.Gt (IE.var 5) (IE.cst (W.int (Int.ofNat 5000)))).or
                (IT.tru (IE.call 16 [IE.var 7, IE.var 6])).not))
            [IStm.ret (IE.tup [IE.var 1, IE.var 2])] [],
          IStm.expr (IE.meth BM.append (IE.var 1) [IE.var 6]),
          IStm.asg (STgt.name 2) (IE.bin Operator.Add (IE.var 2) (IE.blt BF.len [IE.var 7]))],
      IStm.ret (IE.tup [IE.var 1, IE.var 2])]
def b__law_signs : List IStm :=
  [IStm.asg (STgt.name 0)
        (IE.cst
          (W.str
            {
              cps :=
                {
                  toList :=
                    [97, 98, 99, 100, 101, 102, 103, 104, 105, 106, 107, 108, 109, 110, 111, 112, 113, 114, 115, 116,
                      117, 118, 119, 120, 121, 122] } })),
      IStm.ret
        (IE.bin Operator.Add
          (IE.bin Operator.Add
            (IE.bin Operator.Add
              (IE.bin Operator.Add
                (IE.cst
                  (W.str
                    {
                      cps :=
                        {
                          toList :=
                            [32, 33, 34, 35, 36, 38, 39, 40, 41, 42, 43, 44, 45, 46, 47, 48, 49, 50, 51, 52, 53, 54, 55,
                              56, 57, 58, 59, 60, 61, 62, 63, 64] } }))
                (IE.meth BM.upper (IE.var 0) []))
              (IE.cst (W.str { cps := { toList := [91, 92, 93, 94, 95, 96] } })))
            (IE.var 0))
          (IE.cst (W.str { cps := { toList := [123, 124, 125, 126, 10] } })))]
def b__law_some_body : List IStm :=
  [IStm.asg (STgt.name 1)
        (IE.call 13
          [IE.var 0,
            IE.lst
              [IE.cst (W.int (Int.ofNat 1)), IE.cst (W.int (Int.ofNat 2)), IE.cst (W.int (Int.ofNat 3)),
                IE.cst (W.int (Int.ofNat 4)), IE.cst (W.int (Int.ofNat 5)), IE.cst (W.int (Int.ofNat 9)),
                IE.cst (W.int (Int.ofNat 10)), IE.cst (W.int (Int.ofNat 99)), IE.cst (W.int (Int.ofNat 100)),
                IE.bin Operator.Add (IE.cst (W.int (Int.ofNat 1)))
                  (IE.call 12 [IE.var 0, IE.cst (W.int (Int.ofNat 300))])]]),
      IStm.ite (IT.cmp CmpOp.Eq (IE.call 12 [IE.var 0, IE.cst (W.int (Int.ofNat 24))]) (IE.cst (W.int (Int.ofNat 0))))
        [IStm.ret
            (IE.bin Operator.Mult
              (IE.call 13
                [IE.var 0,
                  IE.lst
                    [IE.cst (W.str { cps := { toList := [126] } }), IE.cst (W.str { cps := { toList := [10] } }),
                      IE.cst (W.str { cps := { toList := [97] } })]])
              (IE.call 13
                [IE.var 0,
                  IE.lst
                    [IE.cst (W.int (Int.ofNat 999)), IE.cst (W.int (Int.ofNat 1000)), IE.cst (W.int (Int.ofNat 4999)),
                      IE.cst (W.int (Int.ofNat 5000))]]))]
        [],
      IStm.ret
        (IE.meth BM.join (IE.cst (W.str { cps := { toList := [] } }))
          [(IE.call 13 [IE.var 0, IE.call 18 []]).comp (Tgt.name 2) (IIt.rng (IE.var 1)) none [2]])]
def b__law_burst : List IStm :=
  [IStm.asg (STgt.name 2)
        (IE.blt BF.min
          [IE.blt BF.len [IE.var 1],
            IE.bin Operator.Add (IE.cst (W.int (Int.ofNat 1))) (IE.call 12 [IE.var 0, IE.cst (W.int (Int.ofNat 4))])]),
      IStm.asg (STgt.tup [STgt.name 3, STgt.name 4])
        (IE.tup
          [IE.call 12
              [IE.var 0,
                IE.bin Operator.Add (IE.bin Operator.Sub (IE.blt BF.len [IE.var 1]) (IE.var 2))
                  (IE.cst (W.int (Int.ofNat 1)))],
            IE.cst (W.str { cps := { toList := [] } })]),
      IStm.forS (Tgt.name 5)
        (IIt.val ((IE.var 1).slc (some (IE.var 3)) (some (IE.bin Operator.Add (IE.var 3) (IE.var 2)))))
        [IStm.asg (STgt.name 6) (IE.call 13 [IE.var 0, IE.call 18 []]),
          IStm.asg (STgt.name 4)
            (IE.bin Operator.Add (IE.var 4)
              (IE.ite (IT.cmp CmpOp.NotEq (IE.var 6) (IE.var 5)) (IE.var 6)
                (IE.ite (IT.cmp CmpOp.NotEq (IE.var 5) (IE.cst (W.str { cps := { toList := [97] } })))
                  (IE.cst (W.str { cps := { toList := [97] } })) (IE.cst (W.str { cps := { toList := [98] } })))))],
      IStm.ret
        (IE.tup
          [IE.var 3,
            IE.bin Operator.Add (IE.bin Operator.Add ((IE.var 1).slc none (some (IE.var 3))) (IE.var 4))
              ((IE.var 1).slc (some (IE.bin Operator.Add (IE.var 3) (IE.var 2))) none)])]
def b__law_right : List IStm :=
  [IStm.asg (STgt.name 1)
        ((IE.call 19 [IE.var 0]).comp (Tgt.name 2)
          (IIt.rng
            (IE.bin Operator.Add (IE.cst (W.int (Int.ofNat 1))) (IE.call 12 [IE.var 0, IE.cst (W.int (Int.ofNat 5))])))
          none [2]),
      IStm.asg (STgt.name 3) ((IE.call 8 [IE.var 4]).comp (Tgt.name 4) (IIt.val (IE.var 1)) none [4]),
      IStm.ite
        ((IT.tru
                (IE.blt BF.all
                  [(IE.call 16 [IE.var 5, IE.var 4]).comp (Tgt.tup [Tgt.name 5, Tgt.name 4])
                      (IIt.zip (IE.var 3) (IE.var 1)) none [5, 4]])).not.or
          (IT.cmp CmpOp.NotEq (IE.callk 8 [0] [] [(IE.var 1).sub (IE.cst (W.int (Int.ofNat 0)))])
            ((IE.var 3).sub (IE.cst (W.int (Int.ofNat 0))))))
        [IStm.ret (IE.cst (W.bl false))] [],
      IStm.asg (STgt.name 6) (IE.meth BM.join (IE.cst (W.str { cps := { toList := [] } })) [IE.var 3]),
      IStm.ite
        ((IT.cmp CmpOp.NotEq (IE.call 11 [IE.var 6]) (IE.var 1)).or
          (IT.cmp CmpOp.NotEq (IE.callk 11 [0] [] [IE.cst (W.str { cps := { toList := [] } })]) (IE.lst [])))
        [IStm.ret (IE.cst (W.bl false))] [],
      IStm.forS (Tgt.name 2) (IIt.rng (IE.cst (W.int (Int.ofNat 6))))
        [IStm.asg (STgt.tup [STgt.name 7, STgt.name 8]) (IE.call 20 [IE.var 0, IE.var 6]),
          IStm.asg (STgt.name 9)
            ((IE.var 4).comp (Tgt.tup [Tgt.name 10, Tgt.name 4]) (IIt.enum (IE.var 1))
              (some
                (IT.cmp CmpOp.LtE
                  (IE.blt BF.len
                    [IE.meth BM.join (IE.cst (W.str { cps := { toList := [] } }))
                        [(IE.var 3).slc none (some (IE.bin Operator.Add (IE.var 10) (IE.cst (W.int (Int.ofNat 1)))))]])
                  (IE.var 7)))
              [10, 4]),
          IStm.ite
            ((IT.cmp CmpOp.NotEq (IE.call 11 [IE.var 8]) (IE.var 9)).or
              (IT.cmp CmpOp.NotEq ((IE.call 17 [IE.var 8]).sub (IE.cst (W.int (Int.ofNat 0)))) (IE.var 9)))
            [IStm.ret (IE.cst (W.bl false))] [],
          IStm.asg (STgt.name 11)
            (IE.call 12 [IE.var 0, IE.bin Operator.Add (IE.blt BF.len [IE.var 6]) (IE.cst (W.int (Int.ofNat 1)))]),
          IStm.asg (STgt.name 5)
            ((IE.var 4).comp (Tgt.tup [Tgt.name 10, Tgt.name 4]) (IIt.enum (IE.var 1))
              (some
                (IT.cmp CmpOp.LtE
                  (IE.blt BF.len
                    [IE.meth BM.join (IE.cst (W.str { cps := { toList := [] } }))
                        [(IE.var 3).slc none (some (IE.bin Operator.Add (IE.var 10) (IE.cst (W.int (Int.ofNat 1)))))]])
                  (IE.var 11)))
              [10, 4]),
          IStm.ite
            ((IT.cmp CmpOp.NotEq (IE.call 11 [(IE.var 6).slc none (some (IE.var 11))]) (IE.var 5)).or
              (IT.cmp CmpOp.NotEq
                (IE.callk 11 [0] []
                  [IE.bin Operator.Add (IE.var 6)
                      (((IE.var 6).slc none (some (IE.var 11))).slc none (some (IE.cst (W.int (Int.ofNat 11)))))])
                (IE.var 1)))
            [IStm.ret (IE.cst (W.bl false))] []],
      IStm.asg (STgt.name 12)
        (IE.meth BM.join (IE.cst (W.str { cps := { toList := [] } }))
          [(IE.call 13
                  [IE.var 0,
                    IE.lst
                      [IE.cst (W.str { cps := { toList := [48, 48, 48, 49] } }),
                        IE.cst (W.str { cps := { toList := [57, 57, 57, 56] } }),
                        IE.cst (W.str { cps := { toList := [48, 48, 48, 49, 57, 57, 57, 56] } }),
                        IE.cst (W.str { cps := { toList := [97] } }), IE.cst (W.str { cps := { toList := [10] } }),
                        IE.cst (W.str { cps := { toList := [32] } }), (IE.var 3).sub (IE.cst (W.int (Int.ofNat 0))),
                        IE.cst (W.str { cps := { toList := [57, 57, 57, 57, 48, 48, 48, 48] } })]]).comp
              (Tgt.name 2) (IIt.rng (IE.cst (W.int (Int.ofNat 5)))) none [2]]),
      IStm.ret
        ((IE.cmp CmpOp.Eq (IE.call 11 [IE.var 12]) ((IE.call 17 [IE.var 12]).sub (IE.cst (W.int (Int.ofNat 0))))).and
          (IE.cmp CmpOp.Eq (IE.call 11 [IE.bin Operator.Add (IE.var 6) (IE.var 12)])
            ((IE.call 17 [IE.bin Operator.Add (IE.var 6) (IE.var 12)]).sub (IE.cst (W.int (Int.ofNat 0))))))]
def b_law : List IStm :=
  [IStm.ret
        (IE.blt BF.all
          [(IE.call 21 [IE.call 0 [IE.var 0, IE.var 1]]).comp (Tgt.name 1)
              (IIt.rng
                (IE.blt BF.max
                  [IE.cst (W.int (Int.ofNat 1)),
                    IE.blt BF.min [IE.cst (W.int (Int.ofNat 2)), IE.blt BF.len [IE.var 0]]]))
              none [1]])]
def dcs : Nat → DC := fun i => match i with
  | 0 => ⟨b__law_pot, 3, 2, 100000, true⟩
  | 1 => ⟨b_is_sign, 1, 1, 100000, true⟩
  | 2 => ⟨b_is_body, 2, 1, 100000, true⟩
  | 3 => ⟨b_number_of, 1, 1, 100000, true⟩
  | 4 => ⟨b_sums_by, 4, 1, 100000, true⟩
  | 5 => ⟨b_tail_of, 4, 1, 100000, true⟩
  | 6 => ⟨b_size_told, 3, 1, 100000, true⟩
  | 7 => ⟨b_frame_by, 1, 1, 100000, true⟩
  | 8 => ⟨b_frame, 1, 1, 100000, true⟩
  | 9 => ⟨b_body_at, 9, 2, 100000, true⟩
  | 10 => ⟨b_bodies_by, 4, 1, 100000, true⟩
  | 11 => ⟨b_bodies_of, 3, 1, 100000, true⟩
  | 12 => ⟨b__law_draw, 3, 2, 100000, true⟩
  | 13 => ⟨b__law_pick, 2, 2, 100000, true⟩
  | 14 => ⟨b__law_number, 1, 1, 100000, true⟩
  | 15 => ⟨b__law_sums, 5, 1, 100000, true⟩
  | 16 => ⟨b__law_is_frame, 6, 2, 100000, true⟩
  | 17 => ⟨b__law_bodies, 8, 1, 100000, true⟩
  | 18 => ⟨b__law_signs, 1, 0, 100000, true⟩
  | 19 => ⟨b__law_some_body, 3, 1, 100000, true⟩
  | 20 => ⟨b__law_burst, 7, 2, 100000, true⟩
  | 21 => ⟨b__law_right, 13, 1, 100000, true⟩
  | 22 => ⟨b_law, 2, 1, 100000, true⟩
  | _ => ⟨[], 0, 0, 0, false⟩
theorem b__law_pot_eq : cSs 60 c__law_pot (defBody s__law_pot) = b__law_pot := by rfl
theorem sc__law_pot : FnScope c__law_pot.N fi__law_pot.ps (defScope s__law_pot) := ⟨rfl, rfl, rfl, by decide +kernel, rfl, by decide +kernel, by decide +kernel⟩
theorem g__law_pot {hp : IH} {ws : List W} (h : ws.length = 2) : G dcs 0 ws hp = fin true hp (runB (envTo dcs 0) 100000 b__law_pot 3 ws hp) := G_eq h
theorem b_is_sign_eq : cSs 60 c_is_sign (defBody s_is_sign) = b_is_sign := by rfl
theorem sc_is_sign : FnScope c_is_sign.N fi_is_sign.ps (defScope s_is_sign) := ⟨rfl, rfl, rfl, by decide +kernel, rfl, by decide +kernel, by decide +kernel⟩
theorem g_is_sign {hp : IH} {ws : List W} (h : ws.length = 1) : G dcs 1 ws hp = fin true hp (runB (envTo dcs 1) 100000 b_is_sign 1 ws hp) := G_eq h
theorem b_is_body_eq : cSs 60 c_is_body (defBody s_is_body) = b_is_body := by rfl
theorem sc_is_body : FnScope c_is_body.N fi_is_body.ps (defScope s_is_body) := ⟨rfl, rfl, rfl, by decide +kernel, rfl, by decide +kernel, by decide +kernel⟩
theorem g_is_body {hp : IH} {ws : List W} (h : ws.length = 1) : G dcs 2 ws hp = fin true hp (runB (envTo dcs 2) 100000 b_is_body 2 ws hp) := G_eq h
theorem b_number_of_eq : cSs 60 c_number_of (defBody s_number_of) = b_number_of := by rfl
theorem sc_number_of : FnScope c_number_of.N fi_number_of.ps (defScope s_number_of) := ⟨rfl, rfl, rfl, by decide +kernel, rfl, by decide +kernel, by decide +kernel⟩
theorem g_number_of {hp : IH} {ws : List W} (h : ws.length = 1) : G dcs 3 ws hp = fin true hp (runB (envTo dcs 3) 100000 b_number_of 1 ws hp) := G_eq h
theorem b_sums_by_eq : cSs 60 c_sums_by (defBody s_sums_by) = b_sums_by := by rfl
theorem sc_sums_by : FnScope c_sums_by.N fi_sums_by.ps (defScope s_sums_by) := ⟨rfl, rfl, rfl, by decide +kernel, rfl, by decide +kernel, by decide +kernel⟩
theorem g_sums_by {hp : IH} {ws : List W} (h : ws.length = 1) : G dcs 4 ws hp = fin true hp (runB (envTo dcs 4) 100000 b_sums_by 4 ws hp) := G_eq h
theorem b_tail_of_eq : cSs 60 c_tail_of (defBody s_tail_of) = b_tail_of := by rfl
theorem sc_tail_of : FnScope c_tail_of.N fi_tail_of.ps (defScope s_tail_of) := ⟨rfl, rfl, rfl, by decide +kernel, rfl, by decide +kernel, by decide +kernel⟩
theorem g_tail_of {hp : IH} {ws : List W} (h : ws.length = 1) : G dcs 5 ws hp = fin true hp (runB (envTo dcs 5) 100000 b_tail_of 4 ws hp) := G_eq h
theorem b_size_told_eq : cSs 60 c_size_told (defBody s_size_told) = b_size_told := by rfl
theorem sc_size_told : FnScope c_size_told.N fi_size_told.ps (defScope s_size_told) := ⟨rfl, rfl, rfl, by decide +kernel, rfl, by decide +kernel, by decide +kernel⟩
theorem g_size_told {hp : IH} {ws : List W} (h : ws.length = 1) : G dcs 6 ws hp = fin true hp (runB (envTo dcs 6) 100000 b_size_told 3 ws hp) := G_eq h
theorem b_frame_by_eq : cSs 60 c_frame_by (defBody s_frame_by) = b_frame_by := by rfl
theorem sc_frame_by : FnScope c_frame_by.N fi_frame_by.ps (defScope s_frame_by) := ⟨rfl, rfl, rfl, by decide +kernel, rfl, by decide +kernel, by decide +kernel⟩
theorem g_frame_by {hp : IH} {ws : List W} (h : ws.length = 1) : G dcs 7 ws hp = fin true hp (runB (envTo dcs 7) 100000 b_frame_by 1 ws hp) := G_eq h
theorem b_frame_eq : cSs 60 c_frame (defBody s_frame) = b_frame := by rfl
theorem sc_frame : FnScope c_frame.N fi_frame.ps (defScope s_frame) := ⟨rfl, rfl, rfl, by decide +kernel, rfl, by decide +kernel, by decide +kernel⟩
theorem g_frame {hp : IH} {ws : List W} (h : ws.length = 1) : G dcs 8 ws hp = fin true hp (runB (envTo dcs 8) 100000 b_frame 1 ws hp) := G_eq h
theorem b_body_at_eq : cSs 60 c_body_at (defBody s_body_at) = b_body_at := by rfl
theorem sc_body_at : FnScope c_body_at.N fi_body_at.ps (defScope s_body_at) := ⟨rfl, rfl, rfl, by decide +kernel, rfl, by decide +kernel, by decide +kernel⟩
theorem g_body_at {hp : IH} {ws : List W} (h : ws.length = 2) : G dcs 9 ws hp = fin true hp (runB (envTo dcs 9) 100000 b_body_at 9 ws hp) := G_eq h
theorem b_bodies_by_eq : cSs 60 c_bodies_by (defBody s_bodies_by) = b_bodies_by := by rfl
theorem sc_bodies_by : FnScope c_bodies_by.N fi_bodies_by.ps (defScope s_bodies_by) := ⟨rfl, rfl, rfl, by decide +kernel, rfl, by decide +kernel, by decide +kernel⟩
theorem g_bodies_by {hp : IH} {ws : List W} (h : ws.length = 1) : G dcs 10 ws hp = fin true hp (runB (envTo dcs 10) 100000 b_bodies_by 4 ws hp) := G_eq h
theorem b_bodies_of_eq : cSs 60 c_bodies_of (defBody s_bodies_of) = b_bodies_of := by rfl
theorem sc_bodies_of : FnScope c_bodies_of.N fi_bodies_of.ps (defScope s_bodies_of) := ⟨rfl, rfl, rfl, by decide +kernel, rfl, by decide +kernel, by decide +kernel⟩
theorem g_bodies_of {hp : IH} {ws : List W} (h : ws.length = 1) : G dcs 11 ws hp = fin true hp (runB (envTo dcs 11) 100000 b_bodies_of 3 ws hp) := G_eq h
theorem b__law_draw_eq : cSs 60 c__law_draw (defBody s__law_draw) = b__law_draw := by rfl
theorem sc__law_draw : FnScope c__law_draw.N fi__law_draw.ps (defScope s__law_draw) := ⟨rfl, rfl, rfl, by decide +kernel, rfl, by decide +kernel, by decide +kernel⟩
theorem g__law_draw {hp : IH} {ws : List W} (h : ws.length = 2) : G dcs 12 ws hp = fin true hp (runB (envTo dcs 12) 100000 b__law_draw 3 ws hp) := G_eq h
theorem b__law_pick_eq : cSs 60 c__law_pick (defBody s__law_pick) = b__law_pick := by rfl
theorem sc__law_pick : FnScope c__law_pick.N fi__law_pick.ps (defScope s__law_pick) := ⟨rfl, rfl, rfl, by decide +kernel, rfl, by decide +kernel, by decide +kernel⟩
theorem g__law_pick {hp : IH} {ws : List W} (h : ws.length = 2) : G dcs 13 ws hp = fin true hp (runB (envTo dcs 13) 100000 b__law_pick 2 ws hp) := G_eq h
theorem b__law_number_eq : cSs 60 c__law_number (defBody s__law_number) = b__law_number := by rfl
theorem sc__law_number : FnScope c__law_number.N fi__law_number.ps (defScope s__law_number) := ⟨rfl, rfl, rfl, by decide +kernel, rfl, by decide +kernel, by decide +kernel⟩
theorem g__law_number {hp : IH} {ws : List W} (h : ws.length = 1) : G dcs 14 ws hp = fin true hp (runB (envTo dcs 14) 100000 b__law_number 1 ws hp) := G_eq h
theorem b__law_sums_eq : cSs 60 c__law_sums (defBody s__law_sums) = b__law_sums := by rfl
theorem sc__law_sums : FnScope c__law_sums.N fi__law_sums.ps (defScope s__law_sums) := ⟨rfl, rfl, rfl, by decide +kernel, rfl, by decide +kernel, by decide +kernel⟩
theorem g__law_sums {hp : IH} {ws : List W} (h : ws.length = 1) : G dcs 15 ws hp = fin true hp (runB (envTo dcs 15) 100000 b__law_sums 5 ws hp) := G_eq h
theorem b__law_is_frame_eq : cSs 60 c__law_is_frame (defBody s__law_is_frame) = b__law_is_frame := by rfl
theorem sc__law_is_frame : FnScope c__law_is_frame.N fi__law_is_frame.ps (defScope s__law_is_frame) := ⟨rfl, rfl, rfl, by decide +kernel, rfl, by decide +kernel, by decide +kernel⟩
theorem g__law_is_frame {hp : IH} {ws : List W} (h : ws.length = 2) : G dcs 16 ws hp = fin true hp (runB (envTo dcs 16) 100000 b__law_is_frame 6 ws hp) := G_eq h
theorem b__law_bodies_eq : cSs 60 c__law_bodies (defBody s__law_bodies) = b__law_bodies := by rfl
theorem sc__law_bodies : FnScope c__law_bodies.N fi__law_bodies.ps (defScope s__law_bodies) := ⟨rfl, rfl, rfl, by decide +kernel, rfl, by decide +kernel, by decide +kernel⟩
theorem g__law_bodies {hp : IH} {ws : List W} (h : ws.length = 1) : G dcs 17 ws hp = fin true hp (runB (envTo dcs 17) 100000 b__law_bodies 8 ws hp) := G_eq h
theorem b__law_signs_eq : cSs 60 c__law_signs (defBody s__law_signs) = b__law_signs := by rfl
theorem sc__law_signs : FnScope c__law_signs.N fi__law_signs.ps (defScope s__law_signs) := ⟨rfl, rfl, rfl, by decide +kernel, rfl, by decide +kernel, by decide +kernel⟩
theorem g__law_signs {hp : IH} {ws : List W} (h : ws.length = 0) : G dcs 18 ws hp = fin true hp (runB (envTo dcs 18) 100000 b__law_signs 1 ws hp) := G_eq h
theorem b__law_some_body_eq : cSs 60 c__law_some_body (defBody s__law_some_body) = b__law_some_body := by rfl
theorem sc__law_some_body : FnScope c__law_some_body.N fi__law_some_body.ps (defScope s__law_some_body) := ⟨rfl, rfl, rfl, by decide +kernel, rfl, by decide +kernel, by decide +kernel⟩
theorem g__law_some_body {hp : IH} {ws : List W} (h : ws.length = 1) : G dcs 19 ws hp = fin true hp (runB (envTo dcs 19) 100000 b__law_some_body 3 ws hp) := G_eq h
theorem b__law_burst_eq : cSs 60 c__law_burst (defBody s__law_burst) = b__law_burst := by rfl
theorem sc__law_burst : FnScope c__law_burst.N fi__law_burst.ps (defScope s__law_burst) := ⟨rfl, rfl, rfl, by decide +kernel, rfl, by decide +kernel, by decide +kernel⟩
theorem g__law_burst {hp : IH} {ws : List W} (h : ws.length = 2) : G dcs 20 ws hp = fin true hp (runB (envTo dcs 20) 100000 b__law_burst 7 ws hp) := G_eq h
theorem b__law_right_eq : cSs 60 c__law_right (defBody s__law_right) = b__law_right := by rfl
theorem sc__law_right : FnScope c__law_right.N fi__law_right.ps (defScope s__law_right) := ⟨rfl, rfl, rfl, by decide +kernel, rfl, by decide +kernel, by decide +kernel⟩
theorem g__law_right {hp : IH} {ws : List W} (h : ws.length = 1) : G dcs 21 ws hp = fin true hp (runB (envTo dcs 21) 100000 b__law_right 13 ws hp) := G_eq h
theorem b_law_eq : cSs 60 c_law (defBody s_law) = b_law := by rfl
theorem sc_law : FnScope c_law.N fi_law.ps (defScope s_law) := ⟨rfl, rfl, rfl, by decide +kernel, rfl, by decide +kernel, by decide +kernel⟩
theorem g_law {hp : IH} {ws : List W} (h : ws.length = 1) : G dcs 22 ws hp = fin true hp (runB (envTo dcs 22) 100000 b_law 2 ws hp) := G_eq h
end K77

set_option Elab.async false
set_option linter.all false
set_option autoImplicit false
set_option maxRecDepth 100000
set_option maxHeartbeats 4000000
namespace K77
open PySem PySem.Spec PyProof.Rows L2 Itp
theorem s_draw {n : Nat} {m : Int} {k : Nat} (hp : IH) (P : Pot hp n) (hm : 0 < m) (Bm : B k m) (hk : k < 9000) : ∃ (d : Int) (hp' : IH), G dcs 12 [.ref n, .int m] hp = .ok (.int d) hp' ∧ 0 ≤ d ∧ d < m ∧ PotS hp n hp' := by
  obtain ⟨p0, p1, e, h0, h1, h2⟩ := P
  have hn := (List.getElem?_eq_some_iff.mp e).1
  rw [g__law_draw rfl]
  have g0 : subF (.ref n) (.int 0) hp = some (.int p0, hp) := by rw [sub_ref e, show atI [W.int p0, W.int p1] 0 = some (.int p0) from rfl]; rfl
  have g1 : subF (.ref n) (.int 1) hp = some (.int p1, hp) := by rw [sub_ref e, show atI [W.int p0, W.int p1] 1 = some (.int p1) from rfl]; rfl
  by_cases hp0 : 0 < p0
  · have dm := bf_divmod (i := p0) (hp := hp) hm (noPy (x := p0) Bm hk)
    have st : ∀ v, setF (.ref n) (.int 0) v hp = some (hp.set n (.lst [v, .int p1])) := fun v => by rw [set_ref e]; rfl
    have S : PotS hp n (hp.set n (.lst [.int (p0 / m), .int p1])) := ⟨_, _, rfl, Int.ediv_nonneg h0 (by omega), h1, h2⟩
    refine ⟨p0 % m, hp.set n (.lst [.int (p0 / m), .int p1]), ?_, Int.emod_nonneg _ (by omega), Int.emod_lt_of_pos _ hm, S⟩
    simp [b__law_draw, runB, evSs, evS, ev, evs, evO, evIt, tst, tstO, sto, stos, unpk, asgT, asgTs, Out.bind_ok, Out.bind_err, Out.bind_stuck, Out.of_some, Out.of_none, Out.then_ok, Out.then_err, Out.then_stuck, SOut.seq_nx, SOut.seq_rt, SOut.seq_bk, SOut.seq_ct, SOut.seq_err, SOut.seq_stuck, List.map_cons, List.map_nil, List.length_cons, List.length_nil, List.replicate, List.cons_append, List.nil_append, List.getElem?_cons_zero, List.getElem?_cons_succ, List.set_cons_zero, List.set_cons_succ, Nat.reduceSub, Nat.reduceAdd, Nat.reduceLT, Nat.reduceLeDiff, Int.ofNat_eq_natCast, if_true, if_false, Bool.false_eq_true, Bool.not_true, Bool.not_false, g0, hp0, dm, st, fin_pot0 S]
  · have B1 : B 32 p1 := by
      unfold B
      omega
    have m1 := bin_mul (hp := hp) (i := p1) (j := 40692) (mulOk_of B1 (B.small (k := 20) (by decide)) (by decide))
    have m2 := bin_mod (hp := hp) (i := p1 * 40692 + 2999) (j := 2147483563) (by decide)
    obtain ⟨q, hq⟩ : ∃ q, q = (p1 * 40692 + 2999) % 2147483563 := ⟨_, rfl⟩
    have q0 : 0 ≤ q := by rw [hq]; exact Int.emod_nonneg _ (by decide)
    have q1 : q < 2147483563 := by rw [hq]; exact Int.emod_lt_of_pos _ (by decide)
    have Bq : B 32 q := by
      unfold B
      omega
    rw [← hq] at m2
    have st : ∀ v, setF (.ref n) (.int 1) v hp = some (hp.set n (.lst [.int p0, v])) := fun v => by rw [set_ref e]; rfl
    have S : PotS hp n (hp.set n (.lst [.int p0, .int q])) := ⟨_, _, rfl, h0, q0, by omega⟩
    obtain ⟨h', eh⟩ : ∃ h', h' = hp.set n (.lst [.int p0, .int q]) := ⟨_, rfl⟩
    have e2 : h'[n]? = some (.lst [.int p0, .int q]) := by rw [eh]; exact List.getElem?_set_self hn
    have g2 : subF (.ref n) (.int 1) h' = some (.int q, h') := by rw [sub_ref e2, show atI [W.int p0, W.int q] 1 = some (.int q) from rfl]; rfl
    have m3 := bin_mul (hp := h') (i := q) (j := q) (mulOk_of Bq Bq (by decide))
    have m4 := bin_mod (hp := h') (i := q * q) (j := 2147483549) (by decide)
    have m5 := bin_div (hp := h') (i := q * q % 2147483549) (j := 19) (by decide) (noPy (k := 8) (B.small (by decide)) (by decide))
    have m6 := bin_mod (hp := h') (i := q * q % 2147483549 / 19) (j := m) hm
    rw [← eh] at S
    refine ⟨q * q % 2147483549 / 19 % m, h', ?_, Int.emod_nonneg _ (by omega), Int.emod_lt_of_pos _ hm, S⟩
    simp [b__law_draw, runB, evSs, evS, ev, evs, evO, evIt, tst, tstO, sto, stos, unpk, asgT, asgTs, Out.bind_ok, Out.bind_err, Out.bind_stuck, Out.of_some, Out.of_none, Out.then_ok, Out.then_err, Out.then_stuck, SOut.seq_nx, SOut.seq_rt, SOut.seq_bk, SOut.seq_ct, SOut.seq_err, SOut.seq_stuck, List.map_cons, List.map_nil, List.length_cons, List.length_nil, List.replicate, List.cons_append, List.nil_append, List.getElem?_cons_zero, List.getElem?_cons_succ, List.set_cons_zero, List.set_cons_succ, Nat.reduceSub, Nat.reduceAdd, Nat.reduceLT, Nat.reduceLeDiff, Int.ofNat_eq_natCast, if_true, if_false, Bool.false_eq_true, Bool.not_true, Bool.not_false, g0, g1, hp0, m1, m2, st, ← eh, g2, m3, m4, m5, m6, fin_pot0 S]
/-- a list's item -/
theorem s_pick {n l : Nat} {xs : List W} (hp : IH) (P : Pot hp n) (hl : l ≠ n) (e : hp[l]? = some (.lst xs)) (h0 : xs ≠ []) (h1 : xs.length < 1000) (hb : ∀ x ∈ xs, bndW hp.length x = true) : ∃ x ∈ xs, ∃ hp', G dcs 13 [.ref n, .ref l] hp = .ok x hp' ∧ PotS hp n hp' := by
  have hpos : 0 < xs.length := List.length_pos_iff.mpr h0
  obtain ⟨d, hp', e1, d0, d1, S⟩ := s_draw (m := (xs.length : Int)) (k := 10) hp P (by omega) (by unfold B; omega) (by decide)
  have e2 : hp'[l]? = some (.lst xs) := by rw [S.get hl]; exact e
  have hd : d.toNat < xs.length := by omega
  refine ⟨xs[d.toNat], List.getElem_mem hd, hp', ?_, S⟩
  have g2 : subF (.ref l) (.int d) hp' = some (xs[d.toNat], hp') := by
    rw [sub_ref e2, show atI xs d = some xs[d.toNat] from by
      have := atI_nat (xs := xs) (j := d.toNat) (v := xs[d.toNat]) (List.getElem?_eq_getElem hd)
      rwa [Int.toNat_of_nonneg d0] at this]
    rfl
  rw [g__law_pick rfl]
  simp [b__law_pick, runB, evSs, evS, ev, evs, evO, evIt, tst, tstO, sto, stos, unpk, asgT, asgTs, Out.bind_ok, Out.bind_err, Out.bind_stuck, Out.of_some, Out.of_none, Out.then_ok, Out.then_err, Out.then_stuck, SOut.seq_nx, SOut.seq_rt, SOut.seq_bk, SOut.seq_ct, SOut.seq_err, SOut.seq_stuck, List.map_cons, List.map_nil, List.length_cons, List.length_nil, List.replicate, List.cons_append, List.nil_append, List.getElem?_cons_zero, List.getElem?_cons_succ, List.set_cons_zero, List.set_cons_succ, Nat.reduceSub, Nat.reduceAdd, Nat.reduceLT, Nat.reduceLeDiff, Int.ofNat_eq_natCast, if_true, if_false, Bool.false_eq_true, Bool.not_true, Bool.not_false, env_lt, bf_len_ref e, e1, g2, fin_pot0 S, hb]
def P0 : IStm := IStm.asg (STgt.name 2)
        (IE.ite (IT.cmp CmpOp.Lt (IE.var 1) (IE.blt BF.len [IE.var 0])) (IE.blt BF.abs [(IE.var 0).sub (IE.var 1)])
          (IE.bin Operator.Add (IE.bin Operator.Mult (IE.cst (W.int (Int.ofNat 1823))) (IE.var 1))
            (IE.cst (W.int (Int.ofNat 2237)))))
def P1 : IStm := IStm.ret
        (IE.lst
          [IE.blt BF.max
              [IE.cst (W.int (Int.ofNat 0)),
                IE.bin Operator.Sub (IE.var 2)
                  (IE.bin Operator.Pow (IE.cst (W.int (Int.ofNat 10))) (IE.cst (W.int (Int.ofNat 18))))],
            IE.bin Operator.Add
              (IE.bin Operator.Mod
                (IE.blt BF.tInt
                  [IE.bin Operator.Add
                      (IE.bin Operator.Add
                        (IE.bin Operator.Mult
                          (IE.bin Operator.Mod (IE.blt BF.tInt [IE.var 2]) (IE.cst (W.int (Int.ofNat 2147483549))))
                          (IE.cst (W.int (Int.ofNat 40014))))
                        (IE.bin Operator.Mult (IE.cst (W.int (Int.ofNat 2999))) (IE.var 1)))
                      (IE.cst (W.int (Int.ofNat 4057)))])
                (IE.cst (W.int (Int.ofNat 2147483563))))
              (IE.cst (W.int (Int.ofNat 1)))])
theorem s_pot {s k : Nat} {ns : List Int} {h : IH} (e : h[s]? = some (.flst (ns.map .int))) (hk : k < 100) : ∃ p0 p1 : Int, G dcs 0 [.ref s, .int (k : Int)] h = .ok (.ref h.length) (h ++ [.lst [.int p0, .int p1]]) ∧ 0 ≤ p0 ∧ 0 ≤ p1 ∧ p1 ≤ 2147483647 := by
  have rest : ∀ c : Int, ∃ p0 p1 : Int, evSs (envTo dcs 0) 100000 [P1] [some (.ref s), some (.int k), some (.int c)] h = .rt (.ref h.length) (h ++ [.lst [.int p0, .int p1]]) ∧ 0 ≤ p0 ∧ 0 ≤ p1 ∧ p1 ≤ 2147483647 := by
    intro c
    obtain ⟨q, hq⟩ : ∃ q, q = c % 2147483549 := ⟨_, rfl⟩
    have q0 : 0 ≤ q := by rw [hq]; exact Int.emod_nonneg _ (by decide)
    have q1 : q < 2147483549 := by rw [hq]; exact Int.emod_lt_of_pos _ (by decide)
    have Bq : B 32 q := by
      unfold B
      omega
    have pw : binF .Pow (.int 10) (.int 18) h = some (.int 1000000000000000000, h) := bin_pow (e := 18) (by decide) (by decide)
    have m1 := bin_mod (hp := h) (i := c) (j := 2147483549) (by decide)
    rw [← hq] at m1
    have m2 := bin_mul (hp := h) (i := q) (j := 40014) (mulOk_of Bq (B.small (k := 20) (by decide)) (by decide))
    have m3 := bin_mul (hp := h) (i := 2999) (j := (k : Int)) (mulOk_of (k := 16) (l := 7) (B.small (by decide)) (by unfold B; omega) (by decide))
    have m4 := bin_mod (hp := h) (i := q * 40014 + 2999 * k + 4057) (j := 2147483563) (by decide)
    have z0 := Int.emod_nonneg (q * 40014 + 2999 * k + 4057) (show (2147483563 : Int) ≠ 0 by decide)
    have z1 := Int.emod_lt_of_pos (q * 40014 + 2999 * k + 4057) (show (0 : Int) < 2147483563 by decide)
    refine ⟨if c - 1000000000000000000 > 0 then c - 1000000000000000000 else 0, (q * 40014 + 2999 * k + 4057) % 2147483563 + 1, ?_, ?_, by omega, by omega⟩
    · simp [P1, runB, evSs, evS, ev, evs, evO, evIt, tst, tstO, sto, stos, unpk, asgT, asgTs, Out.bind_ok, Out.bind_err, Out.bind_stuck, Out.of_some, Out.of_none, Out.then_ok, Out.then_err, Out.then_stuck, SOut.seq_nx, SOut.seq_rt, SOut.seq_bk, SOut.seq_ct, SOut.seq_err, SOut.seq_stuck, List.map_cons, List.map_nil, List.length_cons, List.length_nil, List.replicate, List.cons_append, List.nil_append, List.getElem?_cons_zero, List.getElem?_cons_succ, List.set_cons_zero, List.set_cons_succ, Nat.reduceSub, Nat.reduceAdd, Nat.reduceLT, Nat.reduceLeDiff, Int.ofNat_eq_natCast, if_true, if_false, Bool.false_eq_true, Bool.not_true, Bool.not_false, pw, m1, m2, m3, m4]
    · split <;> omega
  rw [g__law_pot rfl]
  have a0 : evS (envTo dcs 0) 100000 P0 [some (.ref s), some (.int k), none] h = .nx [some (.ref s), some (.int k), some (.int (if h : k < ns.length then (ns[k].natAbs : Int) else 1823 * k + 2237))] h := by
    by_cases hl : k < ns.length
    · have g : subF (.ref s) (.int (k : Int)) h = some (.int ns[k], h) := by
        rw [sub_fref e, atI_nat (v := .int ns[k]) (by rw [List.getElem?_map, List.getElem?_eq_getElem hl]; rfl)]
        rfl
      simp [P0, runB, evSs, evS, ev, evs, evO, evIt, tst, tstO, sto, stos, unpk, asgT, asgTs, Out.bind_ok, Out.bind_err, Out.bind_stuck, Out.of_some, Out.of_none, Out.then_ok, Out.then_err, Out.then_stuck, SOut.seq_nx, SOut.seq_rt, SOut.seq_bk, SOut.seq_ct, SOut.seq_err, SOut.seq_stuck, List.map_cons, List.map_nil, List.length_cons, List.length_nil, List.replicate, List.cons_append, List.nil_append, List.getElem?_cons_zero, List.getElem?_cons_succ, List.set_cons_zero, List.set_cons_succ, Nat.reduceSub, Nat.reduceAdd, Nat.reduceLT, Nat.reduceLeDiff, Int.ofNat_eq_natCast, if_true, if_false, Bool.false_eq_true, Bool.not_true, Bool.not_false, bf_len_fref e, g, hl]
    · have m3 := bin_mul (hp := h) (i := 1823) (j := (k : Int)) (mulOk_of (k := 16) (l := 7) (B.small (by decide)) (by unfold B; omega) (by decide))
      simp [P0, runB, evSs, evS, ev, evs, evO, evIt, tst, tstO, sto, stos, unpk, asgT, asgTs, Out.bind_ok, Out.bind_err, Out.bind_stuck, Out.of_some, Out.of_none, Out.then_ok, Out.then_err, Out.then_stuck, SOut.seq_nx, SOut.seq_rt, SOut.seq_bk, SOut.seq_ct, SOut.seq_err, SOut.seq_stuck, List.map_cons, List.map_nil, List.length_cons, List.length_nil, List.replicate, List.cons_append, List.nil_append, List.getElem?_cons_zero, List.getElem?_cons_succ, List.set_cons_zero, List.set_cons_succ, Nat.reduceSub, Nat.reduceAdd, Nat.reduceLT, Nat.reduceLeDiff, Int.ofNat_eq_natCast, if_true, if_false, Bool.false_eq_true, Bool.not_true, Bool.not_false, bf_len_fref e, hl, m3]
  obtain ⟨p0, p1, e1, z⟩ := rest (if h : k < ns.length then (ns[k].natAbs : Int) else 1823 * k + 2237)
  refine ⟨p0, p1, ?_, z⟩
  rw [← fin_new (hp := h) bndW_new]
  congr 1
  refine runB_rt ?_
  show evSs (envTo dcs 0) 100000 [P0, P1] [some (.ref s), some (.int k), none] h = _
  rw [evSs_cons a0, e1]
end K77

set_option Elab.async false
set_option linter.all false
set_option autoImplicit false
set_option maxRecDepth 100000
set_option maxHeartbeats 4000000
namespace K77
open PySem PySem.Spec PyProof.Rows L2 Itp
/-- all signs, in their sequence -/
def nb : List Nat := [32, 33, 34, 35, 36, 37, 38, 39, 40, 41, 42, 43, 44, 45, 46, 47, 48, 49, 50, 51, 52, 53, 54, 55, 56, 57, 58, 59, 60, 61, 62, 63, 64, 65, 66, 67, 68, 69, 70, 71, 72, 73, 74, 75, 76, 77, 78, 79, 80, 81, 82, 83, 84, 85, 86, 87, 88, 89, 90, 91, 92, 93, 94, 95, 96, 97, 98, 99, 100, 101, 102, 103, 104, 105, 106, 107, 108, 109, 110, 111, 112, 113, 114, 115, 116, 117, 118, 119, 120, 121, 122, 123, 124, 125, 126, 10]
def num (c : Nat) : Nat := if c = 10 then 95 else c - 32
def ok (c : Nat) : Bool := (decide (32 ≤ c) && decide (c ≤ 126)) || decide (c = 10)
theorem mem_nb (c : Nat) : c ∈ nb ↔ ok c = true := by
  constructor
  · intro h
    have : ∀ c ∈ nb, ok c = true := by decide +kernel
    exact this c h
  · intro h
    unfold ok at h
    simp only [Bool.or_eq_true, Bool.and_eq_true, decide_eq_true_eq] at h
    rcases h with h | h
    · have : ∀ n, n < 95 → 32 + n ∈ nb := by decide +kernel
      have q := this (c - 32) (by omega)
      rwa [show 32 + (c - 32) = c by omega] at q
    · subst h
      decide
theorem sp_is_sign {c : Nat} {hp : IH} : G dcs 1 [tx [c]] hp = .ok (.bl (ok c)) hp := by
  rw [g_is_sign rfl]
  have e : cmpB .In (tx [c]) (tx nb) hp = some (decide (c ∈ nb)) := tx_in (hp := hp)
  have q : decide (c ∈ nb) = ok c := by
    rw [Bool.eq_iff_iff, decide_eq_true_eq]
    exact mem_nb c
  rw [q] at e
  have e2 : b_is_sign = [.ret (.cmp .In (.var 0) (.cst (tx nb)))] := rfl
  rw [e2]
  simp [runB, evSs, evS, ev, evs, evO, evIt, tst, tstO, sto, stos, unpk, asgT, asgTs, Out.bind_ok, Out.bind_err, Out.bind_stuck, Out.of_some, Out.of_none, Out.then_ok, Out.then_err, Out.then_stuck, SOut.seq_nx, SOut.seq_rt, SOut.seq_bk, SOut.seq_ct, SOut.seq_err, SOut.seq_stuck, List.map_cons, List.map_nil, List.length_cons, List.length_nil, List.replicate, List.cons_append, List.nil_append, List.getElem?_cons_zero, List.getElem?_cons_succ, List.set_cons_zero, List.set_cons_succ, Nat.reduceSub, Nat.reduceAdd, Nat.reduceLT, Nat.reduceLeDiff, Int.ofNat_eq_natCast, if_true, if_false, Bool.false_eq_true, Bool.not_true, Bool.not_false, e, fin_same0]
theorem sp_number {c : Nat} {hp : IH} (h : ok c = true) : G dcs 3 [tx [c]] hp = .ok (.int (num c : Int)) hp := by
  rw [g_number_of rfl]
  have e : bmF .index (tx nb) [tx [c]] hp = some (.int (num c : Int), hp) := by
    have : ∀ c ∈ nb, (Builtin.Str.occurrences (SX.S nb) (SX.S [c]) 0 (SX.S nb).length 1).head? = some (num c) := by decide +kernel
    show (Builtin.Str.occurrences (SX.S nb) (SX.S [c]) 0 (SX.S nb).length 1).head?.map _ = _
    rw [this c ((mem_nb c).mpr h)]
    rfl
  have e2 : b_number_of = [.ret (.meth .index (.cst (tx nb)) [.var 0])] := rfl
  rw [e2]
  have r : recOk .index (tx nb) hp = true := rfl
  simp [runB, evSs, evS, ev, evs, evO, evIt, tst, tstO, sto, stos, unpk, asgT, asgTs, Out.bind_ok, Out.bind_err, Out.bind_stuck, Out.of_some, Out.of_none, Out.then_ok, Out.then_err, Out.then_stuck, SOut.seq_nx, SOut.seq_rt, SOut.seq_bk, SOut.seq_ct, SOut.seq_err, SOut.seq_stuck, List.map_cons, List.map_nil, List.length_cons, List.length_nil, List.replicate, List.cons_append, List.nil_append, List.getElem?_cons_zero, List.getElem?_cons_succ, List.set_cons_zero, List.set_cons_succ, Nat.reduceSub, Nat.reduceAdd, Nat.reduceLT, Nat.reduceLeDiff, Int.ofNat_eq_natCast, if_true, if_false, Bool.false_eq_true, Bool.not_true, Bool.not_false, e, r, fin_same0]
end K77

set_option Elab.async false
set_option linter.all false
set_option autoImplicit false
set_option maxRecDepth 100000
set_option maxHeartbeats 4000000
namespace K77
open PySem PySem.Spec PyProof.Rows L2 Itp
/-- the four sums, from the place i on -/
def sumsL : List Nat → Nat → List Int → List Int
  | [], _, q => q
  | c :: r, i, q => sumsL r (i + 1) (q.set (i % 4) (q.getD (i % 4) 0 + (num c : Int)))
theorem sums_app : ∀ (a b : List Nat) (i : Nat) (q : List Int), sumsL (a ++ b) i q = sumsL b (i + a.length) (sumsL a i q)
  | [], b, i, q => rfl
  | c :: a, b, i, q => by
    show sumsL (a ++ b) (i + 1) _ = _
    rw [sums_app a b]
    show sumsL b (i + 1 + a.length) _ = sumsL b (i + (a.length + 1)) _
    rw [show i + 1 + a.length = i + (a.length + 1) by omega]
    rfl
theorem sums_len : ∀ (a : List Nat) (i : Nat) (q : List Int), (sumsL a i q).length = q.length
  | [], _, _ => rfl
  | c :: a, i, q => by
    show (sumsL a (i + 1) _).length = _
    rw [sums_len a]
    exact List.length_set ..
def SB : List IStm := [IStm.augS (IE.var 1) (IE.bin Operator.Mod (IE.blt BF.tInt [IE.var 2]) (IE.cst (W.int (Int.ofNat 4)))) Operator.Add (IE.call 3 [IE.var 3])]
theorem sums_body {m i c : Nat} {x0 : Option W} {q : List Int} {h : IH} (hm : h[m]? = some (.lst (q.map .int))) (hq : q.length = 4) (hc : ok c = true) :
    evSs (envTo dcs 4) 100000 SB [x0, some (.ref m), some (.int (i : Int)), some (tx [c])] h = .nx [x0, some (.ref m), some (.int (i : Int)), some (tx [c])] (h.set m (.lst ((q.set (i % 4) (q.getD (i % 4) 0 + (num c : Int))).map .int))) := by
  have e1 : binF .Mod (.int (i : Int)) (.int 4) h = some (.int ((i % 4 : Nat) : Int), h) := by
    rw [bin_mod (by decide)]
    rfl
  have hi : i % 4 < q.length := by omega
  have e2 : getF (.ref m) (.int ((i % 4 : Nat) : Int)) h = some (.int (q.getD (i % 4) 0)) := by
    unfold getF
    simp only [hm]
    rw [if_pos ⟨by omega, by omega⟩]
    rw [Int.toNat_natCast, List.getElem?_map, List.getD_eq_getElem?_getD, List.getElem?_eq_getElem hi]
    rfl
  have e3 : ∀ v, setF (.ref m) (.int ((i % 4 : Nat) : Int)) v h = some (h.set m (.lst ((q.map .int).set (i % 4) v))) := fun v => by
    rw [set_ref hm]
    have : ixN (q.map W.int).length ((i % 4 : Nat) : Int) = some (i % 4) := by
      rw [List.length_map, hq]
      have : i % 4 < 4 := by omega
      generalize i % 4 = j at this
      match j, this with
      | 0, _ => rfl
      | 1, _ => rfl
      | 2, _ => rfl
      | 3, _ => rfl
    rw [this]
    rfl
  have e4 : ∀ a b : Int, ipF .Add (.int a) (.int b) h = some (.int (a + b), h) := fun _ _ => rfl
  rw [List.map_set]
  simp only [SB, evSs, evS, ev, evs, Out.bind_ok, Out.then_ok, List.getElem?_cons_zero, List.getElem?_cons_succ, bf_tInt, Out.of_some, Int.ofNat_eq_natCast]
  rw [show ((4 : Nat) : Int) = 4 from rfl, e1]
  simp only [Out.of_some, Out.then_ok, e2, env_lt (show 3 < 4 by decide), sp_number hc, e4, e3, SOut.seq_nx]
def sums (s : List Nat) : List Int := sumsL s 0 [0, 0, 0, 0]
theorem sp_sums {s : List Nat} {hp : IH} (hs : s.all ok = true) (hl : s.length ≤ lineLen) : G dcs 4 [tx s] hp = .ok (.ref (hp.length + 1)) (hp ++ [.lst [.int 0], .lst ((sums s).map .int)]) := by
  have l2 : (hp ++ [IO.lst [.int 0], IO.lst ([0, 0, 0, 0].map W.int)]).length = hp.length + 2 := by simp
  have cell : ∀ xs : List W, (hp ++ [IO.lst [.int 0], IO.lst xs])[hp.length + 1]? = some (.lst xs) := fun xs => by
    rw [List.getElem?_append_right (by omega), show hp.length + 1 - hp.length = 1 by omega]
    rfl
  have put : ∀ xs ys : List W, (hp ++ [IO.lst [.int 0], IO.lst xs]).set (hp.length + 1) (.lst ys) = hp ++ [IO.lst [.int 0], IO.lst ys] := fun xs ys => by
    rw [List.set_append_right _ _ (by omega), show hp.length + 1 - hp.length = 1 by omega]
    rfl
  obtain ⟨ρ', h', q1, y2, y3, q2, q3⟩ := for_run (body := evSs (envTo dcs 4) 100000 SB) (t := .tup [.name 2, .name 3]) (J := .enum (.strR (SX.S s)))
    (fun i ρ h => ∃ y2 y3, ρ = [some (tx s), some (.ref (hp.length + 1)), y2, y3] ∧ h = hp ++ [.lst [.int 0], .lst ((sumsL (s.take i) 0 [0, 0, 0, 0]).map .int)]) s.length
    (fun i ρ h hi ⟨y2, y3, e1, e2⟩ => by
      subst e1 e2
      have oc : ok s[i] = true := List.all_eq_true.mp hs _ (List.getElem_mem hi)
      have e : cur (.enum (.strR (SX.S s))) i (hp ++ [.lst [.int 0], .lst ((sumsL (s.take i) 0 [0, 0, 0, 0]).map .int)]) = some (some (.tup [.int (i : Int), tx [s[i]]])) := by
        show (cur (.strR (SX.S s)) i _).map _ = _
        rw [tx_cur, List.getElem?_eq_getElem hi]
        rfl
      refine ⟨_, [some (tx s), some (.ref (hp.length + 1)), some (.int (i : Int)), some (tx [s[i]])], _, _, e, by simp [asgT, asgTs], .inl (sums_body (cell _) (by rw [sums_len]; rfl) oc), _, _, rfl, ?_⟩
      rw [put, List.take_add_one, List.getElem?_eq_getElem hi, Option.toList_some, sums_app, Nat.zero_add, List.length_take, Nat.min_eq_left (Nat.le_of_lt hi)]
      rfl)
    (fun ρ h _ => by
      show (cur (.strR (SX.S s)) s.length h).map _ = _
      rw [tx_cur, List.getElem?_eq_none (Nat.le_refl _)]
      rfl) s.length 0 [some (tx s), some (.ref (hp.length + 1)), none, none] (hp ++ [.lst [.int 0], .lst ([0, 0, 0, 0].map .int)]) (by omega) ⟨none, none, rfl, rfl⟩
  rw [List.take_length] at q3
  subst q2 q3
  rw [g_sums_by rfl]
  have new : bndW hp.length (.ref (hp.length + 1)) = false := by
    unfold bndW
    simp
  rw [← fin_new (hp := hp) (w := .ref (hp.length + 1)) new]
  congr 1
  refine runB_rt ?_
  have e0 : b_sums_by = [.asg (.name 1) (.bin .Mult (.lst [.cst (.int 0)]) (.cst (.int 4))), .forS (.tup [.name 2, .name 3]) (.enum (.var 0)) SB, .ret (.var 1)] := rfl
  have s0 : evS (envTo dcs 4) 100000 (.asg (.name 1) (.bin .Mult (.lst [.cst (.int 0)]) (.cst (.int 4)))) [some (tx s), none, none, none] hp = .nx [some (tx s), some (.ref (hp.length + 1)), none, none] (hp ++ [.lst [.int 0], .lst ([0, 0, 0, 0].map .int)]) := by
    have b : binF .Mult (.ref hp.length) (.int 4) (hp ++ [.lst [.int 0]]) = some (.ref (hp ++ [IO.lst [.int 0]]).length, hp ++ [.lst [.int 0]] ++ [.lst [.int 0, .int 0, .int 0, .int 0]]) := by
      unfold binF
      simp only [get_last]
      rw [if_pos ⟨by decide, by decide, by decide⟩]
      rfl
    simp [runB, evSs, evS, ev, evs, evO, evIt, tst, tstO, sto, stos, unpk, asgT, asgTs, Out.bind_ok, Out.bind_err, Out.bind_stuck, Out.of_some, Out.of_none, Out.then_ok, Out.then_err, Out.then_stuck, SOut.seq_nx, SOut.seq_rt, SOut.seq_bk, SOut.seq_ct, SOut.seq_err, SOut.seq_stuck, List.map_cons, List.map_nil, List.length_cons, List.length_nil, List.replicate, List.cons_append, List.nil_append, List.getElem?_cons_zero, List.getElem?_cons_succ, List.set_cons_zero, List.set_cons_succ, Nat.reduceSub, Nat.reduceAdd, Nat.reduceLT, Nat.reduceLeDiff, Int.ofNat_eq_natCast, if_true, if_false, Bool.false_eq_true, Bool.not_true, Bool.not_false, b]
  have s1 : evS (envTo dcs 4) 100000 (.forS (.tup [.name 2, .name 3]) (.enum (.var 0)) SB) [some (tx s), some (.ref (hp.length + 1)), none, none] (hp ++ [.lst [.int 0], .lst ([0, 0, 0, 0].map .int)]) = .nx [some (tx s), some (.ref (hp.length + 1)), y2, y3] (hp ++ [.lst [.int 0], .lst ((sums s).map .int)]) := by
    have ei : evIt (envTo dcs 4) (.enum (.var 0)) [some (tx s), some (.ref (hp.length + 1)), none, none] (hp ++ [.lst [.int 0], .lst ([0, 0, 0, 0].map .int)]) = .ok (.enum (.strR (SX.S s))) (hp ++ [.lst [.int 0], .lst ([0, 0, 0, 0].map .int)]) := rfl
    simp only [evS, ei, Out.then_ok]
    rw [show itLen (.enum (.strR (SX.S s))) (hp ++ [.lst [.int 0], .lst ([0, 0, 0, 0].map .int)]) = s.length from tx_itLen (hp := hp)]
    exact q1
  rw [e0]
  show evSs (envTo dcs 4) 100000 _ [some (tx s), none, none, none] hp = _
  rw [evSs_cons s0, evSs_cons s1]
  refine evSs_ret ?_
  simp [runB, evSs, evS, ev, evs, evO, evIt, tst, tstO, sto, stos, unpk, asgT, asgTs, Out.bind_ok, Out.bind_err, Out.bind_stuck, Out.of_some, Out.of_none, Out.then_ok, Out.then_err, Out.then_stuck, SOut.seq_nx, SOut.seq_rt, SOut.seq_bk, SOut.seq_ct, SOut.seq_err, SOut.seq_stuck, List.map_cons, List.map_nil, List.length_cons, List.length_nil, List.replicate, List.cons_append, List.nil_append, List.getElem?_cons_zero, List.getElem?_cons_succ, List.set_cons_zero, List.set_cons_succ, Nat.reduceSub, Nat.reduceAdd, Nat.reduceLT, Nat.reduceLeDiff, Int.ofNat_eq_natCast, if_true, if_false, Bool.false_eq_true, Bool.not_true, Bool.not_false]
end K77

set_option Elab.async false
set_option linter.all false
set_option autoImplicit false
set_option maxRecDepth 100000
set_option maxHeartbeats 4000000
namespace K77
open PySem PySem.Spec PyProof.Rows L2 Itp
theorem str_ty {a : List Nat} {hp : IH} : bfF .isinstance [tx a, .ty "str"] hp = some (.bl true, hp) := by
  rw [bf_isi okTy_str]
  rfl
/-- all signs of a text are good -/
theorem ev_okAll {k : Nat} {v j : Nat} {a : List Nat} {hp : IH} {ρ : IS} (hk : 1 < k) (hρ : ρ[v]? = some (some (tx a))) (hj : j < ρ.length) (hl : a.length < lineLen) :
    ev (envTo dcs k) (.blt .all [.comp (.call 1 [.var j]) (.name j) (.val (.var v)) none [j]]) ρ hp = .ok (.bl (a.all ok)) (hp ++ [.lst (a.map fun c => .bl (ok c))]) := by
  have ei : evIt (envTo dcs k) (.val (.var v)) ρ hp = .ok (.strR (SX.S a)) hp := by
    simp only [evIt, ev, hρ, Out.bind_ok]
    rfl
  have ec := ev_comp (a := IE.call 1 [IE.var j]) (t := Tgt.name j) (c := none) (own := [j]) ei
  have cp := comp_pure (elt := ev (envTo dcs k) (IE.call 1 [IE.var j])) (cond := tstO (envTo dcs k) none) (t := Tgt.name j) (J := .strR (SX.S a)) (ρ := wipeI ρ [j]) (hp := hp) (a.map fun c => tx [c]) (fun w => match w with | .str s => .bl (ok (s.cps.getD 0 0)) | w => w)
    (fun ρ hp => by simp only [tstO]) (by simpa using hl) (fun acc i => by rw [tx_cur, List.getElem?_map]) (fun w hw acc => by
      obtain ⟨c, hc, rfl⟩ := List.mem_map.mp hw
      refine ⟨(wipeI ρ [j]).set j (some (tx [c])), rfl, ?_⟩
      have hg : ((wipeI ρ [j]).set j (some (tx [c])))[j]? = some (some (tx [c])) := List.getElem?_set_self (by simp [wipeI, hj])
      simp only [ev, evs, hg, Out.bind_ok, env_lt hk, sp_is_sign]
      rfl)
  rw [tx_itLen, ← List.length_map (f := fun c => tx [c]), cp] at ec
  have e2 : (a.map fun c => tx [c]).map (fun w => match w with | .str s => W.bl (ok (s.cps.getD 0 0)) | w => w) = a.map fun c => .bl (ok c) := by
    rw [List.map_map]
    rfl
  rw [e2] at ec
  have b := all_ref (hp := hp ++ [.lst (a.map fun c => .bl (ok c))]) (k := hp.length) get_last (bools_map a ok)
  rw [List.all_map] at b
  exact ev_blt1 ec b
theorem ev_andT {F : FEnv} {a b : IE} {ρ : IS} {hp h1 : IH} {x : W} (h : ev F a ρ hp = .ok x h1) (q : truth h1 x = some true) : ev F (.and a b) ρ hp = ev F b ρ h1 := by
  have e : ev F (.and a b) ρ hp = (ev F a ρ hp).bind fun x hp => match truth hp x with
    | some true => ev F b ρ hp
    | some false => .ok x hp
    | none => .stuck := by
    simp only [ev]
    try congr 1
  rw [e, h, Out.bind_ok]
  simp only [q]
theorem sp_body {a : List Nat} {hp : IH} (h1 : 1 ≤ a.length) (h2 : a.length ≤ 5000) (h3 : a.all ok = true) : G dcs 2 [tx a] hp = .ok (.bl true) hp := by
  have hl : a.length < lineLen := Nat.lt_of_le_of_lt h2 (by decide)
  have e := ev_okAll (k := 2) (v := 0) (j := 1) (a := a) (hp := hp) (ρ := [some (tx a), none]) (by decide) rfl (by simp) hl
  rw [h3] at e
  rw [g_is_body rfl]
  have e2 : b_is_body = [.ret (.and (.blt .isinstance [.var 0, .cst (.ty "str")]) (.and (.chn .LtE .LtE (.cst (.int 1)) (.blt .len [.var 0]) (.cst (.int 5000))) (.blt .all [.comp (.call 1 [.var 1]) (.name 1) (.val (.var 0)) none [1]])))] := rfl
  rw [e2]
  have run : runB (envTo dcs 2) 100000 [.ret (.and (.blt .isinstance [.var 0, .cst (.ty "str")]) (.and (.chn .LtE .LtE (.cst (.int 1)) (.blt .len [.var 0]) (.cst (.int 5000))) (.blt .all [.comp (.call 1 [.var 1]) (.name 1) (.val (.var 0)) none [1]])))] 2 [tx a] hp = .ok (.bl true) (hp ++ [.lst (a.map fun c => .bl (ok c))]) := by
    refine runB_rt (evSs_ret (evS_ret ?_))
    show ev (envTo dcs 2) _ [some (tx a), none] hp = _
    have l1 : bfF .len [tx a] hp = some (.int a.length, hp) := tx_len (Nat.le_of_lt hl)
    have c1 : (1 : Int) ≤ (a.length : Int) := by omega
    have c2 : (a.length : Int) ≤ 5000 := by omega
    have a1 : ev (envTo dcs 2) (.blt .isinstance [.var 0, .cst (.ty "str")]) [some (tx a), none] hp = .ok (.bl true) hp := by
      simp only [ev, evs, List.getElem?_cons_zero, Out.bind_ok, str_ty, Out.of_some]
    have a2 : ev (envTo dcs 2) (.chn .LtE .LtE (.cst (.int 1)) (.blt .len [.var 0]) (.cst (.int 5000))) [some (tx a), none] hp = .ok (.bl true) hp := by
      simp only [ev, evs, List.getElem?_cons_zero, Out.bind_ok, l1, Out.of_some, cmp_le, cmpF_eq, decide_eq_true c1, decide_eq_true c2, Option.map_some]
    rw [ev_andT a1 rfl, ev_andT a2 rfl]
    exact e
  rw [run]
  exact fin_same (by simp)
end K77

set_option Elab.async false
set_option linter.all false
set_option autoImplicit false
set_option maxRecDepth 100000
set_option maxHeartbeats 4000000
namespace K77
open PySem PySem.Spec PyProof.Rows L2 Itp
/-- four digits -/
def d4 (n : Nat) : List Nat := [48 + n / 1000 % 10, 48 + n / 100 % 10, 48 + n / 10 % 10, 48 + n % 10]
theorem numL_d4 {n : Nat} (hn : n < 10000) : List.replicate (4 - (TL.numL n).length) 48 ++ TL.numL n = d4 n := by
  unfold d4
  by_cases h1 : n < 10
  · rw [TL.numL_lt h1, show n / 1000 % 10 = 0 by omega, show n / 100 % 10 = 0 by omega, show n / 10 % 10 = 0 by omega, show n % 10 = n by omega]
    rfl
  · rw [TL.numL_step (by omega)]
    by_cases h2 : n < 100
    · rw [TL.numL_lt (show n / 10 < 10 by omega), show n / 1000 % 10 = 0 by omega, show n / 100 % 10 = 0 by omega, show n / 10 % 10 = n / 10 by omega]
      rfl
    · rw [TL.numL_step (show 10 ≤ n / 10 by omega)]
      by_cases h3 : n < 1000
      · rw [TL.numL_lt (show n / 10 / 10 < 10 by omega), show n / 1000 % 10 = 0 by omega, show n / 10 / 10 = n / 100 % 10 by omega]
        rfl
      · rw [TL.numL_step (show 10 ≤ n / 10 / 10 by omega), TL.numL_lt (show n / 10 / 10 / 10 < 10 by omega), show n / 10 / 10 / 10 = n / 1000 % 10 by omega, show n / 10 / 10 % 10 = n / 100 % 10 by omega]
        rfl
/-- nine's complement of digits -/
def c9 (l : List Nat) : List Nat := l.map fun c => 105 - c
def sizeT (n : Nat) : List Nat := d4 n ++ c9 (d4 n)
theorem dig_int {c : Nat} {hp : IH} (h : 48 ≤ c) (h2 : c ≤ 57) : bfF .tInt [tx [c]] hp = some (.int ((c - 48 : Nat) : Int), hp) := by
  have q : ∀ d, d < 10 → intText? (SX.S [48 + d]) = some (d : Int) := by decide +kernel
  have := q (c - 48) (by omega)
  rw [show 48 + (c - 48) = c by omega] at this
  show (if (SX.S [c]).length ≤ 640 then (PySem.intText? (SX.S [c])).map fun n => (W.int n, hp) else none) = _
  rw [if_pos (by rw [SX.S_len]; simp), this]
  rfl
theorem str_num {n : Nat} {hp : IH} (h : n < 2 ^ 64) : bfF .tStr [.int (n : Int)] hp = some (tx (TL.numL n), hp) := by
  have l : (n : Int).natAbs.log2 < 1920 := by
    rw [Int.natAbs_natCast]
    by_cases z : n = 0
    · subst z
      decide
    · have := (Nat.log2_lt z).mpr h
      omega
  show (if (n : Int).natAbs.log2 < 1920 then some (W.str (toString (n : Int)), hp) else none) = _
  rw [if_pos l]
  have := SX.num_S n
  show some (W.str (Str.ofString (toString (n : Int))), hp) = _
  rw [this]
end K77

set_option Elab.async false
set_option linter.all false
set_option autoImplicit false
set_option maxRecDepth 100000
set_option maxHeartbeats 4000000
namespace K77
open PySem PySem.Spec PyProof.Rows L2 Itp
theorem d4_dig (n : Nat) : ∀ c ∈ d4 n, 48 ≤ c ∧ c ≤ 57 := by
  intro c h
  simp only [d4, List.mem_cons, List.not_mem_nil, or_false] at h
  rcases h with h | h | h | h <;> omega
theorem mul0 {k : Nat} {hp : IH} (h : k < 4) : binF .Mult (tx [48]) (.int (k : Int)) hp = some (tx (List.replicate k 48), hp) := by
  match k, h with
  | 0, _ => rfl
  | 1, _ => rfl
  | 2, _ => rfl
  | 3, _ => rfl
/-- the nines' complement of digits, sign by sign -/
theorem ev_c9 {k v j : Nat} {a : List Nat} {hp : IH} {ρ : IS} (hρ : ρ[v]? = some (some (tx a))) (hj : j < ρ.length) (hd : ∀ c ∈ a, 48 ≤ c ∧ c ≤ 57) (hl : a.length < 1000) :
    ev (envTo dcs k) (.meth .join (.cst (tx [])) [.comp (.blt .tStr [.bin .Sub (.cst (.int 9)) (.blt .tInt [.var j])]) (.name j) (.val (.var v)) none [j]]) ρ hp = .ok (tx (c9 a)) (hp ++ [.lst (a.map fun c => tx [105 - c])]) := by
  have ei : evIt (envTo dcs k) (.val (.var v)) ρ hp = .ok (.strR (SX.S a)) hp := by
    simp only [evIt, ev, hρ, Out.bind_ok]
    rfl
  have ec := ev_comp (a := .blt .tStr [.bin .Sub (.cst (.int 9)) (.blt .tInt [.var j])]) (t := Tgt.name j) (c := none) (own := [j]) ei
  have cp := comp_pure (elt := ev (envTo dcs k) (.blt .tStr [.bin .Sub (.cst (.int 9)) (.blt .tInt [.var j])])) (cond := tstO (envTo dcs k) none) (t := Tgt.name j) (J := .strR (SX.S a)) (ρ := wipeI ρ [j]) (hp := hp) (a.map fun c => tx [c]) (fun w => match w with | .str s => tx [105 - s.cps.getD 0 0] | w => w)
    (fun ρ hp => by simp only [tstO]) (by rw [List.length_map]; exact Nat.lt_of_lt_of_le hl (by decide)) (fun acc i => by rw [tx_cur, List.getElem?_map]) (fun w hw acc => by
      obtain ⟨c, hc, rfl⟩ := List.mem_map.mp hw
      obtain ⟨d1, d2⟩ := hd c hc
      refine ⟨(wipeI ρ [j]).set j (some (tx [c])), rfl, ?_⟩
      have hg : ((wipeI ρ [j]).set j (some (tx [c])))[j]? = some (some (tx [c])) := List.getElem?_set_self (by simp [wipeI, hj])
      have e : (9 : Int) - ((c - 48 : Nat) : Int) = ((57 - c : Nat) : Int) := by omega
      simp only [ev, evs, hg, Out.bind_ok, dig_int d1 d2, Out.of_some, bin_sub, e, str_num (n := 57 - c) (Nat.lt_of_le_of_lt (show 57 - c ≤ 57 by omega) (by decide)), TL.numL_lt (show 57 - c < 10 by omega)]
      show Out.ok (tx [48 + (57 - c)]) _ = Out.ok (tx [105 - c]) _
      rw [show 48 + (57 - c) = 105 - c by omega])
  rw [tx_itLen, ← List.length_map (f := fun c => tx [c]), cp] at ec
  have e2 : (a.map fun c => tx [c]).map (fun w => match w with | .str s => tx [105 - s.cps.getD 0 0] | w => w) = a.map fun c => tx [105 - c] := by
    rw [List.map_map]
    rfl
  rw [e2] at ec
  have r : recOk .join (tx []) hp = true := rfl
  have jn := tx_join (hp := hp ++ [.lst (a.map fun c => tx [105 - c])]) (w := .ref hp.length) (ys := a.map fun c => [105 - c]) (items_ref get_last) (by rw [List.map_map]; rfl) (by
    rw [List.map_map]
    have : ((a.map ((fun x : List Nat => x.length) ∘ fun c => [105 - c])).sum) = a.length := by
      clear hd hl ei ec cp e2 hρ
      induction a with
      | nil => rfl
      | cons x a ih => simp [ih]; omega
    rw [this]
    exact Nat.le_of_lt (Nat.lt_of_lt_of_le hl (by decide)))
  have e3 : (a.map fun c => [105 - c]).flatten = c9 a := by
    unfold c9
    clear hd hl ei ec cp e2 hρ jn
    induction a with
    | nil => rfl
    | cons x a ih =>
      rw [List.map_cons, List.flatten_cons, ih]
      rfl
  rw [e3] at jn
  have m : ev (envTo dcs k) (.meth .join (.cst (tx [])) [.comp (.blt .tStr [.bin .Sub (.cst (.int 9)) (.blt .tInt [.var j])]) (.name j) (.val (.var v)) none [j]]) ρ hp = (ev (envTo dcs k) (.comp (.blt .tStr [.bin .Sub (.cst (.int 9)) (.blt .tInt [.var j])]) (.name j) (.val (.var v)) none [j]) ρ hp).bind fun w hp => .of (bmF .join (tx []) [w] hp) := by
    simp only [ev, evs, Out.bind_ok, r, if_true]
    generalize (evIt (envTo dcs k) _ ρ hp).bind _ = z
    cases z <;> rfl
  rw [m, ec, Out.bind_ok, jn]
  rfl
end K77

set_option Elab.async false
set_option linter.all false
set_option autoImplicit false
set_option maxRecDepth 100000
set_option maxHeartbeats 4000000
namespace K77
open PySem PySem.Spec PyProof.Rows L2 Itp
theorem sp_size {n : Nat} {hp : IH} (h : n < 10000) : G dcs 6 [.int (n : Int)] hp = .ok (tx (sizeT n)) hp := by
  rw [g_size_told rfl]
  have e0 : b_size_told = [.asg (.name 1) (.blt .tStr [.var 0]), .asg (.name 1) (.bin .Add (.bin .Mult (.cst (tx [48])) (.bin .Sub (.cst (.int 4)) (.blt .len [.var 1]))) (.var 1)),
    .ret (.bin .Add (.var 1) (.meth .join (.cst (tx [])) [.comp (.blt .tStr [.bin .Sub (.cst (.int 9)) (.blt .tInt [.var 2])]) (.name 2) (.val (.var 1)) none [2]]))] := rfl
  have l1 : (TL.numL n).length ≤ 4 := TL.numL_len (k := 4) (by decide) (by omega)
  have l0 : 0 < (TL.numL n).length := List.length_pos_iff.mpr (TL.numL_ne n)
  have big : ∀ k, k ≤ 100 → k ≤ lineLen := fun k hk => Nat.le_trans hk (by decide)
  have s0 : evS (envTo dcs 6) 100000 (.asg (.name 1) (.blt .tStr [.var 0])) [some (.int (n : Int)), none, none] hp = .nx [some (.int (n : Int)), some (tx (TL.numL n)), none] hp := by
    simp [runB, evSs, evS, ev, evs, evO, evIt, tst, tstO, sto, stos, unpk, asgT, asgTs, Out.bind_ok, Out.bind_err, Out.bind_stuck, Out.of_some, Out.of_none, Out.then_ok, Out.then_err, Out.then_stuck, SOut.seq_nx, SOut.seq_rt, SOut.seq_bk, SOut.seq_ct, SOut.seq_err, SOut.seq_stuck, List.map_cons, List.map_nil, List.length_cons, List.length_nil, List.replicate, List.cons_append, List.nil_append, List.getElem?_cons_zero, List.getElem?_cons_succ, List.set_cons_zero, List.set_cons_succ, Nat.reduceSub, Nat.reduceAdd, Nat.reduceLT, Nat.reduceLeDiff, Int.ofNat_eq_natCast, if_true, if_false, Bool.false_eq_true, Bool.not_true, Bool.not_false, str_num (n := n) (Nat.lt_of_lt_of_le h (by decide))]
  have e4 : (4 : Int) - ((TL.numL n).length : Int) = ((4 - (TL.numL n).length : Nat) : Int) := by omega
  have s1 : evS (envTo dcs 6) 100000 (.asg (.name 1) (.bin .Add (.bin .Mult (.cst (tx [48])) (.bin .Sub (.cst (.int 4)) (.blt .len [.var 1]))) (.var 1))) [some (.int (n : Int)), some (tx (TL.numL n)), none] hp = .nx [some (.int (n : Int)), some (tx (d4 n)), none] hp := by
    have a := tx_add (hp := hp) (a := List.replicate (4 - (TL.numL n).length) 48) (b := TL.numL n) (by rw [List.length_replicate]; exact big _ (by omega))
    rw [numL_d4 h] at a
    simp only [runB, evSs, evS, ev, evs, evO, evIt, tst, tstO, sto, stos, unpk, asgT, asgTs, Out.bind_ok, Out.bind_err, Out.bind_stuck, Out.of_some, Out.of_none, Out.then_ok, Out.then_err, Out.then_stuck, SOut.seq_nx, SOut.seq_rt, SOut.seq_bk, SOut.seq_ct, SOut.seq_err, SOut.seq_stuck, List.map_cons, List.map_nil, List.length_cons, List.length_nil, List.replicate, List.cons_append, List.nil_append, List.getElem?_cons_zero, List.getElem?_cons_succ, List.set_cons_zero, List.set_cons_succ, Nat.reduceSub, Nat.reduceAdd, Nat.reduceLT, Nat.reduceLeDiff, Int.ofNat_eq_natCast, if_true, if_false, Bool.false_eq_true, Bool.not_true, Bool.not_false, tx_len (a := TL.numL n) (big _ (by omega)), bin_sub, e4, mul0 (show 4 - (TL.numL n).length < 4 by omega), a]
  have c := ev_c9 (k := 6) (v := 1) (j := 2) (a := d4 n) (hp := hp) (ρ := [some (.int (n : Int)), some (tx (d4 n)), none]) rfl (by simp) (d4_dig n) (by simp [d4])
  have a := tx_add (hp := hp ++ [.lst ((d4 n).map fun c => tx [105 - c])]) (a := d4 n) (b := c9 (d4 n)) (big _ (by simp [c9, d4]))
  have run : runB (envTo dcs 6) 100000 b_size_told 3 [.int (n : Int)] hp = .ok (tx (sizeT n)) (hp ++ [.lst ((d4 n).map fun c => tx [105 - c])]) := by
    rw [e0]
    refine runB_rt ?_
    show evSs (envTo dcs 6) 100000 _ [some (.int (n : Int)), none, none] hp = _
    rw [evSs_cons s0, evSs_cons s1]
    refine evSs_ret (evS_ret ?_)
    have m : ∀ (x y : IE) (ρ : IS), ev (envTo dcs 6) (.bin .Add x y) ρ hp = (ev (envTo dcs 6) x ρ hp).bind fun u h => (ev (envTo dcs 6) y ρ h).bind fun v h => .of (binF .Add u v h) := fun x y ρ => by simp only [ev]
    rw [m]
    have v1 : ev (envTo dcs 6) (.var 1) [some (.int (n : Int)), some (tx (d4 n)), none] hp = .ok (tx (d4 n)) hp := by simp only [ev, List.getElem?_cons_succ, List.getElem?_cons_zero]
    rw [v1, Out.bind_ok, c, Out.bind_ok, a]
    rfl
  rw [run]
  exact fin_same (by simp)
end K77

set_option Elab.async false
set_option linter.all false
set_option autoImplicit false
set_option maxRecDepth 100000
set_option maxHeartbeats 4000000
namespace K77
open PySem PySem.Spec PyProof.Rows L2 Itp
theorem rng2_aux {n m : Nat} {hp1 : IH} (c : -(2 ^ 62) ≤ (n : Int) ∧ (n : Int) < 2 ^ 62 ∧ -(2 ^ 62) ≤ ((n + m : Nat) : Int) ∧ ((n + m : Nat) : Int) < 2 ^ 62) :
    (if -(2 ^ 62) ≤ (n : Int) ∧ (n : Int) < 2 ^ 62 ∧ -(2 ^ 62) ≤ ((n + m : Nat) : Int) ∧ ((n + m : Nat) : Int) < 2 ^ 62 then Out.ok (Iter.rng (n : Int) (((n + m : Nat) : Int) - (n : Int)).toNat) hp1 else .stuck) = .ok (.rng (n : Int) m) hp1 := by
  rw [if_pos c, show ((n + m : Nat) : Int) - (n : Int) = (m : Int) by omega, Int.toNat_natCast]
theorem evIt_rng2 {F : FEnv} {n m : Nat} {a b : IE} {ρ : IS} {hp h1 h2 : IH} (h : ev F a ρ hp = .ok (.int (n : Int)) h1) (q : ev F b ρ h1 = .ok (.int ((n + m : Nat) : Int)) h2)
    (c : -(2 ^ 62) ≤ (n : Int) ∧ (n : Int) < 2 ^ 62 ∧ -(2 ^ 62) ≤ ((n + m : Nat) : Int) ∧ ((n + m : Nat) : Int) < 2 ^ 62) : evIt F (.rng2 a b) ρ hp = .ok (.rng (n : Int) m) h2 := by
  have e : evIt F (.rng2 a b) ρ hp = (ev F a ρ hp).bind fun w hp => (ev F b ρ hp).bind fun u hp => match w, u with
    | .int i, .int j => if -(2 ^ 62) ≤ i ∧ i < 2 ^ 62 ∧ -(2 ^ 62) ≤ j ∧ j < 2 ^ 62 then .ok (.rng i (j - i).toNat) hp else .stuck
    | _, _ => .stuck := by
    rw [evIt.eq_3]
    try congr 1
  rw [e, h, Out.bind_ok, q, Out.bind_ok]
  exact rng2_aux c
end K77

set_option Elab.async false
set_option linter.all false
set_option autoImplicit false
set_option maxRecDepth 100000
set_option maxHeartbeats 4000000
namespace K77
open PySem PySem.Spec PyProof.Rows L2 Itp
/-- the sign that makes a lane's sum nothing -/
def back (v : Int) : Nat := nb.getD ((0 - v) % 96).toNat 0
def tailL (s : List Nat) : List Nat := (List.range 4).map fun j => back ((sums s).getD ((s.length + j) % 4) 0)
def TB : IStm := IStm.augN 2 Operator.Add
            ((IE.cst (tx nb)).sub
              (IE.bin Operator.Mod
                (IE.blt BF.tInt
                  [IE.bin Operator.Sub (IE.cst (W.int (Int.ofNat 0)))
                      ((IE.var 1).sub
                        (IE.bin Operator.Mod (IE.blt BF.tInt [IE.var 3]) (IE.cst (W.int (Int.ofNat 4)))))])
                (IE.blt BF.len [IE.cst (tx nb)])))
theorem tail_body {m i : Nat} {x0 : Option W} {q : List Int} {f : List Nat} {h : IH} (hm : h[m]? = some (.lst (q.map .int))) (hq : q.length = 4) (hf : f.length < 100) :
    evSs (envTo dcs 5) 100000 [TB] [x0, some (.ref m), some (tx f), some (.int (i : Int))] h = .nx [x0, some (.ref m), some (tx (f ++ [back (q.getD (i % 4) 0)])), some (.int (i : Int))] h := by
  have e1 : binF .Mod (.int (i : Int)) (.int 4) h = some (.int ((i % 4 : Nat) : Int), h) := by
    rw [bin_mod (by decide)]
    rfl
  have hi : i % 4 < q.length := by omega
  have e2 : subF (.ref m) (.int ((i % 4 : Nat) : Int)) h = some (.int (q.getD (i % 4) 0), h) := by
    rw [sub_ref hm, atI_nat (v := .int (q.getD (i % 4) 0)) (by rw [List.getElem?_map, List.getD_eq_getElem?_getD, List.getElem?_eq_getElem hi]; rfl)]
    rfl
  have l : bfF .len [tx nb] h = some (.int 96, h) := tx_len (by decide)
  have z0 := Int.emod_nonneg (0 - q.getD (i % 4) 0) (show (96 : Int) ≠ 0 by decide)
  have z1 := Int.emod_lt_of_pos (0 - q.getD (i % 4) 0) (show (0 : Int) < 96 by decide)
  have e3 : subF (tx nb) (.int ((0 - q.getD (i % 4) 0) % 96)) h = some (tx [back (q.getD (i % 4) 0)], h) := by
    have hb : ((0 - q.getD (i % 4) 0) % 96).toNat < nb.length := by
      show _ < 96
      omega
    have := tx_sub (hp := h) (a := nb) (i := ((0 - q.getD (i % 4) 0) % 96).toNat) (c := back (q.getD (i % 4) 0)) (by decide) (by
      unfold back
      generalize ((0 - q.getD (i % 4) 0) % 96).toNat = t at hb
      rw [List.getD_eq_getElem?_getD, List.getElem?_eq_getElem hb]
      rfl)
    rwa [Int.toNat_of_nonneg z0] at this
  have ia : ipF .Add (tx f) (tx [back (q.getD (i % 4) 0)]) h = some (tx (f ++ [back (q.getD (i % 4) 0)]), h) := tx_iadd (by
    refine Nat.le_trans ?_ (show 1000 ≤ lineLen by decide)
    simp
    omega)
  simp only [TB, evSs, evS, ev, evs, Out.bind_ok, Out.then_ok, List.getElem?_cons_zero, List.getElem?_cons_succ, bf_tInt, Out.of_some, Int.ofNat_eq_natCast]
  rw [show ((4 : Nat) : Int) = 4 from rfl, show ((0 : Nat) : Int) = 0 from rfl, e1]
  simp only [Out.of_some, Out.bind_ok, Out.then_ok, e2, bin_sub, bf_tInt, l, bin_mod (show (0 : Int) < 96 by decide), e3, ia, SOut.seq_nx]
  rfl
end K77

set_option Elab.async false
set_option linter.all false
set_option autoImplicit false
set_option maxRecDepth 100000
set_option maxHeartbeats 4000000
namespace K77
open PySem PySem.Spec PyProof.Rows L2 Itp
theorem sp_tail {s : List Nat} {hp : IH} (hs : s.all ok = true) (hl : s.length ≤ 100000) : G dcs 5 [tx s] hp = .ok (tx (tailL s)) hp := by
  have big : s.length ≤ lineLen := Nat.le_trans hl (by decide)
  obtain ⟨h1, eh⟩ : ∃ h1, h1 = hp ++ [IO.lst [.int 0], .lst ((sums s).map .int)] := ⟨_, rfl⟩
  have hm : h1[hp.length + 1]? = some (.lst ((sums s).map .int)) := by
    rw [eh, List.getElem?_append_right (by omega), show hp.length + 1 - hp.length = 1 by omega]
    rfl
  have hq : (sums s).length = 4 := sums_len s 0 _
  obtain ⟨ρ', h', q1, y, q2, q3⟩ := for_run (body := evSs (envTo dcs 5) 100000 [TB]) (t := .name 3) (J := .rng (s.length : Int) 4)
    (fun i ρ h => ∃ y, ρ = [some (tx s), some (.ref (hp.length + 1)), some (tx ((tailL s).take i)), y] ∧ h = h1) 4
    (fun i ρ h hi ⟨y, e1, e2⟩ => by
      subst e1 e2
      have e : ((tailL s).take i).length < 100 := by
        rw [List.length_take]
        have : (tailL s).length = 4 := by simp [tailL]
        omega
      refine ⟨.int ((s.length + i : Nat) : Int), [some (tx s), some (.ref (hp.length + 1)), some (tx ((tailL s).take i)), some (.int ((s.length + i : Nat) : Int))], _, _, ?_, by simp [asgT], .inl (tail_body hm hq e), some (.int ((s.length + i : Nat) : Int)), ?_, rfl⟩
      · rw [cur_rng, if_pos hi]
        rfl
      · rw [List.take_add_one]
        have : (tailL s)[i]? = some (back ((sums s).getD ((s.length + i) % 4) 0)) := by
          unfold tailL
          rw [List.getElem?_map, List.getElem?_range hi]
          rfl
        rw [this]
        rfl)
    (fun ρ h _ => by simp) 4 0 [some (tx s), some (.ref (hp.length + 1)), some (tx []), none] h1 (by omega) ⟨none, rfl, rfl⟩
  have tl : (tailL s).take 4 = tailL s := List.take_of_length_le (by simp [tailL])
  rw [tl] at q2
  subst q2 q3
  rw [g_tail_of rfl]
  have e0 : b_tail_of = [.asg (.tup [.name 1, .name 2]) (.tup [.call 4 [.var 0], .cst (tx [])]), .forS (.name 3) (.rng2 (.blt .len [.var 0]) (.bin .Add (.blt .len [.var 0]) (.cst (.int 4)))) [TB], .ret (.var 2)] := rfl
  have sm := sp_sums (hp := hp) hs big
  rw [← eh] at sm
  have s0 : evS (envTo dcs 5) 100000 (.asg (.tup [.name 1, .name 2]) (.tup [.call 4 [.var 0], .cst (tx [])])) [some (tx s), none, none, none] hp = .nx [some (tx s), some (.ref (hp.length + 1)), some (tx []), none] h' := by
    simp [runB, evSs, evS, ev, evs, evO, evIt, tst, tstO, sto, stos, unpk, asgT, asgTs, Out.bind_ok, Out.bind_err, Out.bind_stuck, Out.of_some, Out.of_none, Out.then_ok, Out.then_err, Out.then_stuck, SOut.seq_nx, SOut.seq_rt, SOut.seq_bk, SOut.seq_ct, SOut.seq_err, SOut.seq_stuck, List.map_cons, List.map_nil, List.length_cons, List.length_nil, List.replicate, List.cons_append, List.nil_append, List.getElem?_cons_zero, List.getElem?_cons_succ, List.set_cons_zero, List.set_cons_succ, Nat.reduceSub, Nat.reduceAdd, Nat.reduceLT, Nat.reduceLeDiff, Int.ofNat_eq_natCast, if_true, if_false, Bool.false_eq_true, Bool.not_true, Bool.not_false, env_lt, sm]
  have ln : ∀ ρ : IS, ρ[0]? = some (some (tx s)) → ev (envTo dcs 5) (.blt .len [.var 0]) ρ h' = .ok (.int (s.length : Int)) h' := fun ρ hρ => by
    simp only [ev, evs, hρ, Out.bind_ok, tx_len big, Out.of_some]
  have ei := evIt_rng2 (F := envTo dcs 5) (n := s.length) (m := 4) (a := .blt .len [.var 0]) (b := .bin .Add (.blt .len [.var 0]) (.cst (.int 4))) (ρ := [some (tx s), some (.ref (hp.length + 1)), some (tx []), none]) (hp := h') (ln _ rfl) (by
    have m : ∀ (x y : IE) (ρ : IS), ev (envTo dcs 5) (.bin .Add x y) ρ h' = (ev (envTo dcs 5) x ρ h').bind fun u h => (ev (envTo dcs 5) y ρ h).bind fun v h => .of (binF .Add u v h) := fun x y ρ => by simp only [ev]
    rw [m, ln _ rfl, Out.bind_ok]
    simp only [ev, Out.bind_ok, bin_add, Out.of_some]
    rfl) ⟨by omega, by omega, by omega, by omega⟩
  have s1 : evS (envTo dcs 5) 100000 (.forS (.name 3) (.rng2 (.blt .len [.var 0]) (.bin .Add (.blt .len [.var 0]) (.cst (.int 4)))) [TB]) [some (tx s), some (.ref (hp.length + 1)), some (tx []), none] h' = .nx [some (tx s), some (.ref (hp.length + 1)), some (tx (tailL s)), y] h' := by
    simp only [evS, ei, Out.then_ok, itLen_rng]
    exact q1
  have run : runB (envTo dcs 5) 100000 b_tail_of 4 [tx s] hp = .ok (tx (tailL s)) h' := by
    rw [e0]
    refine runB_rt ?_
    show evSs (envTo dcs 5) 100000 _ [some (tx s), none, none, none] hp = _
    rw [evSs_cons s0, evSs_cons s1]
    refine evSs_ret (evS_ret ?_)
    simp only [ev, List.getElem?_cons_succ, List.getElem?_cons_zero]
  rw [run, eh]
  exact fin_same (by simp)
end K77

set_option Elab.async false
set_option linter.all false
set_option autoImplicit false
set_option maxRecDepth 100000
set_option maxHeartbeats 4000000
namespace K77
open PySem PySem.Spec PyProof.Rows L2 Itp
def frameL (s : List Nat) : List Nat := sizeT s.length ++ s ++ tailL s
theorem sp_frame_by {s : List Nat} {hp : IH} (h2 : s.length ≤ 5000) (hs : s.all ok = true) : G dcs 7 [tx s] hp = .ok (tx (frameL s)) hp := by
  have big : ∀ k, k ≤ 100000 → k ≤ lineLen := fun k hk => Nat.le_trans hk (by decide)
  have l := tx_len (hp := hp) (a := s) (big _ (by omega))
  have a1 := tx_add (hp := hp) (a := sizeT s.length) (b := s) (big _ (by simp [sizeT, d4, c9]; omega))
  have a2 := tx_add (hp := hp) (a := sizeT s.length ++ s) (b := tailL s) (big _ (by simp [sizeT, d4, c9, tailL]; omega))
  have e1 := sp_size (n := s.length) (hp := hp) (by omega)
  have e2 := sp_tail (hp := hp) hs (by omega)
  rw [g_frame_by rfl]
  have e0 : b_frame_by = [.ret (.bin .Add (.bin .Add (.call 6 [.blt .len [.var 0]]) (.var 0)) (.call 5 [.var 0]))] := rfl
  rw [e0]
  simp only [runB, evSs, evS, ev, evs, evO, evIt, tst, tstO, sto, stos, unpk, asgT, asgTs, Out.bind_ok, Out.bind_err, Out.bind_stuck, Out.of_some, Out.of_none, Out.then_ok, Out.then_err, Out.then_stuck, SOut.seq_nx, SOut.seq_rt, SOut.seq_bk, SOut.seq_ct, SOut.seq_err, SOut.seq_stuck, List.map_cons, List.map_nil, List.length_cons, List.length_nil, List.replicate, List.cons_append, List.nil_append, List.getElem?_cons_zero, List.getElem?_cons_succ, List.set_cons_zero, List.set_cons_succ, Nat.reduceSub, Nat.reduceAdd, Nat.reduceLT, Nat.reduceLeDiff, Int.ofNat_eq_natCast, if_true, if_false, Bool.false_eq_true, Bool.not_true, Bool.not_false, l, env_lt (show 6 < 7 by decide), env_lt (show 5 < 7 by decide), e1, e2, a1, a2]
  exact fin_same0 (by simp)
theorem sp_frame {s : List Nat} {hp : IH} (h1 : 1 ≤ s.length) (h2 : s.length ≤ 5000) (hs : s.all ok = true) : G dcs 8 [tx s] hp = .ok (tx (frameL s)) hp := by
  rw [g_frame rfl]
  have e0 : b_frame = [.ite (.not (.tru (.call 2 [.var 0]))) [.nev] [], .ret (.call 7 [.var 0])] := rfl
  rw [e0]
  simp only [runB, evSs, evS, ev, evs, evO, evIt, tst, tstO, sto, stos, unpk, asgT, asgTs, Out.bind_ok, Out.bind_err, Out.bind_stuck, Out.of_some, Out.of_none, Out.then_ok, Out.then_err, Out.then_stuck, SOut.seq_nx, SOut.seq_rt, SOut.seq_bk, SOut.seq_ct, SOut.seq_err, SOut.seq_stuck, List.map_cons, List.map_nil, List.length_cons, List.length_nil, List.replicate, List.cons_append, List.nil_append, List.getElem?_cons_zero, List.getElem?_cons_succ, List.set_cons_zero, List.set_cons_succ, Nat.reduceSub, Nat.reduceAdd, Nat.reduceLT, Nat.reduceLeDiff, Int.ofNat_eq_natCast, if_true, if_false, Bool.false_eq_true, Bool.not_true, Bool.not_false, env_lt (show 2 < 8 by decide), env_lt (show 7 < 8 by decide), sp_body h1 h2 hs, truth_bl, sp_frame_by h2 hs]
  exact fin_same0 (by simp)
end K77

set_option Elab.async false
set_option linter.all false
set_option autoImplicit false
set_option maxRecDepth 100000
set_option maxHeartbeats 4000000
namespace K77
open PySem PySem.Spec PyProof.Rows L2 Itp
/-! the plain law of frames -/
def dig (c : Nat) : Bool := decide (48 ≤ c) && decide (c ≤ 57)
def val4 (l : List Nat) : Nat := match l with
  | [a, b, c, d] => (((a - 48) * 10 + (b - 48)) * 10 + (c - 48)) * 10 + (d - 48)
  | _ => 0
def lanes (q : List Int) : Bool := q.all fun v => decide (v % 96 = 0)
/-- the body of the frame with which a string begins -/
def bodyOf (t : List Nat) : Option (List Nat) :=
  if (t.take 8).length < 8 ∨ (t.take 8).all dig = false ∨ sizeT (val4 (t.take 4)) ≠ t.take 8 then none
  else if ¬ (1 ≤ val4 (t.take 4) ∧ val4 (t.take 4) ≤ 5000) ∨ ((t.drop 8).take (val4 (t.take 4) + 4)).length < val4 (t.take 4) + 4 ∨ ((t.drop 8).take (val4 (t.take 4) + 4)).all ok = false then none
  else if lanes (sums ((t.drop 8).take (val4 (t.take 4) + 4))) then some ((t.drop 8).take (val4 (t.take 4))) else none
def bodies : Nat → List Nat → List (List Nat)
  | 0, _ => []
  | f + 1, t => match bodyOf t with
    | none => []
    | some b => b :: bodies f (t.drop (b.length + 12))
theorem val4_d4 {n : Nat} (h : n < 10000) : val4 (d4 n) = n := by
  unfold d4 val4
  simp only []
  omega
theorem sizeT_len (n : Nat) : (sizeT n).length = 8 := by simp [sizeT, d4, c9]
theorem sizeT_take (n : Nat) : (sizeT n).take 4 = d4 n := by
  unfold sizeT
  rw [List.take_append_of_le_length (by simp [d4])]
  simp [d4]
theorem sizeT_dig (n : Nat) : (sizeT n).all dig = true := by
  simp only [sizeT, d4, c9, List.map_cons, List.map_nil, List.cons_append, List.nil_append, List.all_cons, List.all_nil, dig, Bool.and_true, Bool.and_eq_true, decide_eq_true_eq]
  omega
theorem tailL_len (s : List Nat) : (tailL s).length = 4 := by simp [tailL]
theorem frameL_len (s : List Nat) : (frameL s).length = s.length + 12 := by
  simp only [frameL, List.length_append, sizeT_len, tailL_len]
  omega
/-! sums -/
theorem sumsL_get : ∀ (s : List Nat) (i : Nat) (q : List Int) (r : Nat), q.length = 4 → r < 4 → (sumsL s i q).getD r 0 = q.getD r 0 + (sumsL s i [0, 0, 0, 0]).getD r 0
  | [], i, q, r, _, h => by
    show q.getD r 0 = q.getD r 0 + _
    have : ([0, 0, 0, 0] : List Int).getD r 0 = 0 := by
      match r, h with
      | 0, _ => rfl
      | 1, _ => rfl
      | 2, _ => rfl
      | 3, _ => rfl
    show q.getD r 0 = q.getD r 0 + ([0, 0, 0, 0] : List Int).getD r 0
    omega
  | c :: s, i, q, r, hq, h => by
    show (sumsL s (i + 1) _).getD r 0 = q.getD r 0 + (sumsL s (i + 1) _).getD r 0
    rw [sumsL_get s (i + 1) _ r (by rw [List.length_set]; exact hq) h, sumsL_get s (i + 1) (([0, 0, 0, 0] : List Int).set (i % 4) _) r (by simp) h]
    have key : ∀ (l : List Int) (j : Nat) (v : Int), l.length = 4 → j < 4 → (l.set j v).getD r 0 = if j = r then v else l.getD r 0 := by
      intro l j v hl hj
      rw [List.getD_eq_getElem?_getD, List.getD_eq_getElem?_getD, List.getElem?_set]
      by_cases e : j = r
      · subst e
        rw [if_pos rfl, if_pos (by omega), if_pos rfl]
        rfl
      · rw [if_neg e, if_neg e]
    have hi : i % 4 < 4 := Nat.mod_lt _ (by decide)
    rw [key q _ _ hq hi, key _ _ _ rfl hi]
    have z : ∀ j, j < 4 → ([0, 0, 0, 0] : List Int).getD j 0 = 0 := by
      intro j hj
      match j, hj with
      | 0, _ => rfl
      | 1, _ => rfl
      | 2, _ => rfl
      | 3, _ => rfl
    rw [z _ hi, z _ h]
    by_cases e : i % 4 = r
    · rw [if_pos e, if_pos e, e]
      omega
    · rw [if_neg e, if_neg e]
      omega
/-- one lane's sum -/
def lane (s : List Nat) (i r : Nat) : Int := match s with
  | [] => 0
  | c :: s => (if i % 4 = r then (num c : Int) else 0) + lane s (i + 1) r
theorem lane_sums : ∀ (s : List Nat) (i r : Nat), r < 4 → (sumsL s i [0, 0, 0, 0]).getD r 0 = lane s i r
  | [], i, r, h => by
    match r, h with
    | 0, _ => rfl
    | 1, _ => rfl
    | 2, _ => rfl
    | 3, _ => rfl
  | c :: s, i, r, h => by
    show (sumsL s (i + 1) _).getD r 0 = (if i % 4 = r then (num c : Int) else 0) + lane s (i + 1) r
    rw [sumsL_get s (i + 1) _ r (by simp) h, lane_sums s (i + 1) r h]
    congr 1
    have hi : i % 4 < 4 := Nat.mod_lt _ (by decide)
    generalize i % 4 = j at hi
    match j, r, hi, h with
    | 0, 0, _, _ => simp
    | 0, 1, _, _ => simp
    | 0, 2, _, _ => simp
    | 0, 3, _, _ => simp
    | 1, 0, _, _ => simp
    | 1, 1, _, _ => simp
    | 1, 2, _, _ => simp
    | 1, 3, _, _ => simp
    | 2, 0, _, _ => simp
    | 2, 1, _, _ => simp
    | 2, 2, _, _ => simp
    | 2, 3, _, _ => simp
    | 3, 0, _, _ => simp
    | 3, 1, _, _ => simp
    | 3, 2, _, _ => simp
    | 3, 3, _, _ => simp
theorem lane_app : ∀ (a b : List Nat) (i r : Nat), lane (a ++ b) i r = lane a i r + lane b (i + a.length) r
  | [], b, i, r => by simp [lane]
  | c :: a, b, i, r => by
    show _ + lane (a ++ b) (i + 1) r = _ + lane a (i + 1) r + _
    rw [lane_app a b (i + 1) r, show i + 1 + a.length = i + (c :: a).length by simp; omega]
    omega
theorem lanes_iff (s : List Nat) : lanes (sums s) = true ↔ ∀ r, r < 4 → lane s 0 r % 96 = 0 := by
  have hl : (sums s).length = 4 := sums_len s 0 _
  have g : ∀ r, r < 4 → (sums s).getD r 0 = lane s 0 r := fun r h => lane_sums s 0 r h
  unfold lanes
  rw [List.all_eq_true]
  constructor
  · intro h r hr
    have := h ((sums s)[r]'(by omega)) (List.getElem_mem _)
    rw [← g r hr, List.getD_eq_getElem?_getD, List.getElem?_eq_getElem (by omega)]
    exact of_decide_eq_true this
  · intro h v hv
    obtain ⟨r, hr, rfl⟩ := List.mem_iff_getElem.mp hv
    refine decide_eq_true ?_
    have := h r (by omega)
    rw [← g r (by omega), List.getD_eq_getElem?_getD, List.getElem?_eq_getElem hr] at this
    exact this
theorem num_nb : ∀ j, j < 96 → num (nb.getD j 0) = j := by decide +kernel
theorem num_lt {c : Nat} (h : ok c = true) : num c < 96 := by
  unfold ok at h
  unfold num
  simp only [Bool.or_eq_true, Bool.and_eq_true, decide_eq_true_eq] at h
  split <;> omega
theorem num_inj {c d : Nat} (h : ok c = true) (k : ok d = true) (e : num c = num d) : c = d := by
  unfold ok at h k
  unfold num at e
  simp only [Bool.or_eq_true, Bool.and_eq_true, decide_eq_true_eq] at h k
  split at e <;> split at e <;> omega
theorem num_back (v : Int) : ((num (back v) : Int) + v) % 96 = 0 := by
  unfold back
  have z0 := Int.emod_nonneg (0 - v) (show (96 : Int) ≠ 0 by decide)
  have z1 := Int.emod_lt_of_pos (0 - v) (show (0 : Int) < 96 by decide)
  rw [num_nb _ (by omega)]
  omega
theorem nb_ok : ∀ j, j < 96 → ok (nb.getD j 0) = true := by decide +kernel
theorem back_ok (v : Int) : ok (back v) = true := by
  unfold back
  have z1 := Int.emod_lt_of_pos (0 - v) (show (0 : Int) < 96 by decide)
  have z0 := Int.emod_nonneg (0 - v) (show (96 : Int) ≠ 0 by decide)
  exact nb_ok _ (by omega)
theorem tail_ok (s : List Nat) : (tailL s).all ok = true := by
  unfold tailL
  rw [List.all_map]
  exact List.all_eq_true.mpr fun j _ => back_ok _
theorem ok_dig {c : Nat} (h : dig c = true) : ok c = true := by
  unfold dig at h
  unfold ok
  simp only [Bool.and_eq_true, decide_eq_true_eq, Bool.or_eq_true] at *
  omega
theorem frame_ok {s : List Nat} (h : s.all ok = true) : (frameL s).all ok = true := by
  unfold frameL
  rw [List.all_append, List.all_append, h, tail_ok, Bool.and_true, Bool.and_true]
  exact List.all_eq_true.mpr fun c hc => ok_dig (List.all_eq_true.mp (sizeT_dig _) c hc)
/-- a body and its tail: the lanes' sums are nothing -/
theorem tail_lanes (s : List Nat) : lanes (sums (s ++ tailL s)) = true := by
  refine (lanes_iff _).mpr fun r hr => ?_
  rw [lane_app, Nat.zero_add]
  have g : ∀ r, r < 4 → (sums s).getD r 0 = lane s 0 r := fun r h => lane_sums s 0 r h
  have e : tailL s = [back (lane s 0 ((s.length + 0) % 4)), back (lane s 0 ((s.length + 1) % 4)), back (lane s 0 ((s.length + 2) % 4)), back (lane s 0 ((s.length + 3) % 4))] := by
    unfold tailL
    rw [← g _ (Nat.mod_lt _ (by decide)), ← g _ (Nat.mod_lt _ (by decide)), ← g _ (Nat.mod_lt _ (by decide)), ← g _ (Nat.mod_lt _ (by decide))]
    rfl
  rw [e]
  simp only [lane]
  generalize hL : s.length = L
  have c : r = (L + 0) % 4 ∨ r = (L + 1) % 4 ∨ r = (L + 2) % 4 ∨ r = (L + 3) % 4 := by omega
  have b := num_back (lane s 0 r)
  rcases c with c | c | c | c
  · rw [if_pos (by omega), if_neg (by omega), if_neg (by omega), if_neg (by omega), ← c]; omega
  · rw [if_neg (by omega), if_pos (by omega), if_neg (by omega), if_neg (by omega), ← c]; omega
  · rw [if_neg (by omega), if_neg (by omega), if_pos (by omega), if_neg (by omega), ← c]; omega
  · rw [if_neg (by omega), if_neg (by omega), if_neg (by omega), if_pos (by omega), ← c]; omega
structure GoodB (b : List Nat) : Prop where
  pos : 1 ≤ b.length
  le : b.length ≤ 5000
  ok : b.all ok = true
/-- a frame is read -/
theorem body_frame {b : List Nat} (g : GoodB b) (r : List Nat) : bodyOf (frameL b ++ r) = some b := by
  have hl := g.le
  have e8 : (frameL b ++ r).take 8 = sizeT b.length := by
    unfold frameL
    rw [List.append_assoc, List.append_assoc, List.take_append_of_le_length (by rw [sizeT_len]; exact Nat.le_refl _), List.take_of_length_le (by rw [sizeT_len]; exact Nat.le_refl _)]
  have e4 : (frameL b ++ r).take 4 = d4 b.length := by
    rw [← sizeT_take, ← e8, List.take_take]
    rfl
  have v : val4 ((frameL b ++ r).take 4) = b.length := by rw [e4, val4_d4 (by omega)]
  have d8 : (frameL b ++ r).drop 8 = b ++ tailL b ++ r := by
    unfold frameL
    rw [List.append_assoc, List.append_assoc, List.drop_append_of_le_length (by rw [sizeT_len]; exact Nat.le_refl _), List.drop_of_length_le (by rw [sizeT_len]; exact Nat.le_refl _), List.nil_append, List.append_assoc]
  have t4 : ((frameL b ++ r).drop 8).take (b.length + 4) = b ++ tailL b := by
    rw [d8, List.take_append_of_le_length (by simp [tailL_len]), List.take_of_length_le (by simp [tailL_len])]
  have t0 : ((frameL b ++ r).drop 8).take b.length = b := by
    rw [d8, List.append_assoc, List.take_append_of_le_length (Nat.le_refl _), List.take_of_length_le (Nat.le_refl _)]
  unfold bodyOf
  rw [v, t4, t0, e8]
  rw [if_neg (by simp [sizeT_len, sizeT_dig]), if_neg, tail_lanes, if_pos rfl]
  rw [List.all_append, g.ok, tail_ok]
  simp only [List.length_append, tailL_len, Bool.and_true, Bool.true_eq_false, or_false]
  have := g.pos
  omega
theorem body_frame0 {b : List Nat} (g : GoodB b) : bodyOf (frameL b) = some b := by
  have := body_frame g []
  rwa [List.append_nil] at this
end K77

set_option Elab.async false
set_option linter.all false
set_option autoImplicit false
set_option maxRecDepth 100000
set_option maxHeartbeats 4000000
namespace K77
open PySem PySem.Spec PyProof.Rows L2 Itp
/-! bursts -/
theorem lane_eq : ∀ (u v : List Nat) (i r : Nat), u.length = v.length → (∀ j, (i + j) % 4 = r → u[j]? = v[j]?) → lane u i r = lane v i r
  | [], [], _, _, _, _ => rfl
  | [], _ :: _, _, _, h, _ => by simp at h
  | _ :: _, [], _, _, h, _ => by simp at h
  | x :: u, y :: v, i, r, h, e => by
    show (if i % 4 = r then (num x : Int) else 0) + lane u (i + 1) r = (if i % 4 = r then (num y : Int) else 0) + lane v (i + 1) r
    rw [lane_eq u v (i + 1) r (by simpa using h) fun j hj => by
      have := e (j + 1) (by rw [← hj]; congr 1; omega)
      simpa using this]
    by_cases q : i % 4 = r
    · have := e 0 (by simpa using q)
      have : x = y := by simpa using this
      rw [this]
    · rw [if_neg q, if_neg q]
theorem lane_diff : ∀ (u v : List Nat) (i p r : Nat), u.length = v.length → p < u.length → (i + p) % 4 = r → (∀ j, j ≠ p → (i + j) % 4 = r → u[j]? = v[j]?) → lane u i r + (num (v.getD p 0) : Int) = lane v i r + (num (u.getD p 0) : Int)
  | [], _, _, _, _, _, h, _, _ => by simp at h
  | _ :: _, [], _, _, _, h, _, _, _ => by simp at h
  | x :: u, y :: v, i, 0, r, h, _, q, e => by
    show (if i % 4 = r then (num x : Int) else 0) + lane u (i + 1) r + (num y : Int) = (if i % 4 = r then (num y : Int) else 0) + lane v (i + 1) r + (num x : Int)
    rw [lane_eq u v (i + 1) r (by simpa using h) fun j hj => by
      have := e (j + 1) (by omega) (by rw [← hj]; congr 1; omega)
      simpa using this]
    have q : i % 4 = r := by simpa using q
    rw [if_pos q, if_pos q]
    omega
  | x :: u, y :: v, i, p + 1, r, h, hp, q, e => by
    show (if i % 4 = r then (num x : Int) else 0) + lane u (i + 1) r + (num (v.getD p 0) : Int) = (if i % 4 = r then (num y : Int) else 0) + lane v (i + 1) r + (num (u.getD p 0) : Int)
    have ih := lane_diff u v (i + 1) p r (by simpa using h) (by simpa using hp) (by rw [← q]; congr 1; omega) fun j hj hr => by
      have := e (j + 1) (by omega) (by rw [← hr]; congr 1; omega)
      simpa using this
    by_cases z : i % 4 = r
    · have := e 0 (by omega) (by simpa using z)
      have : x = y := by simpa using this
      rw [if_pos z, if_pos z, this]
      omega
    · rw [if_neg z, if_neg z]
      omega
/-- t' is t with the signs from a on, m of them, exchanged -/
structure Bent (t t' : List Nat) (a m : Nat) : Prop where
  len : t'.length = t.length
  m1 : 1 ≤ m
  m4 : m ≤ 4
  fit : a + m ≤ t.length
  same : ∀ i, i < a ∨ a + m ≤ i → t'[i]? = t[i]?
  diff : ∀ i, a ≤ i → i < a + m → t'[i]? ≠ t[i]?
theorem size_pair (n i : Nat) (h : i < 4) : ∃ c, (sizeT n)[i]? = some c ∧ 48 ≤ c ∧ c ≤ 57 ∧ (sizeT n)[i + 4]? = some (105 - c) := by
  unfold sizeT d4 c9
  match i, h with
  | 0, _ => exact ⟨48 + n / 1000 % 10, rfl, by omega, by omega, rfl⟩
  | 1, _ => exact ⟨48 + n / 100 % 10, rfl, by omega, by omega, rfl⟩
  | 2, _ => exact ⟨48 + n / 10 % 10, rfl, by omega, by omega, rfl⟩
  | 3, _ => exact ⟨48 + n % 10, rfl, by omega, by omega, rfl⟩
theorem frame_head (b r : List Nat) : (frameL b ++ r).take 8 = sizeT b.length := by
  unfold frameL
  rw [List.append_assoc, List.append_assoc, List.take_append_of_le_length (by rw [sizeT_len]; exact Nat.le_refl _), List.take_of_length_le (by rw [sizeT_len]; exact Nat.le_refl _)]
theorem frame_rest (b r : List Nat) : ((frameL b ++ r).drop 8).take (b.length + 4) = b ++ tailL b := by
  have d8 : (frameL b ++ r).drop 8 = b ++ tailL b ++ r := by
    unfold frameL
    rw [List.append_assoc, List.append_assoc, List.drop_append_of_le_length (by rw [sizeT_len]; exact Nat.le_refl _), List.drop_of_length_le (by rw [sizeT_len]; exact Nat.le_refl _), List.nil_append, List.append_assoc]
  rw [d8, List.take_append_of_le_length (by simp [tailL_len]), List.take_of_length_le (by simp [tailL_len])]
/-- what is read begins with a size told twice -/
theorem body_some {t b : List Nat} (h : bodyOf t = some b) : ∃ n, t.take 8 = sizeT n ∧ 1 ≤ n ∧ n ≤ 5000 ∧ ((t.drop 8).take (n + 4)).length = n + 4 ∧ ((t.drop 8).take (n + 4)).all ok = true ∧ lanes (sums ((t.drop 8).take (n + 4))) = true ∧ b = (t.drop 8).take n := by
  unfold bodyOf at h
  split at h
  · cases h
  · rename_i h1
    split at h
    · cases h
    · rename_i h2
      split at h
      · rename_i h3
        have h1' : sizeT (val4 (t.take 4)) = t.take 8 := Decidable.byContradiction fun z => h1 (.inr (.inr z))
        refine ⟨val4 (t.take 4), h1'.symm, ?_, ?_, ?_, ?_, h3, (Option.some.inj h).symm⟩
        · exact Decidable.byContradiction fun z => h2 (.inl fun q => z q.1)
        · exact Decidable.byContradiction fun z => h2 (.inl fun q => z q.2)
        · have l : ((t.drop 8).take (val4 (t.take 4) + 4)).length ≤ val4 (t.take 4) + 4 := by rw [List.length_take]; exact Nat.min_le_left _ _
          have : ¬ ((t.drop 8).take (val4 (t.take 4) + 4)).length < val4 (t.take 4) + 4 := fun z => h2 (.inr (.inl z))
          omega
        · cases e : ((t.drop 8).take (val4 (t.take 4) + 4)).all ok with
          | true => rfl
          | false => exact absurd (.inr (.inr e)) h2
      · cases h
theorem size_inj {n m : Nat} (hn : n < 10000) (hm : m < 10000) (e : sizeT n = sizeT m) : n = m := by
  have := congrArg (fun l : List Nat => val4 (l.take 4)) e
  simp only [sizeT_take, val4_d4 hn, val4_d4 hm] at this
  exact this
theorem take_get {l m : List Nat} {n i : Nat} (h : l.take n = m) (hi : i < n) : l[i]? = m[i]? := by
  rw [← h, List.getElem?_take, if_pos hi]
/-- a frame that a burst meets isn't read -/
theorem body_bent {b r t' : List Nat} {a m : Nat} (g : GoodB b) (hr : r.all ok = true) (ha : a < b.length + 12) (B : Bent (frameL b ++ r) t' a m) : bodyOf t' = none := by
  cases e : bodyOf t' with
  | none => rfl
  | some x =>
    exfalso
    obtain ⟨n, h1, h2, h3, h4, h5, h6, _⟩ := body_some e
    have hd := frame_head b r
    have hl := g.le
    by_cases c8 : a < 8
    · -- in the header
      by_cases c4 : a < 4
      · obtain ⟨x, x1, x2, x3, x4⟩ := size_pair n a c4
        obtain ⟨y, y1, y2, y3, y4⟩ := size_pair b.length a c4
        have d := B.diff a (Nat.le_refl _) (by have := B.m1; omega)
        have s := B.same (a + 4) (.inr (by have := B.m4; omega))
        rw [take_get h1 (by omega), take_get hd (by omega), x1, y1] at d
        rw [take_get h1 (by omega), take_get hd (by omega), x4, y4] at s
        have s := Option.some.inj s
        exact d (by rw [show x = y by omega])
      · obtain ⟨x, x1, x2, x3, x4⟩ := size_pair n (a - 4) (by omega)
        obtain ⟨y, y1, y2, y3, y4⟩ := size_pair b.length (a - 4) (by omega)
        rw [show a - 4 + 4 = a by omega] at x4 y4
        have d := B.diff a (Nat.le_refl _) (by have := B.m1; omega)
        have s := B.same (a - 4) (.inl (by omega))
        rw [take_get h1 (by omega), take_get hd (by omega), x4, y4] at d
        rw [take_get h1 (by omega), take_get hd (by omega), x1, y1] at s
        have s := Option.some.inj s
        exact d (by rw [s])
    · -- behind it
      have en : n = b.length := by
        refine size_inj (by omega) (by omega) ?_
        rw [← h1, ← hd]
        refine List.ext_getElem? fun i => ?_
        rw [List.getElem?_take, List.getElem?_take]
        split
        · exact B.same i (.inl (by omega))
        · rfl
      subst en
      have fr := frame_rest b r
      obtain ⟨p, hp⟩ : ∃ p, p = a - 8 := ⟨_, rfl⟩
      have hl2 : (frameL b ++ r).length = b.length + 12 + r.length := by rw [List.length_append, frameL_len]
      have at_ : ∀ j, ((t'.drop 8).take (b.length + 4))[j]? = if j < b.length + 4 then t'[8 + j]? else none := fun j => by
        rw [List.getElem?_take]
        split
        · rw [List.getElem?_drop]
        · rfl
      have at2 : ∀ j, (b ++ tailL b)[j]? = if j < b.length + 4 then (frameL b ++ r)[8 + j]? else none := fun j => by
        rw [← fr, List.getElem?_take]
        split
        · rw [List.getElem?_drop]
        · rfl
      have lt := tail_lanes b
      have l1 := (lanes_iff _).mp h6 ((0 + p) % 4) (Nat.mod_lt _ (by decide))
      have l2 := (lanes_iff _).mp lt ((0 + p) % 4) (Nat.mod_lt _ (by decide))
      have hlen : ((t'.drop 8).take (b.length + 4)).length = (b ++ tailL b).length := by rw [h4, List.length_append, tailL_len]
      have hpl : p < ((t'.drop 8).take (b.length + 4)).length := by rw [h4]; omega
      have df := lane_diff ((t'.drop 8).take (b.length + 4)) (b ++ tailL b) 0 p ((0 + p) % 4) hlen hpl rfl fun j hj hr => by
        rw [at_, at2]
        split
        · refine B.same _ ?_
          have := B.m4
          by_cases z : j < p
          · exact .inl (by omega)
          · exact .inr (by omega)
        · rfl
      have hpl2 : p < (b ++ tailL b).length := by rw [← hlen]; exact hpl
      have d := B.diff a (Nat.le_refl _) (by have := B.m1; omega)
      have e1 : t'[a]? = some (((t'.drop 8).take (b.length + 4)).getD p 0) := by
        have := at_ p
        rw [if_pos (by rw [h4] at hpl; exact hpl), show 8 + p = a by omega, List.getElem?_eq_getElem hpl] at this
        rw [← this, List.getD_eq_getElem?_getD, List.getElem?_eq_getElem hpl]
        rfl
      have e2 : (frameL b ++ r)[a]? = some ((b ++ tailL b).getD p 0) := by
        have := at2 p
        rw [if_pos (by rw [h4] at hpl; exact hpl), show 8 + p = a by omega, List.getElem?_eq_getElem hpl2] at this
        rw [← this, List.getD_eq_getElem?_getD, List.getElem?_eq_getElem hpl2]
        rfl
      have o1 : ok (((t'.drop 8).take (b.length + 4)).getD p 0) = true := by
        rw [List.getD_eq_getElem?_getD, List.getElem?_eq_getElem hpl]
        exact List.all_eq_true.mp h5 _ (List.getElem_mem hpl)
      have o2 : ok ((b ++ tailL b).getD p 0) = true := by
        rw [List.getD_eq_getElem?_getD, List.getElem?_eq_getElem hpl2]
        refine List.all_eq_true.mp ?_ _ (List.getElem_mem hpl2)
        rw [List.all_append, g.ok, tail_ok]
        rfl
      have q1 := num_lt o1
      have q2 := num_lt o2
      have : num (((t'.drop 8).take (b.length + 4)).getD p 0) = num ((b ++ tailL b).getD p 0) := by omega
      have := num_inj o1 o2 this
      rw [e1, e2, this] at d
      exact d rfl
/-- what is shorter than a frame that it begins with isn't read -/
theorem body_cut {b p r : List Nat} (g : GoodB b) (h : p ++ r = frameL b) (hr : r ≠ []) : bodyOf p = none := by
  cases e : bodyOf p with
  | none => rfl
  | some x =>
    exfalso
    obtain ⟨n, h1, h2, h3, h4, _⟩ := body_some e
    have hl := congrArg List.length h
    rw [List.length_append, frameL_len] at hl
    have hrp := List.length_pos_iff.mpr hr
    have l8 : 8 ≤ p.length := by
      have := congrArg List.length h1
      rw [List.length_take, sizeT_len] at this
      omega
    have e8 : p.take 8 = sizeT b.length := by
      rw [← frame_head b [], List.append_nil, ← h, List.take_append_of_le_length l8]
    have hle := g.le
    have en : n = b.length := size_inj (by omega) (by omega) (h1.symm.trans e8)
    rw [List.length_take, List.length_drop] at h4
    omega
theorem body_short {p : List Nat} (h : p.length < 13) : bodyOf p = none := by
  cases e : bodyOf p with
  | none => rfl
  | some x =>
    exfalso
    obtain ⟨n, h1, h2, h3, h4, _⟩ := body_some e
    rw [List.length_take, List.length_drop] at h4
    omega
end K77

set_option Elab.async false
set_option linter.all false
set_option autoImplicit false
set_option maxRecDepth 100000
set_option maxHeartbeats 4000000
namespace K77
open PySem PySem.Spec PyProof.Rows L2 Itp
/-- a string of frames -/
def strF (bs : List (List Nat)) : List Nat := (bs.map frameL).flatten
theorem strF_cons (b : List Nat) (bs : List (List Nat)) : strF (b :: bs) = frameL b ++ strF bs := by simp [strF]
theorem strF_ok : ∀ {bs : List (List Nat)}, (∀ b ∈ bs, GoodB b) → (strF bs).all ok = true
  | [], _ => rfl
  | b :: bs, h => by
    rw [strF_cons, List.all_append, frame_ok (h b (List.mem_cons_self ..)).ok, strF_ok fun c hc => h c (List.mem_cons_of_mem _ hc)]
    rfl
theorem strF_len : ∀ {bs : List (List Nat)}, (∀ b ∈ bs, GoodB b) → (strF bs).length ≤ 5012 * bs.length
  | [], _ => Nat.le_refl _
  | b :: bs, h => by
    rw [strF_cons, List.length_append, frameL_len, List.length_cons]
    have := strF_len fun c hc => h c (List.mem_cons_of_mem _ hc)
    have := (h b (List.mem_cons_self ..)).le
    omega
/-- the bodies whose frames end at a or ahead of it -/
def ahead : List (List Nat) → Nat → List (List Nat)
  | [], _ => []
  | b :: bs, a => if b.length + 12 ≤ a then b :: ahead bs (a - (b.length + 12)) else []
theorem bodies_none {f : Nat} {t : List Nat} (h : bodyOf t = none) : bodies f t = [] := by
  cases f with
  | zero => rfl
  | succ f =>
    show (match bodyOf t with
      | none => []
      | some b => b :: bodies f (t.drop (b.length + 12))) = []
    rw [h]
theorem bodies_some {f : Nat} {t b : List Nat} (h : bodyOf t = some b) : bodies (f + 1) t = b :: bodies f (t.drop (b.length + 12)) := by
  show (match bodyOf t with
    | none => []
    | some b => b :: bodies f (t.drop (b.length + 12))) = _
  rw [h]
theorem bodies_cons {f : Nat} {b r : List Nat} (g : GoodB b) : bodies (f + 1) (frameL b ++ r) = b :: bodies f r := by
  rw [bodies_some (body_frame g r), List.drop_append_of_le_length (by rw [frameL_len]; exact Nat.le_refl _), List.drop_of_length_le (by rw [frameL_len]; exact Nat.le_refl _), List.nil_append]
theorem bodies_frames : ∀ {bs : List (List Nat)} {f : Nat} {r : List Nat}, (∀ b ∈ bs, GoodB b) → bodies (f + bs.length) (strF bs ++ r) = bs ++ bodies f r
  | [], f, r, _ => rfl
  | b :: bs, f, r, h => by
    rw [strF_cons, List.append_assoc]
    show bodies (f + bs.length + 1) _ = _
    rw [bodies_cons (h b (List.mem_cons_self ..)), bodies_frames fun c hc => h c (List.mem_cons_of_mem _ hc)]
    rfl
/-- enough turns -/
theorem bodies_more : ∀ (f : Nat) (t : List Nat), t.length < f → bodies f t = bodies (f + 1) t
  | 0, t, h => by omega
  | f + 1, t, h => by
    cases e : bodyOf t with
    | none => rw [bodies_none e, bodies_none e]
    | some b =>
      rw [bodies_some e, bodies_some e]
      by_cases z : t.length = 0
      · have := List.length_eq_zero_iff.mp z
        subst this
        rw [body_short (by simp)] at e
        cases e
      · rw [bodies_more f _ (by rw [List.length_drop]; omega)]
theorem bodies_any {f k : Nat} {t : List Nat} (h : t.length < f) : bodies (f + k) t = bodies f t := by
  induction k with
  | zero => rfl
  | succ k ih => rw [← Nat.add_assoc, ← bodies_more _ _ (by omega), ih]
theorem bodies_bent : ∀ {bs : List (List Nat)} {t' : List Nat} {a m f : Nat}, (∀ b ∈ bs, GoodB b) → Bent (strF bs) t' a m → bs.length ≤ f → bodies f t' = ahead bs a
  | [], t', a, m, f, _, B, _ => by
    have := B.fit
    have := B.m1
    simp [strF] at *
    omega
  | b :: bs, t', a, m, 0, _, _, h => by simp at h
  | b :: bs, t', a, m, f + 1, g, B, h => by
    have gb := g b (List.mem_cons_self ..)
    have gs : ∀ c ∈ bs, GoodB c := fun c hc => g c (List.mem_cons_of_mem _ hc)
    rw [strF_cons] at B
    unfold ahead
    by_cases ha : b.length + 12 ≤ a
    · rw [if_pos ha]
      have len := B.len
      rw [List.length_append, frameL_len] at len
      have e : t' = frameL b ++ t'.drop (b.length + 12) := by
        refine List.ext_getElem? fun i => ?_
        by_cases hi : i < b.length + 12
        · rw [B.same i (.inl (by omega)), List.getElem?_append_left (by rw [frameL_len]; exact hi), List.getElem?_append_left (by rw [frameL_len]; exact hi)]
        · rw [List.getElem?_append_right (by rw [frameL_len]; omega), frameL_len, List.getElem?_drop]
          congr 1
          omega
      have B' : Bent (strF bs) (t'.drop (b.length + 12)) (a - (b.length + 12)) m := by
        have at_ : ∀ i, (strF bs)[i]? = (frameL b ++ strF bs)[b.length + 12 + i]? := fun i => by
          rw [List.getElem?_append_right (by rw [frameL_len]; omega), frameL_len]
          congr 1
          omega
        have fit := B.fit
        rw [List.length_append, frameL_len] at fit
        refine ⟨by rw [List.length_drop]; omega, B.m1, B.m4, by omega, fun i hi => ?_, fun i h1 h2 => ?_⟩
        · rw [List.getElem?_drop, at_]
          exact B.same _ (by omega)
        · rw [List.getElem?_drop, at_]
          exact B.diff _ (by omega) (by omega)
      rw [e, bodies_cons gb, bodies_bent gs B' (by simpa using h)]
    · rw [if_neg ha, bodies_none (body_bent gb (strF_ok gs) (by omega) B)]
theorem bodies_cut : ∀ {bs : List (List Nat)} {a f : Nat}, (∀ b ∈ bs, GoodB b) → bs.length ≤ f → bodies f ((strF bs).take a) = ahead bs a
  | [], a, f, _, _ => by
    rw [show (strF []).take a = [] by simp [strF], bodies_none (body_short (by simp))]
    rfl
  | b :: bs, a, 0, _, h => by simp at h
  | b :: bs, a, f + 1, g, h => by
    have gb := g b (List.mem_cons_self ..)
    have gs : ∀ c ∈ bs, GoodB c := fun c hc => g c (List.mem_cons_of_mem _ hc)
    rw [strF_cons]
    unfold ahead
    by_cases ha : b.length + 12 ≤ a
    · rw [if_pos ha, List.take_append, List.take_of_length_le (by rw [frameL_len]; exact ha), frameL_len, bodies_cons gb, bodies_cut gs (by simpa using h)]
    · rw [if_neg ha, List.take_append_of_le_length (by rw [frameL_len]; omega), bodies_none]
      refine body_cut gb (r := (frameL b).drop a) (List.take_append_drop a _) fun z => ?_
      have := congrArg List.length z
      rw [List.length_drop, frameL_len, List.length_nil] at this
      omega
theorem bodies_junk {bs : List (List Nat)} {f : Nat} {j : List Nat} (g : ∀ b ∈ bs, GoodB b) (h : bs.length ≤ f) (hj : j.length < 13) : bodies f (strF bs ++ j) = bs := by
  obtain ⟨k, rfl⟩ : ∃ k, f = k + bs.length := ⟨f - bs.length, by omega⟩
  rw [bodies_frames g, bodies_none (body_short hj), List.append_nil]
/-- the reading of the comprehension: places whose frames end at a -/
def endAt (bs : List (List Nat)) (k : Nat) : Nat := (strF (bs.take k)).length
theorem ahead_take : ∀ (bs : List (List Nat)) (a : Nat), ∃ k, k ≤ bs.length ∧ ahead bs a = bs.take k ∧ (∀ j, j < k → endAt bs (j + 1) ≤ a) ∧ ∀ j, k ≤ j → j < bs.length → ¬ endAt bs (j + 1) ≤ a
  | [], a => ⟨0, Nat.le_refl _, rfl, fun j h => by omega, fun j _ h => by simp at h⟩
  | b :: bs, a => by
    unfold ahead
    have e : ∀ j, endAt (b :: bs) (j + 1) = b.length + 12 + endAt bs j := fun j => by
      unfold endAt
      rw [List.take_succ_cons, strF_cons, List.length_append, frameL_len]
    by_cases ha : b.length + 12 ≤ a
    · rw [if_pos ha]
      obtain ⟨k, h1, h2, h3, h4⟩ := ahead_take bs (a - (b.length + 12))
      refine ⟨k + 1, by simpa using h1, by rw [h2]; rfl, fun j hj => ?_, fun j hj hl => ?_⟩
      · rw [e]
        cases j with
        | zero => simpa [endAt, strF] using ha
        | succ j =>
          have := h3 j (by omega)
          omega
      · rw [e]
        cases j with
        | zero => omega
        | succ j =>
          have := h4 j (by omega) (by simpa using hl)
          omega
    · rw [if_neg ha]
      refine ⟨0, Nat.zero_le _, rfl, fun j h => by omega, fun j _ _ => ?_⟩
      rw [e]
      omega
end K77

set_option Elab.async false
set_option linter.all false
set_option autoImplicit false
set_option maxRecDepth 100000
set_option maxHeartbeats 4000000
namespace K77
open PySem PySem.Spec PyProof.Rows L2 Itp
theorem dig_in {c : Nat} {h : IH} : cmpF .In (tx [c]) (tx [48, 49, 50, 51, 52, 53, 54, 55, 56, 57]) h = some (.bl (dig c), h) := by
  have e : cmpB .In (tx [c]) (tx [48, 49, 50, 51, 52, 53, 54, 55, 56, 57]) h = some (decide (c ∈ [48, 49, 50, 51, 52, 53, 54, 55, 56, 57])) := tx_in (hp := h)
  have q : decide (c ∈ [48, 49, 50, 51, 52, 53, 54, 55, 56, 57]) = dig c := by
    unfold dig
    rw [Bool.eq_iff_iff]
    simp only [List.mem_cons, List.not_mem_nil, or_false, decide_eq_true_eq, Bool.and_eq_true]
    omega
  rw [cmpF_eq, e, q]
  rfl
theorem ev_digs {F : FEnv} {v j : Nat} {a : List Nat} {ρ : IS} {hp : IH} (hρ : ρ[v]? = some (some (tx a))) (hj : j < ρ.length) (hl : a.length < lineLen) :
    ev F (.blt .all [.comp (.cmp .In (.var j) (.cst (tx [48, 49, 50, 51, 52, 53, 54, 55, 56, 57]))) (.name j) (.val (.var v)) none [j]]) ρ hp = .ok (.bl (a.all dig)) (hp ++ [.lst (a.map fun c => .bl (dig c))]) :=
  ev_all_text a dig hρ hl fun c hc h => by
    have hg : ((wipeI ρ [j]).set j (some (tx [c])))[j]? = some (some (tx [c])) := List.getElem?_set_self (by simp [wipeI, hj])
    simp only [ev, hg, Out.bind_ok, dig_in, Out.of_some]
theorem dig4 {l : List Nat} (hl : l.length = 4) (hd : l.all dig = true) {h : IH} : bfF .tInt [tx l] h = some (.int (val4 l : Int), h) := by
  have e : intText? (SX.S l) = some ((val4 l : Nat) : Int) := by
    have := intText_digits (x := SX.S l) (by
      intro c hc
      have := List.all_eq_true.mp hd c (by simpa using hc)
      unfold dig at this
      simpa using this) (by
      intro z
      have : l = [] := by simpa using z
      subst this
      simp at hl) (by rw [SX.S_len, hl]; decide)
    rw [this]
    congr 2
    match l, hl with
    | [a, b, c, d], _ =>
      show List.foldl (fun acc c => acc * 10 + (c - 48)) 0 [a, b, c, d] = _
      simp only [List.foldl, val4]
      omega
  show (if (SX.S l).length ≤ 640 then (PySem.intText? (SX.S l)).map fun n => (W.int n, h) else none) = _
  rw [if_pos (by rw [SX.S_len, hl]; decide), e]
  rfl
def optW : Option (List Nat) → W
  | none => .non
  | some b => tx b
end K77

set_option Elab.async false
set_option linter.all false
set_option autoImplicit false
set_option maxRecDepth 100000
set_option maxHeartbeats 4000000
namespace K77
open PySem PySem.Spec PyProof.Rows L2 Itp
noncomputable abbrev E9 : FEnv := envTo dcs 9
def eight : IE := .bin .Mult (.cst (.int 2)) (.cst (.int 4))
def BA0 : IStm := .asg (.name 2) (.slc (.var 0) (some (.var 1)) (some (.bin .Add (.var 1) eight)))
def allD (v j : Nat) : IE := .blt .all [.comp (.cmp .In (.var j) (.cst (tx [48, 49, 50, 51, 52, 53, 54, 55, 56, 57]))) (.name j) (.val (.var v)) none [j]]
def four (v : Nat) : IE := .blt .tInt [.slc (.var v) none (some (.cst (.int 4)))]
def TA : IT := .cmp .Lt (.blt .len [.var 2]) eight
def TB1 : IT := .not (.tru (allD 2 3))
def TC : IT := .cmp .NotEq (.call 6 [four 2]) (.var 2)
def BA1 : IStm := .ite (.or TA (.or TB1 TC)) [.ret (.cst .non)] []
def BA2 : IStm := .asg (.tup [.name 4, .name 5]) (.tup [.bin .Add (.var 1) eight, four 2])
def BA3 : IStm := .asg (.name 6) (.slc (.var 0) (some (.var 4)) (some (.bin .Add (.bin .Add (.var 4) (.var 5)) (.cst (.int 4)))))
def TD : IT := .not (.chn .LtE .LtE (.cst (.int 1)) (.var 5) (.cst (.int 5000)))
def TE1 : IT := .cmp .Lt (.blt .len [.var 6]) (.bin .Add (.var 5) (.cst (.int 4)))
def TF : IT := .not (.tru (.blt .all [.comp (.call 1 [.var 7]) (.name 7) (.val (.var 6)) none [7]]))
def BA4 : IStm := .ite (.or TD (.or TE1 TF)) [.ret (.cst .non)] []
def TG1 : IE := .blt .all [.comp (.cmp .Eq (.bin .Mod (.blt .tInt [.var 8]) (.blt .len [.cst (tx nb)])) (.cst (.int 0))) (.name 8) (.val (.call 4 [.var 6])) none [8]]
def BA5 : IStm := .ret (.ite (.tru TG1) (.slc (.var 6) none (some (.var 5))) (.cst .non))
theorem body_at_eq : b_body_at = [BA0, BA1, BA2, BA3, BA4, BA5] := rfl
theorem ev_eight {F : FEnv} {ρ : IS} {h : IH} : ev F eight ρ h = .ok (.int 8) h := by
  simp only [eight, ev, Out.bind_ok]
  rfl
section
variable {s : List Nat} {a : Nat} {h : IH} {x3 x4 x5 x6 x7 x8 : Option W}
theorem ba0 (hs : s.length ≤ 200000) : evS E9 100000 BA0 [some (tx s), some (.int (a : Int)), none, x3, x4, x5, x6, x7, x8] h = .nx [some (tx s), some (.int (a : Int)), some (tx ((s.drop a).take 8)), x3, x4, x5, x6, x7, x8] h := by
  have e := tx_slc (hp := h) (a := s) (i := a) (j := a + 8) (Nat.le_trans hs (by decide)) (by omega)
  rw [show a + 8 - a = 8 by omega, show ((a + 8 : Nat) : Int) = (a : Int) + 8 by omega] at e
  simp only [BA0, runB, evSs, evS, ev, evs, evO, evIt, tst, tstO, sto, stos, unpk, asgT, asgTs, Out.bind_ok, Out.bind_err, Out.bind_stuck, Out.of_some, Out.of_none, Out.then_ok, Out.then_err, Out.then_stuck, SOut.seq_nx, SOut.seq_rt, SOut.seq_bk, SOut.seq_ct, SOut.seq_err, SOut.seq_stuck, List.map_cons, List.map_nil, List.length_cons, List.length_nil, List.replicate, List.cons_append, List.nil_append, List.getElem?_cons_zero, List.getElem?_cons_succ, List.set_cons_zero, List.set_cons_succ, Nat.reduceSub, Nat.reduceAdd, Nat.reduceLT, Nat.reduceLeDiff, Int.ofNat_eq_natCast, if_true, if_false, Bool.false_eq_true, Bool.not_true, Bool.not_false, ev_eight, bin_add, e]
theorem ta {ρ : IS} {l : List Nat} (hρ : ρ[2]? = some (some (tx l))) (hl : l.length ≤ 8) : tst E9 TA ρ h = .ok (decide (l.length < 8)) h := by
  have e := tx_len (hp := h) (a := l) (Nat.le_trans hl (by decide))
  simp only [TA, tst, ev, evs, hρ, Out.bind_ok, e, Out.of_some, ev_eight, cmp_lt]
  congr 2
  exact propext ⟨fun z => by omega, fun z => by omega⟩
theorem tb {ρ : IS} {l : List Nat} (hρ : ρ[2]? = some (some (tx l))) (hl : l.length ≤ 8) (h3 : 3 < ρ.length) : tst E9 TB1 ρ h = .ok (!l.all dig) (h ++ [.lst (l.map fun c => .bl (dig c))]) :=
  tst_not (tst_tru (ev_digs hρ h3 (Nat.lt_of_le_of_lt hl (by decide))) rfl)
theorem ev_four {F : FEnv} {v : Nat} {ρ : IS} {l : List Nat} (hρ : ρ[v]? = some (some (tx l))) (hl : l.length = 8) (hd : l.all dig = true) : ev F (four v) ρ h = .ok (.int (val4 (l.take 4) : Int)) h := by
  have e := tx_to (hp := h) (a := l) (j := 4) (Nat.le_trans (Nat.le_of_eq hl) (by decide))
  have d := dig4 (h := h) (l := l.take 4) (by rw [List.length_take, hl]; rfl) (List.all_eq_true.mpr fun c hc => List.all_eq_true.mp hd c (List.mem_of_mem_take hc))
  have e' : slcF (tx l) none (some (4 : Int)) h = some (tx (l.take 4), h) := e
  simp only [four, ev, evs, evO, hρ, Out.bind_ok, e', Out.of_some, d]
theorem val4_lt {l : List Nat} (hl : l.length = 4) (hd : l.all dig = true) : val4 l < 10000 := by
  match l, hl with
  | [a, b, c, d], _ =>
    simp only [List.all_cons, List.all_nil, Bool.and_true, dig, Bool.and_eq_true, decide_eq_true_eq] at hd
    simp only [val4]
    omega
theorem take4 {l : List Nat} (hl : l.length = 8) (hd : l.all dig = true) : (l.take 4).length = 4 ∧ (l.take 4).all dig = true :=
  ⟨by rw [List.length_take, hl]; rfl, List.all_eq_true.mpr fun c hc => List.all_eq_true.mp hd c (List.mem_of_mem_take hc)⟩
theorem tc {ρ : IS} {l : List Nat} (hρ : ρ[2]? = some (some (tx l))) (hl : l.length = 8) (hd : l.all dig = true) : tst E9 TC ρ h = .ok (!decide (sizeT (val4 (l.take 4)) = l)) h := by
  obtain ⟨q1, q2⟩ := take4 hl hd
  have sp := sp_size (hp := h) (val4_lt q1 q2)
  have f := ev_four (F := E9) (h := h) hρ hl hd
  have e : ev E9 (.call 6 [four 2]) ρ h = .ok (tx (sizeT (val4 (l.take 4)))) h := by
    simp only [ev, evs, f, Out.bind_ok, env_lt (show 6 < 9 by decide), sp]
  have m : tst E9 TC ρ h = (ev E9 (.call 6 [four 2]) ρ h).bind fun x hp => (ev E9 (.var 2) ρ hp).bind fun y hp => match cmpB .NotEq x y hp with
    | some c => .ok c hp
    | none => .stuck := by
    simp only [TC, tst]
    try congr 1
  have v : ev E9 (.var 2) ρ h = .ok (tx l) h := by simp only [ev, hρ]
  rw [m, e, Out.bind_ok, v, Out.bind_ok]
  have c : cmpB .NotEq (tx (sizeT (val4 (l.take 4)))) (tx l) h = some (!decide (sizeT (val4 (l.take 4)) = l)) := by
    rw [cmp_ne, tx_eq]
    rfl
  rw [c]
/-- the first look -/
theorem ba1 {l : List Nat} {x0 x1 : Option W} (hl : l.length ≤ 8) :
    ∃ g, evS E9 100000 BA1 [x0, x1, some (tx l), none, x4, x5, x6, x7, x8] h = if l.length < 8 ∨ l.all dig = false ∨ sizeT (val4 (l.take 4)) ≠ l then .rt .non (h ++ g) else .nx [x0, x1, some (tx l), none, x4, x5, x6, x7, x8] (h ++ g) := by
  have a1 := ta (h := h) (ρ := [x0, x1, some (tx l), none, x4, x5, x6, x7, x8]) (l := l) rfl hl
  have a2 := tb (h := h) (ρ := [x0, x1, some (tx l), none, x4, x5, x6, x7, x8]) (l := l) rfl hl (by simp)
  by_cases c1 : l.length < 8
  · refine ⟨[], ?_⟩
    rw [if_pos (.inl c1), List.append_nil]
    have t : tst E9 (.or TA (.or TB1 TC)) [x0, x1, some (tx l), none, x4, x5, x6, x7, x8] h = .ok true h := by
      rw [tst_or a1, decide_eq_true c1, if_pos rfl]
    rw [BA1, evS_ite t, if_pos rfl]
    simp only [runB, evSs, evS, ev, evs, evO, evIt, tst, tstO, sto, stos, unpk, asgT, asgTs, Out.bind_ok, Out.bind_err, Out.bind_stuck, Out.of_some, Out.of_none, Out.then_ok, Out.then_err, Out.then_stuck, SOut.seq_nx, SOut.seq_rt, SOut.seq_bk, SOut.seq_ct, SOut.seq_err, SOut.seq_stuck, List.map_cons, List.map_nil, List.length_cons, List.length_nil, List.replicate, List.cons_append, List.nil_append, List.getElem?_cons_zero, List.getElem?_cons_succ, List.set_cons_zero, List.set_cons_succ, Nat.reduceSub, Nat.reduceAdd, Nat.reduceLT, Nat.reduceLeDiff, Int.ofNat_eq_natCast, if_true, if_false, Bool.false_eq_true, Bool.not_true, Bool.not_false]
  · by_cases c2 : l.all dig = false
    · refine ⟨[.lst (l.map fun c => .bl (dig c))], ?_⟩
      rw [if_pos (.inr (.inl c2))]
      have t : tst E9 (.or TA (.or TB1 TC)) [x0, x1, some (tx l), none, x4, x5, x6, x7, x8] h = .ok true (h ++ [.lst (l.map fun c => .bl (dig c))]) := by
        rw [tst_or a1, decide_eq_false c1, if_neg Bool.false_ne_true, tst_or a2, c2]
        rfl
      rw [BA1, evS_ite t, if_pos rfl]
      simp only [runB, evSs, evS, ev, evs, evO, evIt, tst, tstO, sto, stos, unpk, asgT, asgTs, Out.bind_ok, Out.bind_err, Out.bind_stuck, Out.of_some, Out.of_none, Out.then_ok, Out.then_err, Out.then_stuck, SOut.seq_nx, SOut.seq_rt, SOut.seq_bk, SOut.seq_ct, SOut.seq_err, SOut.seq_stuck, List.map_cons, List.map_nil, List.length_cons, List.length_nil, List.replicate, List.cons_append, List.nil_append, List.getElem?_cons_zero, List.getElem?_cons_succ, List.set_cons_zero, List.set_cons_succ, Nat.reduceSub, Nat.reduceAdd, Nat.reduceLT, Nat.reduceLeDiff, Int.ofNat_eq_natCast, if_true, if_false, Bool.false_eq_true, Bool.not_true, Bool.not_false]
    · have c2' : l.all dig = true := by simpa using c2
      have l8 : l.length = 8 := by omega
      have a3 := tc (h := h ++ [.lst (l.map fun c => .bl (dig c))]) (ρ := [x0, x1, some (tx l), none, x4, x5, x6, x7, x8]) (l := l) rfl l8 c2'
      refine ⟨[.lst (l.map fun c => .bl (dig c))], ?_⟩
      have t : tst E9 (.or TA (.or TB1 TC)) [x0, x1, some (tx l), none, x4, x5, x6, x7, x8] h = .ok (!decide (sizeT (val4 (l.take 4)) = l)) (h ++ [.lst (l.map fun c => .bl (dig c))]) := by
        rw [tst_or a1, decide_eq_false c1, if_neg Bool.false_ne_true, tst_or a2, c2', Bool.not_true, if_neg Bool.false_ne_true, a3]
      by_cases c3 : sizeT (val4 (l.take 4)) = l
      · rw [if_neg (by rintro (z | z | z) <;> contradiction)]
        rw [decide_eq_true c3] at t
        rw [BA1, evS_ite t, Bool.not_true, if_neg Bool.false_ne_true]
        simp only [runB, evSs, evS, ev, evs, evO, evIt, tst, tstO, sto, stos, unpk, asgT, asgTs, Out.bind_ok, Out.bind_err, Out.bind_stuck, Out.of_some, Out.of_none, Out.then_ok, Out.then_err, Out.then_stuck, SOut.seq_nx, SOut.seq_rt, SOut.seq_bk, SOut.seq_ct, SOut.seq_err, SOut.seq_stuck, List.map_cons, List.map_nil, List.length_cons, List.length_nil, List.replicate, List.cons_append, List.nil_append, List.getElem?_cons_zero, List.getElem?_cons_succ, List.set_cons_zero, List.set_cons_succ, Nat.reduceSub, Nat.reduceAdd, Nat.reduceLT, Nat.reduceLeDiff, Int.ofNat_eq_natCast, if_true, if_false, Bool.false_eq_true, Bool.not_true, Bool.not_false]
      · rw [if_pos (.inr (.inr c3))]
        rw [decide_eq_false c3] at t
        rw [BA1, evS_ite t, Bool.not_false, if_pos rfl]
        simp only [runB, evSs, evS, ev, evs, evO, evIt, tst, tstO, sto, stos, unpk, asgT, asgTs, Out.bind_ok, Out.bind_err, Out.bind_stuck, Out.of_some, Out.of_none, Out.then_ok, Out.then_err, Out.then_stuck, SOut.seq_nx, SOut.seq_rt, SOut.seq_bk, SOut.seq_ct, SOut.seq_err, SOut.seq_stuck, List.map_cons, List.map_nil, List.length_cons, List.length_nil, List.replicate, List.cons_append, List.nil_append, List.getElem?_cons_zero, List.getElem?_cons_succ, List.set_cons_zero, List.set_cons_succ, Nat.reduceSub, Nat.reduceAdd, Nat.reduceLT, Nat.reduceLeDiff, Int.ofNat_eq_natCast, if_true, if_false, Bool.false_eq_true, Bool.not_true, Bool.not_false]
theorem ba2 {l : List Nat} {x0 : Option W} (hl : l.length = 8) (hd : l.all dig = true) :
    evS E9 100000 BA2 [x0, some (.int (a : Int)), some (tx l), none, none, none, none, none, none] h = .nx [x0, some (.int (a : Int)), some (tx l), none, some (.int ((a + 8 : Nat) : Int)), some (.int (val4 (l.take 4) : Int)), none, none, none] h := by
  have f := ev_four (F := E9) (h := h) (v := 2) (ρ := [x0, some (.int (a : Int)), some (tx l), none, none, none, none, none, none]) rfl hl hd
  have l2 : 2 ≤ lineLen := by decide
  simp only [BA2, runB, evSs, evS, ev, evs, evO, evIt, tst, tstO, sto, stos, unpk, asgT, asgTs, Out.bind_ok, Out.bind_err, Out.bind_stuck, Out.of_some, Out.of_none, Out.then_ok, Out.then_err, Out.then_stuck, SOut.seq_nx, SOut.seq_rt, SOut.seq_bk, SOut.seq_ct, SOut.seq_err, SOut.seq_stuck, List.map_cons, List.map_nil, List.length_cons, List.length_nil, List.replicate, List.cons_append, List.nil_append, List.getElem?_cons_zero, List.getElem?_cons_succ, List.set_cons_zero, List.set_cons_succ, Nat.reduceSub, Nat.reduceAdd, Nat.reduceLT, Nat.reduceLeDiff, Int.ofNat_eq_natCast, if_true, if_false, Bool.false_eq_true, Bool.not_true, Bool.not_false, ev_eight, bin_add, f, l2, unpk, itemsOf_tup]
  rfl
theorem ba3 {x1 x2 : Option W} {n : Nat} (hs : s.length ≤ 200000) : evS E9 100000 BA3 [some (tx s), x1, x2, none, some (.int ((a + 8 : Nat) : Int)), some (.int (n : Int)), none, none, none] h =
    .nx [some (tx s), x1, x2, none, some (.int ((a + 8 : Nat) : Int)), some (.int (n : Int)), some (tx (((s.drop a).drop 8).take (n + 4))), none, none] h := by
  have e := tx_slc (hp := h) (a := s) (i := a + 8) (j := a + 8 + n + 4) (Nat.le_trans hs (by decide)) (by omega)
  rw [show a + 8 + n + 4 - (a + 8) = n + 4 by omega, ← List.drop_drop] at e
  have q : ((a + 8 + n + 4 : Nat) : Int) = ((a + 8 : Nat) : Int) + (n : Int) + 4 := by omega
  rw [q] at e
  simp only [BA3, runB, evSs, evS, ev, evs, evO, evIt, tst, tstO, sto, stos, unpk, asgT, asgTs, Out.bind_ok, Out.bind_err, Out.bind_stuck, Out.of_some, Out.of_none, Out.then_ok, Out.then_err, Out.then_stuck, SOut.seq_nx, SOut.seq_rt, SOut.seq_bk, SOut.seq_ct, SOut.seq_err, SOut.seq_stuck, List.map_cons, List.map_nil, List.length_cons, List.length_nil, List.replicate, List.cons_append, List.nil_append, List.getElem?_cons_zero, List.getElem?_cons_succ, List.set_cons_zero, List.set_cons_succ, Nat.reduceSub, Nat.reduceAdd, Nat.reduceLT, Nat.reduceLeDiff, Int.ofNat_eq_natCast, if_true, if_false, Bool.false_eq_true, Bool.not_true, Bool.not_false, bin_add, e]
end
end K77

set_option Elab.async false
set_option linter.all false
set_option autoImplicit false
set_option maxRecDepth 100000
set_option maxHeartbeats 4000000
namespace K77
open PySem PySem.Spec PyProof.Rows L2 Itp
section
variable {s : List Nat} {a : Nat} {h : IH} {x0 x1 x2 x3 x4 x5 x6 x7 x8 : Option W}
theorem td {ρ : IS} {n : Nat} (hρ : ρ[5]? = some (some (.int (n : Int)))) : tst E9 TD ρ h = .ok (!decide (1 ≤ n ∧ n ≤ 5000)) h := by
  have c : tst E9 (.chn .LtE .LtE (.cst (.int 1)) (.var 5) (.cst (.int 5000))) ρ h = .ok (decide (1 ≤ n ∧ n ≤ 5000)) h := by
    simp only [tst, ev, hρ, Out.bind_ok, cmp_le]
    by_cases c1 : (1 : Int) ≤ (n : Int)
    · rw [decide_eq_true c1]
      simp only []
      congr 2
      exact propext ⟨fun z => by omega, fun z => by omega⟩
    · rw [decide_eq_false c1]
      simp only []
      congr 1
      exact (decide_eq_false (by omega)).symm
  exact tst_not c
theorem te {ρ : IS} {n : Nat} {l : List Nat} (hρ : ρ[5]? = some (some (.int (n : Int)))) (h6 : ρ[6]? = some (some (tx l))) (hl : l.length ≤ 200000) : tst E9 TE1 ρ h = .ok (decide (l.length < n + 4)) h := by
  have e := tx_len (hp := h) (a := l) (Nat.le_trans hl (by decide))
  simp only [TE1, tst, ev, evs, hρ, h6, Out.bind_ok, e, Out.of_some, bin_add, cmp_lt]
  congr 2
  exact propext ⟨fun z => by omega, fun z => by omega⟩
theorem tf {ρ : IS} {l : List Nat} (h6 : ρ[6]? = some (some (tx l))) (h7 : 7 < ρ.length) (hl : l.length ≤ 200000) : tst E9 TF ρ h = .ok (!l.all ok) (h ++ [.lst (l.map fun c => .bl (ok c))]) :=
  tst_not (tst_tru (ev_okAll (by decide) h6 h7 (Nat.lt_of_le_of_lt hl (by decide))) rfl)
theorem ba4 {n : Nat} {l : List Nat} (hl : l.length ≤ 200000) : ∃ g, evS E9 100000 BA4 [x0, x1, x2, x3, x4, some (.int (n : Int)), some (tx l), none, none] h =
    if ¬ (1 ≤ n ∧ n ≤ 5000) ∨ l.length < n + 4 ∨ l.all ok = false then .rt .non (h ++ g) else .nx [x0, x1, x2, x3, x4, some (.int (n : Int)), some (tx l), none, none] (h ++ g) := by
  have a1 := td (h := h) (ρ := [x0, x1, x2, x3, x4, some (.int (n : Int)), some (tx l), none, none]) (n := n) rfl
  have a2 := te (h := h) (ρ := [x0, x1, x2, x3, x4, some (.int (n : Int)), some (tx l), none, none]) (n := n) (l := l) rfl rfl hl
  have a3 := tf (h := h) (ρ := [x0, x1, x2, x3, x4, some (.int (n : Int)), some (tx l), none, none]) (l := l) rfl (by simp) hl
  by_cases c1 : 1 ≤ n ∧ n ≤ 5000
  · rw [decide_eq_true c1, Bool.not_true] at a1
    by_cases c2 : l.length < n + 4
    · refine ⟨[], ?_⟩
      rw [if_pos (.inr (.inl c2)), List.append_nil]
      have t : tst E9 (.or TD (.or TE1 TF)) [x0, x1, x2, x3, x4, some (.int (n : Int)), some (tx l), none, none] h = .ok true h := by
        rw [tst_or a1, if_neg Bool.false_ne_true, tst_or a2, decide_eq_true c2, if_pos rfl]
      rw [BA4, evS_ite t, if_pos rfl]
      simp only [runB, evSs, evS, ev, evs, evO, evIt, tst, tstO, sto, stos, unpk, asgT, asgTs, Out.bind_ok, Out.bind_err, Out.bind_stuck, Out.of_some, Out.of_none, Out.then_ok, Out.then_err, Out.then_stuck, SOut.seq_nx, SOut.seq_rt, SOut.seq_bk, SOut.seq_ct, SOut.seq_err, SOut.seq_stuck, List.map_cons, List.map_nil, List.length_cons, List.length_nil, List.replicate, List.cons_append, List.nil_append, List.getElem?_cons_zero, List.getElem?_cons_succ, List.set_cons_zero, List.set_cons_succ, Nat.reduceSub, Nat.reduceAdd, Nat.reduceLT, Nat.reduceLeDiff, Int.ofNat_eq_natCast, if_true, if_false, Bool.false_eq_true, Bool.not_true, Bool.not_false]
    · refine ⟨[.lst (l.map fun c => .bl (ok c))], ?_⟩
      have t : tst E9 (.or TD (.or TE1 TF)) [x0, x1, x2, x3, x4, some (.int (n : Int)), some (tx l), none, none] h = .ok (!l.all ok) (h ++ [.lst (l.map fun c => .bl (ok c))]) := by
        rw [tst_or a1, if_neg Bool.false_ne_true, tst_or a2, decide_eq_false c2, if_neg Bool.false_ne_true, a3]
      cases c3 : l.all ok with
      | false =>
        rw [if_pos (.inr (.inr rfl))]
        rw [c3] at t
        rw [BA4, evS_ite t, Bool.not_false, if_pos rfl]
        simp only [runB, evSs, evS, ev, evs, evO, evIt, tst, tstO, sto, stos, unpk, asgT, asgTs, Out.bind_ok, Out.bind_err, Out.bind_stuck, Out.of_some, Out.of_none, Out.then_ok, Out.then_err, Out.then_stuck, SOut.seq_nx, SOut.seq_rt, SOut.seq_bk, SOut.seq_ct, SOut.seq_err, SOut.seq_stuck, List.map_cons, List.map_nil, List.length_cons, List.length_nil, List.replicate, List.cons_append, List.nil_append, List.getElem?_cons_zero, List.getElem?_cons_succ, List.set_cons_zero, List.set_cons_succ, Nat.reduceSub, Nat.reduceAdd, Nat.reduceLT, Nat.reduceLeDiff, Int.ofNat_eq_natCast, if_true, if_false, Bool.false_eq_true, Bool.not_true, Bool.not_false]
      | true =>
        rw [if_neg (by rintro (z | z | z) <;> first | exact z c1 | exact c2 z | cases z)]
        rw [c3] at t
        rw [BA4, evS_ite t, Bool.not_true, if_neg Bool.false_ne_true]
        simp only [runB, evSs, evS, ev, evs, evO, evIt, tst, tstO, sto, stos, unpk, asgT, asgTs, Out.bind_ok, Out.bind_err, Out.bind_stuck, Out.of_some, Out.of_none, Out.then_ok, Out.then_err, Out.then_stuck, SOut.seq_nx, SOut.seq_rt, SOut.seq_bk, SOut.seq_ct, SOut.seq_err, SOut.seq_stuck, List.map_cons, List.map_nil, List.length_cons, List.length_nil, List.replicate, List.cons_append, List.nil_append, List.getElem?_cons_zero, List.getElem?_cons_succ, List.set_cons_zero, List.set_cons_succ, Nat.reduceSub, Nat.reduceAdd, Nat.reduceLT, Nat.reduceLeDiff, Int.ofNat_eq_natCast, if_true, if_false, Bool.false_eq_true, Bool.not_true, Bool.not_false]
  · refine ⟨[], ?_⟩
    rw [if_pos (.inl c1), List.append_nil]
    rw [decide_eq_false c1, Bool.not_false] at a1
    have t : tst E9 (.or TD (.or TE1 TF)) [x0, x1, x2, x3, x4, some (.int (n : Int)), some (tx l), none, none] h = .ok true h := by
      rw [tst_or a1, if_pos rfl]
    rw [BA4, evS_ite t, if_pos rfl]
    simp only [runB, evSs, evS, ev, evs, evO, evIt, tst, tstO, sto, stos, unpk, asgT, asgTs, Out.bind_ok, Out.bind_err, Out.bind_stuck, Out.of_some, Out.of_none, Out.then_ok, Out.then_err, Out.then_stuck, SOut.seq_nx, SOut.seq_rt, SOut.seq_bk, SOut.seq_ct, SOut.seq_err, SOut.seq_stuck, List.map_cons, List.map_nil, List.length_cons, List.length_nil, List.replicate, List.cons_append, List.nil_append, List.getElem?_cons_zero, List.getElem?_cons_succ, List.set_cons_zero, List.set_cons_succ, Nat.reduceSub, Nat.reduceAdd, Nat.reduceLT, Nat.reduceLeDiff, Int.ofNat_eq_natCast, if_true, if_false, Bool.false_eq_true, Bool.not_true, Bool.not_false]
theorem tg {ρ : IS} {l : List Nat} (h6 : ρ[6]? = some (some (tx l))) (h8 : 8 < ρ.length) (hl : l.length ≤ 200000) (ho : l.all ok = true) : ∃ g, ev E9 TG1 ρ h = .ok (.bl (lanes (sums l))) (h ++ g) := by
  have sm := sp_sums (hp := h) ho (Nat.le_trans hl (by decide))
  have hk : (h ++ [IO.lst [.int 0], IO.lst ((sums l).map .int)])[h.length + 1]? = some (.lst ((sums l).map .int)) := by
    rw [List.getElem?_append_right (by omega), show h.length + 1 - h.length = 1 by omega]
    rfl
  have hit : evIt E9 (.val (.call 4 [.var 6])) ρ h = .ok (.lstR (h.length + 1)) (h ++ [.lst [.int 0], .lst ((sums l).map .int)]) := by
    simp only [evIt, ev, evs, h6, Out.bind_ok, env_lt (show 4 < 9 by decide), sm, iterOf_ref hk]
  have e := ev_all_xs (e := .cmp .Eq (.bin .Mod (.blt .tInt [.var 8]) (.blt .len [.cst (tx nb)])) (.cst (.int 0))) (t := .name 8) (own := [8]) (sums l) W.int (fun v => decide (v % 96 = 0)) hit (itLen_lst hk |>.trans (by simp)) (by
    have : (sums l).length = 4 := sums_len l 0 _
    rw [this]
    decide) (fun acc i => cur_list hk) fun v hv acc => by
    refine ⟨_, rfl, ?_⟩
    have hg : ((wipeI ρ [8]).set 8 (some (.int v)))[8]? = some (some (.int v)) := List.getElem?_set_self (by simp [wipeI, h8])
    have ln : ∀ h, bfF .len [tx nb] h = some (.int 96, h) := fun h => tx_len (by decide)
    simp only [ev, evs, hg, Out.bind_ok, bf_tInt, Out.of_some, ln, bin_mod (show (0 : Int) < 96 by decide), cmpF_eq, cmp_eq, eqF_int]
    rfl
  exact ⟨_, by rw [TG1, e, List.append_assoc]; rfl⟩
theorem ba5 {n : Nat} {l : List Nat} (hl : l.length ≤ 200000) (ho : l.all ok = true) : ∃ g, evS E9 100000 BA5 [x0, x1, x2, x3, x4, some (.int (n : Int)), some (tx l), none, none] h = .rt (if lanes (sums l) then tx (l.take n) else .non) (h ++ g) := by
  obtain ⟨g, e⟩ := tg (h := h) (ρ := [x0, x1, x2, x3, x4, some (.int (n : Int)), some (tx l), none, none]) (l := l) rfl (by simp) hl ho
  refine ⟨g, evS_ret ?_⟩
  have t := tst_tru e rfl
  have m : ∀ (x y : IE) (ρ : IS), ev E9 (.ite (.tru TG1) x y) ρ h = (tst E9 (.tru TG1) ρ h).bind fun k hp => if k then ev E9 x ρ hp else ev E9 y ρ hp := fun x y ρ => by simp only [ev]
  rw [m, t, Out.bind_ok]
  cases lanes (sums l) with
  | true =>
    rw [if_pos rfl, if_pos rfl]
    have q := tx_to (hp := h ++ g) (a := l) (j := n) (Nat.le_trans hl (by decide))
    simp only [ev, evO, List.getElem?_cons_zero, List.getElem?_cons_succ, Out.bind_ok, q, Out.of_some]
  | false =>
    rw [if_neg Bool.false_ne_true, if_neg Bool.false_ne_true]
    simp only [ev]
theorem sp_body_at (hs : s.length ≤ 200000) : G dcs 9 [tx s, .int (a : Int)] h = .ok (optW (bodyOf (s.drop a))) h := by
  rw [g_body_at rfl]
  have main : ∃ g, runB E9 100000 b_body_at 9 [tx s, .int (a : Int)] h = .ok (optW (bodyOf (s.drop a))) (h ++ g) := by
    rw [body_at_eq]
    have le : ∀ k, ((s.drop a).take k).length ≤ 200000 := fun k => by
      rw [List.length_take, List.length_drop]
      omega
    have l8 : ((s.drop a).take 8).length ≤ 8 := by
      rw [List.length_take]
      exact Nat.min_le_left _ _
    have t4 : ((s.drop a).take 8).take 4 = (s.drop a).take 4 := by rw [List.take_take]; rfl
    obtain ⟨g1, e1⟩ := ba1 (h := h) (x0 := some (tx s)) (x1 := some (.int (a : Int))) (x4 := none) (x5 := none) (x6 := none) (x7 := none) (x8 := none) l8
    have s0 := ba0 (h := h) (a := a) (x3 := none) (x4 := none) (x5 := none) (x6 := none) (x7 := none) (x8 := none) hs
    unfold bodyOf
    rw [t4] at e1
    by_cases c1 : ((s.drop a).take 8).length < 8 ∨ ((s.drop a).take 8).all dig = false ∨ sizeT (val4 ((s.drop a).take 4)) ≠ (s.drop a).take 8
    · rw [if_pos c1] at e1 ⊢
      refine ⟨g1, runB_rt ?_⟩
      show evSs E9 100000 _ [some (tx s), some (.int (a : Int)), none, none, none, none, none, none, none] h = _
      rw [evSs_cons s0]
      exact evSs_ret e1
    · rw [if_neg c1] at e1 ⊢
      have d : ((s.drop a).take 8).all dig = true := by
        cases q : ((s.drop a).take 8).all dig with
        | true => rfl
        | false => exact absurd (.inr (.inl q)) c1
      have l8' : ((s.drop a).take 8).length = 8 := by
        have : ¬ ((s.drop a).take 8).length < 8 := fun z => c1 (.inl z)
        omega
      have s2 := ba2 (h := h ++ g1) (a := a) (x0 := some (tx s)) l8' d
      rw [t4] at s2
      have s3 := ba3 (h := h ++ g1) (a := a) (s := s) (x1 := some (.int (a : Int))) (x2 := some (tx ((s.drop a).take 8))) (n := val4 ((s.drop a).take 4)) hs
      have le2 : (((s.drop a).drop 8).take (val4 ((s.drop a).take 4) + 4)).length ≤ 200000 := by
        rw [List.length_take, List.length_drop, List.length_drop]
        omega
      obtain ⟨g4, e4⟩ := ba4 (h := h ++ g1) (x0 := some (tx s)) (x1 := some (.int (a : Int))) (x2 := some (tx ((s.drop a).take 8))) (x3 := none) (x4 := some (.int ((a + 8 : Nat) : Int))) (n := val4 ((s.drop a).take 4)) le2
      by_cases c2 : ¬ (1 ≤ val4 ((s.drop a).take 4) ∧ val4 ((s.drop a).take 4) ≤ 5000) ∨ (((s.drop a).drop 8).take (val4 ((s.drop a).take 4) + 4)).length < val4 ((s.drop a).take 4) + 4 ∨ (((s.drop a).drop 8).take (val4 ((s.drop a).take 4) + 4)).all ok = false
      · rw [if_pos c2] at e4 ⊢
        refine ⟨g1 ++ g4, runB_rt ?_⟩
        show evSs E9 100000 _ [some (tx s), some (.int (a : Int)), none, none, none, none, none, none, none] h = _
        rw [evSs_cons s0, evSs_cons e1, evSs_cons s2, evSs_cons s3, ← List.append_assoc]
        exact evSs_ret e4
      · rw [if_neg c2] at e4 ⊢
        have o : (((s.drop a).drop 8).take (val4 ((s.drop a).take 4) + 4)).all ok = true := by
          cases q : (((s.drop a).drop 8).take (val4 ((s.drop a).take 4) + 4)).all ok with
          | true => rfl
          | false => exact absurd (.inr (.inr q)) c2
        obtain ⟨g5, e5⟩ := ba5 (h := h ++ g1 ++ g4) (x0 := some (tx s)) (x1 := some (.int (a : Int))) (x2 := some (tx ((s.drop a).take 8))) (x3 := none) (x4 := some (.int ((a + 8 : Nat) : Int))) (n := val4 ((s.drop a).take 4)) le2 o
        refine ⟨g1 ++ g4 ++ g5, runB_rt ?_⟩
        show evSs E9 100000 _ [some (tx s), some (.int (a : Int)), none, none, none, none, none, none, none] h = _
        rw [evSs_cons s0, evSs_cons e1, evSs_cons s2, evSs_cons s3, evSs_cons e4]
        refine (evSs_ret e5).trans ?_
        rw [List.take_take, Nat.min_eq_left (by omega), ← List.append_assoc, ← List.append_assoc]
        cases lanes (sums (((s.drop a).drop 8).take (val4 ((s.drop a).take 4) + 4))) <;> rfl
  obtain ⟨g, e⟩ := main
  rw [e]
  refine fin_same ?_
  cases bodyOf (s.drop a) <;> simp [optW]
end
end K77

set_option Elab.async false
set_option linter.all false
set_option autoImplicit false
set_option maxRecDepth 100000
set_option maxHeartbeats 4000000
namespace K77
open PySem PySem.Spec PyProof.Rows L2 Itp
noncomputable abbrev E10 : FEnv := envTo dcs 10
def endsW : List (List Nat) → Nat → List W
  | [], _ => []
  | b :: bs, a => .tup [tx b, .int ((a + (b.length + 12) : Nat) : Int)] :: endsW bs (a + (b.length + 12))
def BYC : IT := .cmp .IsNot (.var 3) (.cst .non)
def BYB : List IStm := [.augN 2 .Add (.bin .Add (.bin .Add (.blt .len [.var 3]) eight) (.cst (.int 4))), .expr (.meth .append (.var 1) [.tup [.var 3, .var 2]]), .asg (.name 3) (.call 9 [.var 0, .var 2])]
theorem bodies_by_eq : b_bodies_by = [.asg (.tup [.name 1, .name 2]) (.tup [.lst [], .cst (.int 0)]), .asg (.name 3) (.call 9 [.var 0, .cst (.int 0)]), .whl BYC BYB, .ret (.var 1)] := rfl
theorem body_len {t b : List Nat} (h : bodyOf t = some b) : 1 ≤ b.length ∧ b.length ≤ 5000 ∧ b.length + 12 ≤ t.length := by
  obtain ⟨n, h1, h2, h3, h4, _, _, h5⟩ := body_some h
  have e := congrArg List.length h5
  rw [List.length_take, List.length_drop] at e
  rw [List.length_take, List.length_drop] at h4
  omega
section
variable {s : List Nat} {h : IH}
theorem by_turn {a : Nat} {b : List Nat} {acc : List W} (hs : s.length ≤ 99000) (hb : bodyOf (s.drop a) = some b) (hl : acc.length < 100000) :
    evSs E10 100000 BYB [some (tx s), some (.ref h.length), some (.int (a : Int)), some (tx b)] (h ++ [.lst acc]) =
      .nx [some (tx s), some (.ref h.length), some (.int ((a + (b.length + 12) : Nat) : Int)), some (optW (bodyOf (s.drop (a + (b.length + 12)))))] (h ++ [.lst (acc ++ [.tup [tx b, .int ((a + (b.length + 12) : Nat) : Int)]])]) := by
  obtain ⟨b1, b2, b3⟩ := body_len hb
  have e := tx_len (hp := h ++ [.lst acc]) (a := b) (Nat.le_trans b2 (by decide))
  have e4 : ∀ x y : Int, ipF .Add (.int x) (.int y) (h ++ [.lst acc]) = some (.int (x + y), h ++ [.lst acc]) := fun _ _ => rfl
  have q : (a : Int) + ((b.length : Int) + 8 + 4) = ((a + (b.length + 12) : Nat) : Int) := by omega
  have ll : acc.length < lineLen := Nat.lt_trans hl (by decide)
  have ap : bmF .append (.ref h.length) [.tup [tx b, .int ((a + (b.length + 12) : Nat) : Int)]] (h ++ [.lst acc]) = some (.non, h ++ [.lst (acc ++ [.tup [tx b, .int ((a + (b.length + 12) : Nat) : Int)]])]) := by
    show (match (h ++ [IO.lst acc])[h.length]? with
      | some (.lst xs) => if xs.length < lineLen then some (W.non, (h ++ [IO.lst acc]).set h.length (.lst (xs ++ [W.tup [tx b, .int ((a + (b.length + 12) : Nat) : Int)]]))) else none
      | _ => none) = _
    rw [get_last]
    simp only []
    rw [if_pos ll, set_last]
  have rc : recOk .append (.ref h.length) (h ++ [.lst acc]) = true := by
    show (match (h ++ [IO.lst acc])[h.length]? with | some (.lst _) => true | _ => false) = true
    rw [get_last]
  have sp := sp_body_at (s := s) (a := a + (b.length + 12)) (h := h ++ [.lst (acc ++ [.tup [tx b, .int ((a + (b.length + 12) : Nat) : Int)]])]) (Nat.le_trans hs (by decide))
  have l2 : 2 ≤ lineLen := by decide
  simp only [BYB, runB, evSs, evS, ev, evs, evO, evIt, tst, tstO, sto, stos, unpk, asgT, asgTs, Out.bind_ok, Out.bind_err, Out.bind_stuck, Out.of_some, Out.of_none, Out.then_ok, Out.then_err, Out.then_stuck, SOut.seq_nx, SOut.seq_rt, SOut.seq_bk, SOut.seq_ct, SOut.seq_err, SOut.seq_stuck, List.map_cons, List.map_nil, List.length_cons, List.length_nil, List.replicate, List.cons_append, List.nil_append, List.getElem?_cons_zero, List.getElem?_cons_succ, List.set_cons_zero, List.set_cons_succ, Nat.reduceSub, Nat.reduceAdd, Nat.reduceLT, Nat.reduceLeDiff, Int.ofNat_eq_natCast, if_true, if_false, Bool.false_eq_true, Bool.not_true, Bool.not_false, ev_eight, e, e4, bin_add, q, rc, l2, ap, env_lt (show 9 < 10 by decide), sp]
theorem by_loop (hs : s.length ≤ 99000) : ∀ (f gas a : Nat) (acc : List W), (s.drop a).length < f → f ≤ gas → acc.length + (s.drop a).length < 99990 →
    ∃ a', whlL (tst E10 BYC) (evSs E10 100000 BYB) gas [some (tx s), some (.ref h.length), some (.int (a : Int)), some (optW (bodyOf (s.drop a)))] (h ++ [.lst acc]) =
      .nx [some (tx s), some (.ref h.length), some (.int (a' : Nat)), some .non] (h ++ [.lst (acc ++ endsW (bodies f (s.drop a)) a)]) := by
  intro f
  induction f with
  | zero => intro gas a acc h1; omega
  | succ f ih =>
    intro gas a acc h1 h2 h3
    obtain ⟨gas, rfl⟩ : ∃ g, gas = g + 1 := ⟨gas - 1, by omega⟩
    cases e : bodyOf (s.drop a) with
    | none =>
      refine ⟨a, ?_⟩
      rw [bodies_none e]
      unfold whlL
      have t : tst E10 BYC [some (tx s), some (.ref h.length), some (.int (a : Int)), some (optW none)] (h ++ [.lst acc]) = .ok false (h ++ [.lst acc]) := by
        simp only [BYC, tst, ev, List.getElem?_cons_zero, List.getElem?_cons_succ, Out.bind_ok, optW]
        rfl
      rw [t, Out.then_ok, if_neg Bool.false_ne_true]
      simp [endsW, optW]
    | some b =>
      obtain ⟨b1, b2, b3⟩ := body_len e
      have dd : (s.drop a).drop (b.length + 12) = s.drop (a + (b.length + 12)) := by rw [List.drop_drop]
      have dl : (s.drop (a + (b.length + 12))).length + (b.length + 12) = (s.drop a).length := by
        have b3' := b3
        rw [List.length_drop] at b3'
        rw [List.length_drop, List.length_drop]
        omega
      obtain ⟨a', q⟩ := ih gas (a + (b.length + 12)) (acc ++ [.tup [tx b, .int ((a + (b.length + 12) : Nat) : Int)]]) (by omega) (by omega) (by rw [List.length_append, List.length_singleton]; omega)
      refine ⟨a', ?_⟩
      rw [bodies_some e, dd]
      unfold whlL
      have t : tst E10 BYC [some (tx s), some (.ref h.length), some (.int (a : Int)), some (optW (some b))] (h ++ [.lst acc]) = .ok true (h ++ [.lst acc]) := by
        simp only [BYC, tst, ev, List.getElem?_cons_zero, List.getElem?_cons_succ, Out.bind_ok, optW]
        rfl
      rw [t, Out.then_ok, if_pos rfl]
      have tb := by_turn (h := h) (acc := acc) hs e (by omega)
      show (match evSs E10 100000 BYB [some (tx s), some (.ref h.length), some (.int (a : Int)), some (tx b)] (h ++ [.lst acc]) with
        | .nx ρ2 hp2 => whlL (tst E10 BYC) (evSs E10 100000 BYB) gas ρ2 hp2
        | .ct ρ2 hp2 => whlL (tst E10 BYC) (evSs E10 100000 BYB) gas ρ2 hp2
        | .bk ρ2 hp2 => .nx ρ2 hp2
        | o => o) = _
      rw [tb]
      simp only []
      rw [q, List.append_assoc]
      rfl
theorem sp_bodies_by (hs : s.length ≤ 99000) : G dcs 10 [tx s] h = .ok (.ref h.length) (h ++ [.lst (endsW (bodies 99001 s) 0)]) := by
  rw [g_bodies_by rfl, ← fin_new (hp := h) bndW_new]
  congr 1
  rw [bodies_by_eq]
  refine runB_rt ?_
  show evSs E10 100000 _ [some (tx s), none, none, none] h = _
  have l2 : 2 ≤ lineLen := by decide
  have l0 : 0 ≤ lineLen := by decide
  have s0 : evS E10 100000 (.asg (.tup [.name 1, .name 2]) (.tup [.lst [], .cst (.int 0)])) [some (tx s), none, none, none] h = .nx [some (tx s), some (.ref h.length), some (.int 0), none] (h ++ [.lst []]) := by
    simp only [runB, evSs, evS, ev, evs, evO, evIt, tst, tstO, sto, stos, unpk, asgT, asgTs, Out.bind_ok, Out.bind_err, Out.bind_stuck, Out.of_some, Out.of_none, Out.then_ok, Out.then_err, Out.then_stuck, SOut.seq_nx, SOut.seq_rt, SOut.seq_bk, SOut.seq_ct, SOut.seq_err, SOut.seq_stuck, List.map_cons, List.map_nil, List.length_cons, List.length_nil, List.replicate, List.cons_append, List.nil_append, List.getElem?_cons_zero, List.getElem?_cons_succ, List.set_cons_zero, List.set_cons_succ, Nat.reduceSub, Nat.reduceAdd, Nat.reduceLT, Nat.reduceLeDiff, Int.ofNat_eq_natCast, if_true, if_false, Bool.false_eq_true, Bool.not_true, Bool.not_false, l0, l2, unpk, itemsOf_tup]
  have sp := sp_body_at (s := s) (a := 0) (h := h ++ [.lst []]) (Nat.le_trans hs (by decide))
  have sp' : G dcs 9 [tx s, .int 0] (h ++ [.lst []]) = .ok (optW (bodyOf s)) (h ++ [.lst []]) := sp
  have s1 : evS E10 100000 (.asg (.name 3) (.call 9 [.var 0, .cst (.int 0)])) [some (tx s), some (.ref h.length), some (.int 0), none] (h ++ [.lst []]) = .nx [some (tx s), some (.ref h.length), some (.int 0), some (optW (bodyOf s))] (h ++ [.lst []]) := by
    simp only [runB, evSs, evS, ev, evs, evO, evIt, tst, tstO, sto, stos, unpk, asgT, asgTs, Out.bind_ok, Out.bind_err, Out.bind_stuck, Out.of_some, Out.of_none, Out.then_ok, Out.then_err, Out.then_stuck, SOut.seq_nx, SOut.seq_rt, SOut.seq_bk, SOut.seq_ct, SOut.seq_err, SOut.seq_stuck, List.map_cons, List.map_nil, List.length_cons, List.length_nil, List.replicate, List.cons_append, List.nil_append, List.getElem?_cons_zero, List.getElem?_cons_succ, List.set_cons_zero, List.set_cons_succ, Nat.reduceSub, Nat.reduceAdd, Nat.reduceLT, Nat.reduceLeDiff, Int.ofNat_eq_natCast, if_true, if_false, Bool.false_eq_true, Bool.not_true, Bool.not_false, env_lt (show 9 < 10 by decide), sp']
  obtain ⟨a', q⟩ := by_loop (h := h) hs 99001 100000 0 [] (by rw [List.drop_zero]; omega) (by decide) (by rw [List.drop_zero]; simp; omega)
  rw [List.drop_zero] at q
  have s2 : evS E10 100000 (.whl BYC BYB) [some (tx s), some (.ref h.length), some (.int 0), some (optW (bodyOf s))] (h ++ [.lst []]) = .nx [some (tx s), some (.ref h.length), some (.int (a' : Nat)), some .non] (h ++ [.lst (endsW (bodies 99001 s) 0)]) := by
    rw [evS_whl]
    exact q
  rw [evSs_cons s0, evSs_cons s1, evSs_cons s2]
  refine evSs_ret (evS_ret ?_)
  simp only [ev, List.getElem?_cons_succ, List.getElem?_cons_zero]
theorem ends_get : ∀ (bs : List (List Nat)) (a : Nat), ∃ es : List Nat, es.length = bs.length ∧ endsW bs a = (bs.zip es).map fun p => .tup [tx p.1, .int (p.2 : Int)]
  | [], _ => ⟨[], rfl, rfl⟩
  | b :: bs, a => by
    obtain ⟨es, h1, h2⟩ := ends_get bs (a + (b.length + 12))
    exact ⟨(a + (b.length + 12)) :: es, by simp [h1], by rw [endsW, h2]; rfl⟩
theorem bodies_len : ∀ (f : Nat) (t : List Nat), (bodies f t).length ≤ t.length
  | 0, t => Nat.zero_le _
  | f + 1, t => by
    cases e : bodyOf t with
    | none => rw [bodies_none e]; exact Nat.zero_le _
    | some b =>
      have := body_len e
      rw [bodies_some e]
      have := bodies_len f (t.drop (b.length + 12))
      rw [List.length_drop] at this
      simp only [List.length_cons]
      omega
theorem sp_bodies_of (hs : s.length ≤ 99000) : G dcs 11 [tx s] h = .ok (.ref (h.length + 1)) (h ++ [.lst (endsW (bodies 99001 s) 0), .lst ((bodies 99001 s).map tx)]) := by
  rw [g_bodies_of rfl, ← fin_new (hp := h) (bnd_new (k := h.length + 1) (by omega))]
  congr 1
  have e0 : b_bodies_of = [.ite (.not (.tru (.blt .isinstance [.var 0, .cst (.ty "str")]))) [.nev] [], .ret (.comp (.var 1) (.tup [.name 1, .name 2]) (.val (.call 10 [.var 0])) none [1, 2])] := rfl
  rw [e0]
  refine runB_rt ?_
  show evSs (envTo dcs 11) 100000 _ [some (tx s), none, none] h = _
  have s0 : evS (envTo dcs 11) 100000 (.ite (.not (.tru (.blt .isinstance [.var 0, .cst (.ty "str")]))) [.nev] []) [some (tx s), none, none] h = .nx [some (tx s), none, none] h := by
    simp only [runB, evSs, evS, ev, evs, evO, evIt, tst, tstO, sto, stos, unpk, asgT, asgTs, Out.bind_ok, Out.bind_err, Out.bind_stuck, Out.of_some, Out.of_none, Out.then_ok, Out.then_err, Out.then_stuck, SOut.seq_nx, SOut.seq_rt, SOut.seq_bk, SOut.seq_ct, SOut.seq_err, SOut.seq_stuck, List.map_cons, List.map_nil, List.length_cons, List.length_nil, List.replicate, List.cons_append, List.nil_append, List.getElem?_cons_zero, List.getElem?_cons_succ, List.set_cons_zero, List.set_cons_succ, Nat.reduceSub, Nat.reduceAdd, Nat.reduceLT, Nat.reduceLeDiff, Int.ofNat_eq_natCast, if_true, if_false, Bool.false_eq_true, Bool.not_true, Bool.not_false, str_ty, truth_bl]
  rw [evSs_cons s0]
  refine evSs_ret (evS_ret ?_)
  obtain ⟨es, h1, h2⟩ := ends_get (bodies 99001 s) 0
  have sp := sp_bodies_by (h := h) hs
  rw [h2] at sp
  have hit : evIt (envTo dcs 11) (.val (.call 10 [.var 0])) [some (tx s), none, none] h = .ok (.lstR h.length) (h ++ [.lst (((bodies 99001 s).zip es).map fun p => .tup [tx p.1, .int (p.2 : Int)])]) := by
    simp only [evIt, ev, evs, List.getElem?_cons_zero, Out.bind_ok, env_lt (show 10 < 11 by decide), sp, iterOf_ref get_last]
  have ln := bodies_len 99001 s
  have c := ev_comp_xs (F := envTo dcs 11) (e := .var 1) (t := .tup [.name 1, .name 2]) (own := [1, 2]) ((bodies 99001 s).zip es) (fun p => .tup [tx p.1, .int (p.2 : Int)]) (fun p => tx p.1) hit ((itLen_lst get_last).trans (by simp)) (by
      rw [List.length_zip, h1, Nat.min_self]
      exact Nat.lt_of_le_of_lt (Nat.le_trans ln hs) (by decide)) (fun acc i => cur_list get_last) fun p hp acc => by
    refine ⟨_, by simp [asgT, asgTs]; rfl, ?_⟩
    simp [ev, wipeI]
  have e2 : ((bodies 99001 s).zip es).map (fun p => tx p.1) = (bodies 99001 s).map tx := by
    rw [show (fun p : List Nat × Nat => tx p.1) = tx ∘ Prod.fst from rfl, ← List.map_map, List.map_fst_zip (by omega)]
  rw [e2, ← h2] at c
  rw [c]
  simp
end
end K77

set_option Elab.async false
set_option linter.all false
set_option autoImplicit false
set_option maxRecDepth 100000
set_option maxHeartbeats 4000000
namespace K77
open PySem PySem.Spec PyProof.Rows L2 Itp
theorem ord_tx {c : Nat} {h : IH} : bfF .ord [tx [c]] h = some (.int (c : Int), h) := rfl
theorem sp_lnum {c : Nat} {h : IH} (ho : ok c = true) : G dcs 14 [tx [c]] h = .ok (.int (num c : Int)) h := by
  rw [g__law_number rfl]
  have e0 : b__law_number = [.ret (.ite (.cmp .Eq (.var 0) (.cst (tx [10]))) (.cst (.int 95)) (.bin .Sub (.blt .ord [.var 0]) (.cst (.int 32))))] := rfl
  rw [e0]
  have q : eqF (tx [c]) (tx [10]) h = some (decide (c = 10)) := by
    rw [tx_eq]
    congr 1
    exact decide_eq_decide.mpr ⟨fun z => by injection z, fun z => by rw [z]⟩
  by_cases z : c = 10
  · subst z
    have q' : eqF (tx [10]) (tx [10]) h = some true := by rw [q]; rfl
    simp only [runB, evSs, evS, ev, evs, evO, evIt, tst, tstO, sto, stos, unpk, asgT, asgTs, Out.bind_ok, Out.bind_err, Out.bind_stuck, Out.of_some, Out.of_none, Out.then_ok, Out.then_err, Out.then_stuck, SOut.seq_nx, SOut.seq_rt, SOut.seq_bk, SOut.seq_ct, SOut.seq_err, SOut.seq_stuck, List.map_cons, List.map_nil, List.length_cons, List.length_nil, List.replicate, List.cons_append, List.nil_append, List.getElem?_cons_zero, List.getElem?_cons_succ, List.set_cons_zero, List.set_cons_succ, Nat.reduceSub, Nat.reduceAdd, Nat.reduceLT, Nat.reduceLeDiff, Int.ofNat_eq_natCast, if_true, if_false, Bool.false_eq_true, Bool.not_true, Bool.not_false, cmp_eq, q']
    exact fin_same0 (by simp)
  · rw [decide_eq_false z] at q
    have n : num c = c - 32 := by unfold num; rw [if_neg z]
    have l : 32 ≤ c := by
      unfold ok at ho
      simp only [Bool.or_eq_true, Bool.and_eq_true, decide_eq_true_eq] at ho
      omega
    simp only [runB, evSs, evS, ev, evs, evO, evIt, tst, tstO, sto, stos, unpk, asgT, asgTs, Out.bind_ok, Out.bind_err, Out.bind_stuck, Out.of_some, Out.of_none, Out.then_ok, Out.then_err, Out.then_stuck, SOut.seq_nx, SOut.seq_rt, SOut.seq_bk, SOut.seq_ct, SOut.seq_err, SOut.seq_stuck, List.map_cons, List.map_nil, List.length_cons, List.length_nil, List.replicate, List.cons_append, List.nil_append, List.getElem?_cons_zero, List.getElem?_cons_succ, List.set_cons_zero, List.set_cons_succ, Nat.reduceSub, Nat.reduceAdd, Nat.reduceLT, Nat.reduceLeDiff, Int.ofNat_eq_natCast, if_true, if_false, Bool.false_eq_true, Bool.not_true, Bool.not_false, cmp_eq, q, ord_tx, bin_sub]
    rw [n, show (c : Int) - 32 = ((c - 32 : Nat) : Int) by omega]
    exact fin_same0 (by simp)
def LSB : List IStm := [IStm.augS (IE.var 1) (IE.bin Operator.Mod (IE.blt BF.tInt [IE.var 2]) (IE.cst (W.int (Int.ofNat 4)))) Operator.Add (IE.call 14 [IE.var 3])]
theorem lsums_body {m i c : Nat} {x0 x4 : Option W} {q : List Int} {h : IH} (hm : h[m]? = some (.lst (q.map .int))) (hq : q.length = 4) (hc : ok c = true) :
    evSs (envTo dcs 15) 100000 LSB [x0, some (.ref m), some (.int (i : Int)), some (tx [c]), x4] h = .nx [x0, some (.ref m), some (.int (i : Int)), some (tx [c]), x4] (h.set m (.lst ((q.set (i % 4) (q.getD (i % 4) 0 + (num c : Int))).map .int))) := by
  have e1 : binF .Mod (.int (i : Int)) (.int 4) h = some (.int ((i % 4 : Nat) : Int), h) := by
    rw [bin_mod (by decide)]
    rfl
  have hi : i % 4 < q.length := by omega
  have e2 : getF (.ref m) (.int ((i % 4 : Nat) : Int)) h = some (.int (q.getD (i % 4) 0)) := by
    unfold getF
    simp only [hm]
    rw [if_pos ⟨by omega, by omega⟩]
    rw [Int.toNat_natCast, List.getElem?_map, List.getD_eq_getElem?_getD, List.getElem?_eq_getElem hi]
    rfl
  have e3 : ∀ v, setF (.ref m) (.int ((i % 4 : Nat) : Int)) v h = some (h.set m (.lst ((q.map .int).set (i % 4) v))) := fun v => by
    rw [set_ref hm]
    have : ixN (q.map W.int).length ((i % 4 : Nat) : Int) = some (i % 4) := by
      rw [List.length_map, hq]
      have : i % 4 < 4 := by omega
      generalize i % 4 = j at this
      match j, this with
      | 0, _ => rfl
      | 1, _ => rfl
      | 2, _ => rfl
      | 3, _ => rfl
    rw [this]
    rfl
  have e4 : ∀ a b : Int, ipF .Add (.int a) (.int b) h = some (.int (a + b), h) := fun _ _ => rfl
  rw [List.map_set]
  simp only [LSB, evSs, evS, ev, evs, Out.bind_ok, Out.then_ok, List.getElem?_cons_zero, List.getElem?_cons_succ, bf_tInt, Out.of_some, Int.ofNat_eq_natCast]
  rw [show ((4 : Nat) : Int) = 4 from rfl, e1]
  simp only [Out.of_some, Out.then_ok, e2, env_lt (show 14 < 15 by decide), sp_lnum hc, e4, e3, SOut.seq_nx]
theorem sp_lsums {s : List Nat} {hp : IH} (hs : s.all ok = true) (hl : s.length ≤ lineLen) : G dcs 15 [tx s] hp = .ok (.ref (hp.length + 1)) (hp ++ [.lst ((sums s).map .int), .lst ((sums s).map fun v => .int (v % 96))]) := by
  obtain ⟨ρ', h', q1, y2, y3, q2, q3⟩ := for_run (body := evSs (envTo dcs 15) 100000 LSB) (t := .tup [.name 2, .name 3]) (J := .enum (.strR (SX.S s)))
    (fun i ρ h => ∃ y2 y3, ρ = [some (tx s), some (.ref hp.length), y2, y3, none] ∧ h = hp ++ [.lst ((sumsL (s.take i) 0 [0, 0, 0, 0]).map .int)]) s.length
    (fun i ρ h hi ⟨y2, y3, e1, e2⟩ => by
      subst e1 e2
      have oc : ok s[i] = true := List.all_eq_true.mp hs _ (List.getElem_mem hi)
      have e : cur (.enum (.strR (SX.S s))) i (hp ++ [.lst ((sumsL (s.take i) 0 [0, 0, 0, 0]).map .int)]) = some (some (.tup [.int (i : Int), tx [s[i]]])) := by
        show (cur (.strR (SX.S s)) i _).map _ = _
        rw [tx_cur, List.getElem?_eq_getElem hi]
        rfl
      refine ⟨_, [some (tx s), some (.ref hp.length), some (.int (i : Int)), some (tx [s[i]]), none], _, _, e, by simp [asgT, asgTs], .inl (lsums_body get_last (by rw [sums_len]; rfl) oc), _, _, rfl, ?_⟩
      rw [set_last, List.take_add_one, List.getElem?_eq_getElem hi, Option.toList_some, sums_app, Nat.zero_add, List.length_take, Nat.min_eq_left (Nat.le_of_lt hi)]
      rfl)
    (fun ρ h _ => by
      show (cur (.strR (SX.S s)) s.length h).map _ = _
      rw [tx_cur, List.getElem?_eq_none (Nat.le_refl _)]
      rfl) s.length 0 [some (tx s), some (.ref hp.length), none, none, none] (hp ++ [.lst ([0, 0, 0, 0].map .int)]) (by omega) ⟨none, none, rfl, rfl⟩
  rw [List.take_length] at q3
  subst q2 q3
  rw [g__law_sums rfl, ← fin_new (hp := hp) (bnd_new (k := hp.length + 1) (by omega))]
  congr 1
  refine runB_rt ?_
  have e0 : b__law_sums = [.asg (.name 1) (.lst [.cst (.int 0), .cst (.int 0), .cst (.int 0), .cst (.int 0)]), .forS (.tup [.name 2, .name 3]) (.enum (.var 0)) LSB,
    .ret (.comp (.bin .Mod (.blt .tInt [.var 4]) (.cst (.int 96))) (.name 4) (.val (.var 1)) none [4])] := rfl
  have l4 : 4 ≤ lineLen := by decide
  have s0 : evS (envTo dcs 15) 100000 (.asg (.name 1) (.lst [.cst (.int 0), .cst (.int 0), .cst (.int 0), .cst (.int 0)])) [some (tx s), none, none, none, none] hp = .nx [some (tx s), some (.ref hp.length), none, none, none] (hp ++ [.lst ([0, 0, 0, 0].map .int)]) := by
    simp [runB, evSs, evS, ev, evs, evO, evIt, tst, tstO, sto, stos, unpk, asgT, asgTs, Out.bind_ok, Out.bind_err, Out.bind_stuck, Out.of_some, Out.of_none, Out.then_ok, Out.then_err, Out.then_stuck, SOut.seq_nx, SOut.seq_rt, SOut.seq_bk, SOut.seq_ct, SOut.seq_err, SOut.seq_stuck, List.map_cons, List.map_nil, List.length_cons, List.length_nil, List.replicate, List.cons_append, List.nil_append, List.getElem?_cons_zero, List.getElem?_cons_succ, List.set_cons_zero, List.set_cons_succ, Nat.reduceSub, Nat.reduceAdd, Nat.reduceLT, Nat.reduceLeDiff, Int.ofNat_eq_natCast, if_true, if_false, Bool.false_eq_true, Bool.not_true, Bool.not_false, l4]
  have s1 : evS (envTo dcs 15) 100000 (.forS (.tup [.name 2, .name 3]) (.enum (.var 0)) LSB) [some (tx s), some (.ref hp.length), none, none, none] (hp ++ [.lst ([0, 0, 0, 0].map .int)]) = .nx [some (tx s), some (.ref hp.length), y2, y3, none] (hp ++ [.lst ((sums s).map .int)]) := by
    have ei : evIt (envTo dcs 15) (.enum (.var 0)) [some (tx s), some (.ref hp.length), none, none, none] (hp ++ [.lst ([0, 0, 0, 0].map .int)]) = .ok (.enum (.strR (SX.S s))) (hp ++ [.lst ([0, 0, 0, 0].map .int)]) := rfl
    rw [evS_for ei, show itLen (.enum (.strR (SX.S s))) (hp ++ [.lst ([0, 0, 0, 0].map .int)]) = s.length from tx_itLen (hp := hp)]
    exact q1
  rw [e0]
  show evSs (envTo dcs 15) 100000 _ [some (tx s), none, none, none, none] hp = _
  rw [evSs_cons s0, evSs_cons s1]
  refine evSs_ret (evS_ret ?_)
  have hk : (hp ++ [IO.lst ((sums s).map W.int)])[hp.length]? = some (.lst ((sums s).map .int)) := get_last
  have c := ev_comp_xs (F := envTo dcs 15) (e := .bin .Mod (.blt .tInt [.var 4]) (.cst (.int 96))) (t := .name 4) (own := [4]) (ρ := [some (tx s), some (.ref hp.length), y2, y3, none]) (sums s) W.int (fun v => .int (v % 96)) (it_list (v := 1) rfl hk) ((itLen_lst hk).trans (by simp)) (by
    have : (sums s).length = 4 := sums_len s 0 _
    rw [this]
    decide) (fun acc i => cur_list hk) fun v hv acc => by
    refine ⟨_, rfl, ?_⟩
    simp [ev, evs, wipeI, bin_mod (show (0 : Int) < 96 by decide)]
  rw [c]
  simp
end K77

set_option Elab.async false
set_option linter.all false
set_option autoImplicit false
set_option maxRecDepth 100000
set_option maxHeartbeats 4000000
namespace K77
open PySem PySem.Spec PyProof.Rows L2 Itp
noncomputable abbrev E16 : FEnv := envTo dcs 16
def isFrame (w b : List Nat) : Bool := decide (w.take (b.length + 8) = sizeT b.length ++ b) && (w.all ok && (decide (w.length = b.length + 12) && lanes (sums (w.drop 8))))
def LF0 : IStm := .asg (.name 2) (.slc (.bin .Add (.cst (tx [48, 48, 48])) (.blt .tStr [.blt .len [.var 1]])) (some (.neg (.cst (.int 4)))) none)
def JN9 : IE := .meth .join (.cst (tx [])) [.comp (.blt .tStr [.bin .Sub (.cst (.int 9)) (.blt .tInt [.var 3])]) (.name 3) (.val (.var 2)) none [3]]
def LF1 : IStm := .ite (.or (.not (.tru (.blt .isinstance [.var 0, .cst (.ty "str")]))) (.cmp .NotEq (.slc (.var 0) none (some (.bin .Add (.blt .len [.var 1]) (.cst (.int 8))))) (.bin .Add (.bin .Add (.var 2) JN9) (.var 1)))) [.ret (.cst (.bl false))] []
def EOK : IE := .or (.cmp .Eq (.var 5) (.cst (tx [10]))) (.chn .LtE .LtE (.cst (.int 32)) (.blt .ord [.var 5]) (.cst (.int 126)))
def LF2 : IStm := .asg (.name 4) (.blt .all [.comp EOK (.name 5) (.val (.var 0)) none [5]])
def LF3a : IE := .cmp .Eq (.blt .len [.var 0]) (.bin .Add (.blt .len [.var 1]) (.cst (.int 12)))
def LF3b : IE := .cmp .Eq (.call 15 [.slc (.var 0) (some (.cst (.int 8))) none]) (.lst [.cst (.int 0), .cst (.int 0), .cst (.int 0), .cst (.int 0)])
def LF3 : IStm := .ret (.and (.var 4) (.and LF3a LF3b))
theorem is_frame_eq : b__law_is_frame = [LF0, LF1, LF2, LF3] := rfl
theorem last4 {n : Nat} (hn : n < 10000) : ([48, 48, 48] ++ TL.numL n).drop (([48, 48, 48] ++ TL.numL n).length - 4) = d4 n := by
  have l1 : (TL.numL n).length ≤ 4 := TL.numL_len (k := 4) (by decide) (by omega)
  have l0 : 0 < (TL.numL n).length := List.length_pos_iff.mpr (TL.numL_ne n)
  rw [← numL_d4 hn, List.length_append, List.drop_append]
  have e : ([48, 48, 48] : List Nat).length = 3 := rfl
  rw [e, show 3 + (TL.numL n).length - 4 - 3 = 0 by omega, List.drop_zero]
  congr 1
  generalize (TL.numL n).length = k at l1 l0
  match k, l1, l0 with
  | 1, _, _ => rfl
  | 2, _, _ => rfl
  | 3, _, _ => rfl
  | 4, _, _ => rfl
section
variable {w b : List Nat} {h : IH}
theorem lf0 {x0 x2 x3 x4 x5 : Option W} (hb : b.length ≤ 5000) : evS E16 100000 LF0 [x0, some (tx b), x2, x3, x4, x5] h = .nx [x0, some (tx b), some (tx (d4 b.length)), x3, x4, x5] h := by
  have l1 : (TL.numL b.length).length ≤ 4 := TL.numL_len (k := 4) (by decide) (by omega)
  have l0 : 0 < (TL.numL b.length).length := List.length_pos_iff.mpr (TL.numL_ne b.length)
  have e1 := tx_len (hp := h) (a := b) (Nat.le_trans hb (by decide))
  have e2 := str_num (n := b.length) (hp := h) (Nat.lt_of_le_of_lt hb (by decide))
  have e3 := tx_add (hp := h) (a := [48, 48, 48]) (b := TL.numL b.length) (Nat.le_trans (show 3 + (TL.numL b.length).length ≤ 100 by omega) (by decide))
  have e4 := tx_last (hp := h) (a := [48, 48, 48] ++ TL.numL b.length) (j := 4) (Nat.le_trans (show ([48, 48, 48] ++ TL.numL b.length).length ≤ 100 by rw [List.length_append]; simp; omega) (by decide)) (by decide) (by rw [List.length_append]; simp; omega)
  rw [last4 (by omega)] at e4
  simp only [LF0, runB, evSs, evS, ev, evs, evO, evIt, tst, tstO, sto, stos, unpk, asgT, asgTs, Out.bind_ok, Out.bind_err, Out.bind_stuck, Out.of_some, Out.of_none, Out.then_ok, Out.then_err, Out.then_stuck, SOut.seq_nx, SOut.seq_rt, SOut.seq_bk, SOut.seq_ct, SOut.seq_err, SOut.seq_stuck, List.map_cons, List.map_nil, List.length_cons, List.length_nil, List.replicate, List.cons_append, List.nil_append, List.getElem?_cons_zero, List.getElem?_cons_succ, List.set_cons_zero, List.set_cons_succ, Nat.reduceSub, Nat.reduceAdd, Nat.reduceLT, Nat.reduceLeDiff, Int.ofNat_eq_natCast, if_true, if_false, Bool.false_eq_true, Bool.not_true, Bool.not_false, e1, e2, e3]
  have e5 : slcF (tx (48 :: 48 :: 48 :: TL.numL b.length)) (some (-(4 : Int))) none h = some (tx (d4 b.length), h) := e4
  rw [e5]
  simp only [runB, evSs, evS, ev, evs, evO, evIt, tst, tstO, sto, stos, unpk, asgT, asgTs, Out.bind_ok, Out.bind_err, Out.bind_stuck, Out.of_some, Out.of_none, Out.then_ok, Out.then_err, Out.then_stuck, SOut.seq_nx, SOut.seq_rt, SOut.seq_bk, SOut.seq_ct, SOut.seq_err, SOut.seq_stuck, List.map_cons, List.map_nil, List.length_cons, List.length_nil, List.replicate, List.cons_append, List.nil_append, List.getElem?_cons_zero, List.getElem?_cons_succ, List.set_cons_zero, List.set_cons_succ, Nat.reduceSub, Nat.reduceAdd, Nat.reduceLT, Nat.reduceLeDiff, Int.ofNat_eq_natCast, if_true, if_false, Bool.false_eq_true, Bool.not_true, Bool.not_false]
theorem lf1 {x4 x5 : Option W} (hb : b.length ≤ 5000) (hw : w.length ≤ 99000) : ∃ g, evS E16 100000 LF1 [some (tx w), some (tx b), some (tx (d4 b.length)), none, x4, x5] h =
    if w.take (b.length + 8) = sizeT b.length ++ b then .nx [some (tx w), some (tx b), some (tx (d4 b.length)), none, x4, x5] (h ++ g) else .rt (.bl false) (h ++ g) := by
  have e1 := tx_len (hp := h) (a := b) (Nat.le_trans hb (by decide))
  have e2 := tx_to (hp := h) (a := w) (j := b.length + 8) (Nat.le_trans hw (by decide))
  have q : ((b.length + 8 : Nat) : Int) = (b.length : Int) + 8 := by omega
  rw [q] at e2
  have j := ev_c9 (k := 16) (v := 2) (j := 3) (a := d4 b.length) (hp := h) (ρ := [some (tx w), some (tx b), some (tx (d4 b.length)), none, x4, x5]) rfl (by simp) (d4_dig _) (by simp [d4])
  obtain ⟨h2, eh⟩ : ∃ h2, h2 = h ++ [IO.lst ((d4 b.length).map fun c => tx [105 - c])] := ⟨_, rfl⟩
  rw [← eh] at j
  have a1 := tx_add (hp := h2) (a := d4 b.length) (b := c9 (d4 b.length)) (Nat.le_trans (show (d4 b.length).length + (c9 (d4 b.length)).length ≤ 100 by simp [d4, c9]) (by decide))
  have a2 := tx_add (hp := h2) (a := d4 b.length ++ c9 (d4 b.length)) (b := b) (Nat.le_trans (show (d4 b.length ++ c9 (d4 b.length)).length + b.length ≤ 6000 by simp [d4, c9]; omega) (by decide))
  have t1 : tst E16 (.not (.tru (.blt .isinstance [.var 0, .cst (.ty "str")]))) [some (tx w), some (tx b), some (tx (d4 b.length)), none, x4, x5] h = .ok false h := by
    simp only [runB, evSs, evS, ev, evs, evO, evIt, tst, tstO, sto, stos, unpk, asgT, asgTs, Out.bind_ok, Out.bind_err, Out.bind_stuck, Out.of_some, Out.of_none, Out.then_ok, Out.then_err, Out.then_stuck, SOut.seq_nx, SOut.seq_rt, SOut.seq_bk, SOut.seq_ct, SOut.seq_err, SOut.seq_stuck, List.map_cons, List.map_nil, List.length_cons, List.length_nil, List.replicate, List.cons_append, List.nil_append, List.getElem?_cons_zero, List.getElem?_cons_succ, List.set_cons_zero, List.set_cons_succ, Nat.reduceSub, Nat.reduceAdd, Nat.reduceLT, Nat.reduceLeDiff, Int.ofNat_eq_natCast, if_true, if_false, Bool.false_eq_true, Bool.not_true, Bool.not_false, str_ty, truth_bl]
  have t2 : tst E16 (.cmp .NotEq (.slc (.var 0) none (some (.bin .Add (.blt .len [.var 1]) (.cst (.int 8))))) (.bin .Add (.bin .Add (.var 2) JN9) (.var 1))) [some (tx w), some (tx b), some (tx (d4 b.length)), none, x4, x5] h = .ok (!decide (w.take (b.length + 8) = sizeT b.length ++ b)) h2 := by
    have v1 : ev E16 (.slc (.var 0) none (some (.bin .Add (.blt .len [.var 1]) (.cst (.int 8))))) [some (tx w), some (tx b), some (tx (d4 b.length)), none, x4, x5] h = .ok (tx (w.take (b.length + 8))) h := by
      simp only [runB, evSs, evS, ev, evs, evO, evIt, tst, tstO, sto, stos, unpk, asgT, asgTs, Out.bind_ok, Out.bind_err, Out.bind_stuck, Out.of_some, Out.of_none, Out.then_ok, Out.then_err, Out.then_stuck, SOut.seq_nx, SOut.seq_rt, SOut.seq_bk, SOut.seq_ct, SOut.seq_err, SOut.seq_stuck, List.map_cons, List.map_nil, List.length_cons, List.length_nil, List.replicate, List.cons_append, List.nil_append, List.getElem?_cons_zero, List.getElem?_cons_succ, List.set_cons_zero, List.set_cons_succ, Nat.reduceSub, Nat.reduceAdd, Nat.reduceLT, Nat.reduceLeDiff, Int.ofNat_eq_natCast, if_true, if_false, Bool.false_eq_true, Bool.not_true, Bool.not_false, e1, bin_add, e2]
    have m : ∀ (x y : IE) (ρ : IS) (h : IH), ev E16 (.bin .Add x y) ρ h = (ev E16 x ρ h).bind fun u h => (ev E16 y ρ h).bind fun v h => .of (binF .Add u v h) := fun x y ρ h => by simp only [ev]
    have v2 : ev E16 (.bin .Add (.bin .Add (.var 2) JN9) (.var 1)) [some (tx w), some (tx b), some (tx (d4 b.length)), none, x4, x5] h = .ok (tx (sizeT b.length ++ b)) h2 := by
      rw [m, m]
      have y2 : ev E16 (.var 2) [some (tx w), some (tx b), some (tx (d4 b.length)), none, x4, x5] h = .ok (tx (d4 b.length)) h := by simp only [ev, List.getElem?_cons_zero, List.getElem?_cons_succ]
      have y1 : ev E16 (.var 1) [some (tx w), some (tx b), some (tx (d4 b.length)), none, x4, x5] h2 = .ok (tx b) h2 := by simp only [ev, List.getElem?_cons_zero, List.getElem?_cons_succ]
      rw [y2, Out.bind_ok, JN9, j, Out.bind_ok, a1, Out.of_some, Out.bind_ok, y1, Out.bind_ok, a2]
      rfl
    have t : ∀ (x y : IE) (ρ : IS) (h : IH), tst E16 (.cmp .NotEq x y) ρ h = (ev E16 x ρ h).bind fun u h => (ev E16 y ρ h).bind fun v h => match cmpB .NotEq u v h with
      | some c => .ok c h
      | none => .stuck := fun x y ρ h => by
      simp only [tst]
      try congr 1
    rw [t, v1, Out.bind_ok, v2, Out.bind_ok, cmp_ne, tx_eq]
    rfl
  refine ⟨[.lst ((d4 b.length).map fun c => tx [105 - c])], ?_⟩
  rw [← eh]
  have t := tst_or (b := .cmp .NotEq (.slc (.var 0) none (some (.bin .Add (.blt .len [.var 1]) (.cst (.int 8))))) (.bin .Add (.bin .Add (.var 2) JN9) (.var 1))) t1
  rw [if_neg Bool.false_ne_true, t2] at t
  rw [LF1, evS_ite t]
  by_cases z : w.take (b.length + 8) = sizeT b.length ++ b
  · rw [decide_eq_true z, if_pos z, Bool.not_true, if_neg Bool.false_ne_true]
    simp only [runB, evSs, evS, ev, evs, evO, evIt, tst, tstO, sto, stos, unpk, asgT, asgTs, Out.bind_ok, Out.bind_err, Out.bind_stuck, Out.of_some, Out.of_none, Out.then_ok, Out.then_err, Out.then_stuck, SOut.seq_nx, SOut.seq_rt, SOut.seq_bk, SOut.seq_ct, SOut.seq_err, SOut.seq_stuck, List.map_cons, List.map_nil, List.length_cons, List.length_nil, List.replicate, List.cons_append, List.nil_append, List.getElem?_cons_zero, List.getElem?_cons_succ, List.set_cons_zero, List.set_cons_succ, Nat.reduceSub, Nat.reduceAdd, Nat.reduceLT, Nat.reduceLeDiff, Int.ofNat_eq_natCast, if_true, if_false, Bool.false_eq_true, Bool.not_true, Bool.not_false]
  · rw [decide_eq_false z, if_neg z, Bool.not_false, if_pos rfl]
    simp only [runB, evSs, evS, ev, evs, evO, evIt, tst, tstO, sto, stos, unpk, asgT, asgTs, Out.bind_ok, Out.bind_err, Out.bind_stuck, Out.of_some, Out.of_none, Out.then_ok, Out.then_err, Out.then_stuck, SOut.seq_nx, SOut.seq_rt, SOut.seq_bk, SOut.seq_ct, SOut.seq_err, SOut.seq_stuck, List.map_cons, List.map_nil, List.length_cons, List.length_nil, List.replicate, List.cons_append, List.nil_append, List.getElem?_cons_zero, List.getElem?_cons_succ, List.set_cons_zero, List.set_cons_succ, Nat.reduceSub, Nat.reduceAdd, Nat.reduceLT, Nat.reduceLeDiff, Int.ofNat_eq_natCast, if_true, if_false, Bool.false_eq_true, Bool.not_true, Bool.not_false]
theorem ev_eok {ρ : IS} {c : Nat} (hρ : ρ[5]? = some (some (tx [c]))) : ev E16 EOK ρ h = .ok (.bl (ok c)) h := by
  have q : eqF (tx [c]) (tx [10]) h = some (decide (c = 10)) := by
    rw [tx_eq]
    congr 1
    exact decide_eq_decide.mpr ⟨fun z => by injection z, fun z => by rw [z]⟩
  by_cases z : c = 10
  · subst z
    rw [decide_eq_true rfl] at q
    simp only [EOK, ev, hρ, Out.bind_ok, cmpF_eq, cmp_eq, q, Option.map_some, Out.of_some, truth_bl]
    rfl
  · rw [decide_eq_false z] at q
    simp only [EOK, ev, evs, hρ, Out.bind_ok, cmpF_eq, cmp_eq, q, Option.map_some, Out.of_some, truth_bl, ord_tx, cmp_le]
    have e : ok c = (decide (32 ≤ c) && decide (c ≤ 126)) := by
      unfold ok
      rw [decide_eq_false z, Bool.or_false]
    rw [e]
    by_cases y : 32 ≤ c
    · rw [decide_eq_true (show (32 : Int) ≤ (c : Int) by omega), decide_eq_true y, Bool.true_and]
      simp only [Out.of_some]
      congr 2
      exact decide_eq_decide.mpr ⟨fun z => by omega, fun z => by omega⟩
    · rw [decide_eq_false (show ¬ (32 : Int) ≤ (c : Int) by omega), decide_eq_false y]
      rfl
theorem lf2 {x1 x2 x3 x4 : Option W} (hw : w.length ≤ 99000) : evS E16 100000 LF2 [some (tx w), x1, x2, x3, x4, none] h = .nx [some (tx w), x1, x2, x3, some (.bl (w.all ok)), none] (h ++ [.lst (w.map fun c => .bl (ok c))]) := by
  have e := ev_all_text (F := E16) (e := EOK) (v := 0) (j := 5) (ρ := [some (tx w), x1, x2, x3, x4, none]) (hp := h) w ok rfl (Nat.lt_of_le_of_lt hw (by decide)) fun c _ h => ev_eok (by simp [wipeI])
  simp only [LF2, evS, e, Out.then_ok, sto, List.set_cons_zero, List.set_cons_succ]
theorem lf3 {x2 x3 x5 : Option W} (hb : b.length ≤ 5000) (hw : w.length ≤ 99000) : ∃ g, evS E16 100000 LF3 [some (tx w), some (tx b), x2, x3, some (.bl (w.all ok)), x5] h = .rt (.bl (w.all ok && (decide (w.length = b.length + 12) && lanes (sums (w.drop 8))))) (h ++ g) := by
  have v4 : ev E16 (.var 4) [some (tx w), some (tx b), x2, x3, some (.bl (w.all ok)), x5] h = .ok (.bl (w.all ok)) h := by simp only [ev, List.getElem?_cons_zero, List.getElem?_cons_succ]
  have m : ∀ (x y : IE) (ρ : IS) (c : Bool), ev E16 x ρ h = .ok (.bl c) h → ev E16 (.and x y) ρ h = if c then ev E16 y ρ h else .ok (.bl false) h := fun x y ρ c e => by
    have e1 : ev E16 (.and x y) ρ h = (ev E16 x ρ h).bind fun x hp => match truth hp x with
      | some true => ev E16 y ρ hp
      | some false => .ok x hp
      | none => .stuck := by
      simp only [ev]
      try congr 1
    rw [e1, e, Out.bind_ok, truth_bl]
    cases c <;> rfl
  have e1 := tx_len (hp := h) (a := b) (Nat.le_trans hb (by decide))
  have e2 := tx_len (hp := h) (a := w) (Nat.le_trans hw (by decide))
  have va : ev E16 LF3a [some (tx w), some (tx b), x2, x3, some (.bl (w.all ok)), x5] h = .ok (.bl (decide (w.length = b.length + 12))) h := by
    simp only [LF3a, runB, evSs, evS, ev, evs, evO, evIt, tst, tstO, sto, stos, unpk, asgT, asgTs, Out.bind_ok, Out.bind_err, Out.bind_stuck, Out.of_some, Out.of_none, Out.then_ok, Out.then_err, Out.then_stuck, SOut.seq_nx, SOut.seq_rt, SOut.seq_bk, SOut.seq_ct, SOut.seq_err, SOut.seq_stuck, List.map_cons, List.map_nil, List.length_cons, List.length_nil, List.replicate, List.cons_append, List.nil_append, List.getElem?_cons_zero, List.getElem?_cons_succ, List.set_cons_zero, List.set_cons_succ, Nat.reduceSub, Nat.reduceAdd, Nat.reduceLT, Nat.reduceLeDiff, Int.ofNat_eq_natCast, if_true, if_false, Bool.false_eq_true, Bool.not_true, Bool.not_false, e1, e2, bin_add, cmpF_eq, cmp_eq, eqF_int, Option.map_some]
    congr 2
    exact decide_eq_decide.mpr ⟨fun z => by omega, fun z => by omega⟩
  cases c1 : w.all ok with
  | false =>
    refine ⟨[], ?_⟩
    rw [c1] at v4
    rw [LF3, evS_ret (by rw [m _ _ _ _ v4, if_neg Bool.false_ne_true]), List.append_nil]
    rfl
  | true =>
    rw [c1] at v4 va
    by_cases c2 : w.length = b.length + 12
    · rw [decide_eq_true c2] at va ⊢
      have e8 := tx_from (hp := h) (a := w) (i := 8) (Nat.le_trans hw (by decide))
      have od : (w.drop 8).all ok = true := List.all_eq_true.mpr fun c hc => List.all_eq_true.mp c1 c (List.mem_of_mem_drop hc)
      have sp := sp_lsums (s := w.drop 8) (hp := h) od (by rw [List.length_drop]; exact Nat.le_trans (show w.length - 8 ≤ 99000 by omega) (by decide))
      obtain ⟨h2, eh⟩ : ∃ h2, h2 = h ++ [IO.lst ((sums (w.drop 8)).map .int), .lst ((sums (w.drop 8)).map fun v => .int (v % 96))] := ⟨_, rfl⟩
      rw [← eh] at sp
      have l4 : 4 ≤ lineLen := by decide
      have k1 : (h2 ++ [IO.lst [.int 0, .int 0, .int 0, .int 0]])[h.length + 1]? = some (.lst (((sums (w.drop 8)).map (· % 96)).map .int)) := by
        rw [List.getElem?_append_left (by rw [eh]; simp), eh, List.getElem?_append_right (by omega), show h.length + 1 - h.length = 1 by omega, List.map_map]
        rfl
      have k2 : (h2 ++ [IO.lst [.int 0, .int 0, .int 0, .int 0]])[h2.length]? = some (.lst (([0, 0, 0, 0] : List Int).map .int)) := get_last
      have q := eq_ints k1 k2
      have ql : decide ((sums (w.drop 8)).map (· % 96) = [0, 0, 0, 0]) = lanes (sums (w.drop 8)) := by
        have hl : (sums (w.drop 8)).length = 4 := sums_len _ 0 _
        unfold lanes
        generalize sums (w.drop 8) = z at hl
        match z, hl with
        | [a, b, c, d], _ => simp [Bool.eq_iff_iff]
      rw [ql] at q
      have vb : ev E16 LF3b [some (tx w), some (tx b), x2, x3, some (.bl true), x5] h = .ok (.bl (lanes (sums (w.drop 8)))) (h2 ++ [.lst [.int 0, .int 0, .int 0, .int 0]]) := by
        have e8' : slcF (tx w) (some (8 : Int)) none h = some (tx (w.drop 8), h) := e8
        simp only [LF3b, runB, evSs, evS, ev, evs, evO, evIt, tst, tstO, sto, stos, unpk, asgT, asgTs, Out.bind_ok, Out.bind_err, Out.bind_stuck, Out.of_some, Out.of_none, Out.then_ok, Out.then_err, Out.then_stuck, SOut.seq_nx, SOut.seq_rt, SOut.seq_bk, SOut.seq_ct, SOut.seq_err, SOut.seq_stuck, List.map_cons, List.map_nil, List.length_cons, List.length_nil, List.replicate, List.cons_append, List.nil_append, List.getElem?_cons_zero, List.getElem?_cons_succ, List.set_cons_zero, List.set_cons_succ, Nat.reduceSub, Nat.reduceAdd, Nat.reduceLT, Nat.reduceLeDiff, Int.ofNat_eq_natCast, if_true, if_false, Bool.false_eq_true, Bool.not_true, Bool.not_false, e8', env_lt (show 15 < 16 by decide), sp, l4, cmpF_eq, cmp_eq, q, Option.map_some]
      refine ⟨[.lst ((sums (w.drop 8)).map .int), .lst ((sums (w.drop 8)).map fun v => .int (v % 96)), .lst [.int 0, .int 0, .int 0, .int 0]], ?_⟩
      rw [LF3, evS_ret (by rw [m _ _ _ _ v4, if_pos rfl, m _ _ _ _ va, if_pos rfl, vb])]
      rw [eh]
      simp
    · rw [decide_eq_false c2] at va ⊢
      refine ⟨[], ?_⟩
      rw [LF3, evS_ret (by rw [m _ _ _ _ v4, if_pos rfl, m _ _ _ _ va, if_neg Bool.false_ne_true]), List.append_nil]
      rfl
theorem sp_is_frame (hb : b.length ≤ 5000) (hw : w.length ≤ 99000) : G dcs 16 [tx w, tx b] h = .ok (.bl (isFrame w b)) h := by
  rw [g__law_is_frame rfl]
  have main : ∃ g, runB E16 100000 b__law_is_frame 6 [tx w, tx b] h = .ok (.bl (isFrame w b)) (h ++ g) := by
    rw [is_frame_eq]
    have s0 := lf0 (h := h) (x0 := some (tx w)) (x2 := none) (x3 := none) (x4 := none) (x5 := none) hb
    obtain ⟨g1, s1⟩ := lf1 (h := h) (x4 := none) (x5 := none) hb hw
    unfold isFrame
    by_cases z : w.take (b.length + 8) = sizeT b.length ++ b
    · rw [if_pos z] at s1
      have s2 := lf2 (h := h ++ g1) (x1 := some (tx b)) (x2 := some (tx (d4 b.length))) (x3 := none) (x4 := none) hw
      obtain ⟨g3, s3⟩ := lf3 (h := h ++ g1 ++ [.lst (w.map fun c => .bl (ok c))]) (x2 := some (tx (d4 b.length))) (x3 := none) (x5 := none) hb hw
      refine ⟨g1 ++ [.lst (w.map fun c => .bl (ok c))] ++ g3, runB_rt ?_⟩
      show evSs E16 100000 _ [some (tx w), some (tx b), none, none, none, none] h = _
      rw [evSs_cons s0, evSs_cons s1, evSs_cons s2, evSs_ret s3, decide_eq_true z, Bool.true_and, List.append_assoc, List.append_assoc, List.append_assoc]
    · rw [if_neg z] at s1
      refine ⟨g1, runB_rt ?_⟩
      show evSs E16 100000 _ [some (tx w), some (tx b), none, none, none, none] h = _
      rw [evSs_cons s0, evSs_ret s1, decide_eq_false z]
      rfl
  obtain ⟨g, e⟩ := main
  rw [e]
  exact fin_same (by simp)
end
end K77

set_option Elab.async false
set_option linter.all false
set_option autoImplicit false
set_option maxRecDepth 100000
set_option maxHeartbeats 4000000
namespace K77
open PySem PySem.Spec PyProof.Rows L2 Itp
noncomputable abbrev E17 : FEnv := envTo dcs 17
theorem all_drop {l : List Nat} (n : Nat) (h : l.all ok = true) : (l.drop n).all ok = true := List.all_eq_true.mpr fun c hc => List.all_eq_true.mp h c (List.mem_of_mem_drop hc)
theorem all_take {l : List Nat} (n : Nat) (h : l.all ok = true) : (l.take n).all ok = true := List.all_eq_true.mpr fun c hc => List.all_eq_true.mp h c (List.mem_of_mem_take hc)
/-- the law's own look at a frame is the program's -/
theorem law_body {t : List Nat} (ho : t.all ok = true) (h8 : (t.take 8).length = 8) (hd : (t.take 8).all dig = true) :
    bodyOf t = if 1 ≤ val4 (t.take 4) ∧ val4 (t.take 4) ≤ 5000 ∧ isFrame (t.take (val4 (t.take 4) + 12)) ((t.drop 8).take (val4 (t.take 4))) = true then some ((t.drop 8).take (val4 (t.take 4))) else none := by
  obtain ⟨n, hn⟩ : ∃ n, n = val4 (t.take 4) := ⟨_, rfl⟩
  rw [← hn]
  have t4 : (t.take 8).take 4 = t.take 4 := by rw [List.take_take]; rfl
  have d8 : (t.take (n + 12)).drop 8 = (t.drop 8).take (n + 4) := by
    rw [List.drop_take, show n + 12 - 8 = n + 4 by omega]
  have split : t.take (n + 8) = t.take 8 ++ (t.drop 8).take n := by
    rw [show n + 8 = 8 + n by omega, List.take_add]
  by_cases c : 1 ≤ n ∧ n ≤ 5000 ∧ isFrame (t.take (n + 12)) ((t.drop 8).take n) = true
  · rw [if_pos c]
    obtain ⟨c1, c2, c3⟩ := c
    unfold isFrame at c3
    simp only [Bool.and_eq_true, decide_eq_true_eq] at c3
    obtain ⟨f1, f2, f3, f4⟩ := c3
    obtain ⟨L, hL⟩ : ∃ L, L = ((t.drop 8).take n).length := ⟨_, rfl⟩
    rw [← hL] at f1 f3
    have lle : L ≤ n := by rw [hL, List.length_take]; exact Nat.min_le_left _ _
    have e8 : t.take 8 = sizeT L := by
      have q := congrArg (List.take 8) f1
      have q2 : List.take 8 (sizeT L ++ List.take n (List.drop 8 t)) = sizeT L := by
        rw [List.take_append_of_le_length (by rw [sizeT_len]; exact Nat.le_refl _), List.take_of_length_le (by rw [sizeT_len]; exact Nat.le_refl _)]
      rw [q2, List.take_take, List.take_take, show min (min 8 (L + 8)) (n + 12) = 8 by omega] at q
      exact q
    have eL : L = n := by
      rw [hn, ← t4, e8, sizeT_take, val4_d4 (by omega)]
    rw [eL] at hL f3 e8
    have tl : n + 12 ≤ t.length := by
      rw [List.length_take] at f3
      omega
    have l4 : ((t.drop 8).take (n + 4)).length = n + 4 := by
      rw [List.length_take, List.length_drop]
      omega
    unfold bodyOf
    rw [← hn, if_neg (by rw [h8, hd, e8]; simp), if_neg (by rw [l4, all_take _ (all_drop _ ho)]; simp; omega)]
    rw [d8] at f4
    rw [if_pos f4]
  · rw [if_neg c]
    cases e : bodyOf t with
    | none => rfl
    | some b =>
      exfalso
      obtain ⟨m, b1, b2, b3, b4, b5, b6, b7⟩ := body_some e
      have em : m = n := by
        rw [hn, ← t4, b1, sizeT_take, val4_d4 (by omega)]
      subst em
      refine c ⟨b2, b3, ?_⟩
      have tl : m + 12 ≤ t.length := by
        rw [List.length_take, List.length_drop] at b4
        omega
      have lb : ((t.drop 8).take m).length = m := by
        rw [List.length_take, List.length_drop]
        omega
      unfold isFrame
      rw [lb, List.take_take, Nat.min_eq_left (by omega), split, b1, all_take _ ho, d8, b6, List.length_take, Nat.min_eq_left (by omega)]
      simp
section
variable {s : List Nat} {h g : IH} {acc : List W}
theorem get_mid {o : IO} : (h ++ (o :: g))[h.length]? = some o := by
  rw [List.getElem?_append_right (Nat.le_refl _), Nat.sub_self]
  rfl
theorem set_mid {o p : IO} : (h ++ (o :: g)).set h.length p = h ++ (p :: g) := by
  rw [List.set_append_right _ _ (Nat.le_refl _), Nat.sub_self]
  rfl
def LBC : IT := .cmp .Lt (.var 2) (.blt .len [.var 0])
def LB0 : IStm := .asg (.name 3) (.slc (.var 0) (some (.var 2)) (some (.bin .Add (.var 2) (.cst (.int 8)))))
def RT12 : List IStm := [.ret (.tup [.var 1, .var 2])]
def LT1 : IT := .cmp .Lt (.blt .len [.var 3]) (.cst (.int 8))
def LB1 : IStm := .ite (.or LT1 (.not (.tru (allD 3 4)))) RT12 []
def LB2 : IStm := .asg (.name 5) (four 3)
def LB3 : IStm := .asg (.tup [.name 6, .name 7]) (.tup [.slc (.var 0) (some (.bin .Add (.var 2) (.cst (.int 8)))) (some (.bin .Add (.bin .Add (.var 2) (.cst (.int 8))) (.var 5))), .slc (.var 0) (some (.var 2)) (some (.bin .Add (.bin .Add (.var 2) (.var 5)) (.cst (.int 12))))])
def LB4 : IStm := .ite (.or (.cmp .Lt (.var 5) (.cst (.int 1))) (.or (.cmp .Gt (.var 5) (.cst (.int 5000))) (.not (.tru (.call 16 [.var 7, .var 6]))))) RT12 []
def LB5 : IStm := .expr (.meth .append (.var 1) [.var 6])
def LB6 : IStm := .asg (.name 2) (.bin .Add (.var 2) (.blt .len [.var 7]))
def LBB : List IStm := [LB0, LB1, LB2, LB3, LB4, LB5, LB6]
theorem law_bodies_eq : b__law_bodies = [.asg (.tup [.name 1, .name 2]) (.tup [.lst [], .cst (.int 0)]), .whl LBC LBB, .ret (.tup [.var 1, .var 2])] := rfl
theorem rt12 {ρ : IS} {x y : W} (h1 : ρ[1]? = some (some x)) (h2 : ρ[2]? = some (some y)) : evSs E17 100000 RT12 ρ h = .rt (.tup [x, y]) h := by
  have l2 : 2 ≤ lineLen := by decide
  simp only [RT12, evSs, evS, ev, evs, h1, h2, Out.bind_ok, List.length_cons, List.length_nil]
  rw [if_pos l2]
  rfl
/-- one turn: a frame is read, or the reading ends -/
theorem lb_turn {a : Nat} {x3 x5 x6 x7 : Option W} (hs : s.length ≤ 99000) (ho : s.all ok = true) (hl : acc.length < 99990) (ha : a < s.length) :
    (bodyOf (s.drop a) = none ∧ ∃ g', evSs E17 100000 LBB [some (tx s), some (.ref h.length), some (.int (a : Int)), x3, none, x5, x6, x7] (h ++ (.lst acc :: g)) = .rt (.tup [.ref h.length, .int (a : Int)]) (h ++ (.lst acc :: g'))) ∨
    (∃ b, bodyOf (s.drop a) = some b ∧ ∃ g' y3 y5 y6 y7, evSs E17 100000 LBB [some (tx s), some (.ref h.length), some (.int (a : Int)), x3, none, x5, x6, x7] (h ++ (.lst acc :: g)) =
      .nx [some (tx s), some (.ref h.length), some (.int ((a + (b.length + 12) : Nat) : Int)), y3, none, y5, y6, y7] (h ++ (.lst (acc ++ [tx b]) :: g'))) := by
  obtain ⟨t, ht⟩ : ∃ t, t = s.drop a := ⟨_, rfl⟩
  rw [← ht]
  have to : t.all ok = true := by rw [ht]; exact all_drop _ ho
  have tle : t.length ≤ 99000 := by rw [ht, List.length_drop]; omega
  have l8 : (t.take 8).length ≤ 8 := by rw [List.length_take]; exact Nat.min_le_left _ _
  obtain ⟨H, eH⟩ : ∃ H, H = h ++ (IO.lst acc :: g) := ⟨_, rfl⟩
  have s0 : evS E17 100000 LB0 [some (tx s), some (.ref h.length), some (.int (a : Int)), x3, none, x5, x6, x7] H = .nx [some (tx s), some (.ref h.length), some (.int (a : Int)), some (tx (t.take 8)), none, x5, x6, x7] H := by
    have e := tx_slc (hp := H) (a := s) (i := a) (j := a + 8) (Nat.le_trans hs (by decide)) (by omega)
    rw [show a + 8 - a = 8 by omega, show ((a + 8 : Nat) : Int) = (a : Int) + 8 by omega, ← ht] at e
    simp only [LB0, runB, evSs, evS, ev, evs, evO, evIt, tst, tstO, sto, stos, unpk, asgT, asgTs, Out.bind_ok, Out.bind_err, Out.bind_stuck, Out.of_some, Out.of_none, Out.then_ok, Out.then_err, Out.then_stuck, SOut.seq_nx, SOut.seq_rt, SOut.seq_bk, SOut.seq_ct, SOut.seq_err, SOut.seq_stuck, List.map_cons, List.map_nil, List.length_cons, List.length_nil, List.replicate, List.cons_append, List.nil_append, List.getElem?_cons_zero, List.getElem?_cons_succ, List.set_cons_zero, List.set_cons_succ, Nat.reduceSub, Nat.reduceAdd, Nat.reduceLT, Nat.reduceLeDiff, Int.ofNat_eq_natCast, if_true, if_false, Bool.false_eq_true, Bool.not_true, Bool.not_false, bin_add, e]
  have t1 : tst E17 LT1 [some (tx s), some (.ref h.length), some (.int (a : Int)), some (tx (t.take 8)), none, x5, x6, x7] H = .ok (decide ((t.take 8).length < 8)) H := by
    have e := tx_len (hp := H) (a := t.take 8) (Nat.le_trans l8 (by decide))
    simp only [LT1, runB, evSs, evS, ev, evs, evO, evIt, tst, tstO, sto, stos, unpk, asgT, asgTs, Out.bind_ok, Out.bind_err, Out.bind_stuck, Out.of_some, Out.of_none, Out.then_ok, Out.then_err, Out.then_stuck, SOut.seq_nx, SOut.seq_rt, SOut.seq_bk, SOut.seq_ct, SOut.seq_err, SOut.seq_stuck, List.map_cons, List.map_nil, List.length_cons, List.length_nil, List.replicate, List.cons_append, List.nil_append, List.getElem?_cons_zero, List.getElem?_cons_succ, List.set_cons_zero, List.set_cons_succ, Nat.reduceSub, Nat.reduceAdd, Nat.reduceLT, Nat.reduceLeDiff, Int.ofNat_eq_natCast, if_true, if_false, Bool.false_eq_true, Bool.not_true, Bool.not_false, e, cmp_lt]
    congr 2
    exact propext ⟨fun z => by omega, fun z => by omega⟩
  have t2 : tst E17 (.not (.tru (allD 3 4))) [some (tx s), some (.ref h.length), some (.int (a : Int)), some (tx (t.take 8)), none, x5, x6, x7] H = .ok (!(t.take 8).all dig) (H ++ [.lst ((t.take 8).map fun c => .bl (dig c))]) :=
    tst_not (tst_tru (ev_digs rfl (by simp) (Nat.lt_of_le_of_lt l8 (by decide))) rfl)
  have tor := tst_or (b := .not (.tru (allD 3 4))) t1
  rw [← eH]
  by_cases c1 : (t.take 8).length < 8
  · left
    refine ⟨?_, g, ?_⟩
    · unfold bodyOf
      rw [if_pos (.inl c1)]
    · rw [decide_eq_true c1, if_pos rfl] at tor
      show evSs E17 100000 (LB0 :: LB1 :: _) _ _ = _
      rw [evSs_cons s0]
      refine (evSs_ret (w := .tup [.ref h.length, .int (a : Int)]) (h1 := H) ?_).trans (by rw [eH])
      rw [LB1, evS_ite tor, if_pos rfl]
      exact rt12 rfl rfl
  rw [decide_eq_false c1, if_neg Bool.false_ne_true, t2] at tor
  have l8' : (t.take 8).length = 8 := by omega
  cases c2 : (t.take 8).all dig with
  | false =>
    left
    refine ⟨?_, g ++ [.lst ((t.take 8).map fun c => .bl (dig c))], ?_⟩
    · unfold bodyOf
      rw [if_pos (.inr (.inl c2))]
    · rw [c2, Bool.not_false] at tor
      show evSs E17 100000 (LB0 :: LB1 :: _) _ _ = _
      rw [evSs_cons s0]
      refine (evSs_ret (w := .tup [.ref h.length, .int (a : Int)]) (h1 := H ++ [.lst ((t.take 8).map fun c => .bl (dig c))]) ?_).trans (by rw [eH]; simp)
      rw [LB1, evS_ite tor, if_pos rfl]
      exact rt12 rfl rfl
  | true =>
    rw [c2] at tor
    have s1 : evS E17 100000 LB1 [some (tx s), some (.ref h.length), some (.int (a : Int)), some (tx (t.take 8)), none, x5, x6, x7] H = .nx [some (tx s), some (.ref h.length), some (.int (a : Int)), some (tx (t.take 8)), none, x5, x6, x7] (H ++ [.lst ((t.take 8).map fun c => .bl (dig c))]) := evS_pass tor
    obtain ⟨H2, eH2⟩ : ∃ H2, H2 = H ++ [IO.lst ((t.take 8).map fun c => .bl (dig c))] := ⟨_, rfl⟩
    rw [← eH2] at s1
    have eH3 : H2 = h ++ (.lst acc :: (g ++ [.lst ((t.take 8).map fun c => .bl (dig c))])) := by rw [eH2, eH]; simp
    have t4 : (t.take 8).take 4 = t.take 4 := by rw [List.take_take]; rfl
    obtain ⟨q1, q2⟩ := take4 l8' c2
    have vlt := val4_lt q1 q2
    rw [t4] at vlt
    obtain ⟨n, hn⟩ : ∃ n, n = val4 (t.take 4) := ⟨_, rfl⟩
    rw [← hn] at vlt
    have s2 : evS E17 100000 LB2 [some (tx s), some (.ref h.length), some (.int (a : Int)), some (tx (t.take 8)), none, x5, x6, x7] H2 = .nx [some (tx s), some (.ref h.length), some (.int (a : Int)), some (tx (t.take 8)), none, some (.int (n : Int)), x6, x7] H2 := by
      have f := ev_four (F := E17) (h := H2) (v := 3) (ρ := [some (tx s), some (.ref h.length), some (.int (a : Int)), some (tx (t.take 8)), none, x5, x6, x7]) rfl l8' c2
      rw [t4, ← hn] at f
      simp only [LB2, evS, f, Out.then_ok, sto, List.set_cons_zero, List.set_cons_succ]
    have s3 : evS E17 100000 LB3 [some (tx s), some (.ref h.length), some (.int (a : Int)), some (tx (t.take 8)), none, some (.int (n : Int)), x6, x7] H2 =
        .nx [some (tx s), some (.ref h.length), some (.int (a : Int)), some (tx (t.take 8)), none, some (.int (n : Int)), some (tx ((t.drop 8).take n)), some (tx (t.take (n + 12)))] H2 := by
      have e1 := tx_slc (hp := H2) (a := s) (i := a + 8) (j := a + 8 + n) (Nat.le_trans hs (by decide)) (by omega)
      rw [show a + 8 + n - (a + 8) = n by omega, ← List.drop_drop, ← ht, show ((a + 8 + n : Nat) : Int) = (a : Int) + 8 + (n : Int) by omega, show ((a + 8 : Nat) : Int) = (a : Int) + 8 by omega] at e1
      have e2 := tx_slc (hp := H2) (a := s) (i := a) (j := a + n + 12) (Nat.le_trans hs (by decide)) (by omega)
      rw [show a + n + 12 - a = n + 12 by omega, ← ht, show ((a + n + 12 : Nat) : Int) = (a : Int) + (n : Int) + 12 by omega] at e2
      have l2 : 2 ≤ lineLen := by decide
      simp only [LB3, runB, evSs, evS, ev, evs, evO, evIt, tst, tstO, sto, stos, unpk, asgT, asgTs, Out.bind_ok, Out.bind_err, Out.bind_stuck, Out.of_some, Out.of_none, Out.then_ok, Out.then_err, Out.then_stuck, SOut.seq_nx, SOut.seq_rt, SOut.seq_bk, SOut.seq_ct, SOut.seq_err, SOut.seq_stuck, List.map_cons, List.map_nil, List.length_cons, List.length_nil, List.replicate, List.cons_append, List.nil_append, List.getElem?_cons_zero, List.getElem?_cons_succ, List.set_cons_zero, List.set_cons_succ, Nat.reduceSub, Nat.reduceAdd, Nat.reduceLT, Nat.reduceLeDiff, Int.ofNat_eq_natCast, if_true, if_false, Bool.false_eq_true, Bool.not_true, Bool.not_false, bin_add, e1, e2, l2, unpk, itemsOf_tup]
    have lb := law_body to l8' c2
    rw [← hn] at lb
    have sp := sp_is_frame (w := t.take (n + 12)) (b := (t.drop 8).take n) (h := H2)
    -- the last look
    have u1 : tst E17 (.cmp .Lt (.var 5) (.cst (.int 1))) [some (tx s), some (.ref h.length), some (.int (a : Int)), some (tx (t.take 8)), none, some (.int (n : Int)), some (tx ((t.drop 8).take n)), some (tx (t.take (n + 12)))] H2 = .ok (decide (n < 1)) H2 := by
      simp only [runB, evSs, evS, ev, evs, evO, evIt, tst, tstO, sto, stos, unpk, asgT, asgTs, Out.bind_ok, Out.bind_err, Out.bind_stuck, Out.of_some, Out.of_none, Out.then_ok, Out.then_err, Out.then_stuck, SOut.seq_nx, SOut.seq_rt, SOut.seq_bk, SOut.seq_ct, SOut.seq_err, SOut.seq_stuck, List.map_cons, List.map_nil, List.length_cons, List.length_nil, List.replicate, List.cons_append, List.nil_append, List.getElem?_cons_zero, List.getElem?_cons_succ, List.set_cons_zero, List.set_cons_succ, Nat.reduceSub, Nat.reduceAdd, Nat.reduceLT, Nat.reduceLeDiff, Int.ofNat_eq_natCast, if_true, if_false, Bool.false_eq_true, Bool.not_true, Bool.not_false, cmp_lt]
      congr 2
      exact propext ⟨fun z => by omega, fun z => by omega⟩
    have u2 : tst E17 (.cmp .Gt (.var 5) (.cst (.int 5000))) [some (tx s), some (.ref h.length), some (.int (a : Int)), some (tx (t.take 8)), none, some (.int (n : Int)), some (tx ((t.drop 8).take n)), some (tx (t.take (n + 12)))] H2 = .ok (decide (5000 < n)) H2 := by
      simp only [runB, evSs, evS, ev, evs, evO, evIt, tst, tstO, sto, stos, unpk, asgT, asgTs, Out.bind_ok, Out.bind_err, Out.bind_stuck, Out.of_some, Out.of_none, Out.then_ok, Out.then_err, Out.then_stuck, SOut.seq_nx, SOut.seq_rt, SOut.seq_bk, SOut.seq_ct, SOut.seq_err, SOut.seq_stuck, List.map_cons, List.map_nil, List.length_cons, List.length_nil, List.replicate, List.cons_append, List.nil_append, List.getElem?_cons_zero, List.getElem?_cons_succ, List.set_cons_zero, List.set_cons_succ, Nat.reduceSub, Nat.reduceAdd, Nat.reduceLT, Nat.reduceLeDiff, Int.ofNat_eq_natCast, if_true, if_false, Bool.false_eq_true, Bool.not_true, Bool.not_false, cmp_gt]
      congr 2
      exact propext ⟨fun z => by omega, fun z => by omega⟩
    have stopAt : ∀ k, tst E17 (.or (.cmp .Lt (.var 5) (.cst (.int 1))) (.or (.cmp .Gt (.var 5) (.cst (.int 5000))) (.not (.tru (.call 16 [.var 7, .var 6]))))) [some (tx s), some (.ref h.length), some (.int (a : Int)), some (tx (t.take 8)), none, some (.int (n : Int)), some (tx ((t.drop 8).take n)), some (tx (t.take (n + 12)))] H2 = .ok true H2 → k = .rt (.tup [.ref h.length, .int (a : Int)]) H2 →
        evSs E17 100000 LBB [some (tx s), some (.ref h.length), some (.int (a : Int)), x3, none, x5, x6, x7] H = k := fun k q e => by
      rw [e]
      show evSs E17 100000 (LB0 :: LB1 :: LB2 :: LB3 :: LB4 :: _) _ _ = _
      rw [evSs_cons s0, evSs_cons s1, evSs_cons s2, evSs_cons s3]
      refine evSs_ret ?_
      rw [LB4, evS_ite q, if_pos rfl]
      exact rt12 rfl rfl
    have w1 := tst_or (b := .or (.cmp .Gt (.var 5) (.cst (.int 5000))) (.not (.tru (.call 16 [.var 7, .var 6])))) u1
    have w2 := tst_or (b := .not (.tru (.call 16 [.var 7, .var 6]))) u2
    by_cases c3 : n < 1
    · left
      rw [decide_eq_true c3, if_pos rfl] at w1
      refine ⟨by rw [lb, if_neg (by omega)], _, (stopAt _ w1 rfl).trans (by rw [eH3])⟩
    rw [decide_eq_false c3, if_neg Bool.false_ne_true, w2] at w1
    by_cases c4 : 5000 < n
    · left
      rw [decide_eq_true c4, if_pos rfl] at w1
      refine ⟨by rw [lb, if_neg (by omega)], _, (stopAt _ w1 rfl).trans (by rw [eH3])⟩
    rw [decide_eq_false c4, if_neg Bool.false_ne_true] at w1
    have sp := sp (by rw [List.length_take]; omega) (by rw [List.length_take]; omega)
    have u3 : tst E17 (.not (.tru (.call 16 [.var 7, .var 6]))) [some (tx s), some (.ref h.length), some (.int (a : Int)), some (tx (t.take 8)), none, some (.int (n : Int)), some (tx ((t.drop 8).take n)), some (tx (t.take (n + 12)))] H2 = .ok (!isFrame (t.take (n + 12)) ((t.drop 8).take n)) H2 := by
      refine tst_not (tst_tru (w := .bl (isFrame (t.take (n + 12)) ((t.drop 8).take n))) (h1 := H2) ?_ rfl)
      simp only [ev, evs, List.getElem?_cons_zero, List.getElem?_cons_succ, Out.bind_ok, env_lt (show 16 < 17 by decide), sp]
    rw [u3] at w1
    cases c5 : isFrame (t.take (n + 12)) ((t.drop 8).take n) with
    | false =>
      left
      rw [c5, Bool.not_false] at w1
      refine ⟨by rw [lb, if_neg (by rw [c5]; simp)], _, (stopAt _ w1 rfl).trans (by rw [eH3])⟩
    | true =>
      right
      rw [c5] at w1
      have eb : bodyOf t = some ((t.drop 8).take n) := by rw [lb, if_pos ⟨by omega, by omega, c5⟩]
      obtain ⟨b1, b2, b3⟩ := body_len eb
      have bl : ((t.drop 8).take n).length = n := by
        obtain ⟨m, z1, z2, z3, z4, z5, z6, z7⟩ := body_some eb
        have em : m = n := by rw [hn, ← t4, z1, sizeT_take, val4_d4 (by omega)]
        rw [em, List.length_take, List.length_drop] at z4
        rw [List.length_take, List.length_drop]
        omega
      refine ⟨_, eb, g ++ [.lst ((t.take 8).map fun c => .bl (dig c))], some (tx (t.take 8)), some (.int (n : Int)), some (tx ((t.drop 8).take n)), some (tx (t.take (n + 12))), ?_⟩
      have s4 : evS E17 100000 LB4 [some (tx s), some (.ref h.length), some (.int (a : Int)), some (tx (t.take 8)), none, some (.int (n : Int)), some (tx ((t.drop 8).take n)), some (tx (t.take (n + 12)))] H2 = .nx _ H2 := evS_pass w1
      have ll : acc.length < lineLen := Nat.lt_trans hl (by decide)
      have ap : bmF .append (.ref h.length) [tx ((t.drop 8).take n)] H2 = some (.non, h ++ (.lst (acc ++ [tx ((t.drop 8).take n)]) :: (g ++ [.lst ((t.take 8).map fun c => .bl (dig c))]))) := by
        rw [eH3]
        show (match (h ++ (IO.lst acc :: (g ++ [IO.lst ((t.take 8).map fun c => .bl (dig c))])))[h.length]? with
          | some (.lst xs) => if xs.length < lineLen then some (W.non, (h ++ (IO.lst acc :: (g ++ [IO.lst ((t.take 8).map fun c => .bl (dig c))]))).set h.length (IO.lst (xs ++ [tx ((t.drop 8).take n)]))) else none
          | _ => none) = _
        rw [get_mid]
        simp only []
        rw [if_pos ll, set_mid]
      have rc : recOk .append (.ref h.length) H2 = true := by
        rw [eH3]
        show (match (h ++ (IO.lst acc :: (g ++ [IO.lst ((t.take 8).map fun c => .bl (dig c))])))[h.length]? with | some (.lst _) => true | _ => false) = true
        rw [get_mid]
      obtain ⟨H5, eH5⟩ : ∃ H5, H5 = h ++ (IO.lst (acc ++ [tx ((t.drop 8).take n)]) :: (g ++ [IO.lst ((t.take 8).map fun c => .bl (dig c))])) := ⟨_, rfl⟩
      rw [← eH5] at ap
      have s5 : evS E17 100000 LB5 [some (tx s), some (.ref h.length), some (.int (a : Int)), some (tx (t.take 8)), none, some (.int (n : Int)), some (tx ((t.drop 8).take n)), some (tx (t.take (n + 12)))] H2 = .nx [some (tx s), some (.ref h.length), some (.int (a : Int)), some (tx (t.take 8)), none, some (.int (n : Int)), some (tx ((t.drop 8).take n)), some (tx (t.take (n + 12)))] H5 := by
        simp only [LB5, runB, evSs, evS, ev, evs, evO, evIt, tst, tstO, sto, stos, unpk, asgT, asgTs, Out.bind_ok, Out.bind_err, Out.bind_stuck, Out.of_some, Out.of_none, Out.then_ok, Out.then_err, Out.then_stuck, SOut.seq_nx, SOut.seq_rt, SOut.seq_bk, SOut.seq_ct, SOut.seq_err, SOut.seq_stuck, List.map_cons, List.map_nil, List.length_cons, List.length_nil, List.replicate, List.cons_append, List.nil_append, List.getElem?_cons_zero, List.getElem?_cons_succ, List.set_cons_zero, List.set_cons_succ, Nat.reduceSub, Nat.reduceAdd, Nat.reduceLT, Nat.reduceLeDiff, Int.ofNat_eq_natCast, if_true, if_false, Bool.false_eq_true, Bool.not_true, Bool.not_false, rc, ap]
      have s6 : evS E17 100000 LB6 [some (tx s), some (.ref h.length), some (.int (a : Int)), some (tx (t.take 8)), none, some (.int (n : Int)), some (tx ((t.drop 8).take n)), some (tx (t.take (n + 12)))] H5 = .nx [some (tx s), some (.ref h.length), some (.int ((a + (((t.drop 8).take n).length + 12) : Nat) : Int)), some (tx (t.take 8)), none, some (.int (n : Int)), some (tx ((t.drop 8).take n)), some (tx (t.take (n + 12)))] H5 := by
        have wl : (t.take (n + 12)).length = n + 12 := by
          rw [List.length_take]
          omega
        have e := tx_len (hp := H5) (a := t.take (n + 12)) (Nat.le_trans (Nat.le_of_eq wl) (Nat.le_trans (show n + 12 ≤ 6000 by omega) (by decide)))
        rw [wl] at e
        simp only [LB6, runB, evSs, evS, ev, evs, evO, evIt, tst, tstO, sto, stos, unpk, asgT, asgTs, Out.bind_ok, Out.bind_err, Out.bind_stuck, Out.of_some, Out.of_none, Out.then_ok, Out.then_err, Out.then_stuck, SOut.seq_nx, SOut.seq_rt, SOut.seq_bk, SOut.seq_ct, SOut.seq_err, SOut.seq_stuck, List.map_cons, List.map_nil, List.length_cons, List.length_nil, List.replicate, List.cons_append, List.nil_append, List.getElem?_cons_zero, List.getElem?_cons_succ, List.set_cons_zero, List.set_cons_succ, Nat.reduceSub, Nat.reduceAdd, Nat.reduceLT, Nat.reduceLeDiff, Int.ofNat_eq_natCast, if_true, if_false, Bool.false_eq_true, Bool.not_true, Bool.not_false, e, bin_add]
        rw [bl, show (a : Int) + ((n + 12 : Nat) : Int) = ((a + (n + 12) : Nat) : Int) by omega]
      show evSs E17 100000 [LB0, LB1, LB2, LB3, LB4, LB5, LB6] _ _ = _
      rw [evSs_cons s0, evSs_cons s1, evSs_cons s2, evSs_cons s3, evSs_cons s4, evSs_cons s5, evSs_cons s6, eH5]
      simp only [evSs]
end
end K77

set_option Elab.async false
set_option linter.all false
set_option autoImplicit false
set_option maxRecDepth 100000
set_option maxHeartbeats 4000000
namespace K77
open PySem PySem.Spec PyProof.Rows L2 Itp
section
variable {s : List Nat} {h : IH}
theorem lb_loop (hs : s.length ≤ 99000) (ho : s.all ok = true) : ∀ (f gas a : Nat) (acc : List W) (g : IH) (x3 x5 x6 x7 : Option W), (s.drop a).length < f → f ≤ gas → acc.length + (s.drop a).length < 99980 →
    ∃ a' g', (∃ y3 y5 y6 y7, whlL (tst E17 LBC) (evSs E17 100000 LBB) gas [some (tx s), some (.ref h.length), some (.int (a : Int)), x3, none, x5, x6, x7] (h ++ (.lst acc :: g)) =
      .nx [some (tx s), some (.ref h.length), some (.int (a' : Nat)), y3, none, y5, y6, y7] (h ++ (.lst (acc ++ (bodies f (s.drop a)).map tx) :: g'))) ∨
      whlL (tst E17 LBC) (evSs E17 100000 LBB) gas [some (tx s), some (.ref h.length), some (.int (a : Int)), x3, none, x5, x6, x7] (h ++ (.lst acc :: g)) = .rt (.tup [.ref h.length, .int (a' : Nat)]) (h ++ (.lst (acc ++ (bodies f (s.drop a)).map tx) :: g')) := by
  intro f
  induction f with
  | zero => intro gas a acc g x3 x5 x6 x7 h1; omega
  | succ f ih =>
    intro gas a acc g x3 x5 x6 x7 h1 h2 h3
    obtain ⟨gas, rfl⟩ : ∃ g, gas = g + 1 := ⟨gas - 1, by omega⟩
    have tc : tst E17 LBC [some (tx s), some (.ref h.length), some (.int (a : Int)), x3, none, x5, x6, x7] (h ++ (.lst acc :: g)) = .ok (decide (a < s.length)) (h ++ (.lst acc :: g)) := by
      have e := tx_len (hp := h ++ (.lst acc :: g)) (a := s) (Nat.le_trans hs (by decide))
      simp only [LBC, runB, evSs, evS, ev, evs, evO, evIt, tst, tstO, sto, stos, unpk, asgT, asgTs, Out.bind_ok, Out.bind_err, Out.bind_stuck, Out.of_some, Out.of_none, Out.then_ok, Out.then_err, Out.then_stuck, SOut.seq_nx, SOut.seq_rt, SOut.seq_bk, SOut.seq_ct, SOut.seq_err, SOut.seq_stuck, List.map_cons, List.map_nil, List.length_cons, List.length_nil, List.replicate, List.cons_append, List.nil_append, List.getElem?_cons_zero, List.getElem?_cons_succ, List.set_cons_zero, List.set_cons_succ, Nat.reduceSub, Nat.reduceAdd, Nat.reduceLT, Nat.reduceLeDiff, Int.ofNat_eq_natCast, if_true, if_false, Bool.false_eq_true, Bool.not_true, Bool.not_false, e, cmp_lt]
      congr 2
      exact propext ⟨fun z => by omega, fun z => by omega⟩
    unfold whlL
    rw [tc, Out.then_ok]
    by_cases c : a < s.length
    · rw [decide_eq_true c, if_pos rfl]
      rcases lb_turn (h := h) (g := g) (acc := acc) (x3 := x3) (x5 := x5) (x6 := x6) (x7 := x7) hs ho (by omega) c with ⟨e, g', q⟩ | ⟨b, e, g', y3, y5, y6, y7, q⟩
      · rw [bodies_none e, q]
        exact ⟨a, g', .inr (by simp)⟩
      · obtain ⟨b1, b2, b3⟩ := body_len e
        have dd : (s.drop a).drop (b.length + 12) = s.drop (a + (b.length + 12)) := by rw [List.drop_drop]
        have dl : (s.drop (a + (b.length + 12))).length + (b.length + 12) = (s.drop a).length := by
          have b3' := b3
          rw [List.length_drop] at b3'
          rw [List.length_drop, List.length_drop]
          omega
        rw [bodies_some e, dd, q]
        obtain ⟨a', g2, z⟩ := ih gas (a + (b.length + 12)) (acc ++ [tx b]) g' y3 y5 y6 y7 (by omega) (by omega) (by rw [List.length_append, List.length_singleton]; omega)
        refine ⟨a', g2, ?_⟩
        rw [List.append_assoc] at z
        exact z
    · rw [decide_eq_false c, if_neg Bool.false_ne_true]
      have : s.drop a = [] := List.drop_of_length_le (by omega)
      rw [this, bodies_none (body_short (by simp))]
      exact ⟨a, g, .inl ⟨x3, x5, x6, x7, by simp⟩⟩
theorem sp_law_bodies (hs : s.length ≤ 99000) (ho : s.all ok = true) : ∃ (a : Nat) (g : IH), G dcs 17 [tx s] h = .ok (.tup [.ref h.length, .int (a : Int)]) (h ++ (.lst ((bodies 99001 s).map tx) :: g)) := by
  have l2 : 2 ≤ lineLen := by decide
  have l0 : 0 ≤ lineLen := by decide
  have s0 : evS E17 100000 (.asg (.tup [.name 1, .name 2]) (.tup [.lst [], .cst (.int 0)])) [some (tx s), none, none, none, none, none, none, none] h = .nx [some (tx s), some (.ref h.length), some (.int 0), none, none, none, none, none] (h ++ [.lst []]) := by
    simp only [runB, evSs, evS, ev, evs, evO, evIt, tst, tstO, sto, stos, unpk, asgT, asgTs, Out.bind_ok, Out.bind_err, Out.bind_stuck, Out.of_some, Out.of_none, Out.then_ok, Out.then_err, Out.then_stuck, SOut.seq_nx, SOut.seq_rt, SOut.seq_bk, SOut.seq_ct, SOut.seq_err, SOut.seq_stuck, List.map_cons, List.map_nil, List.length_cons, List.length_nil, List.replicate, List.cons_append, List.nil_append, List.getElem?_cons_zero, List.getElem?_cons_succ, List.set_cons_zero, List.set_cons_succ, Nat.reduceSub, Nat.reduceAdd, Nat.reduceLT, Nat.reduceLeDiff, Int.ofNat_eq_natCast, if_true, if_false, Bool.false_eq_true, Bool.not_true, Bool.not_false, l0, l2, unpk, itemsOf_tup]
  obtain ⟨a', g', q⟩ := lb_loop (h := h) hs ho 99001 100000 0 [] [] none none none none (by rw [List.drop_zero]; omega) (by decide) (by rw [List.drop_zero]; simp; omega)
  rw [List.drop_zero] at q
  refine ⟨a', g', ?_⟩
  have nb : bndW h.length (.tup [.ref h.length, .int (a' : Int)]) = false := by
    simp [bndW_new]
  rw [g__law_bodies rfl, ← fin_new (hp := h) nb]
  congr 1
  rw [law_bodies_eq]
  refine runB_rt ?_
  show evSs E17 100000 _ [some (tx s), none, none, none, none, none, none, none] h = _
  rw [evSs_cons s0]
  rcases q with ⟨y3, y5, y6, y7, q⟩ | q
  · have s1 : evS E17 100000 (.whl LBC LBB) [some (tx s), some (.ref h.length), some (.int 0), none, none, none, none, none] (h ++ [.lst []]) = .nx [some (tx s), some (.ref h.length), some (.int (a' : Nat)), y3, none, y5, y6, y7] (h ++ (.lst ((bodies 99001 s).map tx) :: g')) := by
      rw [evS_whl]
      exact q
    rw [evSs_cons s1]
    exact rt12 rfl rfl
  · refine evSs_ret ?_
    rw [evS_whl]
    exact q
end
/-! drawn signs and bodies -/
theorem signs_mem : ∀ c ∈ ([32, 33, 34, 35, 36, 38, 39, 40, 41, 42, 43, 44, 45, 46, 47, 48, 49, 50, 51, 52, 53, 54, 55, 56, 57, 58, 59, 60, 61, 62, 63, 64] ++ [65, 66, 67, 68, 69, 70, 71, 72, 73, 74, 75, 76, 77, 78, 79, 80, 81, 82, 83, 84, 85, 86, 87, 88, 89, 90] ++ [91, 92, 93, 94, 95, 96] ++ [97, 98, 99, 100, 101, 102, 103, 104, 105, 106, 107, 108, 109, 110, 111, 112, 113, 114, 115, 116, 117, 118, 119, 120, 121, 122] ++ [123, 124, 125, 126, 10] : List Nat), ok c = true := by decide +kernel
def sgn : List Nat := [32, 33, 34, 35, 36, 38, 39, 40, 41, 42, 43, 44, 45, 46, 47, 48, 49, 50, 51, 52, 53, 54, 55, 56, 57, 58, 59, 60, 61, 62, 63, 64] ++ [65, 66, 67, 68, 69, 70, 71, 72, 73, 74, 75, 76, 77, 78, 79, 80, 81, 82, 83, 84, 85, 86, 87, 88, 89, 90] ++ [91, 92, 93, 94, 95, 96] ++ [97, 98, 99, 100, 101, 102, 103, 104, 105, 106, 107, 108, 109, 110, 111, 112, 113, 114, 115, 116, 117, 118, 119, 120, 121, 122] ++ [123, 124, 125, 126, 10]
def abc : List Nat := [97, 98, 99, 100, 101, 102, 103, 104, 105, 106, 107, 108, 109, 110, 111, 112, 113, 114, 115, 116, 117, 118, 119, 120, 121, 122]
def ABC : List Nat := [65, 66, 67, 68, 69, 70, 71, 72, 73, 74, 75, 76, 77, 78, 79, 80, 81, 82, 83, 84, 85, 86, 87, 88, 89, 90]
theorem up_abc {h : IH} : bmF .upper (tx abc) [] h = some (tx ABC, h) := by
  have e : Txt.upper (SX.S abc) = SX.S ABC := by decide +kernel
  show (if (SX.S abc).length ≤ lineLen then some (W.str (Txt.upper (SX.S abc)), h) else none) = _
  rw [if_pos (by decide), e]
theorem sp_signs {h : IH} : G dcs 18 [] h = .ok (tx sgn) h := by
  rw [g__law_signs rfl]
  have e0 : b__law_signs = [.asg (.name 0) (.cst (tx abc)), .ret (.bin .Add (.bin .Add (.bin .Add (.bin .Add (.cst (tx [32, 33, 34, 35, 36, 38, 39, 40, 41, 42, 43, 44, 45, 46, 47, 48, 49, 50, 51, 52, 53, 54, 55, 56, 57, 58, 59, 60, 61, 62, 63, 64])) (.meth .upper (.var 0) [])) (.cst (tx [91, 92, 93, 94, 95, 96]))) (.var 0)) (.cst (tx [123, 124, 125, 126, 10])))] := rfl
  have rc : recOk .upper (tx abc) h = true := rfl
  have a1 := tx_add (hp := h) (a := [32, 33, 34, 35, 36, 38, 39, 40, 41, 42, 43, 44, 45, 46, 47, 48, 49, 50, 51, 52, 53, 54, 55, 56, 57, 58, 59, 60, 61, 62, 63, 64]) (b := ABC) (by decide)
  have a2 := tx_add (hp := h) (a := [32, 33, 34, 35, 36, 38, 39, 40, 41, 42, 43, 44, 45, 46, 47, 48, 49, 50, 51, 52, 53, 54, 55, 56, 57, 58, 59, 60, 61, 62, 63, 64] ++ ABC) (b := [91, 92, 93, 94, 95, 96]) (by decide)
  have a3 := tx_add (hp := h) (a := [32, 33, 34, 35, 36, 38, 39, 40, 41, 42, 43, 44, 45, 46, 47, 48, 49, 50, 51, 52, 53, 54, 55, 56, 57, 58, 59, 60, 61, 62, 63, 64] ++ ABC ++ [91, 92, 93, 94, 95, 96]) (b := abc) (by decide)
  have a4 := tx_add (hp := h) (a := [32, 33, 34, 35, 36, 38, 39, 40, 41, 42, 43, 44, 45, 46, 47, 48, 49, 50, 51, 52, 53, 54, 55, 56, 57, 58, 59, 60, 61, 62, 63, 64] ++ ABC ++ [91, 92, 93, 94, 95, 96] ++ abc) (b := [123, 124, 125, 126, 10]) (by decide)
  have run : runB (envTo dcs 18) 100000 b__law_signs 1 [] h = .ok (tx sgn) h := by
    rw [e0]
    refine runB_rt ?_
    show evSs (envTo dcs 18) 100000 _ [none] h = _
    simp only [evSs, evS, ev, evs, sto, Out.then_ok, Out.bind_ok, SOut.seq_nx, List.set_cons_zero, List.getElem?_cons_zero, rc, if_true, up_abc, Out.of_some, a1, a2, a3, a4, SOut.seq_rt]
    rfl
  rw [run]
  exact fin_same0 (by simp)
end K77

set_option Elab.async false
set_option linter.all false
set_option autoImplicit false
set_option maxRecDepth 100000
set_option maxHeartbeats 4000000
namespace K77
open PySem PySem.Spec PyProof.Rows L2 Itp
section
variable {n : Nat} {h : IH}
theorem d_draw {m : Int} (P : Pot h n) (hm : 0 < m) (Bm : m ≤ 1000000) : ∃ (d : Nat) (h' : IH), G dcs 12 [.ref n, .int m] h = .ok (.int (d : Int)) h' ∧ (d : Int) < m ∧ Rn (some n) h h' ∧ Pot h' n := by
  obtain ⟨d, h', e, d0, d1, S⟩ := s_draw (k := 20) h P hm (by unfold B; omega) (by decide)
  refine ⟨d.toNat, h', ?_, by omega, Rn.of_pots P.lt S, S.pot P.lt⟩
  rw [Int.toNat_of_nonneg d0]
  exact e
theorem d_pick {l : Nat} {xs : List W} (P : Pot h n) (hl : l ≠ n) (e : h[l]? = some (.lst xs)) (h0 : xs ≠ []) (h1 : xs.length < 1000) (hb : ∀ x ∈ xs, bndW h.length x = true) : ∃ x ∈ xs, ∃ h', G dcs 13 [.ref n, .ref l] h = .ok x h' ∧ Rn (some n) h h' ∧ Pot h' n := by
  obtain ⟨x, hx, h', e1, S⟩ := s_pick h P hl e h0 h1 hb
  exact ⟨x, hx, h', e1, Rn.of_pots P.lt S, S.pot P.lt⟩
theorem d_pickT {a : List Nat} (P : Pot h n) (h0 : a ≠ []) (h1 : a.length < 1000) : ∃ c ∈ a, ∃ h', G dcs 13 [.ref n, tx a] h = .ok (tx [c]) h' ∧ Rn (some n) h h' ∧ Pot h' n := by
  have hpos : 0 < a.length := List.length_pos_iff.mpr h0
  obtain ⟨d, h', e1, d1, r, P'⟩ := d_draw (m := (a.length : Int)) P (by omega) (by omega)
  have hd : d < a.length := by omega
  have g := tx_sub (hp := h') (a := a) (i := d) (c := a[d]) (Nat.le_trans (Nat.le_of_lt h1) (by decide)) (List.getElem?_eq_getElem hd)
  have l := tx_len (hp := h) (a := a) (Nat.le_trans (Nat.le_of_lt h1) (by decide))
  obtain ⟨h2, e2, r2⟩ := fin_W (w := tx [a[d]]) r
  refine ⟨a[d], List.getElem_mem hd, h2, ?_, r2, r2.pot n rfl P⟩
  rw [g__law_pick rfl, ← e2]
  congr 1
  have e0 : b__law_pick = [.ret (.sub (.var 1) (.call 12 [.var 0, .blt .len [.var 1]]))] := rfl
  rw [e0]
  refine runB_rt (evSs_ret (evS_ret ?_))
  show ev (envTo dcs 13) _ [some (.ref n), some (tx a)] h = _
  simp only [ev, evs, List.getElem?_cons_zero, List.getElem?_cons_succ, Out.bind_ok, l, Out.of_some, env_lt (show 12 < 13 by decide), e1, g]
theorem sgn_ok : ∀ c ∈ sgn, ok c = true := signs_mem
theorem mul_tx {c m : Nat} (hm : m ≤ 5000) : binF .Mult (tx [c]) (.int (m : Int)) h = some (tx (List.replicate m c), h) := by
  have e : Txt.mul (SX.S [c]) (m : Int) = SX.S (List.replicate m c) := by
    have q : (Txt.mul (SX.S [c]) (m : Int)).cps.toList = List.replicate m c := by
      have := PyProof.Rows.mul_one_list c (m : Int)
      rw [Int.toNat_natCast] at this
      exact this
    exact (SX.S_tl _).symm.trans (by rw [q])
  show (if 0 ≤ (m : Int) ∧ (m : Int) ≤ 1000000 ∧ (SX.S [c]).length ≤ lineLen ∧ (SX.S [c]).length * (m : Int).toNat ≤ lineLen then some (W.str (Txt.mul (SX.S [c]) (m : Int)), h) else none) = _
  rw [if_pos ⟨by omega, by omega, by rw [SX.S_len]; exact (show 1 ≤ lineLen by decide), by rw [SX.S_len, Int.toNat_natCast]; exact Nat.le_trans (show [c].length * m ≤ 5000 by simp; exact hm) (by decide)⟩, e]
/-! a drawn body -/
noncomputable abbrev E19 : FEnv := envTo dcs 19
def SZ : List IE := [.cst (.int 1), .cst (.int 2), .cst (.int 3), .cst (.int 4), .cst (.int 5), .cst (.int 9), .cst (.int 10), .cst (.int 99), .cst (.int 100), .bin .Add (.cst (.int 1)) (.call 12 [.var 0, .cst (.int 300)])]
def SBD0 : IStm := .asg (.name 1) (.call 13 [.var 0, .lst SZ])
def SGN3 : IE := .lst [.cst (tx [126]), .cst (tx [10]), .cst (tx [97])]
def INT4 : IE := .lst [.cst (.int 999), .cst (.int 1000), .cst (.int 4999), .cst (.int 5000)]
def SBD1 : IStm := .ite (.cmp .Eq (.call 12 [.var 0, .cst (.int 24)]) (.cst (.int 0))) [.ret (.bin .Mult (.call 13 [.var 0, SGN3]) (.call 13 [.var 0, INT4]))] []
def SBD2 : IStm := .ret (.meth .join (.cst (tx [])) [.comp (.call 13 [.var 0, .call 18 []]) (.name 2) (.rng (.var 1)) none [2]])
theorem some_body_eq : b__law_some_body = [SBD0, SBD1, SBD2] := rfl
theorem sbd0 (P : Pot h n) : ∃ (z : Nat) (h' : IH), 1 ≤ z ∧ z ≤ 300 ∧ evS E19 100000 SBD0 [some (.ref n), none, none] h = .nx [some (.ref n), some (.int (z : Int)), none] h' ∧ Rn (some n) h h' ∧ Pot h' n := by
  obtain ⟨d, h1, e1, d1, r1, P1⟩ := d_draw (m := 300) P (by decide) (by decide)
  obtain ⟨xs, hx⟩ : ∃ xs : List W, xs = [.int 1, .int 2, .int 3, .int 4, .int 5, .int 9, .int 10, .int 99, .int 100, .int (1 + (d : Int))] := ⟨_, rfl⟩
  have P2 : Pot (h1 ++ [.lst xs]) n := P1.app
  obtain ⟨x, xm, h3, e3, r3, P3⟩ := d_pick (l := h1.length) (xs := xs) P2 (by have := P1.lt; omega) get_last (by rw [hx]; simp) (by rw [hx]; simp) (by
    rw [hx]
    intro x hx
    simp only [List.mem_cons, List.not_mem_nil, or_false] at hx
    rcases hx with rfl | rfl | rfl | rfl | rfl | rfl | rfl | rfl | rfl | rfl <;> simp)
  obtain ⟨z, ez, z1, z2⟩ : ∃ z : Nat, x = .int (z : Int) ∧ 1 ≤ z ∧ z ≤ 300 := by
    rw [hx] at xm
    simp only [List.mem_cons, List.not_mem_nil, or_false] at xm
    rcases xm with rfl | rfl | rfl | rfl | rfl | rfl | rfl | rfl | rfl | rfl
    · exact ⟨1, rfl, by omega, by omega⟩
    · exact ⟨2, rfl, by omega, by omega⟩
    · exact ⟨3, rfl, by omega, by omega⟩
    · exact ⟨4, rfl, by omega, by omega⟩
    · exact ⟨5, rfl, by omega, by omega⟩
    · exact ⟨9, rfl, by omega, by omega⟩
    · exact ⟨10, rfl, by omega, by omega⟩
    · exact ⟨99, rfl, by omega, by omega⟩
    · exact ⟨100, rfl, by omega, by omega⟩
    · exact ⟨1 + d, by congr 1, by omega, by omega⟩
  subst ez
  refine ⟨z, h3, z1, z2, ?_, (r1.trans Rn.app).trans r3, P3⟩
  have l10 : 10 ≤ lineLen := by decide
  rw [hx] at e3
  simp [SBD0, SZ, runB, evSs, evS, ev, evs, evO, evIt, tst, tstO, sto, stos, unpk, asgT, asgTs, Out.bind_ok, Out.bind_err, Out.bind_stuck, Out.of_some, Out.of_none, Out.then_ok, Out.then_err, Out.then_stuck, SOut.seq_nx, SOut.seq_rt, SOut.seq_bk, SOut.seq_ct, SOut.seq_err, SOut.seq_stuck, List.map_cons, List.map_nil, List.length_cons, List.length_nil, List.replicate, List.cons_append, List.nil_append, List.getElem?_cons_zero, List.getElem?_cons_succ, List.set_cons_zero, List.set_cons_succ, Nat.reduceSub, Nat.reduceAdd, Nat.reduceLT, Nat.reduceLeDiff, Int.ofNat_eq_natCast, if_true, if_false, Bool.false_eq_true, Bool.not_true, Bool.not_false, env_lt, e1, l10, e3]
theorem rep_good {c m : Nat} (h1 : 1 ≤ m) (h2 : m ≤ 5000) (h3 : ok c = true) : GoodB (List.replicate m c) :=
  ⟨by simpa using h1, by simpa using h2, List.all_eq_true.mpr fun x hx => by rw [List.eq_of_mem_replicate hx]; exact h3⟩
theorem sbd1 {z : Nat} (P : Pot h n) : ∃ h', Rn (some n) h h' ∧ Pot h' n ∧ (evS E19 100000 SBD1 [some (.ref n), some (.int (z : Int)), none] h = .nx [some (.ref n), some (.int (z : Int)), none] h' ∨ ∃ b, GoodB b ∧ evS E19 100000 SBD1 [some (.ref n), some (.int (z : Int)), none] h = .rt (tx b) h') := by
  obtain ⟨d, h1, e1, d1, r1, P1⟩ := d_draw (m := 24) P (by decide) (by decide)
  have t : tst E19 (.cmp .Eq (.call 12 [.var 0, .cst (.int 24)]) (.cst (.int 0))) [some (.ref n), some (.int (z : Int)), none] h = .ok (decide ((d : Int) = 0)) h1 := by
    simp only [runB, evSs, evS, ev, evs, evO, evIt, tst, tstO, sto, stos, unpk, asgT, asgTs, Out.bind_ok, Out.bind_err, Out.bind_stuck, Out.of_some, Out.of_none, Out.then_ok, Out.then_err, Out.then_stuck, SOut.seq_nx, SOut.seq_rt, SOut.seq_bk, SOut.seq_ct, SOut.seq_err, SOut.seq_stuck, List.map_cons, List.map_nil, List.length_cons, List.length_nil, List.replicate, List.cons_append, List.nil_append, List.getElem?_cons_zero, List.getElem?_cons_succ, List.set_cons_zero, List.set_cons_succ, Nat.reduceSub, Nat.reduceAdd, Nat.reduceLT, Nat.reduceLeDiff, Int.ofNat_eq_natCast, if_true, if_false, Bool.false_eq_true, Bool.not_true, Bool.not_false, env_lt (show 12 < 19 by decide), e1, cmp_eq, eqF_int]
  by_cases c : (d : Int) = 0
  · rw [decide_eq_true c] at t
    have P2 : Pot (h1 ++ [.lst [tx [126], tx [10], tx [97]]]) n := P1.app
    obtain ⟨x, xm, h3, e3, r3, P3⟩ := d_pick (l := h1.length) (xs := [tx [126], tx [10], tx [97]]) P2 (by have := P1.lt; omega) get_last (by simp) (by simp) (by
      intro x hx
      simp only [List.mem_cons, List.not_mem_nil, or_false] at hx
      rcases hx with rfl | rfl | rfl <;> simp)
    have P4 : Pot (h3 ++ [.lst [.int 999, .int 1000, .int 4999, .int 5000]]) n := P3.app
    obtain ⟨y, ym, h5, e5, r5, P5⟩ := d_pick (l := h3.length) (xs := [.int 999, .int 1000, .int 4999, .int 5000]) P4 (by have := P3.lt; omega) get_last (by simp) (by simp) (by
      intro x hx
      simp only [List.mem_cons, List.not_mem_nil, or_false] at hx
      rcases hx with rfl | rfl | rfl | rfl <;> simp)
    obtain ⟨c, ec, oc⟩ : ∃ c, x = tx [c] ∧ ok c = true := by
      simp only [List.mem_cons, List.not_mem_nil, or_false] at xm
      rcases xm with rfl | rfl | rfl
      · exact ⟨126, rfl, by decide⟩
      · exact ⟨10, rfl, by decide⟩
      · exact ⟨97, rfl, by decide⟩
    obtain ⟨m, em, m1, m2⟩ : ∃ m : Nat, y = .int (m : Int) ∧ 1 ≤ m ∧ m ≤ 5000 := by
      simp only [List.mem_cons, List.not_mem_nil, or_false] at ym
      rcases ym with rfl | rfl | rfl | rfl
      · exact ⟨999, rfl, by omega, by omega⟩
      · exact ⟨1000, rfl, by omega, by omega⟩
      · exact ⟨4999, rfl, by omega, by omega⟩
      · exact ⟨5000, rfl, by omega, by omega⟩
    subst ec em
    refine ⟨h5, (((r1.trans Rn.app).trans r3).trans Rn.app).trans r5, P5, .inr ⟨_, rep_good m1 m2 oc, ?_⟩⟩
    rw [SBD1, evS_ite t, if_pos rfl]
    refine evSs_ret (evS_ret ?_)
    have l4 : 4 ≤ lineLen := by decide
    have l3 : 3 ≤ lineLen := by decide
    simp only [SGN3, INT4, runB, evSs, evS, ev, evs, evO, evIt, tst, tstO, sto, stos, unpk, asgT, asgTs, Out.bind_ok, Out.bind_err, Out.bind_stuck, Out.of_some, Out.of_none, Out.then_ok, Out.then_err, Out.then_stuck, SOut.seq_nx, SOut.seq_rt, SOut.seq_bk, SOut.seq_ct, SOut.seq_err, SOut.seq_stuck, List.map_cons, List.map_nil, List.length_cons, List.length_nil, List.replicate, List.cons_append, List.nil_append, List.getElem?_cons_zero, List.getElem?_cons_succ, List.set_cons_zero, List.set_cons_succ, Nat.reduceSub, Nat.reduceAdd, Nat.reduceLT, Nat.reduceLeDiff, Int.ofNat_eq_natCast, if_true, if_false, Bool.false_eq_true, Bool.not_true, Bool.not_false, env_lt (show 13 < 19 by decide), l3, l4, e3, e5, mul_tx m2]
  · rw [decide_eq_false c] at t
    exact ⟨h1, r1, P1, .inl (evS_pass t)⟩
theorem flat_one : ∀ cs : List Nat, (cs.map fun c => [c]).flatten = cs
  | [] => rfl
  | c :: cs => by rw [List.map_cons, List.flatten_cons, flat_one cs]; rfl
theorem lens_one (cs : List Nat) : ((cs.map fun c => [c]).map (·.length)).sum = cs.length := by
  induction cs with
  | nil => rfl
  | cons c cs ih => rw [List.map_cons, List.map_cons, List.sum_cons, ih]; simp; omega
/-- a text of drawn signs -/
theorem ev_signs {k j : Nat} {e : IE} {z : Nat} {ρ : IS} (hk : 18 < k) (hρ : ρ[0]? = some (some (.ref n))) (hj : j ≠ 0) (P : Pot h n) (he : ev (envTo dcs k) e ρ h = .ok (.int (z : Int)) h) (hz : z ≤ 5000) :
    ∃ cs h', cs.length = z ∧ cs.all ok = true ∧ ev (envTo dcs k) (.meth .join (.cst (tx [])) [.comp (.call 13 [.var 0, .call 18 []]) (.name j) (.rng e) none [j]]) ρ h = .ok (tx cs) h' ∧ Rn (some n) h h' ∧ Pot h' n := by
  have hit := evIt_rng (F := envTo dcs k) he ⟨by omega, by omega⟩
  obtain ⟨h', ys, e1, r1, hl, e2, hl2, ⟨cs, c1, c2, c3⟩⟩ := ev_comp_W (n := some n) (a := .call 13 [.var 0, .call 18 []]) (t := .name j) (c := none) (own := [j]) z
    (fun i acc => ∃ cs : List Nat, acc = cs.map (fun c => tx [c]) ∧ cs.length = i ∧ cs.all ok = true) hit Rn.refl (itLen_rng ..) (Nat.lt_of_le_of_lt hz (by decide)) (by
      intro q
      have := P.lt
      have : n = h.length := Option.some.inj q
      omega) ⟨[], rfl, rfl, rfl⟩ (fun i h1 acc hi r ea ⟨cs, c1, c2, c3⟩ => by
      obtain ⟨c, cm, h2, e3, r3, P3⟩ := d_pickT (a := sgn) (r.pot n rfl P) (by decide) (by decide)
      have g0 : ((wipeI ρ [j]).set j (some (.int (0 + (i : Int)))))[0]? = some (some (.ref n)) := by
        simp only [wipeI]
        rw [List.getElem?_set_ne hj, List.getElem?_set_ne hj]
        exact hρ
      refine ⟨.int (0 + (i : Int)), _, true, h1, by rw [cur_rng, if_pos hi], rfl, tstO_none, Rn.refl, fun _ => ⟨tx [c], h2, ?_, r3, cs ++ [c], by rw [c1]; simp, by simp [c2], by rw [List.all_append, c3]; simp [sgn_ok c cm]⟩, fun z => nomatch z⟩
      simp only [ev, evs, g0, Out.bind_ok, env_lt (show 18 < k from hk), env_lt (show 13 < k by omega), sp_signs, e3]) (fun h1 _ => by rw [cur_rng, if_neg (by omega)])
  have e4 : h'[h.length]? = some (.lst (cs.map fun c => tx [c])) := by rw [e2, c1]
  have rc : recOk .join (tx []) h = true := rfl
  have jn := tx_join (hp := h') (w := .ref h.length) (ys := cs.map fun c => [c]) (items_ref e4) (by rw [List.map_map]; rfl) (by rw [lens_one, c2]; exact Nat.le_trans hz (by decide))
  rw [flat_one] at jn
  refine ⟨cs, h', c2, c3, ?_, r1, r1.pot n rfl P⟩
  have m : ∀ x : IE, ev (envTo dcs k) (.meth .join (.cst (tx [])) [x]) ρ h = (ev (envTo dcs k) x ρ h).bind fun w hp => .of (bmF .join (tx []) [w] hp) := fun x => by
    simp only [ev, evs, Out.bind_ok, rc, if_true]
    cases ev (envTo dcs k) x ρ h <;> rfl
  rw [m, e1, Out.bind_ok, jn]
  rfl
theorem sp_some_body (P : Pot h n) : ∃ b h', GoodB b ∧ G dcs 19 [.ref n] h = .ok (tx b) h' ∧ Rn (some n) h h' ∧ Pot h' n := by
  have main : ∃ b h', GoodB b ∧ runB E19 100000 b__law_some_body 3 [.ref n] h = .ok (tx b) h' ∧ Rn (some n) h h' := by
    obtain ⟨z, h1, z1, z2, e1, r1, P1⟩ := sbd0 P
    obtain ⟨h2, r2, P2, q⟩ := sbd1 (z := z) P1
    rcases q with q | ⟨b, gb, q⟩
    · obtain ⟨cs, h3, c1, c2, e3, r3, P3⟩ := ev_signs (k := 19) (j := 2) (e := .var 1) (z := z) (ρ := [some (.ref n), some (.int (z : Int)), none]) (by decide) rfl (by decide) P2 (by simp only [ev, List.getElem?_cons_zero, List.getElem?_cons_succ]) (by omega)
      refine ⟨cs, h3, ⟨by omega, by omega, c2⟩, ?_, (r1.trans r2).trans r3⟩
      rw [some_body_eq]
      refine runB_rt ?_
      show evSs E19 100000 _ [some (.ref n), none, none] h = _
      rw [evSs_cons e1, evSs_cons q]
      exact evSs_ret (evS_ret e3)
    · refine ⟨b, h2, gb, ?_, r1.trans r2⟩
      rw [some_body_eq]
      refine runB_rt ?_
      show evSs E19 100000 _ [some (.ref n), none, none] h = _
      rw [evSs_cons e1]
      exact evSs_ret q
  obtain ⟨b, h', gb, e, r⟩ := main
  obtain ⟨h2, e2, r2⟩ := fin_W (w := tx b) r
  exact ⟨b, h2, gb, by rw [g__law_some_body rfl, e, e2], r2, r2.pot n rfl P⟩
end
end K77

set_option Elab.async false
set_option linter.all false
set_option autoImplicit false
set_option maxRecDepth 100000
set_option maxHeartbeats 4000000
namespace K77
open PySem PySem.Spec PyProof.Rows L2 Itp
noncomputable abbrev E20 : FEnv := envTo dcs 20
theorem bent_of {s f : List Nat} {a m : Nat} (hm : f.length = m) (m1 : 1 ≤ m) (m4 : m ≤ 4) (fit : a + m ≤ s.length) (d : ∀ j, j < m → f[j]? ≠ s[a + j]?) : Bent s (s.take a ++ f ++ s.drop (a + m)) a m := by
  have la : (s.take a).length = a := by rw [List.length_take]; omega
  refine ⟨by rw [List.length_append, List.length_append, la, hm, List.length_drop]; omega, m1, m4, fit, fun i hi => ?_, fun i h1 h2 => ?_⟩
  · rcases hi with hi | hi
    · rw [List.append_assoc, List.getElem?_append_left (by omega), List.getElem?_take, if_pos hi]
    · rw [List.getElem?_append_right (by rw [List.length_append]; omega), List.length_append, la, hm, List.getElem?_drop]
      congr 1
      omega
  · rw [List.getElem?_append_left (by rw [List.length_append]; omega), List.getElem?_append_right (by omega), la]
    have := d (i - a) (by omega)
    rwa [show a + (i - a) = i by omega] at this
section
variable {n : Nat} {h : IH} {s : List Nat}
def BU0 : IStm := .asg (.name 2) (.blt .min [.blt .len [.var 1], .bin .Add (.cst (.int 1)) (.call 12 [.var 0, .cst (.int 4)])])
def BU1 : IStm := .asg (.tup [.name 3, .name 4]) (.tup [.call 12 [.var 0, .bin .Add (.bin .Sub (.blt .len [.var 1]) (.var 2)) (.cst (.int 1))], .cst (tx [])])
def BUB : List IStm := [.asg (.name 6) (.call 13 [.var 0, .call 18 []]), .asg (.name 4) (.bin .Add (.var 4) (.ite (.cmp .NotEq (.var 6) (.var 5)) (.var 6) (.ite (.cmp .NotEq (.var 5) (.cst (tx [97]))) (.cst (tx [97])) (.cst (tx [98])))))]
def BU2 : IStm := .forS (.name 5) (.val (.slc (.var 1) (some (.var 3)) (some (.bin .Add (.var 3) (.var 2))))) BUB
def BU3 : IStm := .ret (.tup [.var 3, .bin .Add (.bin .Add (.slc (.var 1) none (some (.var 3))) (.var 4)) (.slc (.var 1) (some (.bin .Add (.var 3) (.var 2))) none)])
theorem burst_eq : b__law_burst = [BU0, BU1, BU2, BU3] := rfl
theorem bu_turn {f : List Nat} {c : Nat} {x1 x2 x3 x6 : Option W} (P : Pot h n) (oc : ok c = true) (fo : f.all ok = true) (fl : f.length ≤ 10) :
    ∃ d e h', ok d = true ∧ d ≠ c ∧ evSs E20 100000 BUB [some (.ref n), x1, x2, x3, some (tx f), some (tx [c]), x6] h = .nx [some (.ref n), x1, x2, x3, some (tx (f ++ [d])), some (tx [c]), some (tx [e])] h' ∧ Rn (some n) h h' := by
  obtain ⟨e, em, h1, e1, r1, P1⟩ := d_pickT (a := sgn) P (by decide) (by decide)
  have eq1 : ∀ x y : Nat, cmpB .NotEq (tx [x]) (tx [y]) h1 = some (!decide (x = y)) := fun x y => by
    rw [cmp_ne, tx_eq]
    show some (!decide ([x] = [y])) = _
    congr 2
    exact decide_eq_decide.mpr ⟨fun z => by injection z, fun z => by rw [z]⟩
  have ad : ∀ d : Nat, binF .Add (tx f) (tx [d]) h1 = some (tx (f ++ [d]), h1) := fun d => tx_add (Nat.le_trans (show f.length + [d].length ≤ 100 by simp; omega) (by decide))
  by_cases c1 : e = c
  · subst c1
    have q1 := eq1 e e
    rw [decide_eq_true rfl] at q1
    by_cases c2 : e = 97
    · subst c2
      refine ⟨98, 97, h1, by decide, by decide, ?_, r1⟩
      have q2 := eq1 97 97
      rw [decide_eq_true rfl] at q2
      simp only [BUB, runB, evSs, evS, ev, evs, evO, evIt, tst, tstO, sto, stos, unpk, asgT, asgTs, Out.bind_ok, Out.bind_err, Out.bind_stuck, Out.of_some, Out.of_none, Out.then_ok, Out.then_err, Out.then_stuck, SOut.seq_nx, SOut.seq_rt, SOut.seq_bk, SOut.seq_ct, SOut.seq_err, SOut.seq_stuck, List.map_cons, List.map_nil, List.length_cons, List.length_nil, List.replicate, List.cons_append, List.nil_append, List.getElem?_cons_zero, List.getElem?_cons_succ, List.set_cons_zero, List.set_cons_succ, Nat.reduceSub, Nat.reduceAdd, Nat.reduceLT, Nat.reduceLeDiff, Int.ofNat_eq_natCast, if_true, if_false, Bool.false_eq_true, Bool.not_true, Bool.not_false, env_lt (show 18 < 20 by decide), env_lt (show 13 < 20 by decide), sp_signs, e1, q1, ad, Bool.not_true]
    · refine ⟨97, e, h1, by decide, fun z => c2 z.symm, ?_, r1⟩
      have q2 := eq1 e 97
      rw [decide_eq_false c2] at q2
      simp only [BUB, runB, evSs, evS, ev, evs, evO, evIt, tst, tstO, sto, stos, unpk, asgT, asgTs, Out.bind_ok, Out.bind_err, Out.bind_stuck, Out.of_some, Out.of_none, Out.then_ok, Out.then_err, Out.then_stuck, SOut.seq_nx, SOut.seq_rt, SOut.seq_bk, SOut.seq_ct, SOut.seq_err, SOut.seq_stuck, List.map_cons, List.map_nil, List.length_cons, List.length_nil, List.replicate, List.cons_append, List.nil_append, List.getElem?_cons_zero, List.getElem?_cons_succ, List.set_cons_zero, List.set_cons_succ, Nat.reduceSub, Nat.reduceAdd, Nat.reduceLT, Nat.reduceLeDiff, Int.ofNat_eq_natCast, if_true, if_false, Bool.false_eq_true, Bool.not_true, Bool.not_false, env_lt (show 18 < 20 by decide), env_lt (show 13 < 20 by decide), sp_signs, e1, q1, q2, ad, Bool.not_true, Bool.not_false]
  · refine ⟨e, e, h1, sgn_ok e em, c1, ?_, r1⟩
    have q1 := eq1 e c
    rw [decide_eq_false c1] at q1
    simp only [BUB, runB, evSs, evS, ev, evs, evO, evIt, tst, tstO, sto, stos, unpk, asgT, asgTs, Out.bind_ok, Out.bind_err, Out.bind_stuck, Out.of_some, Out.of_none, Out.then_ok, Out.then_err, Out.then_stuck, SOut.seq_nx, SOut.seq_rt, SOut.seq_bk, SOut.seq_ct, SOut.seq_err, SOut.seq_stuck, List.map_cons, List.map_nil, List.length_cons, List.length_nil, List.replicate, List.cons_append, List.nil_append, List.getElem?_cons_zero, List.getElem?_cons_succ, List.set_cons_zero, List.set_cons_succ, Nat.reduceSub, Nat.reduceAdd, Nat.reduceLT, Nat.reduceLeDiff, Int.ofNat_eq_natCast, if_true, if_false, Bool.false_eq_true, Bool.not_true, Bool.not_false, env_lt (show 18 < 20 by decide), env_lt (show 13 < 20 by decide), sp_signs, e1, q1, ad, Bool.not_false]
theorem sp_burst (P : Pot h n) (hs : s.all ok = true) (h1 : 1 ≤ s.length) (hl : s.length ≤ 90000) :
    ∃ (a m : Nat) (t' : List Nat) (h' : IH), G dcs 20 [.ref n, tx s] h = .ok (.tup [.int (a : Int), tx t']) h' ∧ Bent s t' a m ∧ t'.all ok = true ∧ Rn (some n) h h' ∧ Pot h' n := by
  have big : s.length ≤ lineLen := Nat.le_trans hl (by decide)
  have main : ∃ (a m : Nat) (t' : List Nat) (h' : IH), runB E20 100000 b__law_burst 7 [.ref n, tx s] h = .ok (.tup [.int (a : Int), tx t']) h' ∧ Bent s t' a m ∧ t'.all ok = true ∧ Rn (some n) h h' := by
    obtain ⟨d, h2, e2, d2, r2, P2⟩ := d_draw (m := 4) P (by decide) (by decide)
    obtain ⟨m, hm⟩ : ∃ m : Nat, m = min s.length (1 + d) := ⟨_, rfl⟩
    have s0 : evS E20 100000 BU0 [some (.ref n), some (tx s), none, none, none, none, none] h = .nx [some (.ref n), some (tx s), some (.int (m : Int)), none, none, none, none] h2 := by
      have q : (if (1 + (d : Int)) < (s.length : Int) then (1 + (d : Int)) else (s.length : Int)) = (m : Int) := by
        rw [hm]
        split <;> omega
      simp only [BU0, runB, evSs, evS, ev, evs, evO, evIt, tst, tstO, sto, stos, unpk, asgT, asgTs, Out.bind_ok, Out.bind_err, Out.bind_stuck, Out.of_some, Out.of_none, Out.then_ok, Out.then_err, Out.then_stuck, SOut.seq_nx, SOut.seq_rt, SOut.seq_bk, SOut.seq_ct, SOut.seq_err, SOut.seq_stuck, List.map_cons, List.map_nil, List.length_cons, List.length_nil, List.replicate, List.cons_append, List.nil_append, List.getElem?_cons_zero, List.getElem?_cons_succ, List.set_cons_zero, List.set_cons_succ, Nat.reduceSub, Nat.reduceAdd, Nat.reduceLT, Nat.reduceLeDiff, Int.ofNat_eq_natCast, if_true, if_false, Bool.false_eq_true, Bool.not_true, Bool.not_false, tx_len big, env_lt (show 12 < 20 by decide), e2, bin_add, bf_min, q]
    have mle : m ≤ s.length ∧ 1 ≤ m ∧ m ≤ 4 := by
      rw [hm]
      omega
    obtain ⟨a, h3, e3, a3, r3, P3⟩ := d_draw (m := (s.length : Int) - (m : Int) + 1) P2 (by omega) (by omega)
    have s1 : evS E20 100000 BU1 [some (.ref n), some (tx s), some (.int (m : Int)), none, none, none, none] h2 = .nx [some (.ref n), some (tx s), some (.int (m : Int)), some (.int (a : Int)), some (tx []), none, none] h3 := by
      have l2 : 2 ≤ lineLen := by decide
      simp only [BU1, runB, evSs, evS, ev, evs, evO, evIt, tst, tstO, sto, stos, unpk, asgT, asgTs, Out.bind_ok, Out.bind_err, Out.bind_stuck, Out.of_some, Out.of_none, Out.then_ok, Out.then_err, Out.then_stuck, SOut.seq_nx, SOut.seq_rt, SOut.seq_bk, SOut.seq_ct, SOut.seq_err, SOut.seq_stuck, List.map_cons, List.map_nil, List.length_cons, List.length_nil, List.replicate, List.cons_append, List.nil_append, List.getElem?_cons_zero, List.getElem?_cons_succ, List.set_cons_zero, List.set_cons_succ, Nat.reduceSub, Nat.reduceAdd, Nat.reduceLT, Nat.reduceLeDiff, Int.ofNat_eq_natCast, if_true, if_false, Bool.false_eq_true, Bool.not_true, Bool.not_false, tx_len big, env_lt (show 12 < 20 by decide), e3, bin_add, bin_sub, l2, unpk, itemsOf_tup]
    have fit : a + m ≤ s.length := by omega
    have sl := tx_slc (hp := h3) (a := s) (i := a) (j := a + m) big (by omega)
    rw [show a + m - a = m by omega, show ((a + m : Nat) : Int) = (a : Int) + (m : Int) by omega] at sl
    have hit : evIt E20 (.val (.slc (.var 1) (some (.var 3)) (some (.bin .Add (.var 3) (.var 2))))) [some (.ref n), some (tx s), some (.int (m : Int)), some (.int (a : Int)), some (tx []), none, none] h3 = .ok (.strR (SX.S ((s.drop a).take m))) h3 := by
      simp only [evIt, runB, evSs, evS, ev, evs, evO, evIt, tst, tstO, sto, stos, unpk, asgT, asgTs, Out.bind_ok, Out.bind_err, Out.bind_stuck, Out.of_some, Out.of_none, Out.then_ok, Out.then_err, Out.then_stuck, SOut.seq_nx, SOut.seq_rt, SOut.seq_bk, SOut.seq_ct, SOut.seq_err, SOut.seq_stuck, List.map_cons, List.map_nil, List.length_cons, List.length_nil, List.replicate, List.cons_append, List.nil_append, List.getElem?_cons_zero, List.getElem?_cons_succ, List.set_cons_zero, List.set_cons_succ, Nat.reduceSub, Nat.reduceAdd, Nat.reduceLT, Nat.reduceLeDiff, Int.ofNat_eq_natCast, if_true, if_false, Bool.false_eq_true, Bool.not_true, Bool.not_false, bin_add, sl]
      rfl
    have pl : ((s.drop a).take m).length = m := by
      rw [List.length_take, List.length_drop]
      omega
    obtain ⟨ρ', h4, q1, f, y5, y6, q2, f1, f2, f3, r4⟩ := for_run (body := evSs E20 100000 BUB) (t := .name 5) (J := .strR (SX.S ((s.drop a).take m)))
      (fun i ρ h => ∃ f y5 y6, ρ = [some (.ref n), some (tx s), some (.int (m : Int)), some (.int (a : Int)), some (tx f), y5, y6] ∧ f.length = i ∧ f.all ok = true ∧ (∀ j, j < i → f[j]? ≠ s[a + j]?) ∧ Rn (some n) h3 h) m
      (fun i ρ h hi ⟨f, y5, y6, e1, f1, f2, f3, r⟩ => by
        subst e1
        have hi' : i < ((s.drop a).take m).length := by omega
        have ec : s[a + i]? = some (((s.drop a).take m)[i]) := by
          rw [List.getElem_take, List.getElem_drop]
          exact List.getElem?_eq_getElem (by omega)
        have oc : ok (((s.drop a).take m)[i]) = true := List.all_eq_true.mp (all_take m (all_drop a hs)) _ (List.getElem_mem hi')
        obtain ⟨d, e, h', od, nd, eb, r'⟩ := bu_turn (x1 := some (tx s)) (x2 := some (.int (m : Int))) (x3 := some (.int (a : Int))) (x6 := y6) (r.pot n rfl P3) oc f2 (by omega)
        refine ⟨tx [((s.drop a).take m)[i]], _, _, h', by rw [tx_cur, List.getElem?_eq_getElem hi']; rfl, rfl, .inl eb, f ++ [d], _, _, rfl, by simp [f1], by rw [List.all_append, f2]; simp [od], fun j hj => ?_, r.trans r'⟩
        by_cases z : j < i
        · rw [List.getElem?_append_left (by omega)]
          exact f3 j z
        · have : j = i := by omega
          subst this
          rw [List.getElem?_append_right (by omega), f1, Nat.sub_self, ec]
          intro q
          exact nd (Option.some.inj q))
      (fun ρ h _ => by rw [tx_cur, List.getElem?_eq_none (by omega)]; rfl) m 0 [some (.ref n), some (tx s), some (.int (m : Int)), some (.int (a : Int)), some (tx []), none, none] h3 (by omega) ⟨[], none, none, rfl, rfl, rfl, fun j hj => by omega, Rn.refl⟩
    subst q2
    have s2 : evS E20 100000 BU2 [some (.ref n), some (tx s), some (.int (m : Int)), some (.int (a : Int)), some (tx []), none, none] h3 = .nx [some (.ref n), some (tx s), some (.int (m : Int)), some (.int (a : Int)), some (tx f), y5, y6] h4 := by
      rw [BU2, evS_for hit, tx_itLen, pl]
      exact q1
    have t1 := tx_to (hp := h4) (a := s) (j := a) big
    have t2 := tx_from (hp := h4) (a := s) (i := a + m) big
    rw [show ((a + m : Nat) : Int) = (a : Int) + (m : Int) by omega] at t2
    have a1 := tx_add (hp := h4) (a := s.take a) (b := f) (Nat.le_trans (show (s.take a).length + f.length ≤ 99000 by rw [List.length_take]; omega) (by decide))
    have a2 := tx_add (hp := h4) (a := s.take a ++ f) (b := s.drop (a + m)) (Nat.le_trans (show (s.take a ++ f).length + (s.drop (a + m)).length ≤ 199000 by rw [List.length_append, List.length_take, List.length_drop]; omega) (by decide))
    refine ⟨a, m, s.take a ++ f ++ s.drop (a + m), h4, ?_, bent_of f1 mle.2.1 mle.2.2 fit f3, by rw [List.all_append, List.all_append, all_take a hs, f2, all_drop _ hs]; rfl, (r2.trans r3).trans r4⟩
    rw [burst_eq]
    refine runB_rt ?_
    show evSs E20 100000 _ [some (.ref n), some (tx s), none, none, none, none, none] h = _
    rw [evSs_cons s0, evSs_cons s1, evSs_cons s2]
    refine evSs_ret ?_
    have l2 : 2 ≤ lineLen := by decide
    simp only [BU3, runB, evSs, evS, ev, evs, evO, evIt, tst, tstO, sto, stos, unpk, asgT, asgTs, Out.bind_ok, Out.bind_err, Out.bind_stuck, Out.of_some, Out.of_none, Out.then_ok, Out.then_err, Out.then_stuck, SOut.seq_nx, SOut.seq_rt, SOut.seq_bk, SOut.seq_ct, SOut.seq_err, SOut.seq_stuck, List.map_cons, List.map_nil, List.length_cons, List.length_nil, List.replicate, List.cons_append, List.nil_append, List.getElem?_cons_zero, List.getElem?_cons_succ, List.set_cons_zero, List.set_cons_succ, Nat.reduceSub, Nat.reduceAdd, Nat.reduceLT, Nat.reduceLeDiff, Int.ofNat_eq_natCast, if_true, if_false, Bool.false_eq_true, Bool.not_true, Bool.not_false, bin_add, t1, t2, a1, a2, l2]
  obtain ⟨a, m, t', h', e, b1, b2, r⟩ := main
  obtain ⟨h2, e2, r2⟩ := fin_W (w := .tup [.int (a : Int), tx t']) r
  exact ⟨a, m, t', h2, by rw [g__law_burst rfl, e, e2], b1, b2, r2, r2.pot n rfl P⟩
end
end K77

set_option Elab.async false
set_option linter.all false
set_option autoImplicit false
set_option maxRecDepth 100000
set_option maxHeartbeats 4000000
namespace K77
open PySem PySem.Spec PyProof.Rows L2 Itp
noncomputable abbrev E21 : FEnv := envTo dcs 21
theorem e21 {i : Nat} (hi : i < 21) : E21 i = G dcs i := env_lt hi
theorem ok_lt {c : Nat} (h : ok c = true) : c < 1114112 := by
  unfold ok at h
  simp only [Bool.or_eq_true, Bool.and_eq_true, decide_eq_true_eq] at h
  omega
theorem all_lt {xs : List (List Nat)} (h : ∀ x ∈ xs, x.all ok = true) : ∀ x ∈ xs, ∀ c ∈ x, c < 1114112 := fun x hx c hc => ok_lt (List.all_eq_true.mp (h x hx) c hc)
theorem bodies_ok : ∀ (f : Nat) (t : List Nat), ∀ b ∈ bodies f t, b.all ok = true
  | 0, t, b, h => by simp [bodies] at h
  | f + 1, t, b, h => by
    cases e : bodyOf t with
    | none => rw [bodies_none e] at h; simp at h
    | some c =>
      rw [bodies_some e] at h
      rcases List.mem_cons.mp h with rfl | h
      · obtain ⟨n, h1, h2, h3, h4, h5, h6, h7⟩ := body_some e
        rw [h7]
        refine List.all_eq_true.mpr fun c hc => List.all_eq_true.mp h5 c ?_
        have : (List.take n (List.drop 8 t)) = List.take n (List.take (n + 4) (List.drop 8 t)) := by rw [List.take_take, Nat.min_eq_left (by omega)]
        rw [this] at hc
        exact List.mem_of_mem_take hc
      · exact bodies_ok f _ b h
section
variable {F : FEnv} {ρ : IS} {h h1 h2 : IH} {x y : IE} {u v : W} {c : Bool}
theorem tst_ne (e1 : ev F x ρ h = .ok u h1) (e2 : ev F y ρ h1 = .ok v h2) (q : eqF u v h2 = some c) : tst F (.cmp .NotEq x y) ρ h = .ok (!c) h2 := by
  have t : tst F (.cmp .NotEq x y) ρ h = (ev F x ρ h).bind fun u h => (ev F y ρ h).bind fun v h => match cmpB .NotEq u v h with
    | some c => .ok c h
    | none => .stuck := by
    simp only [tst]
    try congr 1
  rw [t, e1, Out.bind_ok, e2, Out.bind_ok, cmp_ne, q]
  rfl
theorem ev_eq (e1 : ev F x ρ h = .ok u h1) (e2 : ev F y ρ h1 = .ok v h2) (q : eqF u v h2 = some c) : ev F (.cmp .Eq x y) ρ h = .ok (.bl c) h2 := by
  have t : ev F (.cmp .Eq x y) ρ h = (ev F x ρ h).bind fun u h => (ev F y ρ h).bind fun v h => .of (cmpF .Eq u v h) := by simp only [ev]
  rw [t, e1, Out.bind_ok, e2, Out.bind_ok, cmpF_eq, cmp_eq, q]
  rfl
theorem ev_var {i : Nat} {w : W} (e : ρ[i]? = some (some w)) : ev F (.var i) ρ h = .ok w h := by simp only [ev, e]
theorem ev_call1 {f : Nat} (e1 : ev F x ρ h = .ok u h1) (e2 : F f [u] h1 = .ok v h2) : ev F (.call f [x]) ρ h = .ok v h2 := by
  have t : ev F (.call f [x]) ρ h = (evs F [x] ρ h).bind fun ws hp => F f ws hp := by simp only [ev]
  have t2 : evs F [x] ρ h = .ok [u] h1 := by simp only [evs, e1, Out.bind_ok]
  rw [t, t2, Out.bind_ok, e2]
theorem ev_callk1 {f : Nat} (e1 : ev F x ρ h = .ok u h1) (e2 : F f [u] h1 = .ok v h2) : ev F (.callk f [0] [] [x]) ρ h = .ok v h2 := by
  have t : ev F (.callk f [0] [] [x]) ρ h = (evs F [] ρ h).bind fun ws hp => (evs F [x] ρ hp).bind fun zs hp => if ws.length = ([] : List IE).length ∧ zs.length = [x].length then F f (pm [0] (ws ++ zs)) hp else .stuck := by simp only [ev]
  have t2 : evs F [x] ρ h = .ok [u] h1 := by simp only [evs, e1, Out.bind_ok]
  have t3 : evs F [] ρ h = .ok [] h := by simp only [evs]
  rw [t, t3, Out.bind_ok, t2, Out.bind_ok, if_pos ⟨rfl, rfl⟩]
  exact e2
theorem ev_sub (e1 : ev F x ρ h = .ok u h1) (e2 : subF u (.int 0) h1 = some (v, h2)) : ev F (.sub x (.cst (.int 0))) ρ h = .ok v h2 := by
  have t : ev F (.sub x (.cst (.int 0))) ρ h = (ev F x ρ h).bind fun u h => .of (subF u (.int 0) h) := by simp only [ev, Out.bind_ok]
  rw [t, e1, Out.bind_ok, e2]
  rfl
theorem ev_join (e1 : ev F x ρ h = .ok u h1) {ys : List (List Nat)} {ws : List W} (hi : itemsOf h1 u = some ws) (hs : ws = ys.map tx) (hl : (ys.map (·.length)).sum ≤ lineLen) : ev F (.meth .join (.cst (tx [])) [x]) ρ h = .ok (tx ys.flatten) h1 := by
  have rc : recOk .join (tx []) h = true := rfl
  have m : ev F (.meth .join (.cst (tx [])) [x]) ρ h = (ev F x ρ h).bind fun w hp => .of (bmF .join (tx []) [w] hp) := by
    simp only [ev, evs, Out.bind_ok, rc, if_true]
    cases ev F x ρ h <;> rfl
  rw [m, e1, Out.bind_ok, tx_join hi hs hl]
  rfl
theorem evS_asg {i : Nat} {gas : Nat} (e1 : ev F x ρ h = .ok u h1) : evS F gas (.asg (.name i) x) ρ h = .nx (ρ.set i (some u)) h1 := by
  have t : evS F gas (.asg (.name i) x) ρ h = (ev F x ρ h).then ρ fun w hp => sto F (.name i) w ρ hp := by simp only [evS]
  rw [t, e1, Out.then_ok]
  simp only [sto]
end
section
variable {n : Nat} {h : IH} {s : List Nat}
theorem d11 (hs : s.length ≤ 99000) : ∃ k h', G dcs 11 [tx s] h = .ok (.ref k) h' ∧ Rn (some n) h h' ∧ h'[k]? = some (.lst ((bodies 99001 s).map tx)) ∧ h.length ≤ k := by
  refine ⟨h.length + 1, _, sp_bodies_of hs, Rn.app, ?_, by omega⟩
  rw [List.getElem?_append_right (by omega), show h.length + 1 - h.length = 1 by omega]
  rfl
theorem d17 (hs : s.length ≤ 99000) (ho : s.all ok = true) : ∃ (k a : Nat) (h' : IH), G dcs 17 [tx s] h = .ok (.tup [.ref k, .int (a : Int)]) h' ∧ Rn (some n) h h' ∧ h'[k]? = some (.lst ((bodies 99001 s).map tx)) ∧ h.length ≤ k := by
  obtain ⟨a, g, e⟩ := sp_law_bodies (h := h) hs ho
  exact ⟨h.length, a, _, e, Rn.app, get_mid, Nat.le_refl _⟩
theorem ne_of_lt (P : Pot h n) {k : Nat} (hk : h.length ≤ k) : some n ≠ some k := fun z => by
  have := P.lt
  have : n = k := Option.some.inj z
  omega
theorem frame_self {b : List Nat} (g : GoodB b) : isFrame (frameL b) b = true := by
  unfold isFrame
  have e1 : (frameL b).take (b.length + 8) = sizeT b.length ++ b := by
    unfold frameL
    rw [List.take_append_of_le_length (by simp [sizeT_len]; omega), List.take_of_length_le (by simp [sizeT_len]; omega)]
  have e2 : (frameL b).drop 8 = b ++ tailL b := by
    unfold frameL
    rw [List.append_assoc, List.drop_append_of_le_length (by rw [sizeT_len]; exact Nat.le_refl _), List.drop_of_length_le (by rw [sizeT_len]; exact Nat.le_refl _), List.nil_append]
  rw [e1, frame_ok g.ok, frameL_len, e2, tail_lanes]
  simp
/-! ### the law's one turn -/
def R0 : IStm := .asg (.name 1) (.comp (.call 19 [.var 0]) (.name 2) (.rng (.bin .Add (.cst (.int 1)) (.call 12 [.var 0, .cst (.int 5)]))) none [2])
def R1 : IStm := .asg (.name 3) (.comp (.call 8 [.var 4]) (.name 4) (.val (.var 1)) none [4])
def R2a : IE := .blt .all [.comp (.call 16 [.var 5, .var 4]) (.tup [.name 5, .name 4]) (.zip (.var 3) (.var 1)) none [5, 4]]
def RF : List IStm := [.ret (.cst (.bl false))]
def R2 : IStm := .ite (.or (.not (.tru R2a)) (.cmp .NotEq (.callk 8 [0] [] [.sub (.var 1) (.cst (.int 0))]) (.sub (.var 3) (.cst (.int 0))))) RF []
def R3 : IStm := .asg (.name 6) (.meth .join (.cst (tx [])) [.var 3])
def R4 : IStm := .ite (.or (.cmp .NotEq (.call 11 [.var 6]) (.var 1)) (.cmp .NotEq (.callk 11 [0] [] [.cst (tx [])]) (.lst []))) RF []
def AH (v : Nat) : IE := .comp (.var 4) (.tup [.name 10, .name 4]) (.enum (.var 1)) (some (.cmp .LtE (.blt .len [.meth .join (.cst (tx [])) [.slc (.var 3) none (some (.bin .Add (.var 10) (.cst (.int 1))))]]) (.var v))) [10, 4]
def RB0 : IStm := .asg (.tup [.name 7, .name 8]) (.call 20 [.var 0, .var 6])
def RB1 : IStm := .asg (.name 9) (AH 7)
def RB2 : IStm := .ite (.or (.cmp .NotEq (.call 11 [.var 8]) (.var 9)) (.cmp .NotEq (.sub (.call 17 [.var 8]) (.cst (.int 0))) (.var 9))) RF []
def RB3 : IStm := .asg (.name 11) (.call 12 [.var 0, .bin .Add (.blt .len [.var 6]) (.cst (.int 1))])
def RB4 : IStm := .asg (.name 5) (AH 11)
def RB5 : IStm := .ite (.or (.cmp .NotEq (.call 11 [.slc (.var 6) none (some (.var 11))]) (.var 5)) (.cmp .NotEq (.callk 11 [0] [] [.bin .Add (.var 6) (.slc (.slc (.var 6) none (some (.var 11))) none (some (.cst (.int 11))))]) (.var 1))) RF []
def RBB : List IStm := [RB0, RB1, RB2, RB3, RB4, RB5]
def R5 : IStm := .forS (.name 2) (.rng (.cst (.int 6))) RBB
def OD : IE := .lst [.cst (tx [48, 48, 48, 49]), .cst (tx [57, 57, 57, 56]), .cst (tx [48, 48, 48, 49, 57, 57, 57, 56]), .cst (tx [97]), .cst (tx [10]), .cst (tx [32]), .sub (.var 3) (.cst (.int 0)), .cst (tx [57, 57, 57, 57, 48, 48, 48, 48])]
def R6 : IStm := .asg (.name 12) (.meth .join (.cst (tx [])) [.comp (.call 13 [.var 0, OD]) (.name 2) (.rng (.cst (.int 5))) none [2]])
def R7a : IE := .cmp .Eq (.call 11 [.var 12]) (.sub (.call 17 [.var 12]) (.cst (.int 0)))
def R7b : IE := .cmp .Eq (.call 11 [.bin .Add (.var 6) (.var 12)]) (.sub (.call 17 [.bin .Add (.var 6) (.var 12)]) (.cst (.int 0)))
def R7 : IStm := .ret (.and R7a R7b)
theorem right_eq : b__law_right = [R0, R1, R2, R3, R4, R5, R6, R7] := rfl
theorem r0 (P : Pot h n) : ∃ (bs : List (List Nat)) (k : Nat) (h' : IH), (∀ b ∈ bs, GoodB b) ∧ 1 ≤ bs.length ∧ bs.length ≤ 5 ∧ h.length ≤ k ∧ h'[k]? = some (.lst (bs.map tx)) ∧ Rn (some n) h h' ∧
    evS E21 100000 R0 [some (.ref n), none, none, none, none, none, none, none, none, none, none, none, none] h = .nx [some (.ref n), some (.ref k), none, none, none, none, none, none, none, none, none, none, none] h' := by
  obtain ⟨d, h1, e1, d1, r1, P1⟩ := d_draw (m := 5) P (by decide) (by decide)
  have er : ev E21 (.bin .Add (.cst (.int 1)) (.call 12 [.var 0, .cst (.int 5)])) [some (.ref n), none, none, none, none, none, none, none, none, none, none, none, none] h = .ok (.int ((1 + d : Nat) : Int)) h1 := by
    have q : (1 : Int) + (d : Int) = ((1 + d : Nat) : Int) := by omega
    simp only [runB, evSs, evS, ev, evs, evO, evIt, tst, tstO, sto, stos, unpk, asgT, asgTs, Out.bind_ok, Out.bind_err, Out.bind_stuck, Out.of_some, Out.of_none, Out.then_ok, Out.then_err, Out.then_stuck, SOut.seq_nx, SOut.seq_rt, SOut.seq_bk, SOut.seq_ct, SOut.seq_err, SOut.seq_stuck, List.map_cons, List.map_nil, List.length_cons, List.length_nil, List.replicate, List.cons_append, List.nil_append, List.getElem?_cons_zero, List.getElem?_cons_succ, List.set_cons_zero, List.set_cons_succ, Nat.reduceSub, Nat.reduceAdd, Nat.reduceLT, Nat.reduceLeDiff, Int.ofNat_eq_natCast, if_true, if_false, Bool.false_eq_true, Bool.not_true, Bool.not_false, env_lt (show 12 < 21 by decide), e1, bin_add, q]
  have hit := evIt_rng er ⟨by omega, by omega⟩
  obtain ⟨h', ys, e2, r2, hl, e3, hl2, ⟨bs, c1, c2, c3⟩⟩ := ev_comp_W (n := some n) (F := E21) (ρ := [some (.ref n), none, none, none, none, none, none, none, none, none, none, none, none]) (hp := h) (a := .call 19 [.var 0]) (t := .name 2) (c := none) (own := [2]) (1 + d)
    (fun i acc => ∃ bs : List (List Nat), acc = bs.map tx ∧ bs.length = i ∧ ∀ b ∈ bs, GoodB b) hit r1 (itLen_rng ..) (Nat.lt_of_le_of_lt (show 1 + d ≤ 100 by omega) (by decide)) (ne_of_lt P1 (Nat.le_refl _)) ⟨[], rfl, rfl, fun b hb => by simp at hb⟩ (fun i h2 acc hi r ea ⟨bs, c1, c2, c3⟩ => by
      obtain ⟨b, h3, gb, e4, r3, P3⟩ := sp_some_body (r.pot n rfl P1)
      refine ⟨.int (0 + (i : Int)), _, true, h2, by rw [cur_rng, if_pos hi], rfl, tstO_none, Rn.refl, fun _ => ⟨tx b, h3, ?_, r3, bs ++ [b], by rw [c1]; simp, by simp [c2], fun x hx => ?_⟩, fun z => nomatch z⟩
      · exact ev_call1 (ev_var rfl) (by rw [e21 (by decide)]; exact e4)
      · rcases List.mem_append.mp hx with q | q
        · exact c3 x q
        · rw [List.mem_singleton.mp q]
          exact gb) (fun h2 _ => by rw [cur_rng, if_neg (by omega)])
  refine ⟨bs, h1.length, h', c3, by omega, by omega, r1.le, by rw [e3, c1], r2, ?_⟩
  exact evS_asg e2
end
end K77

set_option Elab.async false
set_option linter.all false
set_option autoImplicit false
set_option maxRecDepth 100000
set_option maxHeartbeats 4000000
namespace K77
open PySem PySem.Spec PyProof.Rows L2 Itp
theorem ev_cst {F : FEnv} {ρ : IS} {h : IH} {w : W} : ev F (.cst w) ρ h = .ok w h := by simp only [ev]
section
variable {n k l : Nat} {h : IH} {bs : List (List Nat)} {x2 x3 x4 x5 x6 x7 x8 x9 x10 x11 x12 : Option W}
theorem evS_pass' {F : FEnv} {gas : Nat} {ρ : IS} {hp h1 : IH} {c : IT} {a : List IStm} (h : tst F c ρ hp = .ok false h1) : evS F gas (.ite c a []) ρ hp = .nx ρ h1 := evS_pass h
/-- what is known of the lists through the law's turn -/
structure Kn (n k l : Nat) (bs : List (List Nat)) (h : IH) : Prop where
  pot : Pot h n
  kn : some n ≠ some k
  ln : some n ≠ some l
  kb : h[k]? = some (.lst (bs.map tx))
  lf : h[l]? = some (.lst ((bs.map frameL).map tx))
  good : ∀ b ∈ bs, GoodB b
  one : 1 ≤ bs.length
  five : bs.length ≤ 5
theorem Kn.to {h' : IH} (K : Kn n k l bs h) (r : Rn (some n) h h') : Kn n k l bs h' := ⟨r.pot n rfl K.pot, K.kn, K.ln, r.get K.kb K.kn, r.get K.lf K.ln, K.good, K.one, K.five⟩
theorem Kn.len (K : Kn n k l bs h) : (strF bs).length ≤ 25060 := by
  have := strF_len K.good
  have := K.five
  omega
theorem Kn.bok (K : Kn n k l bs h) : ∀ x ∈ bs, x.all ok = true := fun x hx => (K.good x hx).ok
theorem r1 (hg : ∀ b ∈ bs, GoodB b) (h5 : bs.length ≤ 5) (e : h[k]? = some (.lst (bs.map tx))) : evS E21 100000 R1 [some (.ref n), some (.ref k), x2, x3, none, x5, x6, x7, x8, x9, x10, x11, x12] h =
    .nx [some (.ref n), some (.ref k), x2, some (.ref h.length), none, x5, x6, x7, x8, x9, x10, x11, x12] (h ++ [.lst ((bs.map frameL).map tx)]) := by
  have c := ev_comp_xs (F := E21) (ρ := [some (.ref n), some (.ref k), x2, x3, none, x5, x6, x7, x8, x9, x10, x11, x12]) (e := .call 8 [.var 4]) (t := .name 4) (own := [4]) bs tx (fun b => tx (frameL b)) (it_list (v := 1) rfl e) ((itLen_lst e).trans (by simp)) (Nat.lt_of_le_of_lt h5 (by decide)) (fun acc i => cur_list e) fun b hb acc =>
    ⟨_, rfl, ev_call1 (ev_var rfl) (by rw [e21 (by decide)]; exact sp_frame (hg b hb).pos (hg b hb).le (hg b hb).ok)⟩
  rw [R1, evS_asg c, List.map_map]
  rfl
theorem cur_zip {acc : List W} {i : Nat} (K : Kn n k l bs h) : cur (.zip (.lstR l) (.lstR k)) i (h ++ [.lst acc]) = some (bs[i]?.map fun b => .tup [tx (frameL b), tx b]) := by
  have a : cur (.lstR l) i (h ++ [.lst acc]) = some (((bs.map frameL).map tx)[i]?) := cur_old K.lf
  have b : cur (.lstR k) i (h ++ [.lst acc]) = some ((bs.map tx)[i]?) := cur_old K.kb
  show (match cur (.lstR l) i (h ++ [.lst acc]), cur (.lstR k) i (h ++ [.lst acc]) with
    | some (some x), some (some y) => some (some (W.tup [x, y]))
    | some _, some _ => some none
    | _, _ => none) = _
  rw [a, b, List.getElem?_map, List.getElem?_map, List.getElem?_map]
  cases bs[i]? <;> rfl
theorem get0 {ws : List W} {w : W} {m : Nat} (e : h[m]? = some (.lst (w :: ws))) : subF (.ref m) (.int 0) h = some (w, h) := by
  rw [sub_ref e, show atI (w :: ws) 0 = some w from atI_nat (j := 0) rfl]
  rfl
theorem r2 (K : Kn n k l bs h) : ∃ h', Rn (some n) h h' ∧ evS E21 100000 R2 [some (.ref n), some (.ref k), x2, some (.ref l), none, none, x6, x7, x8, x9, x10, x11, x12] h = .nx [some (.ref n), some (.ref k), x2, some (.ref l), none, none, x6, x7, x8, x9, x10, x11, x12] h' := by
  obtain ⟨ρ, hρ⟩ : ∃ ρ : IS, ρ = [some (.ref n), some (.ref k), x2, some (.ref l), none, none, x6, x7, x8, x9, x10, x11, x12] := ⟨_, rfl⟩
  have a := ev_all_xs (F := E21) (ρ := ρ) (e := .call 16 [.var 5, .var 4]) (t := .tup [.name 5, .name 4]) (own := [5, 4]) bs (fun b => .tup [tx (frameL b), tx b]) (fun b => isFrame (frameL b) b) (it_zip (v := 3) (u := 1) (by rw [hρ]; rfl) K.lf (by rw [hρ]; rfl) K.kb) (by
      show min (itLen (.lstR l) h) (itLen (.lstR k) h) = _
      rw [itLen_lst K.lf, itLen_lst K.kb]
      simp) (Nat.lt_of_le_of_lt K.five (by decide)) (fun acc i => cur_zip K) fun b hb acc => by
    refine ⟨_, by rw [hρ]; simp [asgT, asgTs, wipeI]; rfl, ?_⟩
    simp only [ev, evs, List.getElem?_cons_zero, List.getElem?_cons_succ, Out.bind_ok, e21 (show 16 < 21 by decide)]
    have g := K.good b hb
    exact sp_is_frame g.le (by rw [frameL_len]; have := g.le; omega)
  have all : bs.all (fun b => isFrame (frameL b) b) = true := List.all_eq_true.mpr fun b hb => frame_self (K.good b hb)
  rw [all] at a
  obtain ⟨h1, eh⟩ : ∃ h1, h1 = h ++ [IO.lst (bs.map fun b => .bl (isFrame (frameL b) b))] := ⟨_, rfl⟩
  rw [← eh] at a
  have r1 : Rn (some n) h h1 := by rw [eh]; exact Rn.app
  have K1 := K.to r1
  refine ⟨h1, r1, ?_⟩
  obtain ⟨b, bs', eb⟩ : ∃ b bs', bs = b :: bs' := by
    cases bs with
    | nil => have := K.one; simp at this
    | cons b bs' => exact ⟨b, bs', rfl⟩
  have gb := K.good b (by rw [eb]; exact List.mem_cons_self ..)
  have kb := K1.kb
  have lf := K1.lf
  rw [eb] at kb lf
  have t2 : tst E21 (.cmp .NotEq (.callk 8 [0] [] [.sub (.var 1) (.cst (.int 0))]) (.sub (.var 3) (.cst (.int 0)))) ρ h1 = .ok false h1 := by
    have q := tst_ne (F := E21) (ρ := ρ) (h := h1) (x := .callk 8 [0] [] [.sub (.var 1) (.cst (.int 0))]) (y := .sub (.var 3) (.cst (.int 0))) (ev_callk1 (ev_sub (ev_var (by rw [hρ]; rfl)) (get0 kb)) (by rw [e21 (by decide)]; exact sp_frame gb.pos gb.le gb.ok)) (ev_sub (ev_var (by rw [hρ]; rfl)) (get0 lf)) tx_eq
    rw [decide_eq_true rfl] at q
    exact q
  have t := tst_or (b := .cmp .NotEq (.callk 8 [0] [] [.sub (.var 1) (.cst (.int 0))]) (.sub (.var 3) (.cst (.int 0)))) (tst_not (tst_tru a rfl))
  rw [Bool.not_true, if_neg Bool.false_ne_true, t2] at t
  rw [← hρ]
  exact evS_pass t
theorem r3 (K : Kn n k l bs h) : evS E21 100000 R3 [some (.ref n), some (.ref k), x2, some (.ref l), x4, x5, x6, x7, x8, x9, x10, x11, x12] h = .nx [some (.ref n), some (.ref k), x2, some (.ref l), x4, x5, some (tx (strF bs)), x7, x8, x9, x10, x11, x12] h := by
  have sl : ((bs.map frameL).map (·.length)).sum = (strF bs).length := by
    unfold strF
    rw [List.length_flatten]
  have j := ev_join (F := E21) (ρ := [some (.ref n), some (.ref k), x2, some (.ref l), x4, x5, x6, x7, x8, x9, x10, x11, x12]) (h := h) (x := .var 3) (ev_var rfl) (items_ref K.lf) rfl (by rw [sl]; exact Nat.le_trans K.len (by decide))
  rw [R3, evS_asg j]
  rfl
theorem bodies_all (g : ∀ b ∈ bs, GoodB b) (h5 : bs.length ≤ 5) {j : List Nat} (hj : j.length < 13) : bodies 99001 (strF bs ++ j) = bs := bodies_junk g (Nat.le_trans h5 (by decide)) hj
theorem bodies_self (g : ∀ b ∈ bs, GoodB b) (h5 : bs.length ≤ 5) : bodies 99001 (strF bs) = bs := by
  have := bodies_all g h5 (j := []) (by decide)
  rwa [List.append_nil] at this
theorem r4 (K : Kn n k l bs h) : ∃ h', Rn (some n) h h' ∧ evS E21 100000 R4 [some (.ref n), some (.ref k), x2, some (.ref l), x4, x5, some (tx (strF bs)), x7, x8, x9, x10, x11, x12] h = .nx [some (.ref n), some (.ref k), x2, some (.ref l), x4, x5, some (tx (strF bs)), x7, x8, x9, x10, x11, x12] h' := by
  obtain ⟨ρ, hρ⟩ : ∃ ρ : IS, ρ = [some (.ref n), some (.ref k), x2, some (.ref l), x4, x5, some (tx (strF bs)), x7, x8, x9, x10, x11, x12] := ⟨_, rfl⟩
  obtain ⟨m, h1, e1, q1, f1, l1⟩ := d11 (n := n) (h := h) (s := strF bs) (by have := K.len; omega)
  rw [bodies_self K.good K.five] at f1
  have K1 := K.to q1
  have t1 := tst_ne (F := E21) (ρ := ρ) (x := .call 11 [.var 6]) (y := .var 1) (ev_call1 (ev_var (by rw [hρ]; rfl)) (by rw [e21 (by decide)]; exact e1)) (ev_var (by rw [hρ]; rfl)) (eq_txts f1 K1.kb (all_lt K.bok) (all_lt K.bok))
  rw [decide_eq_true rfl] at t1
  obtain ⟨m2, h2, e2, q2, f2, l2⟩ := d11 (n := n) (h := h1) (s := []) (by decide)
  have z : bodies 99001 [] = [] := bodies_none (body_short (by decide))
  rw [z] at f2
  have f3 : (h2 ++ [IO.lst []])[m2]? = some (.lst (([] : List (List Nat)).map tx)) := by
    rw [List.getElem?_append_left (List.getElem?_eq_some_iff.mp f2).1]
    exact f2
  have l0 : ([] : List W).length ≤ lineLen := Nat.zero_le _
  have el : ev E21 (.lst []) ρ h2 = .ok (.ref h2.length) (h2 ++ [.lst []]) := by
    simp only [ev, evs, Out.bind_ok]
    rw [if_pos l0]
  have t2 := tst_ne (F := E21) (ρ := ρ) (x := .callk 11 [0] [] [.cst (tx [])]) (y := .lst []) (ev_callk1 ev_cst (by rw [e21 (by decide)]; exact e2)) el (eq_txts (xs := []) (ys := []) f3 get_last (fun x hx => by simp at hx) (fun x hx => by simp at hx))
  rw [decide_eq_true rfl] at t2
  have t := tst_or (b := .cmp .NotEq (.callk 11 [0] [] [.cst (tx [])]) (.lst [])) t1
  rw [Bool.not_true, if_neg Bool.false_ne_true, t2] at t
  rw [← hρ]
  exact ⟨_, (q1.trans q2).trans Rn.app, evS_pass t⟩
end
end K77

set_option Elab.async false
set_option linter.all false
set_option autoImplicit false
set_option maxRecDepth 100000
set_option maxHeartbeats 4000000
namespace K77
open PySem PySem.Spec PyProof.Rows L2 Itp
section
variable {n k l : Nat} {h : IH} {bs : List (List Nat)} {x2 x4 x5 x7 x8 x9 x10 x11 x12 : Option W}
theorem cut_to {ws : List W} (i : Nat) : cutL ws none (some (i : Int)) = ws.take i := by
  unfold cutL
  rw [HT.sIx_none, HT.sIx_nat, List.drop_zero, Nat.sub_zero]
  by_cases h : i ≤ ws.length
  · rw [Nat.min_eq_left h]
  · rw [Nat.min_eq_right (by omega), List.take_of_length_le (Nat.le_refl _), List.take_of_length_le (by omega)]
theorem slc_list {m i : Nat} {ws : List W} (e : h[m]? = some (.lst ws)) : slcF (.ref m) none (some (i : Int)) h = some (.ref h.length, h ++ [.lst (ws.take i)]) := by
  show (match h[m]? with
    | some (.lst xs) => some (W.ref h.length, h ++ [IO.lst (cutL xs none (some (i : Int)))])
    | some (.flst xs) => some (W.ref h.length, h ++ [IO.lst (cutL xs none (some (i : Int)))])
    | none => none) = _
  rw [e]
  simp only [cut_to]
/-- the bodies whose frames end at a place -/
theorem ev_ahead {v a : Nat} {ρ : IS} (K : Kn n k l bs h) (hl : 12 < ρ.length) (h1 : ρ[1]? = some (some (.ref k))) (h3 : ρ[3]? = some (some (.ref l))) (hv : ρ[v]? = some (some (.int (a : Int)))) (v4 : v ≠ 4) (v10 : v ≠ 10) :
    ∃ m h', ev E21 (AH v) ρ h = .ok (.ref m) h' ∧ Rn (some n) h h' ∧ h'[m]? = some (.lst ((ahead bs a).map tx)) ∧ h.length ≤ m := by
  obtain ⟨j, j1, j2, j3, j4⟩ := ahead_take bs a
  have hit := it_enum (F := E21) (v := 1) h1 K.kb
  obtain ⟨h', ys, e2, r2, hl2, e3, hl3, e4⟩ := ev_comp_W (n := some n) (F := E21) (ρ := ρ) (hp := h) (a := .var 4) (t := .tup [.name 10, .name 4]) (own := [10, 4])
    (c := some (.cmp .LtE (.blt .len [.meth .join (.cst (tx [])) [.slc (.var 3) none (some (.bin .Add (.var 10) (.cst (.int 1))))]]) (.var v))) bs.length
    (fun i acc => acc = (bs.take (min i j)).map tx) hit Rn.refl ((itLen_lst K.kb).trans (by simp)) (Nat.lt_of_le_of_lt K.five (by decide)) (ne_of_lt K.pot (Nat.le_refl _)) (by simp) (fun i h2 acc hi r ea eacc => by
      have K2 := K.to r
      have hi' : bs[i]? = some bs[i] := List.getElem?_eq_getElem hi
      have ec : cur (.enum (.lstR k)) i h2 = some (some (.tup [.int (i : Int), tx bs[i]])) := by
        show (cur (.lstR k) i h2).map _ = _
        rw [cur_lst K2.kb, List.getElem?_map, hi']
        rfl
      obtain ⟨ρ', hρ'⟩ : ∃ ρ', ρ' = ((wipeI ρ [10, 4]).set 10 (some (.int (i : Int)))).set 4 (some (tx bs[i])) := ⟨_, rfl⟩
      have g : ∀ q, q ≠ 4 → q ≠ 10 → ρ'[q]? = ρ[q]? := fun q q1 q2 => by
        rw [hρ']
        simp only [wipeI]
        rw [List.getElem?_set_ne (Ne.symm q1), List.getElem?_set_ne (Ne.symm q2), List.getElem?_set_ne (Ne.symm q2), List.getElem?_set_ne (Ne.symm q1)]
      have g4 : ρ'[4]? = some (some (tx bs[i])) := by
        rw [hρ']
        exact List.getElem?_set_self (by simp [wipeI]; omega)
      have g10 : ρ'[10]? = some (some (.int (i : Int))) := by
        rw [hρ', List.getElem?_set_ne (by decide)]
        exact List.getElem?_set_self (by simp [wipeI]; omega)
      have sl := slc_list (m := l) (i := i + 1) K2.lf
      have q : ((i + 1 : Nat) : Int) = (i : Int) + 1 := by omega
      rw [q] at sl
      have ev3 : ev E21 (.slc (.var 3) none (some (.bin .Add (.var 10) (.cst (.int 1))))) ρ' h2 = .ok (.ref h2.length) (h2 ++ [.lst (((bs.map frameL).map tx).take (i + 1))]) := by
        simp only [ev, evO, g 3 (by decide) (by decide), h3, g10, Out.bind_ok, bin_add, Out.of_some, sl]
      have tk : ((bs.map frameL).map tx).take (i + 1) = ((bs.take (i + 1)).map frameL).map tx := by rw [List.map_take, List.map_take]
      have lsum : (((bs.take (i + 1)).map frameL).map (·.length)).sum = endAt bs (i + 1) := by
        unfold endAt strF
        rw [List.length_flatten]
      have bound : endAt bs (i + 1) ≤ 25060 := by
        have z := strF_len (bs := bs.take (i + 1)) fun b hb => K.good b (List.mem_of_mem_take hb)
        have : (bs.take (i + 1)).length ≤ 5 := by
          have := K.five
          rw [List.length_take]
          omega
        unfold endAt
        omega
      have jn := ev_join (F := E21) (ρ := ρ') (ys := (bs.take (i + 1)).map frameL) ev3 (items_ref get_last) tk (by rw [lsum]; exact Nat.le_trans bound (by decide))
      have eln : bfF .len [tx ((bs.take (i + 1)).map frameL).flatten] (h2 ++ [.lst (((bs.map frameL).map tx).take (i + 1))]) = some (.int (endAt bs (i + 1) : Int), h2 ++ [.lst (((bs.map frameL).map tx).take (i + 1))]) := by
        rw [tx_len (by rw [List.length_flatten, lsum]; exact Nat.le_trans bound (by decide)), List.length_flatten, lsum]
      have el := ev_blt1 jn eln
      have tt : tst E21 (.cmp .LtE (.blt .len [.meth .join (.cst (tx [])) [.slc (.var 3) none (some (.bin .Add (.var 10) (.cst (.int 1))))]]) (.var v)) ρ' h2 = .ok (decide (endAt bs (i + 1) ≤ a)) (h2 ++ [.lst (((bs.map frameL).map tx).take (i + 1))]) := by
        have t : ∀ x y : IE, tst E21 (.cmp .LtE x y) ρ' h2 = (ev E21 x ρ' h2).bind fun u h => (ev E21 y ρ' h).bind fun v h => match cmpB .LtE u v h with
          | some c => .ok c h
          | none => .stuck := fun x y => by
          simp only [tst]
          try congr 1
        rw [t, el, Out.bind_ok, ev_var (by rw [g v v4 v10]; exact hv), Out.bind_ok, cmp_le]
        simp only []
        congr 2
        exact propext ⟨fun z => by omega, fun z => by omega⟩
      refine ⟨_, ρ', _, _, ec, by rw [hρ']; rfl, by simp only [tstO]; exact tt, Rn.app, fun ht => ⟨tx bs[i], _, ev_var g4, Rn.refl, ?_⟩, fun ht => ?_⟩
      · have le : endAt bs (i + 1) ≤ a := of_decide_eq_true ht
        have : i < j := by
          refine Decidable.byContradiction fun z => ?_
          exact j4 i (by omega) hi le
        have m1 : min i j = i := Nat.min_eq_left (by omega)
        have m2 : min (i + 1) j = i + 1 := Nat.min_eq_left (by omega)
        show acc ++ [tx bs[i]] = (bs.take (min (i + 1) j)).map tx
        rw [eacc, m1, m2, List.take_add_one, hi', Option.toList_some, List.map_append]
        rfl
      · have nle : ¬ endAt bs (i + 1) ≤ a := of_decide_eq_false ht
        have : ¬ i < j := fun z => nle (j3 i z)
        have m1 : min i j = j := Nat.min_eq_right (by omega)
        have m2 : min (i + 1) j = j := Nat.min_eq_right (by omega)
        show acc = (bs.take (min (i + 1) j)).map tx
        rw [eacc, m1, m2]) (fun h2 r => by
      show (cur (.lstR k) bs.length h2).map _ = _
      rw [cur_lst (K.to r).kb, List.getElem?_eq_none (by simp)]
      rfl)
  refine ⟨h.length, h', e2, r2, ?_, Nat.le_refl _⟩
  rw [e3, e4, Nat.min_eq_right j1, j2]
theorem ahead_ok (K : Kn n k l bs h) (a : Nat) : ∀ x ∈ ahead bs a, x.all ok = true := by
  obtain ⟨j, _, j2, _⟩ := ahead_take bs a
  rw [j2]
  exact fun x hx => K.bok x (List.mem_of_mem_take hx)
theorem strF_pos (K : Kn n k l bs h) : 1 ≤ (strF bs).length := by
  have := K.one
  cases bs with
  | nil => simp at this
  | cons b bs' => rw [strF_cons, List.length_append, frameL_len]; omega
/-- one of six turns -/
theorem rb_turn (K : Kn n k l bs h) {y2 y5 y7 y8 y9 y11 : Option W} : ∃ z5 z7 z8 z9 z11 h', Rn (some n) h h' ∧
    evSs E21 100000 RBB [some (.ref n), some (.ref k), y2, some (.ref l), x4, y5, some (tx (strF bs)), y7, y8, y9, x10, y11, x12] h = .nx [some (.ref n), some (.ref k), y2, some (.ref l), x4, z5, some (tx (strF bs)), z7, z8, z9, x10, z11, x12] h' := by
  have len := K.len
  have sok := strF_ok K.good
  have big : (strF bs).length ≤ lineLen := Nat.le_trans len (by decide)
  obtain ⟨a, m, t', h1, e1, bt, to, r1, P1⟩ := sp_burst (s := strF bs) K.pot sok (strF_pos K) (by omega)
  have tl : t'.length ≤ 99000 := by rw [bt.len]; omega
  have s0 : evS E21 100000 RB0 [some (.ref n), some (.ref k), y2, some (.ref l), x4, y5, some (tx (strF bs)), y7, y8, y9, x10, y11, x12] h = .nx [some (.ref n), some (.ref k), y2, some (.ref l), x4, y5, some (tx (strF bs)), some (.int (a : Int)), some (tx t'), y9, x10, y11, x12] h1 := by
    simp only [RB0, runB, evSs, evS, ev, evs, evO, evIt, tst, tstO, sto, stos, unpk, asgT, asgTs, Out.bind_ok, Out.bind_err, Out.bind_stuck, Out.of_some, Out.of_none, Out.then_ok, Out.then_err, Out.then_stuck, SOut.seq_nx, SOut.seq_rt, SOut.seq_bk, SOut.seq_ct, SOut.seq_err, SOut.seq_stuck, List.map_cons, List.map_nil, List.length_cons, List.length_nil, List.replicate, List.cons_append, List.nil_append, List.getElem?_cons_zero, List.getElem?_cons_succ, List.set_cons_zero, List.set_cons_succ, Nat.reduceSub, Nat.reduceAdd, Nat.reduceLT, Nat.reduceLeDiff, Int.ofNat_eq_natCast, if_true, if_false, Bool.false_eq_true, Bool.not_true, Bool.not_false, e21 (show 20 < 21 by decide), e1, unpk, itemsOf_tup]
  have K1 := K.to r1
  obtain ⟨m9, h2, e2, r2, f9, l9⟩ := ev_ahead (v := 7) (a := a) (ρ := [some (.ref n), some (.ref k), y2, some (.ref l), x4, y5, some (tx (strF bs)), some (.int (a : Int)), some (tx t'), y9, x10, y11, x12]) K1 (by simp) rfl rfl rfl (by decide) (by decide)
  have s1 := evS_asg (gas := 100000) (i := 9) e2
  have K2 := K1.to r2
  obtain ⟨m11, h3, e3, r3, f11, l11⟩ := d11 (n := n) (h := h2) (s := t') tl
  have bent := bodies_bent (f := 99001) K.good bt (Nat.le_trans K.five (by decide))
  rw [bent] at f11
  have n9 : some n ≠ some m9 := ne_of_lt K1.pot l9
  have ah := ahead_ok K a
  have t1 := tst_ne (F := E21) (ρ := [some (.ref n), some (.ref k), y2, some (.ref l), x4, y5, some (tx (strF bs)), some (.int (a : Int)), some (tx t'), some (.ref m9), x10, y11, x12]) (h := h2) (x := .call 11 [.var 8]) (y := .var 9) (ev_call1 (ev_var rfl) (by rw [e21 (by decide)]; exact e3)) (ev_var rfl) (eq_txts f11 (r3.get f9 n9) (all_lt ah) (all_lt ah))
  rw [decide_eq_true rfl] at t1
  obtain ⟨m17, c17, h4, e4, r4, f17, l17⟩ := d17 (n := n) (h := h3) (s := t') tl to
  rw [bent] at f17
  have t2 := tst_ne (F := E21) (ρ := [some (.ref n), some (.ref k), y2, some (.ref l), x4, y5, some (tx (strF bs)), some (.int (a : Int)), some (tx t'), some (.ref m9), x10, y11, x12]) (h := h3) (x := .sub (.call 17 [.var 8]) (.cst (.int 0))) (y := .var 9) (ev_sub (ev_call1 (ev_var rfl) (by rw [e21 (by decide)]; exact e4)) sub_int0) (ev_var rfl) (eq_txts f17 (r4.get (r3.get f9 n9) n9) (all_lt ah) (all_lt ah))
  rw [decide_eq_true rfl] at t2
  have t3 := tst_or (b := .cmp .NotEq (.sub (.call 17 [.var 8]) (.cst (.int 0))) (.var 9)) t1
  rw [Bool.not_true, if_neg Bool.false_ne_true, t2] at t3
  have s2 : evS E21 100000 RB2 [some (.ref n), some (.ref k), y2, some (.ref l), x4, y5, some (tx (strF bs)), some (.int (a : Int)), some (tx t'), some (.ref m9), x10, y11, x12] h2 = .nx _ h4 := evS_pass t3
  have K4 := (K2.to r3).to r4
  obtain ⟨c, h5, e5, c5, r5, P5⟩ := d_draw (m := ((strF bs).length : Int) + 1) K4.pot (by omega) (by omega)
  have s3 : evS E21 100000 RB3 [some (.ref n), some (.ref k), y2, some (.ref l), x4, y5, some (tx (strF bs)), some (.int (a : Int)), some (tx t'), some (.ref m9), x10, y11, x12] h4 = .nx [some (.ref n), some (.ref k), y2, some (.ref l), x4, y5, some (tx (strF bs)), some (.int (a : Int)), some (tx t'), some (.ref m9), x10, some (.int (c : Int)), x12] h5 := by
    simp only [RB3, runB, evSs, evS, ev, evs, evO, evIt, tst, tstO, sto, stos, unpk, asgT, asgTs, Out.bind_ok, Out.bind_err, Out.bind_stuck, Out.of_some, Out.of_none, Out.then_ok, Out.then_err, Out.then_stuck, SOut.seq_nx, SOut.seq_rt, SOut.seq_bk, SOut.seq_ct, SOut.seq_err, SOut.seq_stuck, List.map_cons, List.map_nil, List.length_cons, List.length_nil, List.replicate, List.cons_append, List.nil_append, List.getElem?_cons_zero, List.getElem?_cons_succ, List.set_cons_zero, List.set_cons_succ, Nat.reduceSub, Nat.reduceAdd, Nat.reduceLT, Nat.reduceLeDiff, Int.ofNat_eq_natCast, if_true, if_false, Bool.false_eq_true, Bool.not_true, Bool.not_false, e21 (show 12 < 21 by decide), tx_len big, bin_add, e5]
  have K5 := K4.to r5
  obtain ⟨m5, h6, e6, r6, f5, l5⟩ := ev_ahead (v := 11) (a := c) (ρ := [some (.ref n), some (.ref k), y2, some (.ref l), x4, y5, some (tx (strF bs)), some (.int (a : Int)), some (tx t'), some (.ref m9), x10, some (.int (c : Int)), x12]) K5 (by simp) rfl rfl rfl (by decide) (by decide)
  have s4 := evS_asg (gas := 100000) (i := 5) e6
  have K6 := K5.to r6
  have n5 : some n ≠ some m5 := ne_of_lt K5.pot l5
  have to6 := tx_to (hp := h6) (a := strF bs) (j := c) big
  obtain ⟨ma, h7, e7, r7, fa, la⟩ := d11 (n := n) (h := h6) (s := (strF bs).take c) (by rw [List.length_take]; omega)
  rw [bodies_cut K.good (Nat.le_trans K.five (by decide))] at fa
  have ah2 := ahead_ok K c
  have v6 : ev E21 (.slc (.var 6) none (some (.var 11))) [some (.ref n), some (.ref k), y2, some (.ref l), x4, some (.ref m5), some (tx (strF bs)), some (.int (a : Int)), some (tx t'), some (.ref m9), x10, some (.int (c : Int)), x12] h6 = .ok (tx ((strF bs).take c)) h6 := by
    simp only [runB, evSs, evS, ev, evs, evO, evIt, tst, tstO, sto, stos, unpk, asgT, asgTs, Out.bind_ok, Out.bind_err, Out.bind_stuck, Out.of_some, Out.of_none, Out.then_ok, Out.then_err, Out.then_stuck, SOut.seq_nx, SOut.seq_rt, SOut.seq_bk, SOut.seq_ct, SOut.seq_err, SOut.seq_stuck, List.map_cons, List.map_nil, List.length_cons, List.length_nil, List.replicate, List.cons_append, List.nil_append, List.getElem?_cons_zero, List.getElem?_cons_succ, List.set_cons_zero, List.set_cons_succ, Nat.reduceSub, Nat.reduceAdd, Nat.reduceLT, Nat.reduceLeDiff, Int.ofNat_eq_natCast, if_true, if_false, Bool.false_eq_true, Bool.not_true, Bool.not_false, to6]
  have t4 := tst_ne (F := E21) (h := h6) (x := .call 11 [.slc (.var 6) none (some (.var 11))]) (y := .var 5) (ev_call1 v6 (by rw [e21 (by decide)]; exact e7)) (ev_var rfl) (eq_txts fa (r7.get f5 n5) (all_lt ah2) (all_lt ah2))
  rw [decide_eq_true rfl] at t4
  have to7 := tx_to (hp := h7) (a := strF bs) (j := c) big
  have to8 := tx_to (hp := h7) (a := (strF bs).take c) (j := 11) (Nat.le_trans (show ((strF bs).take c).length ≤ 99000 by rw [List.length_take]; omega) (by decide))
  have jl : (((strF bs).take c).take 11).length < 13 := by
    rw [List.length_take]
    omega
  have ad := tx_add (hp := h7) (a := strF bs) (b := ((strF bs).take c).take 11) (Nat.le_trans (show (strF bs).length + (((strF bs).take c).take 11).length ≤ 99000 by omega) (by decide))
  have to8' : slcF (tx ((strF bs).take c)) none (some (11 : Int)) h7 = some (tx (((strF bs).take c).take 11), h7) := to8
  obtain ⟨mb, h8, e8, r8, fb, lb⟩ := d11 (n := n) (h := h7) (s := strF bs ++ ((strF bs).take c).take 11) (by rw [List.length_append]; omega)
  rw [bodies_all K.good K.five jl] at fb
  have K8 := (K6.to r7).to r8
  have v7 : ev E21 (.bin .Add (.var 6) (.slc (.slc (.var 6) none (some (.var 11))) none (some (.cst (.int 11))))) [some (.ref n), some (.ref k), y2, some (.ref l), x4, some (.ref m5), some (tx (strF bs)), some (.int (a : Int)), some (tx t'), some (.ref m9), x10, some (.int (c : Int)), x12] h7 = .ok (tx (strF bs ++ ((strF bs).take c).take 11)) h7 := by
    simp only [runB, evSs, evS, ev, evs, evO, evIt, tst, tstO, sto, stos, unpk, asgT, asgTs, Out.bind_ok, Out.bind_err, Out.bind_stuck, Out.of_some, Out.of_none, Out.then_ok, Out.then_err, Out.then_stuck, SOut.seq_nx, SOut.seq_rt, SOut.seq_bk, SOut.seq_ct, SOut.seq_err, SOut.seq_stuck, List.map_cons, List.map_nil, List.length_cons, List.length_nil, List.replicate, List.cons_append, List.nil_append, List.getElem?_cons_zero, List.getElem?_cons_succ, List.set_cons_zero, List.set_cons_succ, Nat.reduceSub, Nat.reduceAdd, Nat.reduceLT, Nat.reduceLeDiff, Int.ofNat_eq_natCast, if_true, if_false, Bool.false_eq_true, Bool.not_true, Bool.not_false, to7, to8', ad]
  have t5 := tst_ne (F := E21) (h := h7) (x := .callk 11 [0] [] [.bin .Add (.var 6) (.slc (.slc (.var 6) none (some (.var 11))) none (some (.cst (.int 11))))]) (y := .var 1) (ev_callk1 v7 (by rw [e21 (by decide)]; exact e8)) (ev_var rfl) (eq_txts fb K8.kb (all_lt K.bok) (all_lt K.bok))
  rw [decide_eq_true rfl] at t5
  have t6 := tst_or (b := .cmp .NotEq (.callk 11 [0] [] [.bin .Add (.var 6) (.slc (.slc (.var 6) none (some (.var 11))) none (some (.cst (.int 11))))]) (.var 1)) t4
  rw [Bool.not_true, if_neg Bool.false_ne_true, t5] at t6
  have s5 : evS E21 100000 RB5 [some (.ref n), some (.ref k), y2, some (.ref l), x4, some (.ref m5), some (tx (strF bs)), some (.int (a : Int)), some (tx t'), some (.ref m9), x10, some (.int (c : Int)), x12] h6 = .nx _ h8 := evS_pass t6
  refine ⟨some (.ref m5), some (.int (a : Int)), some (tx t'), some (.ref m9), some (.int (c : Int)), h8, ((((((r1.trans r2).trans r3).trans r4).trans r5).trans r6).trans r7).trans r8, ?_⟩
  show evSs E21 100000 [RB0, RB1, RB2, RB3, RB4, RB5] _ _ = _
  rw [evSs_cons s0]
  have s1' : evS E21 100000 RB1 [some (.ref n), some (.ref k), y2, some (.ref l), x4, y5, some (tx (strF bs)), some (.int (a : Int)), some (tx t'), y9, x10, y11, x12] h1 = .nx [some (.ref n), some (.ref k), y2, some (.ref l), x4, y5, some (tx (strF bs)), some (.int (a : Int)), some (tx t'), some (.ref m9), x10, y11, x12] h2 := s1
  have s4' : evS E21 100000 RB4 [some (.ref n), some (.ref k), y2, some (.ref l), x4, y5, some (tx (strF bs)), some (.int (a : Int)), some (tx t'), some (.ref m9), x10, some (.int (c : Int)), x12] h5 = .nx [some (.ref n), some (.ref k), y2, some (.ref l), x4, some (.ref m5), some (tx (strF bs)), some (.int (a : Int)), some (tx t'), some (.ref m9), x10, some (.int (c : Int)), x12] h6 := s4
  rw [evSs_cons s1', evSs_cons s2, evSs_cons s3, evSs_cons s4', evSs_cons s5]
  simp only [evSs]
end
end K77

set_option Elab.async false
set_option linter.all false
set_option autoImplicit false
set_option maxRecDepth 100000
set_option maxHeartbeats 4000000
namespace K77
open PySem PySem.Spec PyProof.Rows L2 Itp
section
variable {n k l : Nat} {h : IH} {bs : List (List Nat)} {x2 x4 x5 x7 x8 x9 x10 x11 x12 : Option W}
theorem r5 (K : Kn n k l bs h) : ∃ z2 z5 z7 z8 z9 z11 h', Rn (some n) h h' ∧
    evS E21 100000 R5 [some (.ref n), some (.ref k), x2, some (.ref l), x4, x5, some (tx (strF bs)), x7, x8, x9, x10, x11, x12] h = .nx [some (.ref n), some (.ref k), z2, some (.ref l), x4, z5, some (tx (strF bs)), z7, z8, z9, x10, z11, x12] h' := by
  have hit := evIt_rng (F := E21) (n := 6) (e := .cst (.int 6)) (ρ := [some (.ref n), some (.ref k), x2, some (.ref l), x4, x5, some (tx (strF bs)), x7, x8, x9, x10, x11, x12]) (hp := h) (hp1 := h) ev_cst ⟨by omega, by omega⟩
  obtain ⟨ρ', h', q1, z2, z5, z7, z8, z9, z11, q2, q3⟩ := for_run (body := evSs E21 100000 RBB) (t := .name 2) (J := .rng 0 6)
    (fun i ρ h1 => ∃ z2 z5 z7 z8 z9 z11, ρ = [some (.ref n), some (.ref k), z2, some (.ref l), x4, z5, some (tx (strF bs)), z7, z8, z9, x10, z11, x12] ∧ Rn (some n) h h1) 6
    (fun i ρ h1 hi ⟨z2, z5, z7, z8, z9, z11, e1, r⟩ => by
      subst e1
      obtain ⟨y5, y7, y8, y9, y11, h2, r2, e2⟩ := rb_turn (x4 := x4) (x10 := x10) (x12 := x12) (y2 := some (.int (0 + (i : Int)))) (y5 := z5) (y7 := z7) (y8 := z8) (y9 := z9) (y11 := z11) (K.to r)
      exact ⟨.int (0 + (i : Int)), _, _, h2, by rw [cur_rng, if_pos hi], rfl, .inl e2, _, y5, y7, y8, y9, y11, rfl, r.trans r2⟩)
    (fun ρ h1 _ => by rw [cur_rng, if_neg (by omega)]) 6 0 _ h (by omega) ⟨x2, x5, x7, x8, x9, x11, rfl, Rn.refl⟩
  refine ⟨z2, z5, z7, z8, z9, z11, h', q3, ?_⟩
  rw [R5, evS_for hit, itLen_rng, ← q2]
  exact q1
theorem sum_le : ∀ (ts : List (List Nat)), (∀ t ∈ ts, t.length ≤ 5012) → (ts.map (·.length)).sum ≤ 5012 * ts.length
  | [], _ => Nat.le_refl _
  | t :: ts, h => by
    have a := sum_le ts fun x hx => h x (List.mem_cons_of_mem _ hx)
    have b := h t (List.mem_cons_self ..)
    rw [List.map_cons, List.sum_cons, List.length_cons]
    omega
theorem flat_ok : ∀ (ts : List (List Nat)), (∀ t ∈ ts, t.all ok = true) → ts.flatten.all ok = true
  | [], _ => rfl
  | t :: ts, h => by
    rw [List.flatten_cons, List.all_append, h t (List.mem_cons_self ..), flat_ok ts fun x hx => h x (List.mem_cons_of_mem _ hx)]
    rfl
theorem r6 (K : Kn n k l bs h) : ∃ od h', od.all ok = true ∧ od.length ≤ 25060 ∧ Rn (some n) h h' ∧
    evS E21 100000 R6 [some (.ref n), some (.ref k), x2, some (.ref l), x4, x5, some (tx (strF bs)), x7, x8, x9, x10, x11, x12] h = .nx [some (.ref n), some (.ref k), x2, some (.ref l), x4, x5, some (tx (strF bs)), x7, x8, x9, x10, x11, some (tx od)] h' := by
  obtain ⟨ρ, hρ⟩ : ∃ ρ : IS, ρ = [some (.ref n), some (.ref k), x2, some (.ref l), x4, x5, some (tx (strF bs)), x7, x8, x9, x10, x11, x12] := ⟨_, rfl⟩
  have hit := evIt_rng (F := E21) (n := 5) (e := .cst (.int 5)) (ρ := ρ) (hp := h) (hp1 := h) ev_cst ⟨by omega, by omega⟩
  obtain ⟨b, bs', eb⟩ : ∃ b bs', bs = b :: bs' := by
    cases bs with
    | nil => have := K.one; simp at this
    | cons b bs' => exact ⟨b, bs', rfl⟩
  have gb := K.good b (by rw [eb]; exact List.mem_cons_self ..)
  obtain ⟨h', ys, e2, r2, hl2, e3, hl3, ⟨ts, c1, c2, c3⟩⟩ := ev_comp_W (n := some n) (F := E21) (ρ := ρ) (hp := h) (a := .call 13 [.var 0, OD]) (t := .name 2) (own := [2]) (c := none) 5
    (fun i acc => ∃ ts : List (List Nat), acc = ts.map tx ∧ ts.length = i ∧ ∀ t ∈ ts, t.all ok = true ∧ t.length ≤ 5012) hit Rn.refl (itLen_rng ..) (by decide) (ne_of_lt K.pot (Nat.le_refl _)) ⟨[], rfl, rfl, fun t ht => by simp at ht⟩ (fun i h1 acc hi r ea ⟨ts, c1, c2, c3⟩ => by
      have K1 := K.to r
      have lf := K1.lf
      rw [eb] at lf
      obtain ⟨xs, hxs⟩ : ∃ xs : List (List Nat), xs = [[48, 48, 48, 49], [57, 57, 57, 56], [48, 48, 48, 49, 57, 57, 57, 56], [97], [10], [32], frameL b, [57, 57, 57, 57, 48, 48, 48, 48]] := ⟨_, rfl⟩
      have good : ∀ t ∈ xs, t.all ok = true ∧ t.length ≤ 5012 := by
        rw [hxs]
        intro t ht
        simp only [List.mem_cons, List.not_mem_nil, or_false] at ht
        rcases ht with rfl | rfl | rfl | rfl | rfl | rfl | rfl | rfl
        · exact ⟨by decide, by decide⟩
        · exact ⟨by decide, by decide⟩
        · exact ⟨by decide, by decide⟩
        · exact ⟨by decide, by decide⟩
        · exact ⟨by decide, by decide⟩
        · exact ⟨by decide, by decide⟩
        · exact ⟨frame_ok gb.ok, by rw [frameL_len]; have := gb.le; omega⟩
        · exact ⟨by decide, by decide⟩
      obtain ⟨x, xm, h3, e3, r3, P3⟩ := d_pick (n := n) (h := h1 ++ [.lst (xs.map tx)]) (l := h1.length) (xs := xs.map tx) K1.pot.app (by have := K1.pot.lt; omega) get_last (by rw [hxs]; simp) (by rw [hxs]; simp) (by
        intro x hx
        obtain ⟨t, _, rfl⟩ := List.mem_map.mp hx
        simp)
      obtain ⟨t, tm, rfl⟩ := List.mem_map.mp xm
      have g0 : ((wipeI ρ [2]).set 2 (some (.int (0 + (i : Int)))))[0]? = some (some (.ref n)) := by rw [hρ]; rfl
      have g3 : ((wipeI ρ [2]).set 2 (some (.int (0 + (i : Int)))))[3]? = some (some (.ref l)) := by rw [hρ]; rfl
      refine ⟨.int (0 + (i : Int)), _, true, h1, by rw [cur_rng, if_pos hi], rfl, tstO_none, Rn.refl, fun _ => ⟨tx t, h3, ?_, Rn.app.trans r3, ts ++ [t], by rw [c1]; simp, by simp [c2], fun y hy => ?_⟩, fun z => nomatch z⟩
      · have l8 : 8 ≤ lineLen := by decide
        rw [hxs] at e3
        have sb := ev_sub (F := E21) (ρ := (wipeI ρ [2]).set 2 (some (.int (0 + (i : Int))))) (h := h1) (ev_var g3) (get0 lf)
        have od : ev E21 OD ((wipeI ρ [2]).set 2 (some (.int (0 + (i : Int))))) h1 = .ok (.ref h1.length) (h1 ++ [.lst ([[48, 48, 48, 49], [57, 57, 57, 56], [48, 48, 48, 49, 57, 57, 57, 56], [97], [10], [32], frameL b, [57, 57, 57, 57, 48, 48, 48, 48]].map tx)]) := by
          have m : ∀ es, ev E21 (.lst es) ((wipeI ρ [2]).set 2 (some (.int (0 + (i : Int))))) h1 = (evs E21 es ((wipeI ρ [2]).set 2 (some (.int (0 + (i : Int))))) h1).bind fun ws hp => if ws.length ≤ lineLen then .ok (.ref hp.length) (hp ++ [.lst ws]) else .stuck := fun es => by simp only [ev]
          rw [OD, m]
          simp only [evs, ev_cst, sb, Out.bind_ok]
          exact if_pos l8
        have t : ev E21 (.call 13 [.var 0, OD]) ((wipeI ρ [2]).set 2 (some (.int (0 + (i : Int))))) h1 = (evs E21 [.var 0, OD] ((wipeI ρ [2]).set 2 (some (.int (0 + (i : Int))))) h1).bind fun ws hp => E21 13 ws hp := by simp only [ev]
        rw [t]
        simp only [evs, ev_var g0, od, Out.bind_ok, e21 (show 13 < 21 by decide)]
        exact e3
      · rcases List.mem_append.mp hy with q | q
        · exact c3 y q
        · rw [List.mem_singleton.mp q]
          exact good t tm) (fun h1 _ => by rw [cur_rng, if_neg (by omega)])
  have sl := sum_le ts fun t ht => (c3 t ht).2
  have jn := ev_join (F := E21) (ρ := ρ) (ys := ts) e2 (items_ref e3) c1 (by rw [c2] at sl; exact Nat.le_trans sl (by decide))
  refine ⟨ts.flatten, h', flat_ok ts fun t ht => (c3 t ht).1, by rw [show ts.flatten.length = (ts.map (·.length)).sum from List.length_flatten]; omega, r2, ?_⟩
  rw [R6, ← hρ, evS_asg jn, hρ]
  rfl
theorem r7 (K : Kn n k l bs h) {od : List Nat} (ho : od.all ok = true) (hl : od.length ≤ 25060) : ∃ h', Rn (some n) h h' ∧
    evS E21 100000 R7 [some (.ref n), some (.ref k), x2, some (.ref l), x4, x5, some (tx (strF bs)), x7, x8, x9, x10, x11, some (tx od)] h = .rt (.bl true) h' := by
  obtain ⟨ρ, hρ⟩ : ∃ ρ : IS, ρ = [some (.ref n), some (.ref k), x2, some (.ref l), x4, x5, some (tx (strF bs)), x7, x8, x9, x10, x11, some (tx od)] := ⟨_, rfl⟩
  have len := K.len
  obtain ⟨m1, h1, e1, q1, f1, l1⟩ := d11 (n := n) (h := h) (s := od) (by omega)
  obtain ⟨m2, c2, h2, e2, q2, f2, l2⟩ := d17 (n := n) (h := h1) (s := od) (by omega) ho
  have n1 : some n ≠ some m1 := ne_of_lt K.pot l1
  have b1 := bodies_ok 99001 od
  have a := ev_eq (F := E21) (ρ := ρ) (h := h) (x := .call 11 [.var 12]) (y := .sub (.call 17 [.var 12]) (.cst (.int 0))) (ev_call1 (ev_var (by rw [hρ]; rfl)) (by rw [e21 (by decide)]; exact e1)) (ev_sub (ev_call1 (ev_var (by rw [hρ]; rfl)) (by rw [e21 (by decide)]; exact e2)) sub_int0) (eq_txts (q2.get f1 n1) f2 (all_lt b1) (all_lt b1))
  rw [decide_eq_true rfl] at a
  have ad : ∀ h, binF .Add (tx (strF bs)) (tx od) h = some (tx (strF bs ++ od), h) := fun h => tx_add (Nat.le_trans (show (strF bs).length + od.length ≤ 99000 by omega) (by decide))
  have v : ∀ h, ev E21 (.bin .Add (.var 6) (.var 12)) ρ h = .ok (tx (strF bs ++ od)) h := fun h => by
    rw [hρ]
    simp only [runB, evSs, evS, ev, evs, evO, evIt, tst, tstO, sto, stos, unpk, asgT, asgTs, Out.bind_ok, Out.bind_err, Out.bind_stuck, Out.of_some, Out.of_none, Out.then_ok, Out.then_err, Out.then_stuck, SOut.seq_nx, SOut.seq_rt, SOut.seq_bk, SOut.seq_ct, SOut.seq_err, SOut.seq_stuck, List.map_cons, List.map_nil, List.length_cons, List.length_nil, List.replicate, List.cons_append, List.nil_append, List.getElem?_cons_zero, List.getElem?_cons_succ, List.set_cons_zero, List.set_cons_succ, Nat.reduceSub, Nat.reduceAdd, Nat.reduceLT, Nat.reduceLeDiff, Int.ofNat_eq_natCast, if_true, if_false, Bool.false_eq_true, Bool.not_true, Bool.not_false, ad]
  have sl : (strF bs ++ od).length ≤ 99000 := by rw [List.length_append]; omega
  have so : (strF bs ++ od).all ok = true := by rw [List.all_append, strF_ok K.good, ho]; rfl
  have K2 := (K.to q1).to q2
  obtain ⟨m3, h3, e3, q3, f3, l3⟩ := d11 (n := n) (h := h2) (s := strF bs ++ od) sl
  obtain ⟨m4, c4, h4, e4, q4, f4, l4⟩ := d17 (n := n) (h := h3) (s := strF bs ++ od) sl so
  have n3 : some n ≠ some m3 := ne_of_lt K2.pot l3
  have b3 := bodies_ok 99001 (strF bs ++ od)
  have b := ev_eq (F := E21) (ρ := ρ) (h := h2) (x := .call 11 [.bin .Add (.var 6) (.var 12)]) (y := .sub (.call 17 [.bin .Add (.var 6) (.var 12)]) (.cst (.int 0))) (ev_call1 (v _) (by rw [e21 (by decide)]; exact e3)) (ev_sub (ev_call1 (v _) (by rw [e21 (by decide)]; exact e4)) sub_int0) (eq_txts (q4.get f3 n3) f4 (all_lt b3) (all_lt b3))
  rw [decide_eq_true rfl] at b
  refine ⟨h4, ((q1.trans q2).trans q3).trans q4, ?_⟩
  rw [R7, ← hρ]
  exact evS_ret ((ev_andT a rfl).trans b)
theorem sp_right (P : Pot h n) : ∃ h', G dcs 21 [.ref n] h = .ok (.bl true) h' ∧ Rn (some n) h h' := by
  have main : ∃ h', runB E21 100000 b__law_right 13 [.ref n] h = .ok (.bl true) h' ∧ Rn (some n) h h' := by
    obtain ⟨bs, k, h1, g, b1, b5, kl, ek, q1, s0⟩ := r0 P
    have P1 := q1.pot n rfl P
    have s1 := r1 (n := n) (k := k) (x2 := none) (x3 := none) (x5 := none) (x6 := none) (x7 := none) (x8 := none) (x9 := none) (x10 := none) (x11 := none) (x12 := none) g b5 ek
    have kn : some n ≠ some k := ne_of_lt P kl
    have q2 : Rn (some n) h1 (h1 ++ [.lst ((bs.map frameL).map tx)]) := Rn.app
    have K : Kn n k h1.length bs (h1 ++ [.lst ((bs.map frameL).map tx)]) := ⟨P1.app, kn, ne_of_lt P1 (Nat.le_refl _), q2.get ek kn, get_last, g, b1, b5⟩
    obtain ⟨h3, q3, s2⟩ := r2 (x2 := none) (x6 := none) (x7 := none) (x8 := none) (x9 := none) (x10 := none) (x11 := none) (x12 := none) K
    have K3 := K.to q3
    have s3 := r3 (x2 := none) (x4 := none) (x5 := none) (x6 := none) (x7 := none) (x8 := none) (x9 := none) (x10 := none) (x11 := none) (x12 := none) K3
    obtain ⟨h4, q4, s4⟩ := r4 (x2 := none) (x4 := none) (x5 := none) (x7 := none) (x8 := none) (x9 := none) (x10 := none) (x11 := none) (x12 := none) K3
    have K4 := K3.to q4
    obtain ⟨z2, z5, z7, z8, z9, z11, h5, q5, s5⟩ := r5 (x2 := none) (x4 := none) (x5 := none) (x7 := none) (x8 := none) (x9 := none) (x10 := none) (x11 := none) (x12 := none) K4
    have K5 := K4.to q5
    obtain ⟨od, h6, o1, o2, q6, s6⟩ := r6 (x2 := z2) (x4 := none) (x5 := z5) (x7 := z7) (x8 := z8) (x9 := z9) (x10 := none) (x11 := z11) (x12 := none) K5
    obtain ⟨h7, q7, s7⟩ := r7 (x2 := z2) (x4 := none) (x5 := z5) (x7 := z7) (x8 := z8) (x9 := z9) (x10 := none) (x11 := z11) (K5.to q6) o1 o2
    refine ⟨h7, ?_, ((((((q1.trans q2).trans q3).trans q4).trans q5).trans q6).trans q7)⟩
    rw [right_eq]
    refine runB_rt ?_
    show evSs E21 100000 _ [some (.ref n), none, none, none, none, none, none, none, none, none, none, none, none] h = _
    rw [evSs_cons s0, evSs_cons s1, evSs_cons s2, evSs_cons s3, evSs_cons s4, evSs_cons s5, evSs_cons s6]
    exact evSs_ret s7
  obtain ⟨h', e, r⟩ := main
  obtain ⟨h2, e2, r2⟩ := fin_W (w := .bl true) r
  exact ⟨h2, by rw [g__law_right rfl, e, e2], r2⟩
end
theorem law_holds (ns : List Int) (hn : ns.length ≤ 63) : ∃ hp, G dcs 22 [.ref 0] [.flst (ns.map W.int)] = .ok (.bl true) hp := by
  obtain ⟨h, eh⟩ : ∃ h : IH, h = [.flst (ns.map W.int)] := ⟨_, rfl⟩
  have e0 : h[0]? = some (.flst (ns.map .int)) := by rw [eh]; rfl
  rw [← eh]
  obtain ⟨N, hN⟩ : ∃ N : Nat, N = max 1 (min 2 ns.length) := ⟨_, rfl⟩
  have eb : b_law = [.ret (.blt .all [.comp (.call 21 [.call 0 [.var 0, .var 1]]) (.name 1) (.rng (.blt .max [.cst (.int 1), .blt .min [.cst (.int 2), .blt .len [.var 0]]])) none [1]])] := rfl
  have ln : bfF .len [.ref 0] h = some (.int (ns.length : Int), h) := by rw [bf_len_fref e0]; simp
  have er : ev (envTo dcs 22) (.blt .max [.cst (.int 1), .blt .min [.cst (.int 2), .blt .len [.var 0]]]) [some (.ref 0), none] h = .ok (.int (N : Int)) h := by
    have q : (if (if (ns.length : Int) < 2 then (ns.length : Int) else 2) > 1 then (if (ns.length : Int) < 2 then (ns.length : Int) else 2) else 1) = (N : Int) := by
      rw [hN]
      split <;> split <;> omega
    simp only [runB, evSs, evS, ev, evs, evO, evIt, tst, tstO, sto, stos, unpk, asgT, asgTs, Out.bind_ok, Out.bind_err, Out.bind_stuck, Out.of_some, Out.of_none, Out.then_ok, Out.then_err, Out.then_stuck, SOut.seq_nx, SOut.seq_rt, SOut.seq_bk, SOut.seq_ct, SOut.seq_err, SOut.seq_stuck, List.map_cons, List.map_nil, List.length_cons, List.length_nil, List.replicate, List.cons_append, List.nil_append, List.getElem?_cons_zero, List.getElem?_cons_succ, List.set_cons_zero, List.set_cons_succ, Nat.reduceSub, Nat.reduceAdd, Nat.reduceLT, Nat.reduceLeDiff, Int.ofNat_eq_natCast, if_true, if_false, Bool.false_eq_true, Bool.not_true, Bool.not_false, ln, bf_min, bf_max, q]
  have hit := evIt_rng er ⟨by omega, by omega⟩
  obtain ⟨h', ys, e2, r2, hl2, e3, hl3, e4⟩ := ev_comp_W (n := none) (F := envTo dcs 22) (ρ := [some (.ref 0), none]) (hp := h) (a := .call 21 [.call 0 [.var 0, .var 1]]) (t := .name 1) (own := [1]) (c := none) N
    (fun i acc => ∀ w ∈ acc, w = .bl true) hit Rn.refl (itLen_rng ..) (Nat.lt_of_le_of_lt (show N ≤ 100 by omega) (by decide)) (fun z => nomatch z) (fun w hw => by simp at hw) (fun i h1 acc hi r ea hacc => by
      have e1 := r.get e0 (fun z => nomatch z)
      obtain ⟨p0, p1, ep, z0, z1, z2⟩ := s_pot (k := i) e1 (by omega)
      have P : Pot (h1 ++ [.lst [.int p0, .int p1]]) h1.length := ⟨p0, p1, get_last, z0, z1, z2⟩
      obtain ⟨h3, e3, r3⟩ := sp_right P
      have q : (0 : Int) + (i : Int) = (i : Int) := by omega
      refine ⟨.int (0 + (i : Int)), _, true, h1, by rw [cur_rng, if_pos hi], rfl, tstO_none, Rn.refl, fun _ => ⟨.bl true, h3, ?_, ⟨?_, fun j hj _ => ?_, fun j z => nomatch z⟩, fun w hw => ?_⟩, fun z => nomatch z⟩
      · refine ev_call1 (u := .ref h1.length) (h1 := h1 ++ [.lst [.int p0, .int p1]]) ?_ (by rw [env_lt (show 21 < 22 by decide)]; exact e3)
        rw [q]
        simp only [ev, evs, wipeI, List.set_cons_succ, List.set_cons_zero, List.getElem?_cons_zero, List.getElem?_cons_succ, Out.bind_ok, env_lt (show 0 < 22 by decide), ep]
      · have := r3.le
        rw [List.length_append] at this
        omega
      · rw [r3.keep j (by rw [List.length_append]; omega) (fun z => by
          have : h1.length = j := Option.some.inj z
          omega), List.getElem?_append_left hj]
      · rcases List.mem_append.mp hw with q | q
        · exact hacc w q
        · exact List.mem_singleton.mp q) (fun h1 _ => by rw [cur_rng, if_neg (by omega)])
  obtain ⟨fb, b1, b2⟩ := bools_true ys e4
  have ea := ev_blt1 e2 (all_ref e3 b1)
  rw [b2] at ea
  obtain ⟨h2, f2, _⟩ := fin_W (n := none) (w := .bl true) r2
  refine ⟨h2, ?_⟩
  rw [g_law rfl, ← f2]
  congr 1
  rw [eb]
  exact runB_rt (evSs_ret (evS_ret ea))
end K77

set_option Elab.async false
set_option maxRecDepth 100000
set_option maxHeartbeats 8000000
namespace K77
open PySem PySem.Spec PyProof.Rows L2 Itp
theorem all_mk {l : PySem.W.OpenLaw} {w : World} {K : PySem.W.Frag} {h : Heap} {mg : Str → Option Value} {fa : Addr} {ca : Nat → Addr} (X : K.In h) (Gr : h.Ns mainGlobals mg) (hfa : mg "law" = some (.ref fa))
    {t1 : Tok} {t2 : Tok} {t3 : Tok} {t4 : Tok} {t5 : Tok} {fa0 : Addr} {od_0 : Option Addr} {an_0 : Option Addr} {sl_0 : Array (Option Value)} {oc_0 : Value} {kV_0 : Value} {dc_0 : Value} {pmv_0 : Value} {cdv_0 : Value} {ctv_0 : Value} {fa1 : Addr} {od_1 : Option Addr} {an_1 : Option Addr} {sl_1 : Array (Option Value)} {oc_1 : Value} {kV_1 : Value} {dc_1 : Value} {pmv_1 : Value} {cdv_1 : Value} {ctv_1 : Value} {fa2 : Addr} {od_2 : Option Addr} {an_2 : Option Addr} {sl_2 : Array (Option Value)} {oc_2 : Value} {kV_2 : Value} {dc_2 : Value} {pmv_2 : Value} {cdv_2 : Value} {ctv_2 : Value} {fa3 : Addr} {od_3 : Option Addr} {an_3 : Option Addr} {sl_3 : Array (Option Value)} {oc_3 : Value} {kV_3 : Value} {dc_3 : Value} {pmv_3 : Value} {cdv_3 : Value} {ctv_3 : Value} {fa4 : Addr} {od_4 : Option Addr} {an_4 : Option Addr} {sl_4 : Array (Option Value)} {oc_4 : Value} {kV_4 : Value} {dc_4 : Value} {pmv_4 : Value} {cdv_4 : Value} {ctv_4 : Value} {fa5 : Addr} {od_5 : Option Addr} {an_5 : Option Addr} {sl_5 : Array (Option Value)} {oc_5 : Value} {kV_5 : Value} {dc_5 : Value} {pmv_5 : Value} {cdv_5 : Value} {ctv_5 : Value} {fa6 : Addr} {od_6 : Option Addr} {an_6 : Option Addr} {sl_6 : Array (Option Value)} {oc_6 : Value} {kV_6 : Value} {dc_6 : Value} {pmv_6 : Value} {cdv_6 : Value} {ctv_6 : Value} {fa7 : Addr} {od_7 : Option Addr} {an_7 : Option Addr} {sl_7 : Array (Option Value)} {oc_7 : Value} {kV_7 : Value} {dc_7 : Value} {pmv_7 : Value} {cdv_7 : Value} {ctv_7 : Value} {fa8 : Addr} {od_8 : Option Addr} {an_8 : Option Addr} {sl_8 : Array (Option Value)} {oc_8 : Value} {kV_8 : Value} {dc_8 : Value} {pmv_8 : Value} {cdv_8 : Value} {ctv_8 : Value} {fa9 : Addr} {od_9 : Option Addr} {an_9 : Option Addr} {sl_9 : Array (Option Value)} {oc_9 : Value} {kV_9 : Value} {dc_9 : Value} {pmv_9 : Value} {cdv_9 : Value} {ctv_9 : Value} {fa10 : Addr} {od_10 : Option Addr} {an_10 : Option Addr} {sl_10 : Array (Option Value)} {oc_10 : Value} {kV_10 : Value} {dc_10 : Value} {pmv_10 : Value} {cdv_10 : Value} {ctv_10 : Value} {fa11 : Addr} {od_11 : Option Addr} {an_11 : Option Addr} {sl_11 : Array (Option Value)} {oc_11 : Value} {kV_11 : Value} {dc_11 : Value} {pmv_11 : Value} {cdv_11 : Value} {ctv_11 : Value} {fa12 : Addr} {od_12 : Option Addr} {an_12 : Option Addr} {sl_12 : Array (Option Value)} {oc_12 : Value} {kV_12 : Value} {dc_12 : Value} {pmv_12 : Value} {cdv_12 : Value} {ctv_12 : Value} {fa13 : Addr} {od_13 : Option Addr} {an_13 : Option Addr} {sl_13 : Array (Option Value)} {oc_13 : Value} {kV_13 : Value} {dc_13 : Value} {pmv_13 : Value} {cdv_13 : Value} {ctv_13 : Value} {fa14 : Addr} {od_14 : Option Addr} {an_14 : Option Addr} {sl_14 : Array (Option Value)} {oc_14 : Value} {kV_14 : Value} {dc_14 : Value} {pmv_14 : Value} {cdv_14 : Value} {ctv_14 : Value} {fa15 : Addr} {od_15 : Option Addr} {an_15 : Option Addr} {sl_15 : Array (Option Value)} {oc_15 : Value} {kV_15 : Value} {dc_15 : Value} {pmv_15 : Value} {cdv_15 : Value} {ctv_15 : Value} {fa16 : Addr} {od_16 : Option Addr} {an_16 : Option Addr} {sl_16 : Array (Option Value)} {oc_16 : Value} {kV_16 : Value} {dc_16 : Value} {pmv_16 : Value} {cdv_16 : Value} {ctv_16 : Value} {fa17 : Addr} {od_17 : Option Addr} {an_17 : Option Addr} {sl_17 : Array (Option Value)} {oc_17 : Value} {kV_17 : Value} {dc_17 : Value} {pmv_17 : Value} {cdv_17 : Value} {ctv_17 : Value} {fa18 : Addr} {od_18 : Option Addr} {an_18 : Option Addr} {sl_18 : Array (Option Value)} {oc_18 : Value} {kV_18 : Value} {dc_18 : Value} {pmv_18 : Value} {cdv_18 : Value} {ctv_18 : Value} {fa19 : Addr} {od_19 : Option Addr} {an_19 : Option Addr} {sl_19 : Array (Option Value)} {oc_19 : Value} {kV_19 : Value} {dc_19 : Value} {pmv_19 : Value} {cdv_19 : Value} {ctv_19 : Value} {fa20 : Addr} {od_20 : Option Addr} {an_20 : Option Addr} {sl_20 : Array (Option Value)} {oc_20 : Value} {kV_20 : Value} {dc_20 : Value} {pmv_20 : Value} {cdv_20 : Value} {ctv_20 : Value} {fa21 : Addr} {od_21 : Option Addr} {an_21 : Option Addr} {sl_21 : Array (Option Value)} {oc_21 : Value} {kV_21 : Value} {dc_21 : Value} {pmv_21 : Value} {cdv_21 : Value} {ctv_21 : Value} {fa22 : Addr} {od_22 : Option Addr} {an_22 : Option Addr} {sl_22 : Array (Option Value)} {oc_22 : Value} {kV_22 : Value} {dc_22 : Value} {pmv_22 : Value} {cdv_22 : Value} {ctv_22 : Value}
    (g_MOST_BODY : PySem.W.nsIn K mainGlobals "MOST_BODY" = some (some (.int 5000 t1)))
    (g_TAIL : PySem.W.nsIn K mainGlobals "TAIL" = some (some (.int 4 t2)))
    (g_SIZE : PySem.W.nsIn K mainGlobals "SIZE" = some (some (.int 4 t3)))
    (g_NUMBERED : PySem.W.nsIn K mainGlobals "NUMBERED" = some (some (.str " !\"#$%&'()*+,-./0123456789:;<=>?@ABCDEFGHIJKLMNOPQRSTUVWXYZ[\\]^_`abcdefghijklmnopqrstuvwxyz{|}~\n" t4)))
    (g_DIGITS : PySem.W.nsIn K mainGlobals "DIGITS" = some (some (.str "0123456789" t5)))
    (z_abs : PySem.W.nsIn K mainGlobals "abs" = some none)
    (z_all : PySem.W.nsIn K mainGlobals "all" = some none)
    (z_divmod : PySem.W.nsIn K mainGlobals "divmod" = some none)
    (z_enumerate : PySem.W.nsIn K mainGlobals "enumerate" = some none)
    (z_int : PySem.W.nsIn K mainGlobals "int" = some none)
    (z_isinstance : PySem.W.nsIn K mainGlobals "isinstance" = some none)
    (z_len : PySem.W.nsIn K mainGlobals "len" = some none)
    (z_max : PySem.W.nsIn K mainGlobals "max" = some none)
    (z_min : PySem.W.nsIn K mainGlobals "min" = some none)
    (z_ord : PySem.W.nsIn K mainGlobals "ord" = some none)
    (z_range : PySem.W.nsIn K mainGlobals "range" = some none)
    (z_str : PySem.W.nsIn K mainGlobals "str" = some none)
    (z_zip : PySem.W.nsIn K mainGlobals "zip" = some none)
    (a_0 : PySem.W.nsIn K mainGlobals "_law_pot" = some (some (.ref fa0)))
    (l_0 : K.lookup fa0 = some ⟨oc_0, od_0, .func (PySem.W.fnOf "_law_pot" "_law_pot" (defArgs s__law_pot) (defBody s__law_pot) (defScope s__law_pot) .none kV_0 dc_0 pmv_0 an_0 cdv_0 ctv_0), sl_0⟩)
    (cc_0 : PySem.W.codeIn K cdv_0 "_law_pot" = true)
    (k_0 : PySem.W.keepIn K (.ref fa0) = true)
    (a_1 : PySem.W.nsIn K mainGlobals "is_sign" = some (some (.ref fa1)))
    (l_1 : K.lookup fa1 = some ⟨oc_1, od_1, .func (PySem.W.fnOf "is_sign" "is_sign" (defArgs s_is_sign) (defBody s_is_sign) (defScope s_is_sign) .none kV_1 dc_1 pmv_1 an_1 cdv_1 ctv_1), sl_1⟩)
    (cc_1 : PySem.W.codeIn K cdv_1 "is_sign" = true)
    (k_1 : PySem.W.keepIn K (.ref fa1) = true)
    (a_2 : PySem.W.nsIn K mainGlobals "is_body" = some (some (.ref fa2)))
    (l_2 : K.lookup fa2 = some ⟨oc_2, od_2, .func (PySem.W.fnOf "is_body" "is_body" (defArgs s_is_body) (defBody s_is_body) (defScope s_is_body) .none kV_2 dc_2 pmv_2 an_2 cdv_2 ctv_2), sl_2⟩)
    (cc_2 : PySem.W.codeIn K cdv_2 "is_body" = true)
    (k_2 : PySem.W.keepIn K (.ref fa2) = true)
    (a_3 : PySem.W.nsIn K mainGlobals "number_of" = some (some (.ref fa3)))
    (l_3 : K.lookup fa3 = some ⟨oc_3, od_3, .func (PySem.W.fnOf "number_of" "number_of" (defArgs s_number_of) (defBody s_number_of) (defScope s_number_of) .none kV_3 dc_3 pmv_3 an_3 cdv_3 ctv_3), sl_3⟩)
    (cc_3 : PySem.W.codeIn K cdv_3 "number_of" = true)
    (k_3 : PySem.W.keepIn K (.ref fa3) = true)
    (a_4 : PySem.W.nsIn K mainGlobals "sums_by" = some (some (.ref fa4)))
    (l_4 : K.lookup fa4 = some ⟨oc_4, od_4, .func (PySem.W.fnOf "sums_by" "sums_by" (defArgs s_sums_by) (defBody s_sums_by) (defScope s_sums_by) .none kV_4 dc_4 pmv_4 an_4 cdv_4 ctv_4), sl_4⟩)
    (cc_4 : PySem.W.codeIn K cdv_4 "sums_by" = true)
    (k_4 : PySem.W.keepIn K (.ref fa4) = true)
    (a_5 : PySem.W.nsIn K mainGlobals "tail_of" = some (some (.ref fa5)))
    (l_5 : K.lookup fa5 = some ⟨oc_5, od_5, .func (PySem.W.fnOf "tail_of" "tail_of" (defArgs s_tail_of) (defBody s_tail_of) (defScope s_tail_of) .none kV_5 dc_5 pmv_5 an_5 cdv_5 ctv_5), sl_5⟩)
    (cc_5 : PySem.W.codeIn K cdv_5 "tail_of" = true)
    (k_5 : PySem.W.keepIn K (.ref fa5) = true)
    (a_6 : PySem.W.nsIn K mainGlobals "size_told" = some (some (.ref fa6)))
    (l_6 : K.lookup fa6 = some ⟨oc_6, od_6, .func (PySem.W.fnOf "size_told" "size_told" (defArgs s_size_told) (defBody s_size_told) (defScope s_size_told) .none kV_6 dc_6 pmv_6 an_6 cdv_6 ctv_6), sl_6⟩)
    (cc_6 : PySem.W.codeIn K cdv_6 "size_told" = true)
    (k_6 : PySem.W.keepIn K (.ref fa6) = true)
    (a_7 : PySem.W.nsIn K mainGlobals "frame_by" = some (some (.ref fa7)))
    (l_7 : K.lookup fa7 = some ⟨oc_7, od_7, .func (PySem.W.fnOf "frame_by" "frame_by" (defArgs s_frame_by) (defBody s_frame_by) (defScope s_frame_by) .none kV_7 dc_7 pmv_7 an_7 cdv_7 ctv_7), sl_7⟩)
    (cc_7 : PySem.W.codeIn K cdv_7 "frame_by" = true)
    (k_7 : PySem.W.keepIn K (.ref fa7) = true)
    (a_8 : PySem.W.nsIn K mainGlobals "frame" = some (some (.ref fa8)))
    (l_8 : K.lookup fa8 = some ⟨oc_8, od_8, .func (PySem.W.fnOf "frame" "frame" (defArgs s_frame) (defBody s_frame) (defScope s_frame) .none kV_8 dc_8 pmv_8 an_8 cdv_8 ctv_8), sl_8⟩)
    (cc_8 : PySem.W.codeIn K cdv_8 "frame" = true)
    (k_8 : PySem.W.keepIn K (.ref fa8) = true)
    (a_9 : PySem.W.nsIn K mainGlobals "body_at" = some (some (.ref fa9)))
    (l_9 : K.lookup fa9 = some ⟨oc_9, od_9, .func (PySem.W.fnOf "body_at" "body_at" (defArgs s_body_at) (defBody s_body_at) (defScope s_body_at) .none kV_9 dc_9 pmv_9 an_9 cdv_9 ctv_9), sl_9⟩)
    (cc_9 : PySem.W.codeIn K cdv_9 "body_at" = true)
    (k_9 : PySem.W.keepIn K (.ref fa9) = true)
    (a_10 : PySem.W.nsIn K mainGlobals "bodies_by" = some (some (.ref fa10)))
    (l_10 : K.lookup fa10 = some ⟨oc_10, od_10, .func (PySem.W.fnOf "bodies_by" "bodies_by" (defArgs s_bodies_by) (defBody s_bodies_by) (defScope s_bodies_by) .none kV_10 dc_10 pmv_10 an_10 cdv_10 ctv_10), sl_10⟩)
    (cc_10 : PySem.W.codeIn K cdv_10 "bodies_by" = true)
    (k_10 : PySem.W.keepIn K (.ref fa10) = true)
    (a_11 : PySem.W.nsIn K mainGlobals "bodies_of" = some (some (.ref fa11)))
    (l_11 : K.lookup fa11 = some ⟨oc_11, od_11, .func (PySem.W.fnOf "bodies_of" "bodies_of" (defArgs s_bodies_of) (defBody s_bodies_of) (defScope s_bodies_of) .none kV_11 dc_11 pmv_11 an_11 cdv_11 ctv_11), sl_11⟩)
    (cc_11 : PySem.W.codeIn K cdv_11 "bodies_of" = true)
    (k_11 : PySem.W.keepIn K (.ref fa11) = true)
    (a_12 : PySem.W.nsIn K mainGlobals "_law_draw" = some (some (.ref fa12)))
    (l_12 : K.lookup fa12 = some ⟨oc_12, od_12, .func (PySem.W.fnOf "_law_draw" "_law_draw" (defArgs s__law_draw) (defBody s__law_draw) (defScope s__law_draw) .none kV_12 dc_12 pmv_12 an_12 cdv_12 ctv_12), sl_12⟩)
    (cc_12 : PySem.W.codeIn K cdv_12 "_law_draw" = true)
    (k_12 : PySem.W.keepIn K (.ref fa12) = true)
    (a_13 : PySem.W.nsIn K mainGlobals "_law_pick" = some (some (.ref fa13)))
    (l_13 : K.lookup fa13 = some ⟨oc_13, od_13, .func (PySem.W.fnOf "_law_pick" "_law_pick" (defArgs s__law_pick) (defBody s__law_pick) (defScope s__law_pick) .none kV_13 dc_13 pmv_13 an_13 cdv_13 ctv_13), sl_13⟩)
    (cc_13 : PySem.W.codeIn K cdv_13 "_law_pick" = true)
    (k_13 : PySem.W.keepIn K (.ref fa13) = true)
    (a_14 : PySem.W.nsIn K mainGlobals "_law_number" = some (some (.ref fa14)))
    (l_14 : K.lookup fa14 = some ⟨oc_14, od_14, .func (PySem.W.fnOf "_law_number" "_law_number" (defArgs s__law_number) (defBody s__law_number) (defScope s__law_number) .none kV_14 dc_14 pmv_14 an_14 cdv_14 ctv_14), sl_14⟩)
    (cc_14 : PySem.W.codeIn K cdv_14 "_law_number" = true)
    (k_14 : PySem.W.keepIn K (.ref fa14) = true)
    (a_15 : PySem.W.nsIn K mainGlobals "_law_sums" = some (some (.ref fa15)))
    (l_15 : K.lookup fa15 = some ⟨oc_15, od_15, .func (PySem.W.fnOf "_law_sums" "_law_sums" (defArgs s__law_sums) (defBody s__law_sums) (defScope s__law_sums) .none kV_15 dc_15 pmv_15 an_15 cdv_15 ctv_15), sl_15⟩)
    (cc_15 : PySem.W.codeIn K cdv_15 "_law_sums" = true)
    (k_15 : PySem.W.keepIn K (.ref fa15) = true)
    (a_16 : PySem.W.nsIn K mainGlobals "_law_is_frame" = some (some (.ref fa16)))
    (l_16 : K.lookup fa16 = some ⟨oc_16, od_16, .func (PySem.W.fnOf "_law_is_frame" "_law_is_frame" (defArgs s__law_is_frame) (defBody s__law_is_frame) (defScope s__law_is_frame) .none kV_16 dc_16 pmv_16 an_16 cdv_16 ctv_16), sl_16⟩)
    (cc_16 : PySem.W.codeIn K cdv_16 "_law_is_frame" = true)
    (k_16 : PySem.W.keepIn K (.ref fa16) = true)
    (a_17 : PySem.W.nsIn K mainGlobals "_law_bodies" = some (some (.ref fa17)))
    (l_17 : K.lookup fa17 = some ⟨oc_17, od_17, .func (PySem.W.fnOf "_law_bodies" "_law_bodies" (defArgs s__law_bodies) (defBody s__law_bodies) (defScope s__law_bodies) .none kV_17 dc_17 pmv_17 an_17 cdv_17 ctv_17), sl_17⟩)
    (cc_17 : PySem.W.codeIn K cdv_17 "_law_bodies" = true)
    (k_17 : PySem.W.keepIn K (.ref fa17) = true)
    (a_18 : PySem.W.nsIn K mainGlobals "_law_signs" = some (some (.ref fa18)))
    (l_18 : K.lookup fa18 = some ⟨oc_18, od_18, .func (PySem.W.fnOf "_law_signs" "_law_signs" (defArgs s__law_signs) (defBody s__law_signs) (defScope s__law_signs) .none kV_18 dc_18 pmv_18 an_18 cdv_18 ctv_18), sl_18⟩)
    (cc_18 : PySem.W.codeIn K cdv_18 "_law_signs" = true)
    (k_18 : PySem.W.keepIn K (.ref fa18) = true)
    (a_19 : PySem.W.nsIn K mainGlobals "_law_some_body" = some (some (.ref fa19)))
    (l_19 : K.lookup fa19 = some ⟨oc_19, od_19, .func (PySem.W.fnOf "_law_some_body" "_law_some_body" (defArgs s__law_some_body) (defBody s__law_some_body) (defScope s__law_some_body) .none kV_19 dc_19 pmv_19 an_19 cdv_19 ctv_19), sl_19⟩)
    (cc_19 : PySem.W.codeIn K cdv_19 "_law_some_body" = true)
    (k_19 : PySem.W.keepIn K (.ref fa19) = true)
    (a_20 : PySem.W.nsIn K mainGlobals "_law_burst" = some (some (.ref fa20)))
    (l_20 : K.lookup fa20 = some ⟨oc_20, od_20, .func (PySem.W.fnOf "_law_burst" "_law_burst" (defArgs s__law_burst) (defBody s__law_burst) (defScope s__law_burst) .none kV_20 dc_20 pmv_20 an_20 cdv_20 ctv_20), sl_20⟩)
    (cc_20 : PySem.W.codeIn K cdv_20 "_law_burst" = true)
    (k_20 : PySem.W.keepIn K (.ref fa20) = true)
    (a_21 : PySem.W.nsIn K mainGlobals "_law_right" = some (some (.ref fa21)))
    (l_21 : K.lookup fa21 = some ⟨oc_21, od_21, .func (PySem.W.fnOf "_law_right" "_law_right" (defArgs s__law_right) (defBody s__law_right) (defScope s__law_right) .none kV_21 dc_21 pmv_21 an_21 cdv_21 ctv_21), sl_21⟩)
    (cc_21 : PySem.W.codeIn K cdv_21 "_law_right" = true)
    (k_21 : PySem.W.keepIn K (.ref fa21) = true)
    (a_22 : PySem.W.nsIn K mainGlobals "law" = some (some (.ref fa22)))
    (l_22 : K.lookup fa22 = some ⟨oc_22, od_22, .func (PySem.W.fnOf "law" "law" (defArgs s_law) (defBody s_law) (defScope s_law) .none kV_22 dc_22 pmv_22 an_22 cdv_22 ctv_22), sl_22⟩)
    (cc_22 : PySem.W.codeIn K cdv_22 "law" = true)
    (k_22 : PySem.W.keepIn K (.ref fa22) = true)
    : ∃ fd : FuncData, (∀ (s : Shared) (v : Value), BindsTo s fd ⟨[v], []⟩ [("script", v)]) ∧ ∀ base : Heap, K.In base → base.Ns mainGlobals mg → FnG l.prog w K mg base 23 fa fd ["script"] (spG ⟨K, ca⟩ 1 (G dcs 22)) := by
  have e := hfa.symm.trans (PySem.W.mg_of X Gr a_22)
  cases e
  have T : TopOk K mg glb blt := ⟨(glb_cons (v := .str "0123456789") (PySem.W.mg_of X Gr g_DIGITS) (relS "0123456789" t5) (krep_str "0123456789") (glb_cons (v := .str " !\"#$%&'()*+,-./0123456789:;<=>?@ABCDEFGHIJKLMNOPQRSTUVWXYZ[\\]^_`abcdefghijklmnopqrstuvwxyz{|}~\n") (PySem.W.mg_of X Gr g_NUMBERED) (relS " !\"#$%&'()*+,-./0123456789:;<=>?@ABCDEFGHIJKLMNOPQRSTUVWXYZ[\\]^_`abcdefghijklmnopqrstuvwxyz{|}~\n" t4) (krep_str " !\"#$%&'()*+,-./0123456789:;<=>?@ABCDEFGHIJKLMNOPQRSTUVWXYZ[\\]^_`abcdefghijklmnopqrstuvwxyz{|}~\n") (glb_cons (v := .int 4) (PySem.W.mg_of X Gr g_SIZE) (relI 4 t3) (krep_int 4) (glb_cons (v := .int 4) (PySem.W.mg_of X Gr g_TAIL) (relI 4 t2) (krep_int 4) (glb_cons (v := .int 5000) (PySem.W.mg_of X Gr g_MOST_BODY) (relI 5000 t1) (krep_int 5000) glb_nil))))), by
    intro x hx
    simp only [blt, List.mem_cons, List.not_mem_nil, or_false] at hx
    rcases hx with rfl | rfl | rfl | rfl | rfl | rfl | rfl | rfl | rfl | rfl | rfl | rfl | rfl
    · exact PySem.W.mg_none_of X Gr z_abs
    · exact PySem.W.mg_none_of X Gr z_all
    · exact PySem.W.mg_none_of X Gr z_divmod
    · exact PySem.W.mg_none_of X Gr z_enumerate
    · exact PySem.W.mg_none_of X Gr z_int
    · exact PySem.W.mg_none_of X Gr z_isinstance
    · exact PySem.W.mg_none_of X Gr z_len
    · exact PySem.W.mg_none_of X Gr z_max
    · exact PySem.W.mg_none_of X Gr z_min
    · exact PySem.W.mg_none_of X Gr z_ord
    · exact PySem.W.mg_none_of X Gr z_range
    · exact PySem.W.mg_none_of X Gr z_str
    · exact PySem.W.mg_none_of X Gr z_zip
    ⟩
  have A0 : ∀ base, DefsOk l.prog w K mg base ca dcs (fis.take 0) := fun base => defs_nil
  have F0 := fun_mk (st := s__law_pot) l_0 cc_0 k_0
  have D0 : ∀ base, DefOk l.prog w K mg base ca fi__law_pot (G dcs 0) := fun base => def_mk (c := c__law_pot) (n := 60) (A0 base) F0 (PySem.W.mg_of X Gr a_0) k_0 (F0.binds (ps := ["script", "k"]) fun _ _ _ _ _ _ us hl => match us, hl with | [_, _], _ => rfl) (fun _ h => nomatch h) sc__law_pot rfl rfl (by decide) T b__law_pot_eq rfl rfl
  have A1 : ∀ base, DefsOk l.prog w K mg base ca dcs (fis.take 1) := fun base => defs_snoc (fs := fis.take 0) (A0 base) (D0 base)
  have F1 := fun_mk (st := s_is_sign) l_1 cc_1 k_1
  have D1 : ∀ base, DefOk l.prog w K mg base ca fi_is_sign (G dcs 1) := fun base => def_mk (c := c_is_sign) (n := 60) (A1 base) F1 (PySem.W.mg_of X Gr a_1) k_1 (F1.binds (ps := ["sign"]) fun _ _ _ _ _ _ us hl => match us, hl with | [_], _ => rfl) (fun _ h => nomatch h) sc_is_sign rfl rfl (by decide) T b_is_sign_eq rfl rfl
  have A2 : ∀ base, DefsOk l.prog w K mg base ca dcs (fis.take 2) := fun base => defs_snoc (fs := fis.take 1) (A1 base) (D1 base)
  have F2 := fun_mk (st := s_is_body) l_2 cc_2 k_2
  have D2 : ∀ base, DefOk l.prog w K mg base ca fi_is_body (G dcs 2) := fun base => def_mk (c := c_is_body) (n := 60) (A2 base) F2 (PySem.W.mg_of X Gr a_2) k_2 (F2.binds (ps := ["value"]) fun _ _ _ _ _ _ us hl => match us, hl with | [_], _ => rfl) (fun _ h => nomatch h) sc_is_body rfl rfl (by decide) T b_is_body_eq rfl rfl
  have A3 : ∀ base, DefsOk l.prog w K mg base ca dcs (fis.take 3) := fun base => defs_snoc (fs := fis.take 2) (A2 base) (D2 base)
  have F3 := fun_mk (st := s_number_of) l_3 cc_3 k_3
  have D3 : ∀ base, DefOk l.prog w K mg base ca fi_number_of (G dcs 3) := fun base => def_mk (c := c_number_of) (n := 60) (A3 base) F3 (PySem.W.mg_of X Gr a_3) k_3 (F3.binds (ps := ["sign"]) fun _ _ _ _ _ _ us hl => match us, hl with | [_], _ => rfl) (fun _ h => nomatch h) sc_number_of rfl rfl (by decide) T b_number_of_eq rfl rfl
  have A4 : ∀ base, DefsOk l.prog w K mg base ca dcs (fis.take 4) := fun base => defs_snoc (fs := fis.take 3) (A3 base) (D3 base)
  have F4 := fun_mk (st := s_sums_by) l_4 cc_4 k_4
  have D4 : ∀ base, DefOk l.prog w K mg base ca fi_sums_by (G dcs 4) := fun base => def_mk (c := c_sums_by) (n := 60) (A4 base) F4 (PySem.W.mg_of X Gr a_4) k_4 (F4.binds (ps := ["signs"]) fun _ _ _ _ _ _ us hl => match us, hl with | [_], _ => rfl) (fun _ h => nomatch h) sc_sums_by rfl rfl (by decide) T b_sums_by_eq rfl rfl
  have A5 : ∀ base, DefsOk l.prog w K mg base ca dcs (fis.take 5) := fun base => defs_snoc (fs := fis.take 4) (A4 base) (D4 base)
  have F5 := fun_mk (st := s_tail_of) l_5 cc_5 k_5
  have D5 : ∀ base, DefOk l.prog w K mg base ca fi_tail_of (G dcs 5) := fun base => def_mk (c := c_tail_of) (n := 60) (A5 base) F5 (PySem.W.mg_of X Gr a_5) k_5 (F5.binds (ps := ["body"]) fun _ _ _ _ _ _ us hl => match us, hl with | [_], _ => rfl) (fun _ h => nomatch h) sc_tail_of rfl rfl (by decide) T b_tail_of_eq rfl rfl
  have A6 : ∀ base, DefsOk l.prog w K mg base ca dcs (fis.take 6) := fun base => defs_snoc (fs := fis.take 5) (A5 base) (D5 base)
  have F6 := fun_mk (st := s_size_told) l_6 cc_6 k_6
  have D6 : ∀ base, DefOk l.prog w K mg base ca fi_size_told (G dcs 6) := fun base => def_mk (c := c_size_told) (n := 60) (A6 base) F6 (PySem.W.mg_of X Gr a_6) k_6 (F6.binds (ps := ["size"]) fun _ _ _ _ _ _ us hl => match us, hl with | [_], _ => rfl) (fun _ h => nomatch h) sc_size_told rfl rfl (by decide) T b_size_told_eq rfl rfl
  have A7 : ∀ base, DefsOk l.prog w K mg base ca dcs (fis.take 7) := fun base => defs_snoc (fs := fis.take 6) (A6 base) (D6 base)
  have F7 := fun_mk (st := s_frame_by) l_7 cc_7 k_7
  have D7 : ∀ base, DefOk l.prog w K mg base ca fi_frame_by (G dcs 7) := fun base => def_mk (c := c_frame_by) (n := 60) (A7 base) F7 (PySem.W.mg_of X Gr a_7) k_7 (F7.binds (ps := ["body"]) fun _ _ _ _ _ _ us hl => match us, hl with | [_], _ => rfl) (fun _ h => nomatch h) sc_frame_by rfl rfl (by decide) T b_frame_by_eq rfl rfl
  have A8 : ∀ base, DefsOk l.prog w K mg base ca dcs (fis.take 8) := fun base => defs_snoc (fs := fis.take 7) (A7 base) (D7 base)
  have F8 := fun_mk (st := s_frame) l_8 cc_8 k_8
  have D8 : ∀ base, DefOk l.prog w K mg base ca fi_frame (G dcs 8) := fun base => def_mk (c := c_frame) (n := 60) (A8 base) F8 (PySem.W.mg_of X Gr a_8) k_8 (F8.binds (ps := ["body"]) fun _ _ _ _ _ _ us hl => match us, hl with | [_], _ => rfl) (List.forall_mem_cons.mpr ⟨kbn_of (ks := ["body"]) (n := 0) (perm := [0]) F8 fun _ _ _ _ _ _ us ws h1 h2 => match us, ws, h1, h2 with | [], [_], _, _ => rfl, (fun _ h => nomatch h)⟩) sc_frame rfl rfl (by decide) T b_frame_eq rfl rfl
  have A9 : ∀ base, DefsOk l.prog w K mg base ca dcs (fis.take 9) := fun base => defs_snoc (fs := fis.take 8) (A8 base) (D8 base)
  have F9 := fun_mk (st := s_body_at) l_9 cc_9 k_9
  have D9 : ∀ base, DefOk l.prog w K mg base ca fi_body_at (G dcs 9) := fun base => def_mk (c := c_body_at) (n := 60) (A9 base) F9 (PySem.W.mg_of X Gr a_9) k_9 (F9.binds (ps := ["string", "at"]) fun _ _ _ _ _ _ us hl => match us, hl with | [_, _], _ => rfl) (fun _ h => nomatch h) sc_body_at rfl rfl (by decide) T b_body_at_eq rfl rfl
  have A10 : ∀ base, DefsOk l.prog w K mg base ca dcs (fis.take 10) := fun base => defs_snoc (fs := fis.take 9) (A9 base) (D9 base)
  have F10 := fun_mk (st := s_bodies_by) l_10 cc_10 k_10
  have D10 : ∀ base, DefOk l.prog w K mg base ca fi_bodies_by (G dcs 10) := fun base => def_mk (c := c_bodies_by) (n := 60) (A10 base) F10 (PySem.W.mg_of X Gr a_10) k_10 (F10.binds (ps := ["string"]) fun _ _ _ _ _ _ us hl => match us, hl with | [_], _ => rfl) (fun _ h => nomatch h) sc_bodies_by rfl rfl (by decide) T b_bodies_by_eq rfl rfl
  have A11 : ∀ base, DefsOk l.prog w K mg base ca dcs (fis.take 11) := fun base => defs_snoc (fs := fis.take 10) (A10 base) (D10 base)
  have F11 := fun_mk (st := s_bodies_of) l_11 cc_11 k_11
  have D11 : ∀ base, DefOk l.prog w K mg base ca fi_bodies_of (G dcs 11) := fun base => def_mk (c := c_bodies_of) (n := 60) (A11 base) F11 (PySem.W.mg_of X Gr a_11) k_11 (F11.binds (ps := ["string"]) fun _ _ _ _ _ _ us hl => match us, hl with | [_], _ => rfl) (List.forall_mem_cons.mpr ⟨kbn_of (ks := ["string"]) (n := 0) (perm := [0]) F11 fun _ _ _ _ _ _ us ws h1 h2 => match us, ws, h1, h2 with | [], [_], _, _ => rfl, (fun _ h => nomatch h)⟩) sc_bodies_of rfl rfl (by decide) T b_bodies_of_eq rfl rfl
  have A12 : ∀ base, DefsOk l.prog w K mg base ca dcs (fis.take 12) := fun base => defs_snoc (fs := fis.take 11) (A11 base) (D11 base)
  have F12 := fun_mk (st := s__law_draw) l_12 cc_12 k_12
  have D12 : ∀ base, DefOk l.prog w K mg base ca fi__law_draw (G dcs 12) := fun base => def_mk (c := c__law_draw) (n := 60) (A12 base) F12 (PySem.W.mg_of X Gr a_12) k_12 (F12.binds (ps := ["pot", "many"]) fun _ _ _ _ _ _ us hl => match us, hl with | [_, _], _ => rfl) (fun _ h => nomatch h) sc__law_draw rfl rfl (by decide) T b__law_draw_eq rfl rfl
  have A13 : ∀ base, DefsOk l.prog w K mg base ca dcs (fis.take 13) := fun base => defs_snoc (fs := fis.take 12) (A12 base) (D12 base)
  have F13 := fun_mk (st := s__law_pick) l_13 cc_13 k_13
  have D13 : ∀ base, DefOk l.prog w K mg base ca fi__law_pick (G dcs 13) := fun base => def_mk (c := c__law_pick) (n := 60) (A13 base) F13 (PySem.W.mg_of X Gr a_13) k_13 (F13.binds (ps := ["pot", "some"]) fun _ _ _ _ _ _ us hl => match us, hl with | [_, _], _ => rfl) (fun _ h => nomatch h) sc__law_pick rfl rfl (by decide) T b__law_pick_eq rfl rfl
  have A14 : ∀ base, DefsOk l.prog w K mg base ca dcs (fis.take 14) := fun base => defs_snoc (fs := fis.take 13) (A13 base) (D13 base)
  have F14 := fun_mk (st := s__law_number) l_14 cc_14 k_14
  have D14 : ∀ base, DefOk l.prog w K mg base ca fi__law_number (G dcs 14) := fun base => def_mk (c := c__law_number) (n := 60) (A14 base) F14 (PySem.W.mg_of X Gr a_14) k_14 (F14.binds (ps := ["sign"]) fun _ _ _ _ _ _ us hl => match us, hl with | [_], _ => rfl) (fun _ h => nomatch h) sc__law_number rfl rfl (by decide) T b__law_number_eq rfl rfl
  have A15 : ∀ base, DefsOk l.prog w K mg base ca dcs (fis.take 15) := fun base => defs_snoc (fs := fis.take 14) (A14 base) (D14 base)
  have F15 := fun_mk (st := s__law_sums) l_15 cc_15 k_15
  have D15 : ∀ base, DefOk l.prog w K mg base ca fi__law_sums (G dcs 15) := fun base => def_mk (c := c__law_sums) (n := 60) (A15 base) F15 (PySem.W.mg_of X Gr a_15) k_15 (F15.binds (ps := ["signs"]) fun _ _ _ _ _ _ us hl => match us, hl with | [_], _ => rfl) (fun _ h => nomatch h) sc__law_sums rfl rfl (by decide) T b__law_sums_eq rfl rfl
  have A16 : ∀ base, DefsOk l.prog w K mg base ca dcs (fis.take 16) := fun base => defs_snoc (fs := fis.take 15) (A15 base) (D15 base)
  have F16 := fun_mk (st := s__law_is_frame) l_16 cc_16 k_16
  have D16 : ∀ base, DefOk l.prog w K mg base ca fi__law_is_frame (G dcs 16) := fun base => def_mk (c := c__law_is_frame) (n := 60) (A16 base) F16 (PySem.W.mg_of X Gr a_16) k_16 (F16.binds (ps := ["whole", "body"]) fun _ _ _ _ _ _ us hl => match us, hl with | [_, _], _ => rfl) (fun _ h => nomatch h) sc__law_is_frame rfl rfl (by decide) T b__law_is_frame_eq rfl rfl
  have A17 : ∀ base, DefsOk l.prog w K mg base ca dcs (fis.take 17) := fun base => defs_snoc (fs := fis.take 16) (A16 base) (D16 base)
  have F17 := fun_mk (st := s__law_bodies) l_17 cc_17 k_17
  have D17 : ∀ base, DefOk l.prog w K mg base ca fi__law_bodies (G dcs 17) := fun base => def_mk (c := c__law_bodies) (n := 60) (A17 base) F17 (PySem.W.mg_of X Gr a_17) k_17 (F17.binds (ps := ["string"]) fun _ _ _ _ _ _ us hl => match us, hl with | [_], _ => rfl) (fun _ h => nomatch h) sc__law_bodies rfl rfl (by decide) T b__law_bodies_eq rfl rfl
  have A18 : ∀ base, DefsOk l.prog w K mg base ca dcs (fis.take 18) := fun base => defs_snoc (fs := fis.take 17) (A17 base) (D17 base)
  have F18 := fun_mk (st := s__law_signs) l_18 cc_18 k_18
  have D18 : ∀ base, DefOk l.prog w K mg base ca fi__law_signs (G dcs 18) := fun base => def_mk (c := c__law_signs) (n := 60) (A18 base) F18 (PySem.W.mg_of X Gr a_18) k_18 (F18.binds (ps := []) fun _ _ _ _ _ _ us hl => match us, hl with | [], _ => rfl) (fun _ h => nomatch h) sc__law_signs rfl rfl (by decide) T b__law_signs_eq rfl rfl
  have A19 : ∀ base, DefsOk l.prog w K mg base ca dcs (fis.take 19) := fun base => defs_snoc (fs := fis.take 18) (A18 base) (D18 base)
  have F19 := fun_mk (st := s__law_some_body) l_19 cc_19 k_19
  have D19 : ∀ base, DefOk l.prog w K mg base ca fi__law_some_body (G dcs 19) := fun base => def_mk (c := c__law_some_body) (n := 60) (A19 base) F19 (PySem.W.mg_of X Gr a_19) k_19 (F19.binds (ps := ["pot"]) fun _ _ _ _ _ _ us hl => match us, hl with | [_], _ => rfl) (fun _ h => nomatch h) sc__law_some_body rfl rfl (by decide) T b__law_some_body_eq rfl rfl
  have A20 : ∀ base, DefsOk l.prog w K mg base ca dcs (fis.take 20) := fun base => defs_snoc (fs := fis.take 19) (A19 base) (D19 base)
  have F20 := fun_mk (st := s__law_burst) l_20 cc_20 k_20
  have D20 : ∀ base, DefOk l.prog w K mg base ca fi__law_burst (G dcs 20) := fun base => def_mk (c := c__law_burst) (n := 60) (A20 base) F20 (PySem.W.mg_of X Gr a_20) k_20 (F20.binds (ps := ["pot", "string"]) fun _ _ _ _ _ _ us hl => match us, hl with | [_, _], _ => rfl) (fun _ h => nomatch h) sc__law_burst rfl rfl (by decide) T b__law_burst_eq rfl rfl
  have A21 : ∀ base, DefsOk l.prog w K mg base ca dcs (fis.take 21) := fun base => defs_snoc (fs := fis.take 20) (A20 base) (D20 base)
  have F21 := fun_mk (st := s__law_right) l_21 cc_21 k_21
  have D21 : ∀ base, DefOk l.prog w K mg base ca fi__law_right (G dcs 21) := fun base => def_mk (c := c__law_right) (n := 60) (A21 base) F21 (PySem.W.mg_of X Gr a_21) k_21 (F21.binds (ps := ["pot"]) fun _ _ _ _ _ _ us hl => match us, hl with | [_], _ => rfl) (fun _ h => nomatch h) sc__law_right rfl rfl (by decide) T b__law_right_eq rfl rfl
  have A22 : ∀ base, DefsOk l.prog w K mg base ca dcs (fis.take 22) := fun base => defs_snoc (fs := fis.take 21) (A21 base) (D21 base)
  have F22 := fun_mk (st := s_law) l_22 cc_22 k_22
  refine ⟨PySem.W.fnOf "law" "law" (defArgs s_law) (defBody s_law) (defScope s_law) .none kV_22 dc_22 pmv_22 an_22 cdv_22 ctv_22, fun s v => .of_eq rfl, fun base _ _ => ?_⟩
  exact def_g (i := fi_law) (c := c_law) (n := 60) (A22 base) F22 sc_law rfl rfl (by decide) T b_law_eq rfl rfl
end K77
open PySem PySem.W PyProof.Rows
set_option maxHeartbeats 0 in
theorem PySem.Challenge.cw_paidinfull_k77_whole_frames_and_bursts_holds : PySem.Challenge.rw_paidinfull_k77_whole_frames_and_bursts.Holds := by
  w_on; o_law; k_head; (case hw => w_witness2)
  k_fill
  refine Itp.walk_itp (l := PySem.Challenge.rw_paidinfull_k77_whole_frames_and_bursts) (n := 63) (k := 23) (x := "script") (G := Itp.G K77.dcs 22) (ca := fun _ _ => 0) rfl (by decide) rfl ⟨rfl, by decide, by decide⟩ (fun w h Y => PySem.W.kIn_of Y) ?F K77.law_holds
  case F =>
    intro w mg fa h KX Gr hmg
    refine' K77.all_mk KX Gr hmg ?g_MOST_BODY ?g_TAIL ?g_SIZE ?g_NUMBERED ?g_DIGITS ?z_abs ?z_all ?z_divmod ?z_enumerate ?z_int ?z_isinstance ?z_len ?z_max ?z_min ?z_ord ?z_range ?z_str ?z_zip ?a_0 ?l_0 ?cc_0 ?k_0 ?a_1 ?l_1 ?cc_1 ?k_1 ?a_2 ?l_2 ?cc_2 ?k_2 ?a_3 ?l_3 ?cc_3 ?k_3 ?a_4 ?l_4 ?cc_4 ?k_4 ?a_5 ?l_5 ?cc_5 ?k_5 ?a_6 ?l_6 ?cc_6 ?k_6 ?a_7 ?l_7 ?cc_7 ?k_7 ?a_8 ?l_8 ?cc_8 ?k_8 ?a_9 ?l_9 ?cc_9 ?k_9 ?a_10 ?l_10 ?cc_10 ?k_10 ?a_11 ?l_11 ?cc_11 ?k_11 ?a_12 ?l_12 ?cc_12 ?k_12 ?a_13 ?l_13 ?cc_13 ?k_13 ?a_14 ?l_14 ?cc_14 ?k_14 ?a_15 ?l_15 ?cc_15 ?k_15 ?a_16 ?l_16 ?cc_16 ?k_16 ?a_17 ?l_17 ?cc_17 ?k_17 ?a_18 ?l_18 ?cc_18 ?k_18 ?a_19 ?l_19 ?cc_19 ?k_19 ?a_20 ?l_20 ?cc_20 ?k_20 ?a_21 ?l_21 ?cc_21 ?k_21 ?a_22 ?l_22 ?cc_22 ?k_22
    (case g_MOST_BODY => k_is); (case g_TAIL => k_is); (case g_SIZE => k_is); (case g_NUMBERED => k_is); (case g_DIGITS => k_is); (case z_abs => k_is); (case z_all => k_is); (case z_divmod => k_is); (case z_enumerate => k_is); (case z_int => k_is); (case z_isinstance => k_is); (case z_len => k_is); (case z_max => k_is); (case z_min => k_is); (case z_ord => k_is); (case z_range => k_is); (case z_str => k_is); (case z_zip => k_is); (case a_0 => k_is); (case l_0 => k_is); (case cc_0 => k_is); (case k_0 => k_is); (case a_1 => k_is); (case l_1 => k_is); (case cc_1 => k_is); (case k_1 => k_is); (case a_2 => k_is); (case l_2 => k_is); (case cc_2 => k_is); (case k_2 => k_is); (case a_3 => k_is); (case l_3 => k_is); (case cc_3 => k_is); (case k_3 => k_is); (case a_4 => k_is); (case l_4 => k_is); (case cc_4 => k_is); (case k_4 => k_is); (case a_5 => k_is); (case l_5 => k_is); (case cc_5 => k_is); (case k_5 => k_is); (case a_6 => k_is); (case l_6 => k_is); (case cc_6 => k_is); (case k_6 => k_is); (case a_7 => k_is); (case l_7 => k_is); (case cc_7 => k_is); (case k_7 => k_is); (case a_8 => k_is); (case l_8 => k_is); (case cc_8 => k_is); (case k_8 => k_is); (case a_9 => k_is); (case l_9 => k_is); (case cc_9 => k_is); (case k_9 => k_is); (case a_10 => k_is); (case l_10 => k_is); (case cc_10 => k_is); (case k_10 => k_is); (case a_11 => k_is); (case l_11 => k_is); (case cc_11 => k_is); (case k_11 => k_is); (case a_12 => k_is); (case l_12 => k_is); (case cc_12 => k_is); (case k_12 => k_is); (case a_13 => k_is); (case l_13 => k_is); (case cc_13 => k_is); (case k_13 => k_is); (case a_14 => k_is); (case l_14 => k_is); (case cc_14 => k_is); (case k_14 => k_is); (case a_15 => k_is); (case l_15 => k_is); (case cc_15 => k_is); (case k_15 => k_is); (case a_16 => k_is); (case l_16 => k_is); (case cc_16 => k_is); (case k_16 => k_is); (case a_17 => k_is); (case l_17 => k_is); (case cc_17 => k_is); (case k_17 => k_is); (case a_18 => k_is); (case l_18 => k_is); (case cc_18 => k_is); (case k_18 => k_is); (case a_19 => k_is); (case l_19 => k_is); (case cc_19 => k_is); (case k_19 => k_is); (case a_20 => k_is); (case l_20 => k_is); (case cc_20 => k_is); (case k_20 => k_is); (case a_21 => k_is); (case l_21 => k_is); (case cc_21 => k_is); (case k_21 => k_is); (case a_22 => k_is); (case l_22 => k_is); (case cc_22 => k_is); (case k_22 => k_is)
