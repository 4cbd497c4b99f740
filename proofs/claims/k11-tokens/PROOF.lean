import PyProof.Rows.All
import Wide.All
import OpenK.AllK
import Wide.FinOn
import HandS.ForMost
import HandS.Exc
import HandS.TryOnly
import HandS.TryMany
import HandS.ExcOwn
import HandS.WordsExc
import HandS.ExcInit
import HandS.Flow
import HandS.IsInst
import HandS.StrMore
import HandS.TupAny
import HandS.TupMul
import HandS.Wide
import HandS.WideBits
import HandS.Zip
import HandS.Deep
import HandS.Style
import HandS.Defaults
import HandS.TupLe
import HandS.RaiseMore
import HandS.NoneIn
import HandS.Replace
import KE.KSortTupAny
import HandS.List
import HandS.SortRule
import HandS.SortInts
import HandS.Codes
import PyProof.ReprLen
import PySem.Challenge.RW_paidinfull_k11_whole_tokens_and_what_is
set_option Elab.async false
set_option linter.all false
set_option autoImplicit false
set_option maxRecDepth 100000
/-! Itp, part A: values, heap, outcomes; how they lie in the hand layer's abstract heap. -/
namespace Itp
open PySem PySem.Spec PyProof.Rows L2

/-- a value of the interpreter -/
inductive W where
  | non | bl (b : Bool) | int (i : Int) | str (s : Str) | tup (xs : List W) | ref (n : Nat) | ty (n : String)

/-- what stands at a place of the interpreter's heap: a list; a list that is only read -/
inductive IO where
  | lst (xs : List W)
  | flst (xs : List W)

abbrev IH := List IO
abbrev IS := List (Option W)

/-- how code ends -/
inductive Out (α : Type) where
  | ok (a : α) (hp : IH)
  | err (c : Nat) (fs : List (Str × W)) (hp : IH)
  | stuck

def Out.bind {α β : Type} (o : Out α) (k : α → IH → Out β) : Out β := match o with
  | .ok a hp => k a hp
  | .err c fs hp => .err c fs hp
  | .stuck => .stuck
@[simp] theorem Out.bind_ok {α β : Type} (a : α) (hp : IH) (k : α → IH → Out β) : (Out.ok a hp).bind k = k a hp := rfl
@[simp] theorem Out.bind_err {α β : Type} (c : Nat) (fs : List (Str × W)) (hp : IH) (k : α → IH → Out β) : (Out.err c fs hp).bind k = .err c fs hp := rfl
@[simp] theorem Out.bind_stuck {α β : Type} (k : α → IH → Out β) : (Out.stuck : Out α).bind k = .stuck := rfl
/-- a built-in operation: done, or not served -/
def Out.of {α : Type} : Option (α × IH) → Out α
  | some (a, hp) => .ok a hp
  | none => .stuck
@[simp] theorem Out.of_some {α : Type} (a : α) (hp : IH) : Out.of (some (a, hp)) = .ok a hp := rfl
@[simp] theorem Out.of_none {α : Type} : Out.of (none : Option (α × IH)) = .stuck := rfl

/-- what is fixed through a law: the written part, the addresses of the own exception classes -/
structure Gx where
  K : PySem.W.Frag
  ca : Nat → Addr

mutual
def Rep (K : PySem.W.Frag) (ι : List Addr) (H : Hp) : W → V → Prop
  | .non, v => v = .non
  | .bl b, v => v = .bl b
  | .int i, v => v = .int i
  | .str s, v => v = .str s
  | .tup ws, v => ∃ a xs, v = .ref a ∧ SqT K H a xs ∧ Reps K ι H ws xs
  | .ref n, v => ∃ a, ι[n]? = some a ∧ v = .ref a
  | .ty n, v => v = .ty n
def Reps (K : PySem.W.Frag) (ι : List Addr) (H : Hp) : List W → List V → Prop
  | [], xs => xs = []
  | w :: ws, xs => ∃ v vs, xs = v :: vs ∧ Rep K ι H w v ∧ Reps K ι H ws vs
end

/-- the later state keeps what is said of values of the elder one -/
structure Ext (ι : List Addr) (H : Hp) (ι' : List Addr) (H' : Hp) : Prop where
  pre : ι <+: ι'
  tup : ∀ a xs, H a = some (.tup xs) → H' a = some (.tup xs)
  frz : ∀ a o u, H a = some (.frz o u) → H' a = some (.frz o u)
theorem Ext.refl (ι : List Addr) (H : Hp) : Ext ι H ι H := ⟨List.prefix_rfl, fun _ _ h => h, fun _ _ _ h => h⟩
theorem Ext.trans {ι ι1 ι2 : List Addr} {H H1 H2 : Hp} (a : Ext ι H ι1 H1) (b : Ext ι1 H1 ι2 H2) : Ext ι H ι2 H2 :=
  ⟨a.pre.trans b.pre, fun c xs h => b.tup c xs (a.tup c xs h), fun c o u h => b.frz c o u (a.frz c o u h)⟩
section
variable {K : PySem.W.Frag} {ι ι' : List Addr} {H H' : Hp} {a : Addr}
theorem Ext.sqT (e : Ext ι H ι' H') {xs : List V} (h : SqT K H a xs) : SqT K H' a xs := by
  rcases h with (h | ⟨o, h⟩) | h
  · exact .inl (.inl (e.tup _ _ h))
  · exact .inl (.inr ⟨o, e.frz _ _ _ h⟩)
  · exact .inr h
theorem Ext.at (e : Ext ι H ι' H') {n : Nat} (h : ι[n]? = some a) : ι'[n]? = some a := by
  obtain ⟨t, rfl⟩ := e.pre
  rw [List.getElem?_append_left (List.getElem?_eq_some_iff.mp h).1]
  exact h
mutual
theorem Rep.ext (e : Ext ι H ι' H') : ∀ (w : W) (v : V), Rep K ι H w v → Rep K ι' H' w v
  | .non, _, h => h
  | .bl _, _, h => h
  | .int _, _, h => h
  | .str _, _, h => h
  | .tup ws, _, h => by
    obtain ⟨a, xs, rfl, hs, hr⟩ := h
    exact ⟨a, xs, rfl, e.sqT hs, Reps.ext e ws xs hr⟩
  | .ref _, _, h => by
    obtain ⟨a, ha, rfl⟩ := h
    exact ⟨a, e.at ha, rfl⟩
  | .ty _, _, h => h
theorem Reps.ext (e : Ext ι H ι' H') : ∀ (ws : List W) (xs : List V), Reps K ι H ws xs → Reps K ι' H' ws xs
  | [], _, h => h
  | w :: ws, _, h => by
    obtain ⟨v, vs, rfl, h1, h2⟩ := h
    exact ⟨v, vs, rfl, Rep.ext e w v h1, Reps.ext e ws vs h2⟩
end
theorem Reps.length : ∀ {ws : List W} {xs : List V}, Reps K ι H ws xs → xs.length = ws.length
  | [], _, h => by subst h; rfl
  | _ :: _, _, h => by
    obtain ⟨_, _, rfl, _, h2⟩ := h
    show _ + 1 = _ + 1
    rw [Reps.length h2]
theorem Reps.get : ∀ {ws : List W} {xs : List V} {i : Nat} {w : W}, Reps K ι H ws xs → ws[i]? = some w → ∃ v, xs[i]? = some v ∧ Rep K ι H w v
  | [], _, _, _, _, e => by simp at e
  | _ :: _, _, 0, w, h, e => by
    obtain ⟨v, vs, rfl, h1, _⟩ := h
    have e' := Option.some.inj e
    subst e'
    exact ⟨v, rfl, h1⟩
  | _ :: _, _, i + 1, w, h, e => by
    obtain ⟨v, vs, rfl, _, h2⟩ := h
    exact Reps.get (i := i) h2 e
theorem Reps.getV : ∀ {ws : List W} {xs : List V} {i : Nat} {v : V}, Reps K ι H ws xs → xs[i]? = some v → ∃ w, ws[i]? = some w ∧ Rep K ι H w v
  | [], _, _, _, h, e => by subst h; simp at e
  | w :: _, _, 0, v, h, e => by
    obtain ⟨v', vs, rfl, h1, _⟩ := h
    have e' := Option.some.inj e
    subst e'
    exact ⟨w, rfl, h1⟩
  | _ :: _, _, i + 1, v, h, e => by
    obtain ⟨v', vs, rfl, _, h2⟩ := h
    exact Reps.getV (i := i) h2 e
theorem Reps.append : ∀ {ws us : List W} {xs ys : List V}, Reps K ι H ws xs → Reps K ι H us ys → Reps K ι H (ws ++ us) (xs ++ ys)
  | [], _, _, _, h, k => by subst h; exact k
  | _ :: _, _, _, _, h, k => by
    obtain ⟨v, vs, rfl, h1, h2⟩ := h
    exact ⟨v, _, rfl, h1, Reps.append h2 k⟩
theorem Reps.one {w : W} {v : V} (h : Rep K ι H w v) : Reps K ι H [w] [v] := ⟨v, [], rfl, h, rfl⟩
theorem Reps.set : ∀ {ws : List W} {xs : List V} {w : W} {v : V} (i : Nat), Reps K ι H ws xs → Rep K ι H w v → Reps K ι H (ws.set i w) (xs.set i v)
  | [], _, _, _, _, h, _ => by subst h; exact rfl
  | _ :: _, _, _, _, 0, h, k => by
    obtain ⟨v, vs, rfl, _, h2⟩ := h
    exact ⟨_, _, rfl, k, h2⟩
  | _ :: _, _, _, _, i + 1, h, k => by
    obtain ⟨v, vs, rfl, h1, h2⟩ := h
    exact ⟨_, _, rfl, h1, Reps.set i h2 k⟩
theorem Reps.take : ∀ {ws : List W} {xs : List V} (n : Nat), Reps K ι H ws xs → Reps K ι H (ws.take n) (xs.take n)
  | _, _, 0, _ => rfl
  | [], _, _ + 1, h => by subst h; exact rfl
  | _ :: _, _, n + 1, h => by
    obtain ⟨v, vs, rfl, h1, h2⟩ := h
    exact ⟨_, _, rfl, h1, Reps.take n h2⟩
theorem Reps.drop : ∀ {ws : List W} {xs : List V} (n : Nat), Reps K ι H ws xs → Reps K ι H (ws.drop n) (xs.drop n)
  | _, _, 0, h => h
  | [], _, _ + 1, h => by subst h; exact rfl
  | _ :: _, _, n + 1, h => by
    obtain ⟨v, vs, rfl, h1, h2⟩ := h
    exact Reps.drop n h2
end

/-! ### the heap -/
/-- a list that is only read: frozen, or an object of the module -/
def FzL (K : PySem.W.Frag) (H : Hp) (a : Addr) (xs : List V) : Prop := (∃ o, H a = some (.frz o (.lst xs))) ∨
  ∃ (o : Obj) (its : Array Value) (n : Nat), K.lookup a = some o ∧ o.cls = .type "list" ∧ o.dict = none ∧ o.data = .seq its n ∧ its.size ≤ sizeLine ∧ Vals xs its.toList
theorem FzL.sq {K : PySem.W.Frag} {H : Hp} {a : Addr} {xs : List V} (h : FzL K H a xs) : SqL K H a xs := by
  rcases h with ⟨o, h⟩ | h
  · exact .inl (.inr ⟨o, h⟩)
  · exact .inr h
theorem Ext.fz {K : PySem.W.Frag} {ι ι' : List Addr} {H H' : Hp} {a : Addr} {xs : List V} (e : Ext ι H ι' H') (h : FzL K H a xs) : FzL K H' a xs := by
  rcases h with ⟨o, h⟩ | h
  · exact .inl ⟨o, e.frz _ _ _ h⟩
  · exact .inr h
def ORep (K : PySem.W.Frag) (ι : List Addr) (H : Hp) (a : Addr) : IO → Prop
  | .lst ws => ∃ xs, H a = some (.lst xs) ∧ Reps K ι H ws xs
  | .flst ws => ∃ xs, FzL K H a xs ∧ Reps K ι H ws xs
structure Sim (K : PySem.W.Frag) (ι : List Addr) (hp : IH) (H : Hp) : Prop where
  len : ι.length = hp.length
  nd : ∀ (i j : Nat) (a : Addr) (us ws : List W), ι[i]? = some a → ι[j]? = some a → hp[i]? = some (.lst us) → hp[j]? = some (.lst ws) → i = j
  cell : ∀ (n : Nat) (a : Addr) (o : IO), ι[n]? = some a → hp[n]? = some o → ORep K ι H a o
section
variable {K : PySem.W.Frag} {ι ι' : List Addr} {hp : IH} {H H' : Hp} {a p : Addr} {n : Nat}
theorem Sim.there (s : Sim K ι hp H) (h : ι[n]? = some a) : ∃ o, hp[n]? = some o ∧ ORep K ι H a o := by
  have hn : n < hp.length := by rw [← s.len]; exact (List.getElem?_eq_some_iff.mp h).1
  exact ⟨hp[n], List.getElem?_eq_getElem hn, s.cell n a _ h (List.getElem?_eq_getElem hn)⟩
theorem Sim.addr (s : Sim K ι hp H) {o : IO} (h : hp[n]? = some o) : ∃ a, ι[n]? = some a ∧ ORep K ι H a o := by
  have hn : n < ι.length := by rw [s.len]; exact (List.getElem?_eq_some_iff.mp h).1
  exact ⟨ι[n], List.getElem?_eq_getElem hn, s.cell n _ o (List.getElem?_eq_getElem hn) h⟩
/-- an object at another address, or a new one -/
theorem ORep.move {o : IO} (e : Ext ι H ι' H') (h : ORep K ι H a o) (k : (∃ ws, o = .lst ws) → H' a = H a) : ORep K ι' H' a o := by
  cases o with
  | lst ws =>
    obtain ⟨xs, h1, h2⟩ := h
    exact ⟨xs, (k ⟨_, rfl⟩).trans h1, Reps.ext e _ _ h2⟩
  | flst ws =>
    obtain ⟨xs, h1, h2⟩ := h
    exact ⟨xs, e.fz h1, Reps.ext e _ _ h2⟩
/-- any new object -/
theorem Ext.new {o : HO} (h : H p = none) : Ext ι H ι (upd H p o) :=
  ⟨List.prefix_rfl, fun a xs e => by rw [upd_ne (ne_of_none e h)]; exact e, fun a q u e => by rw [upd_ne (ne_of_none e h)]; exact e⟩
theorem Sim.new {o : HO} (s : Sim K ι hp H) (h : H p = none) : Sim K ι hp (upd H p o) :=
  ⟨s.len, s.nd, fun n a q e1 e2 => by
    have r := s.cell n a q e1 e2
    refine r.move (Ext.new h) fun ⟨ws, eq⟩ => ?_
    subst eq
    obtain ⟨xs, hx, _⟩ := r
    exact upd_ne (ne_of_none hx h)⟩
/-- a new list -/
theorem Ext.lst {xs : List V} (h : H p = none) : Ext ι H (ι ++ [p]) (upd H p (.lst xs)) :=
  ⟨List.prefix_append _ _, (Ext.new (ι := ι) h).tup, (Ext.new (ι := ι) h).frz⟩
theorem Sim.lst {ws : List W} {xs : List V} (s : Sim K ι hp H) (h : H p = none) (r : Reps K ι H ws xs) : Sim K (ι ++ [p]) (hp ++ [.lst ws]) (upd H p (.lst xs)) := by
  have old : ∀ (i : Nat) (a : Addr) (us : List W), i < ι.length → (ι ++ [p])[i]? = some a → (hp ++ [.lst ws])[i]? = some (.lst us) → H a ≠ none ∧ ι[i]? = some a ∧ hp[i]? = some (.lst us) := fun i a us hi e1 e2 => by
    rw [List.getElem?_append_left hi] at e1
    rw [List.getElem?_append_left (by rw [← s.len]; exact hi)] at e2
    obtain ⟨xs, hx, _⟩ := s.cell i a _ e1 e2
    exact ⟨by rw [hx]; simp, e1, e2⟩
  have lastI : ∀ (i : Nat) (a : Addr), ¬ i < ι.length → (ι ++ [p])[i]? = some a → i = ι.length ∧ a = p := fun i a hi e => by
    have h1 := (List.getElem?_eq_some_iff.mp e).1
    rw [List.length_append] at h1
    simp only [List.length_cons, List.length_nil] at h1
    have h2 : i = ι.length := by omega
    subst h2
    rw [List.getElem?_append_right (Nat.le_refl _)] at e
    simp at e
    exact ⟨rfl, e.symm⟩
  refine ⟨by rw [List.length_append, List.length_append, s.len]; rfl, fun i j a us vs e1 e2 e3 e4 => ?_, fun n a q e1 e2 => ?_⟩
  · by_cases hi : i < ι.length
    · obtain ⟨n1, i1, i2⟩ := old i a us hi e1 e3
      by_cases hj : j < ι.length
      · obtain ⟨_, j1, j2⟩ := old j a vs hj e2 e4
        exact s.nd i j a us vs i1 j1 i2 j2
      · obtain ⟨_, rfl⟩ := lastI j a hj e2
        exact absurd h n1
    · obtain ⟨i1, rfl⟩ := lastI i a hi e1
      by_cases hj : j < ι.length
      · obtain ⟨n1, _, _⟩ := old j _ vs hj e2 e4
        exact absurd h n1
      · exact i1.trans (lastI j _ hj e2).1.symm
  · by_cases hn : n < ι.length
    · rw [List.getElem?_append_left hn] at e1
      rw [List.getElem?_append_left (by rw [← s.len]; exact hn)] at e2
      have r1 := s.cell n a q e1 e2
      refine r1.move (Ext.lst h) fun ⟨ws, eq⟩ => ?_
      subst eq
      obtain ⟨xs, hx, _⟩ := r1
      exact upd_ne (ne_of_none hx h)
    · obtain ⟨rfl, rfl⟩ := lastI n a hn e1
      rw [s.len, List.getElem?_append_right (Nat.le_refl _)] at e2
      simp at e2
      subst e2
      exact ⟨xs, upd_same, Reps.ext (Ext.lst h) _ _ r⟩
/-- a list changed -/
theorem Ext.set {xs ys : List V} (h : H a = some (.lst xs)) : Ext ι H ι (upd H a (.lst ys)) :=
  ⟨List.prefix_rfl, fun b zs e => by rw [upd_ne (ne_of e h (by simp))]; exact e, fun b q u e => by rw [upd_ne (ne_of e h (by simp))]; exact e⟩
theorem Sim.set {ws ws' : List W} {xs' : List V} (s : Sim K ι hp H) (ha : ι[n]? = some a) (h : hp[n]? = some (.lst ws)) (r : Reps K ι H ws' xs') : Sim K ι (hp.set n (.lst ws')) (upd H a (.lst xs')) := by
  obtain ⟨xs, hx, _⟩ := s.cell n a _ ha h
  have old : ∀ (i : Nat) (us : List W), (hp.set n (.lst ws'))[i]? = some (.lst us) → ∃ vs, hp[i]? = some (.lst vs) := fun i us e => by
    by_cases hm : i = n
    · subst hm
      exact ⟨ws, h⟩
    · rw [List.getElem?_set_ne (Ne.symm hm)] at e
      exact ⟨us, e⟩
  refine ⟨by rw [List.length_set]; exact s.len, fun i j b us vs e1 e2 e3 e4 => ?_, fun m b q e1 e2 => ?_⟩
  · obtain ⟨us', e3'⟩ := old i us e3
    obtain ⟨vs', e4'⟩ := old j vs e4
    exact s.nd i j b us' vs' e1 e2 e3' e4'
  · by_cases hm : m = n
    · subst hm
      rw [ha] at e1
      cases e1
      rw [List.getElem?_set_self (List.getElem?_eq_some_iff.mp h).1] at e2
      cases e2
      exact ⟨xs', upd_same, Reps.ext (Ext.set hx) _ _ r⟩
    · rw [List.getElem?_set_ne (Ne.symm hm)] at e2
      have r1 := s.cell m b q e1 e2
      refine r1.move (Ext.set hx) fun ⟨us, eq⟩ => upd_ne ?_
      subst eq
      rintro rfl
      exact hm (s.nd m n b us ws e1 ha e2 h)
end

/-! ### stores, outcomes, readings -/
def RepSt (K : PySem.W.Frag) (ι : List Addr) (H : Hp) (ρ : IS) (σ : L2.St) : Prop := σ.length = ρ.length ∧ ∀ (i : Nat) (w : W), ρ[i]? = some (some w) → ∃ v, σ[i]? = some (some v) ∧ Rep K ι H w v
theorem RepSt.ext {K : PySem.W.Frag} {ι ι' : List Addr} {H H' : Hp} {ρ : IS} {σ : L2.St} (e : Ext ι H ι' H') (h : RepSt K ι H ρ σ) : RepSt K ι' H' ρ σ := ⟨h.1, fun i w hi => by
  obtain ⟨v, hv, r⟩ := h.2 i w hi
  exact ⟨v, hv, Rep.ext e _ _ r⟩⟩
theorem RepSt.set {K : PySem.W.Frag} {ι : List Addr} {H : Hp} {ρ : IS} {σ : L2.St} {w : W} {v : V} (h : RepSt K ι H ρ σ) (i : Nat) (r : Rep K ι H w v) : RepSt K ι H (ρ.set i (some w)) (σ.set i (some v)) := by
  refine ⟨by rw [List.length_set, List.length_set]; exact h.1, fun j u hj => ?_⟩
  by_cases e : i = j
  · subst e
    have hl : i < ρ.length := by
      have := (List.getElem?_eq_some_iff.mp hj).1
      rwa [List.length_set] at this
    rw [List.getElem?_set_self hl] at hj
    cases hj
    exact ⟨v, List.getElem?_set_self (by rw [h.1]; exact hl), r⟩
  · rw [List.getElem?_set_ne e] at hj
    rw [List.getElem?_set_ne e]
    exact h.2 j u hj
theorem RepSt.unset {K : PySem.W.Frag} {ι : List Addr} {H : Hp} {ρ : IS} {σ : L2.St} (h : RepSt K ι H ρ σ) (i : Nat) : RepSt K ι H (ρ.set i none) (σ.set i none) := by
  refine ⟨by rw [List.length_set, List.length_set]; exact h.1, fun j u hj => ?_⟩
  by_cases e : i = j
  · subst e
    have hl : i < ρ.length := by
      have := (List.getElem?_eq_some_iff.mp hj).1
      rwa [List.length_set] at this
    rw [List.getElem?_set_self hl] at hj
    cases hj
  · rw [List.getElem?_set_ne e] at hj
    rw [List.getElem?_set_ne e]
    exact h.2 j u hj

def FReps (K : PySem.W.Frag) (ι : List Addr) (H : Hp) : List (Str × W) → List (Str × V) → Prop
  | [], xs => xs = []
  | (f, w) :: ws, xs => ∃ v vs, xs = (f, v) :: vs ∧ Rep K ι H w v ∧ FReps K ι H ws vs
/-- an exception of the class c with its fields -/
def XRep (g : Gx) (ι : List Addr) (H : Hp) (c : Nat) (fs : List (Str × W)) (cls : Value) (d : Option Addr) : Prop :=
  cls = .ref (g.ca c) ∧ (fs = [] ∨ ∃ dd ys, d = some dd ∧ H dd = some (.xd ys) ∧ FReps g.K ι H fs ys)

section
variable {α β γ δ : Type}
def OutG (g : Gx) (Wx : WX) (ι : List Addr) (σ : L2.St) (H : Hp) (R : List Addr → Hp → α → β → Prop) (o : Out α) (Q : β → Hp → Prop) : Prop := match o with
  | .ok a hp' => ∀ b H' ι', Ext ι H ι' H' → Sim g.K ι' hp' H' → R ι' H' a b → Q b H'
  | .err c fs hp' => ∀ cls d H' ι', Ext ι H ι' H' → Sim g.K ι' hp' H' → XRep g ι' H' c fs cls d → Wx cls d σ H'
  | .stuck => False
/-- the reading that an interpreter's function gives -/
def rdG (g : Gx) (Wx : WX) (R : List Addr → Hp → α → β → Prop) (f : IS → IH → Out α) : L2.St → Hp → (β → Hp → Prop) → Prop := fun σ H Q =>
  ∃ ι ρ hp, Sim g.K ι hp H ∧ RepSt g.K ι H ρ σ ∧ OutG g Wx ι σ H R (f ρ hp) Q
variable {g : Gx} {Wx : WX} {ι ι' : List Addr} {σ : L2.St} {H H' : Hp} {R : List Addr → Hp → α → β → Prop} {S : List Addr → Hp → γ → δ → Prop} {ρ : IS} {hp : IH}
theorem OutG.ext {o : Out α} {Q : β → Hp → Prop} (e : Ext ι H ι' H') (h : OutG g Wx ι σ H R o Q) : OutG g Wx ι' σ H' R o Q := by
  cases o with
  | ok a hp' => exact fun b H2 ι2 e2 => h b H2 ι2 (e.trans e2)
  | err c fs hp' => exact fun cls d H2 ι2 e2 => h cls d H2 ι2 (e.trans e2)
  | stuck => exact h
theorem rdG.mono {f : IS → IH → Out α} {Q Q' : β → Hp → Prop} (h : rdG g Wx R f σ H Q) (k : ∀ b H', Q b H' → Q' b H') : rdG g Wx R f σ H Q' := by
  obtain ⟨ι, ρ, hp, s, r, o⟩ := h
  refine ⟨ι, ρ, hp, s, r, ?_⟩
  generalize f ρ hp = z at o ⊢
  cases z with
  | ok a hp' => exact fun b H2 ι2 e2 s2 r2 => k _ _ (o b H2 ι2 e2 s2 r2)
  | err c fs hp' => exact o
  | stuck => exact o
/-- behind a first part -/
structure Aft (g : Gx) (Wx : WX) (ι : List Addr) (σ : L2.St) (H : Hp) (ρ : IS) (R : List Addr → Hp → α → β → Prop) (S : List Addr → Hp → γ → δ → Prop) (k : α → IH → Out γ) (Q : δ → Hp → Prop) (b : β) (H' : Hp) : Prop where
  ex : ∃ ι' hp' a, Ext ι H ι' H' ∧ Sim g.K ι' hp' H' ∧ R ι' H' a b ∧ RepSt g.K ι' H' ρ σ ∧ OutG g Wx ι' σ H' S (k a hp') Q
theorem bindG {f : IS → IH → Out α} {k : α → IH → Out γ} {Q : δ → Hp → Prop} (s : Sim g.K ι hp H) (r : RepSt g.K ι H ρ σ) (h : OutG g Wx ι σ H S ((f ρ hp).bind k) Q) : rdG g Wx R f σ H (Aft g Wx ι σ H ρ R S k Q) := by
  refine ⟨ι, ρ, hp, s, r, ?_⟩
  generalize f ρ hp = z at h ⊢
  cases z with
  | ok a hp' => exact fun b H2 ι2 e2 s2 r2 => ⟨ι2, hp', a, e2, s2, r2, r.ext e2, OutG.ext e2 h⟩
  | err c fs hp' => exact h
  | stuck => exact h
theorem OutG.of {o : Option (α × IH)} {Q : β → Hp → Prop} (h : OutG g Wx ι σ H R (Out.of o) Q) : ∃ a hp', o = some (a, hp') ∧ ∀ b H' ι', Ext ι H ι' H' → Sim g.K ι' hp' H' → R ι' H' a b → Q b H' := by
  cases o with
  | none => exact h.elim
  | some z => exact ⟨z.1, z.2, rfl, h⟩
end
abbrev rdE (g : Gx) (Wx : WX) (f : IS → IH → Out W) : TE := rdG g Wx (Rep g.K) f
abbrev rdA (g : Gx) (Wx : WX) (f : IS → IH → Out (List W)) : TA := rdG g Wx (Reps g.K) f
abbrev rdT (g : Gx) (Wx : WX) (f : IS → IH → Out Bool) : TT := rdG g Wx (fun _ _ a b => b = a) f

section
variable {X : Cx}
theorem PEimp {e : Expr} {t t' : TE} (h : PE X e t) (k : ∀ σ H Q, t' σ H Q → t σ H Q) : PE X e t' := ⟨fun pins s σ H Q I q => h.run pins s σ H Q I (k _ _ _ q)⟩
theorem PTimp {e : Expr} {t t' : TT} (h : PT X e t) (k : ∀ σ H Q, t' σ H Q → t σ H Q) : PT X e t' := ⟨fun pins s σ H Q I q => h.run pins s σ H Q I (k _ _ _ q)⟩
theorem PAimp {e : List Expr} {t t' : TA} (h : PA X e t) (k : ∀ σ H Q, t' σ H Q → t σ H Q) : PA X e t' := ⟨fun p pins s σ H Q I q => h.run p pins s σ H Q I (k _ _ _ q)⟩
theorem PSimp {e : Stmt} {t t' : TS} (h : PS X e t) (k : ∀ D σ H, t' D σ H → t D σ H) : PS X e t' := ⟨fun pins s σ H D I q => h.run pins s σ H D I (k _ _ _ q)⟩
theorem PSsimp {e : List Stmt} {t t' : TS} (h : PSs X e t) (k : ∀ D σ H, t' D σ H → t D σ H) : PSs X e t' := ⟨fun pins s σ H D I q => h.run pins s σ H D I (k _ _ _ q)⟩
end
end Itp

set_option Elab.async false
set_option linter.all false
set_option autoImplicit false
set_option maxRecDepth 100000
/-! Itp, part B: the built-in operations on values, as functions; the small language; how it is run. -/
namespace Itp
open PySem PySem.Spec PyProof.Rows L2

def lineLen : Nat := 1000000

/-! ### values as data -/
/-- item by item -/
def allSome {α β : Type} (f : α → Option β) : List α → Option (List β)
  | [] => some []
  | x :: xs => match f x, allSome f xs with
    | some y, some ys => some (y :: ys)
    | _, _ => none
/-- a value as data; lists are read off the heap (n: how deep) -/
def dat (hp : IH) : Nat → W → Option PyData
  | 0, _ => none
  | n + 1, w => match w with
    | .non => some .none
    | .bl b => some (.bool b)
    | .int i => some (.int i)
    | .str s => some (.str s)
    | .tup ws => (allSome (dat hp n) ws).map .tuple
    | .ref r => match hp[r]? with
      | some (.lst ws) => (allSome (dat hp n) ws).map .list
      | some (.flst ws) => (allSome (dat hp n) ws).map .list
      | none => none
    | .ty _ => none

def truth (hp : IH) : W → Option Bool
  | .non => some false
  | .bl b => some b
  | .int i => some (i != 0)
  | .str y => if y.length ≤ lineLen then some ((y.length : Int) != 0) else none
  | .tup xs => some (!xs.isEmpty)
  | .ref n => match hp[n]? with
    | some (.lst xs) => some (!xs.isEmpty)
    | some (.flst xs) => some (!xs.isEmpty)
    | none => none
  | .ty _ => none

/-- the items of a list | a tuple -/
def itemsOf (hp : IH) : W → Option (List W)
  | .tup xs => some xs
  | .ref n => match hp[n]? with
    | some (.lst xs) => some xs
    | some (.flst xs) => some xs
    | none => none
  | _ => none

/-! ### operators -/
def mulOk (i j : Int) : Bool := decide (i.natAbs.log2 + j.natAbs.log2 < 134000000)
def binF (op : Operator) (a b : W) (hp : IH) : Option (W × IH) := match op, a, b with
  | .Add, .int i, .int j => some (.int (i + j), hp)
  | .Add, .str i, .str j => if i.length + j.length ≤ lineLen then some (.str (i ++ j), hp) else none
  | .Add, .tup xs, .tup ys => if xs.length + ys.length ≤ lineLen then some (.tup (xs ++ ys), hp) else none
  | .Add, .ref m, .ref n => match hp[m]?, hp[n]? with
    | some (.lst xs), some (.lst ys) => if xs.length + ys.length ≤ lineLen then some (.ref hp.length, hp ++ [.lst (xs ++ ys)]) else none
    | _, _ => none
  | .Sub, .int i, .int j => some (.int (i - j), hp)
  | .Mult, .int i, .int j => if mulOk i j then some (.int (i * j), hp) else none
  | .Mult, .ref m, .int k => match hp[m]? with
    | some (.lst xs) => if 0 ≤ k ∧ k ≤ 1000000 ∧ xs.length * k.toNat ≤ lineLen then some (.ref hp.length, hp ++ [.lst (List.replicate k.toNat xs).flatten]) else none
    | _ => none
  | .Mult, .tup xs, .int k => if xs ≠ [] ∧ 2 ≤ k ∧ k ≤ 1000 ∧ xs.length ≤ 1000 then some (.tup (List.replicate k.toNat xs).flatten, hp) else none
  | .Mult, .str x, .int k => if 0 ≤ k ∧ k ≤ 1000000 ∧ x.length ≤ lineLen ∧ x.length * k.toNat ≤ lineLen then some (.str (Txt.mul x k), hp) else none
  | .FloorDiv, .int i, .int j => if 0 < j ∧ Builtin.divisionGoesByPylong i j = false then some (.int (i / j), hp) else none
  | .Mod, .int i, .int j => if 0 < j then some (.int (i % j), hp) else none
  | .Pow, .int i, .int j => if 0 ≤ j ∧ j ≤ 1000000 ∧ i.natAbs < 2 ^ 64 then some (.int (i ^ j.toNat), hp) else none
  | _, _, _ => none

/-- op= of values that don't change in place -/
def ipF (op : Operator) (a b : W) (hp : IH) : Option (W × IH) := match op, a, b with
  | .Add, .int i, .int j => some (.int (i + j), hp)
  | .Add, .str i, .str j => if i.length + j.length ≤ lineLen then some (.str (i ++ j), hp) else none
  | .Sub, .int i, .int j => some (.int (i - j), hp)
  | _, _, _ => none

def strLt (i j : Str) : Bool := decide (i.cps.toList < j.cps.toList)
def isIn (x y : W) (hp : IH) : Option Bool := match y with
  | .str j => match x with
    | .str i => some (!(Builtin.Str.occurrences j i 0 j.length 1).isEmpty)
    | _ => none
  | _ => none
def depthMax : Nat := 60
/-- == by what the values hold -/
def eqD (a b : W) (hp : IH) : Option Bool := match dat hp depthMax a, dat hp depthMax b with
  | some d, some e => if SeqAt.shaped d = true ∧ SeqAt.shaped e = true then some (PyData.eqv d e) else none
  | _, _ => none
/-- == -/
def eqF (a b : W) (hp : IH) : Option Bool := match a, b with
  | .str x, .str y => some (decide (x = y))
  | a, b => eqD a b hp
/-- in a list | a tuple -/
def inF (a b : W) (hp : IH) : Option Bool := match b with
  | .str j => match a with
    | .str i => some (!(Builtin.Str.occurrences j i 0 j.length 1).isEmpty)
    | _ => none
  | _ => match dat hp depthMax a, dat hp depthMax b with
    | some d, some (.list ds) => if SeqAt.shaped d = true ∧ SeqAt.shaped (.list ds) = true then some (ds.any fun z => PyData.eqv z d) else none
    | some d, some (.tuple ds) => if SeqAt.shaped d = true ∧ SeqAt.shaped (.tuple ds) = true then some (ds.any fun z => PyData.eqv z d) else none
    | _, _ => none
def intsOf : List W → Option (List Int)
  | [] => some []
  | .int i :: r => (intsOf r).map (i :: ·)
  | _ => none
def cmpB (op : CmpOp) (a b : W) (hp : IH) : Option Bool := match op with
  | .Eq => eqF a b hp
  | .NotEq => (eqF a b hp).map not
  | .Lt => match a, b with
    | .int i, .int j => some (decide (i < j))
    | .str i, .str j => some (strLt i j)
    | .tup i, .tup j => match intsOf i, intsOf j with
      | some is, some js => some (HT.lexLt is js)
      | _, _ => none
    | _, _ => none
  | .LtE => match a, b with
    | .int i, .int j => some (decide (i ≤ j))
    | .str i, .str j => some (!strLt j i)
    | _, _ => none
  | .Gt => match a, b with
    | .int i, .int j => some (decide (j < i))
    | .str i, .str j => some (strLt j i)
    | _, _ => none
  | .GtE => match a, b with
    | .int i, .int j => some (decide (j ≤ i))
    | .str i, .str j => some (!strLt i j)
    | _, _ => none
  | .Is => match a, b with
    | .non, .non => some true
    | .tup _, .non => some false
    | .ref _, .non => some false
    | .int _, .non => some false
    | .str _, .non => some false
    | .bl _, .non => some false
    | .bl i, .bl j => some (decide (i = j))
    | _, _ => none
  | .IsNot => match a, b with
    | .non, .non => some false
    | .tup _, .non => some true
    | .ref _, .non => some true
    | .int _, .non => some true
    | .str _, .non => some true
    | .bl _, .non => some true
    | .bl i, .bl j => some (!decide (i = j))
    | _, _ => none
  | .In => inF a b hp
  | .NotIn => (inF a b hp).map not
def cmpF (op : CmpOp) (a b : W) (hp : IH) : Option (W × IH) := (cmpB op a b hp).map fun c => (.bl c, hp)

/-! ### subscripts -/
def subF (a i : W) (hp : IH) : Option (W × IH) := match a, i with
  | .tup xs, .int k => (atI xs k).map fun w => (w, hp)
  | .ref n, .int k => match hp[n]? with
    | some (.lst xs) => (atI xs k).map fun w => (w, hp)
    | some (.flst xs) => (atI xs k).map fun w => (w, hp)
    | none => none
  | .str z, .int k => if z.length ≤ lineLen then (atI z.cps.toList k).map fun c => (.str ⟨#[c]⟩, hp) else none
  | _, _ => none
def cutL {α : Type} (xs : List α) (lo hi : Option Int) : List α := (xs.drop (HT.sIx xs.length 0 lo)).take (HT.sIx xs.length xs.length hi - HT.sIx xs.length 0 lo)
def slcF (a : W) (lo hi : Option Int) (hp : IH) : Option (W × IH) := match a with
  | .tup xs => some (.tup (cutL xs lo hi), hp)
  | .ref n => match hp[n]? with
    | some (.lst xs) => some (.ref hp.length, hp ++ [.lst (cutL xs lo hi)])
    | some (.flst xs) => some (.ref hp.length, hp ++ [.lst (cutL xs lo hi)])
    | none => none
  | .str z => if z.length ≤ lineLen then some (.str (cutS z lo hi), hp) else none
  | _ => none
/-- o[i] of a list, i not below 0 -/
def getF (a i : W) (hp : IH) : Option W := match a, i with
  | .ref n, .int k => match hp[n]? with
    | some (.lst xs) => if 0 ≤ k ∧ k ≤ 1000000 then xs[k.toNat]? else none
    | _ => none
  | _, _ => none
/-- o[i] = v -/
def setF (o i v : W) (hp : IH) : Option IH := match o, i with
  | .ref n, .int k => match hp[n]? with
    | some (.lst xs) => (ixN xs.length k).map fun j => hp.set n (.lst (xs.set j v))
    | _ => none
  | _, _ => none

/-! ### built-in functions -/
inductive BF where
  | len | abs | max | min | divmod | all | any | sum | isinstance | ord | repr | sorted
  | tInt | tStr | tList | tTuple | tBool
  deriving DecidableEq
def tyName (hp : IH) : W → Option String
  | .non => some "NoneType"
  | .bl _ => some "bool"
  | .int _ => some "int"
  | .str _ => some "str"
  | .tup _ => some "tuple"
  | .ref n => match hp[n]? with
    | some _ => some "list"
    | none => none
  | .ty _ => none
/-- isinstance by the built-in types' names -/
def isTy (t u : String) : Bool := t == u || (t == "bool" && u == "int")
def okTy (u : String) : Bool := ["int", "bool", "str", "tuple", "list"].contains u
def boolsOf : List W → Option (List Bool)
  | [] => some []
  | .bl b :: r => (boolsOf r).map (b :: ·)
  | _ => none
def tysOf : List W → Option (List String)
  | [] => some []
  | .ty n :: r => (tysOf r).map (n :: ·)
  | _ => none
def strsOf : List W → Option (List Str)
  | [] => some []
  | .str x :: r => (strsOf r).map (x :: ·)
  | _ => none
/-! sorting -/
def insK {α : Type} (lt : α → α → Bool) (x : α) : List α → List α
  | [] => [x]
  | y :: l => if lt y x then y :: insK lt x l else x :: y :: l
def sortK {α : Type} (lt : α → α → Bool) : List α → List α
  | [] => []
  | x :: l => insK lt x (sortK lt l)
def atomOf : W → Option (Int ⊕ List Nat)
  | .int i => some (.inl i)
  | .str s => some (.inr s.cps.toList)
  | _ => none
def tupA : W → Option (List (Int ⊕ List Nat))
  | .tup ws => allSome atomOf ws
  | _ => none
def kindL (l : List (Int ⊕ List Nat)) : List Bool := l.map Sum.isRight
def ltL (a b : List (Int ⊕ List Nat)) : Bool := lexLt itemOrd a b
/-- sorted: ints; tuples of ints and texts, all of one form -/
def sortW (ws : List W) : Option (List W) := match intsOf ws with
  | some is => some ((sortK (fun a b => decide (a < b)) is).map .int)
  | none => match allSome tupA ws with
    | some (k :: ks) => if k ≠ [] ∧ (∀ l ∈ ks, kindL l = kindL k) then some ((sortK (fun (a b : List (Int ⊕ List Nat) × W) => ltL a.1 b.1) ((k :: ks).zip ws)).map (·.2)) else none
    | _ => none
def bfF (f : BF) (ws : List W) (hp : IH) : Option (W × IH) := match f, ws with
  | .len, [.str y] => if y.length ≤ lineLen then some (.int y.length, hp) else none
  | .len, [w] => (itemsOf hp w).map fun xs => (.int xs.length, hp)
  | .abs, [.int i] => some (.int (if i < 0 then -i else i), hp)
  | .max, [.int i, .int j] => some (.int (if j > i then j else i), hp)
  | .min, [.int i, .int j] => some (.int (if j < i then j else i), hp)
  | .divmod, [.int i, .int j] => if 0 < j ∧ Builtin.divisionGoesByPylong i j = false then some (.tup [.int (i / j), .int (i % j)], hp) else none
  | .all, [.ref n] => match hp[n]? with
    | some (.lst xs) => (boolsOf xs).map fun bs => (.bl (bs.all id), hp)
    | _ => none
  | .any, [.ref n] => match hp[n]? with
    | some (.lst xs) => (boolsOf xs).map fun bs => (.bl (bs.any id), hp)
    | _ => none
  | .sum, [.ref n] => match hp[n]? with
    | some (.lst xs) => (intsOf xs).map fun is => (.int is.sum, hp)
    | _ => none
  | .isinstance, [w, .ty n] => if okTy n then (tyName hp w).map fun t => (.bl (isTy t n), hp) else none
  | .isinstance, [w, .tup ts] => match tysOf ts with
    | some ns => if ns.all okTy then (tyName hp w).map fun t => (.bl (ns.any fun n => isTy t n), hp) else none
    | none => none
  | .ord, [.str x] => if x.length = 1 then some (.int (x.cps.getD 0 0 : Nat), hp) else none
  | .tInt, [.int i] => some (.int i, hp)
  | .tInt, [.bl k] => some (.int (if k then 1 else 0), hp)
  | .tInt, [.str a] => if a.length ≤ 640 then (PySem.intText? a).map fun n => (.int n, hp) else none
  | .tStr, [.int i] => if i.natAbs.log2 < 1920 then some (.str (toString i), hp) else none
  | .tStr, [.str a] => some (.str a, hp)
  | .tList, [w] => (itemsOf hp w).map fun xs => (.ref hp.length, hp ++ [.lst xs])
  | .tTuple, [w] => (itemsOf hp w).map fun xs => (.tup xs, hp)
  | .sorted, [.ref n] => match itemsOf hp (.ref n) with
    | some xs => match sortW xs with
      | some ys => if ys.length ≤ lineLen then some (.ref hp.length, hp ++ [.lst ys]) else none
      | none => none
    | none => none
  | .repr, [w] => match dat hp depthMax w with
    | some d => if d.showable = true ∧ d.hasDict = false ∧ d.depth ≤ depthMax ∧ d.shown.length ≤ lineLen then some (.str d.shown, hp) else none
    | none => none
  | _, _ => none

/-! ### methods of built-in types -/
inductive BM where
  | append | extend | pop | join | count | rfind | isalpha | index | upper
  deriving DecidableEq
def bmF (m : BM) (o : W) (ws : List W) (hp : IH) : Option (W × IH) := match m, o, ws with
  | .append, .ref n, [w] => match hp[n]? with
    | some (.lst xs) => if xs.length < lineLen then some (.non, hp.set n (.lst (xs ++ [w]))) else none
    | _ => none
  | .extend, .ref n, [.ref m] => match hp[n]?, hp[m]? with
    | some (.lst xs), some (.lst ys) => if xs.length + ys.length ≤ lineLen then some (.non, hp.set n (.lst (xs ++ ys))) else none
    | _, _ => none
  | .pop, .ref n, [] => match hp[n]? with
    | some (.lst xs) => (xs[xs.length - 1]?).map fun w => (w, hp.set n (.lst xs.dropLast))
    | _ => none
  | .join, .str a, [w] => match itemsOf hp w with
    | some ws => match strsOf ws with
      | some ys => if (ys.map (·.length)).sum + ys.length * a.length ≤ lineLen then some (.str (Txt.join a ys), hp) else none
      | none => none
    | none => none
  | .count, .str a, [.str b] => some (.int (Txt.count a b), hp)
  | .rfind, .str a, [.str b] => some (.int (Txt.rfind a b), hp)
  | .isalpha, .str a, [] => some (.bl (Txt.isalpha a), hp)
  | .upper, .str a, [] => if a.length ≤ lineLen then some (.str (Txt.upper a), hp) else none
  | .index, .str a, [.str b] => (Builtin.Str.occurrences a b 0 a.length 1).head?.map fun i => (.int (i : Nat), hp)
  | _, _, _ => none

/-- whether the receiver is of the method's type -/
def recOk (m : BM) (o : W) (hp : IH) : Bool := match m, o with
  | .append, .ref n => match hp[n]? with | some (.lst _) => true | _ => false
  | .extend, .ref n => match hp[n]? with | some (.lst _) => true | _ => false
  | .pop, .ref n => match hp[n]? with | some (.lst _) => true | _ => false
  | .append, _ => false
  | .extend, _ => false
  | .pop, _ => false
  | _, .str _ => true
  | _, _ => false

/-! ### the language -/
inductive Tgt where
  | name (i : Nat)
  | tup (ts : List Tgt)
mutual
inductive IE where
  | var (i : Nat)
  | cst (w : W)
  | tup (es : List IE)
  | lst (es : List IE)
  | bin (op : Operator) (a b : IE)
  | neg (a : IE)
  | not (a : IE)
  | cmp (op : CmpOp) (a b : IE)
  | chn (op op' : CmpOp) (a b c : IE)
  | and (a b : IE)
  | or (a b : IE)
  | ite (c : IT) (a b : IE)
  | call (f : Nat) (es : List IE)
  | callk (f : Nat) (perm : List Nat) (es ks : List IE)
  | blt (f : BF) (es : List IE)
  | meth (m : BM) (o : IE) (es : List IE)
  | sub (a i : IE)
  | slc (a : IE) (lo hi : Option IE)
  | comp (elt : IE) (tgt : Tgt) (it : IIt) (cond : Option IT) (own : List Nat)
inductive IT where
  | not (a : IT)
  | and (a b : IT)
  | or (a b : IT)
  | cmp (op : CmpOp) (a b : IE)
  | chn (op op' : CmpOp) (a b c : IE)
  | tru (e : IE)
inductive IIt where
  | val (e : IE)
  | rng (e : IE)
  | rng2 (a b : IE)
  | enum (e : IE)
  | zip (a b : IE)
end
inductive STgt where
  | name (i : Nat)
  | sub (o i : IE)
  | tup (ts : List STgt)
inductive IStm where
  | expr (e : IE)
  | ret (e : IE)
  | retN
  | asg (t : STgt) (e : IE)
  | augN (i : Nat) (op : Operator) (e : IE)
  | augS (o i : IE) (op : Operator) (e : IE)
  | ite (c : IT) (a b : List IStm)
  | forS (t : Tgt) (it : IIt) (body : List IStm)
  | whl (c : IT) (body : List IStm)
  | pass
  | brk
  | cont
  | nev

/-! ### how it runs -/
/-- what is walked: a list (as it is at each turn), a tuple, a text, a range, with places, two at once -/
inductive Iter where
  | lstR (n : Nat)
  | tupR (ws : List W)
  | strR (s : Str)
  | rng (lo : Int) (n : Nat)
  | enum (it : Iter)
  | zip (a b : Iter)
/-- the i-th item now; none within: no further one -/
def cur : Iter → Nat → IH → Option (Option W)
  | .lstR n, i, hp => match hp[n]? with
    | some (.lst xs) => some xs[i]?
    | some (.flst xs) => some xs[i]?
    | none => none
  | .tupR xs, i, _ => some xs[i]?
  | .strR s, i, _ => some (s.cps[i]?.map fun c => .str ⟨#[c]⟩)
  | .rng lo n, i, _ => some (if i < n then some (.int (lo + i)) else none)
  | .enum it, i, hp => (cur it i hp).map fun o => o.map fun w => .tup [.int i, w]
  | .zip a b, i, hp => match cur a i hp, cur b i hp with
    | some (some x), some (some y) => some (some (.tup [x, y]))
    | some _, some _ => some none
    | _, _ => none
def itLen : Iter → IH → Nat
  | .lstR n, hp => match hp[n]? with
    | some (.lst xs) => xs.length
    | some (.flst xs) => xs.length
    | none => 0
  | .tupR xs, _ => xs.length
  | .strR s, _ => s.cps.size
  | .rng _ n, _ => n
  | .enum it, hp => itLen it hp
  | .zip a b, hp => min (itLen a hp) (itLen b hp)
/-- what a value is walked as -/
def iterOf (w : W) (hp : IH) : Option Iter := match w with
  | .tup ws => some (.tupR ws)
  | .ref n => match hp[n]? with
    | some _ => some (.lstR n)
    | none => none
  | .str s => some (.strR s)
  | _ => none
/-- what enumerate walks -/
def iterE (w : W) (hp : IH) : Option Iter := match w with
  | .ref n => match hp[n]? with
    | some _ => some (.lstR n)
    | none => none
  | .str s => some (.strR s)
  | _ => none
/-- what zip walks: two lists, two tuples -/
def iterZ (w u : W) (hp : IH) : Option Iter := match w, u with
  | .ref m, .ref n => match hp[m]?, hp[n]? with
    | some _, some _ => some (.zip (.lstR m) (.lstR n))
    | _, _ => none
  | .tup ws, .tup us => some (.zip (.tupR ws) (.tupR us))
  | _, _ => none

mutual
def asgT : Tgt → W → IS → Option IS
  | .name i, w, ρ => some (ρ.set i (some w))
  | .tup ts, .tup ws, ρ => asgTs ts ws ρ
  | .tup _, _, _ => none
def asgTs : List Tgt → List W → IS → Option IS
  | [], [], ρ => some ρ
  | t :: ts, w :: ws, ρ => match asgT t w ρ with
    | some ρ' => asgTs ts ws ρ'
    | none => none
  | _, _, _ => none
end

/-- the slots of a comprehension's own names forgotten -/
def wipeI (ρ : IS) : List Nat → IS
  | [] => ρ
  | v :: vs => (wipeI ρ vs).set v none

/-- a comprehension's turns: D the new list's place -/
def compL (elt : IS → IH → Out W) (cond : IS → IH → Out Bool) (t : Tgt) (it : Iter) (D : Nat) (ρ : IS) : Nat → Nat → IH → Out W
  | 0, i, hp => match cur it i hp with
    | some none => .ok (.ref D) hp
    | _ => .stuck
  | k + 1, i, hp => match cur it i hp with
    | some (some w) => match asgT t w ρ with
      | some ρ' => match cond ρ' hp with
        | .ok true hp1 => match elt ρ' hp1 with
          | .ok y hp2 => match hp2[D]? with
            | some (.lst acc) => if acc.length < lineLen then compL elt cond t it D ρ k (i + 1) (hp2.set D (.lst (acc ++ [y]))) else .stuck
            | _ => .stuck
          | _ => .stuck
        | .ok false hp1 => compL elt cond t it D ρ k (i + 1) hp1
        | _ => .stuck
      | none => .stuck
    | some none => .ok (.ref D) hp
    | none => .stuck

def pm {α : Type} (perm : List Nat) (l : List α) : List α := perm.filterMap fun j => l[j]?
abbrev FEnv := Nat → List W → IH → Out W
mutual
def ev (F : FEnv) : IE → IS → IH → Out W
  | .var i, ρ, hp => match ρ[i]? with
    | some (some w) => .ok w hp
    | _ => .stuck
  | .cst w, _, hp => .ok w hp
  | .tup es, ρ, hp => (evs F es ρ hp).bind fun ws hp => if ws.length ≤ lineLen then .ok (.tup ws) hp else .stuck
  | .lst es, ρ, hp => (evs F es ρ hp).bind fun ws hp => if ws.length ≤ lineLen then .ok (.ref hp.length) (hp ++ [.lst ws]) else .stuck
  | .bin op a b, ρ, hp => (ev F a ρ hp).bind fun x hp => (ev F b ρ hp).bind fun y hp => .of (binF op x y hp)
  | .neg a, ρ, hp => (ev F a ρ hp).bind fun x hp => match x with
    | .int i => .ok (.int (-i)) hp
    | _ => .stuck
  | .not a, ρ, hp => (ev F a ρ hp).bind fun x hp => match truth hp x with
    | some c => .ok (.bl (!c)) hp
    | none => .stuck
  | .cmp op a b, ρ, hp => (ev F a ρ hp).bind fun x hp => (ev F b ρ hp).bind fun y hp => .of (cmpF op x y hp)
  | .chn op op' a b c, ρ, hp => (ev F a ρ hp).bind fun x hp => (ev F b ρ hp).bind fun y hp => match cmpB op x y hp with
    | some true => (ev F c ρ hp).bind fun z hp => .of (cmpF op' y z hp)
    | some false => .ok (.bl false) hp
    | none => .stuck
  | .and a b, ρ, hp => (ev F a ρ hp).bind fun x hp => match truth hp x with
    | some true => ev F b ρ hp
    | some false => .ok x hp
    | none => .stuck
  | .or a b, ρ, hp => (ev F a ρ hp).bind fun x hp => match truth hp x with
    | some true => .ok x hp
    | some false => ev F b ρ hp
    | none => .stuck
  | .ite c a b, ρ, hp => (tst F c ρ hp).bind fun k hp => if k then ev F a ρ hp else ev F b ρ hp
  | .call f es, ρ, hp => (evs F es ρ hp).bind fun ws hp => F f ws hp
  | .callk f perm es ks, ρ, hp => (evs F es ρ hp).bind fun ws hp => (evs F ks ρ hp).bind fun zs hp => if ws.length = es.length ∧ zs.length = ks.length then F f (pm perm (ws ++ zs)) hp else .stuck
  | .blt f es, ρ, hp => (evs F es ρ hp).bind fun ws hp => .of (bfF f ws hp)
  | .meth m o es, ρ, hp => (ev F o ρ hp).bind fun x hp => if recOk m x hp then (evs F es ρ hp).bind fun ws hp => .of (bmF m x ws hp) else .stuck
  | .sub a i, ρ, hp => (ev F a ρ hp).bind fun x hp => (ev F i ρ hp).bind fun y hp => .of (subF x y hp)
  | .slc a lo hi, ρ, hp => (ev F a ρ hp).bind fun x hp => (evO F lo ρ hp).bind fun l hp => (evO F hi ρ hp).bind fun h hp => .of (slcF x l h hp)
  | .comp elt tgt it cond own, ρ, hp => (evIt F it ρ hp).bind fun J hp =>
      compL (ev F elt) (tstO F cond) tgt J hp.length (wipeI ρ own) (itLen J hp) 0 (hp ++ [.lst []])
def evs (F : FEnv) : List IE → IS → IH → Out (List W)
  | [], _, hp => .ok [] hp
  | e :: es, ρ, hp => (ev F e ρ hp).bind fun w hp => (evs F es ρ hp).bind fun ws hp => .ok (w :: ws) hp
def evO (F : FEnv) : Option IE → IS → IH → Out (Option Int)
  | none, _, hp => .ok none hp
  | some e, ρ, hp => (ev F e ρ hp).bind fun w hp => match w with
    | .int i => .ok (some i) hp
    | _ => .stuck
def tstO (F : FEnv) : Option IT → IS → IH → Out Bool
  | none, _, hp => .ok true hp
  | some e, ρ, hp => tst F e ρ hp
def evIt (F : FEnv) : IIt → IS → IH → Out Iter
  | .val e, ρ, hp => (ev F e ρ hp).bind fun w hp => match iterOf w hp with
    | some J => .ok J hp
    | none => .stuck
  | .rng e, ρ, hp => (ev F e ρ hp).bind fun w hp => match w with
    | .int j => if -(2 ^ 62) ≤ j ∧ j < 2 ^ 62 then .ok (.rng 0 j.toNat) hp else .stuck
    | _ => .stuck
  | .rng2 a b, ρ, hp => (ev F a ρ hp).bind fun w hp => (ev F b ρ hp).bind fun u hp => match w, u with
    | .int i, .int j => if -(2 ^ 62) ≤ i ∧ i < 2 ^ 62 ∧ -(2 ^ 62) ≤ j ∧ j < 2 ^ 62 then .ok (.rng i (j - i).toNat) hp else .stuck
    | _, _ => .stuck
  | .enum e, ρ, hp => (ev F e ρ hp).bind fun w hp => match iterE w hp with
    | some J => .ok (.enum J) hp
    | none => .stuck
  | .zip a b, ρ, hp => (ev F a ρ hp).bind fun w hp => (ev F b ρ hp).bind fun u hp => match iterZ w u hp with
    | some J => .ok J hp
    | none => .stuck
def tst (F : FEnv) : IT → IS → IH → Out Bool
  | .not a, ρ, hp => (tst F a ρ hp).bind fun c hp => .ok (!c) hp
  | .and a b, ρ, hp => (tst F a ρ hp).bind fun c hp => if c then tst F b ρ hp else .ok false hp
  | .or a b, ρ, hp => (tst F a ρ hp).bind fun c hp => if c then .ok true hp else tst F b ρ hp
  | .cmp op a b, ρ, hp => (ev F a ρ hp).bind fun x hp => (ev F b ρ hp).bind fun y hp => match cmpB op x y hp with
    | some c => .ok c hp
    | none => .stuck
  | .chn op op' a b c, ρ, hp => (ev F a ρ hp).bind fun x hp => (ev F b ρ hp).bind fun y hp => match cmpB op x y hp with
    | some true => (ev F c ρ hp).bind fun z hp => match cmpB op' y z hp with
      | some c => .ok c hp
      | none => .stuck
    | some false => .ok false hp
    | none => .stuck
  | .tru e, ρ, hp => (ev F e ρ hp).bind fun w hp => match truth hp w with
    | some c => .ok c hp
    | none => .stuck
end

/-- how statements end -/
inductive SOut where
  | nx (ρ : IS) (hp : IH)
  | rt (w : W) (hp : IH)
  | bk (ρ : IS) (hp : IH)
  | ct (ρ : IS) (hp : IH)
  | err (c : Nat) (fs : List (Str × W)) (ρ : IS) (hp : IH)
  | stuck
def Out.then {α : Type} (o : Out α) (ρ : IS) (k : α → IH → SOut) : SOut := match o with
  | .ok a hp => k a hp
  | .err c fs hp => .err c fs ρ hp
  | .stuck => .stuck
@[simp] theorem Out.then_ok {α : Type} (a : α) (hp : IH) (ρ : IS) (k : α → IH → SOut) : (Out.ok a hp).then ρ k = k a hp := rfl
@[simp] theorem Out.then_err {α : Type} (c : Nat) (fs : List (Str × W)) (hp : IH) (ρ : IS) (k : α → IH → SOut) : (Out.err c fs hp).then ρ k = .err c fs ρ hp := rfl
@[simp] theorem Out.then_stuck {α : Type} (ρ : IS) (k : α → IH → SOut) : (Out.stuck : Out α).then ρ k = .stuck := rfl
def SOut.seq (o : SOut) (k : IS → IH → SOut) : SOut := match o with
  | .nx ρ hp => k ρ hp
  | o => o
@[simp] theorem SOut.seq_nx (ρ : IS) (hp : IH) (k : IS → IH → SOut) : (SOut.nx ρ hp).seq k = k ρ hp := rfl
@[simp] theorem SOut.seq_rt (w : W) (hp : IH) (k : IS → IH → SOut) : (SOut.rt w hp).seq k = .rt w hp := rfl
@[simp] theorem SOut.seq_bk (ρ : IS) (hp : IH) (k : IS → IH → SOut) : (SOut.bk ρ hp).seq k = .bk ρ hp := rfl
@[simp] theorem SOut.seq_ct (ρ : IS) (hp : IH) (k : IS → IH → SOut) : (SOut.ct ρ hp).seq k = .ct ρ hp := rfl
@[simp] theorem SOut.seq_err (c : Nat) (fs : List (Str × W)) (ρ : IS) (hp : IH) (k : IS → IH → SOut) : (SOut.err c fs ρ hp).seq k = .err c fs ρ hp := rfl
@[simp] theorem SOut.seq_stuck (k : IS → IH → SOut) : SOut.stuck.seq k = .stuck := rfl

/-- what a value may be unpacked into -/
def unpk (w : W) (n : Nat) (hp : IH) : Option (List W) := match itemsOf hp w with
  | some ws => if ws.length = n then some ws else none
  | none => none
mutual
/-- a value stored; .nx: done -/
def sto (F : FEnv) : STgt → W → IS → IH → SOut
  | .name i, w, ρ, hp => .nx (ρ.set i (some w)) hp
  | .sub o i, w, ρ, hp => (ev F o ρ hp).then ρ fun x hp => (ev F i ρ hp).then ρ fun y hp => match setF x y w hp with
    | some hp => .nx ρ hp
    | none => .stuck
  | .tup ts, w, ρ, hp => match unpk w ts.length hp with
    | some ws => stos F ts ws ρ hp
    | none => .stuck
def stos (F : FEnv) : List STgt → List W → IS → IH → SOut
  | [], [], ρ, hp => .nx ρ hp
  | t :: ts, w :: ws, ρ, hp => (sto F t w ρ hp).seq fun ρ hp => stos F ts ws ρ hp
  | _, _, _, _ => .stuck
end

/-- a for's turns -/
def forL (body : IS → IH → SOut) (t : Tgt) (it : Iter) : Nat → Nat → IS → IH → SOut
  | 0, i, ρ, hp => match cur it i hp with
    | some none => .nx ρ hp
    | _ => .stuck
  | k + 1, i, ρ, hp => match cur it i hp with
    | some (some w) => match asgT t w ρ with
      | some ρ' => match body ρ' hp with
        | .nx ρ2 hp2 => forL body t it k (i + 1) ρ2 hp2
        | .ct ρ2 hp2 => forL body t it k (i + 1) ρ2 hp2
        | .bk ρ2 hp2 => .nx ρ2 hp2
        | o => o
      | none => .stuck
    | some none => .nx ρ hp
    | none => .stuck
/-- a while's turns -/
def whlL (c : IS → IH → Out Bool) (body : IS → IH → SOut) : Nat → IS → IH → SOut
  | 0, _, _ => .stuck
  | n + 1, ρ, hp => (c ρ hp).then ρ fun k hp => if k then
      match body ρ hp with
      | .nx ρ2 hp2 => whlL c body n ρ2 hp2
      | .ct ρ2 hp2 => whlL c body n ρ2 hp2
      | .bk ρ2 hp2 => .nx ρ2 hp2
      | o => o
    else .nx ρ hp

mutual
def evS (F : FEnv) (gas : Nat) : IStm → IS → IH → SOut
  | .expr e, ρ, hp => (ev F e ρ hp).then ρ fun _ hp => .nx ρ hp
  | .ret e, ρ, hp => (ev F e ρ hp).then ρ fun w hp => .rt w hp
  | .retN, _, hp => .rt .non hp
  | .asg t e, ρ, hp => (ev F e ρ hp).then ρ fun w hp => sto F t w ρ hp
  | .augN i op e, ρ, hp => match ρ[i]? with
    | some (some x) => (ev F e ρ hp).then ρ fun y hp => match ipF op x y hp with
      | some (z, hp) => .nx (ρ.set i (some z)) hp
      | none => .stuck
    | _ => .stuck
  | .augS o i op e, ρ, hp => (ev F o ρ hp).then ρ fun x hp => (ev F i ρ hp).then ρ fun j hp => match getF x j hp with
    | some v => (ev F e ρ hp).then ρ fun y hp => match ipF op v y hp with
      | some (z, hp) => match setF x j z hp with
        | some hp => .nx ρ hp
        | none => .stuck
      | none => .stuck
    | none => .stuck
  | .ite c a b, ρ, hp => (tst F c ρ hp).then ρ fun k hp => if k then evSs F gas a ρ hp else evSs F gas b ρ hp
  | .forS t it body, ρ, hp => (evIt F it ρ hp).then ρ fun J hp => forL (evSs F gas body) t J (itLen J hp) 0 ρ hp
  | .whl c body, ρ, hp => whlL (tst F c) (evSs F gas body) gas ρ hp
  | .pass, ρ, hp => .nx ρ hp
  | .brk, ρ, hp => .bk ρ hp
  | .cont, ρ, hp => .ct ρ hp
  | .nev, _, _ => .stuck
def evSs (F : FEnv) (gas : Nat) : List IStm → IS → IH → SOut
  | [], ρ, hp => .nx ρ hp
  | s :: ss, ρ, hp => (evS F gas s ρ hp).seq fun ρ hp => evSs F gas ss ρ hp
end
/-- a def's body at its arguments; n: how many names it has -/
def runB (F : FEnv) (gas : Nat) (body : List IStm) (n : Nat) (ws : List W) (hp : IH) : Out W :=
  match evSs F gas body (ws.map some ++ List.replicate (n - ws.length) none) hp with
  | .rt w hp => .ok w hp
  | .nx _ hp => .ok .non hp
  | .err c fs _ hp => .err c fs hp
  | _ => .stuck
end Itp

set_option Elab.async false
set_option linter.all false
set_option autoImplicit false
set_option maxRecDepth 100000
set_option maxHeartbeats 4000000
/-! Itp, part C: the built-in operations are what the hand layer's rules say. -/
namespace Itp
open PySem PySem.Spec PyProof.Rows L2
theorem line_le {n : Nat} (h : n ≤ lineLen) : n ≤ sizeLine := Nat.le_trans h (by decide)
theorem line_lt {n : Nat} (h : n < lineLen) : n < sizeLine := Nat.lt_of_lt_of_le h (by decide)
theorem line_le' {n : Nat} (h : n ≤ lineLen) : n ≤ 16777216 := Nat.le_trans h (by decide)

section
variable {K : PySem.W.Frag} {ι : List Addr} {hp : IH} {H : Hp} {n : Nat} {ws : List W}
theorem Sim.lstAt (s : Sim K ι hp H) (h : hp[n]? = some (.lst ws)) : ∃ a xs, ι[n]? = some a ∧ H a = some (.lst xs) ∧ Reps K ι H ws xs := by
  obtain ⟨a, ha, xs, h1, h2⟩ := s.addr h
  exact ⟨a, xs, ha, h1, h2⟩
/-- a list that is read -/
theorem Sim.seqAt (s : Sim K ι hp H) {o : IO} (h : hp[n]? = some o) : ∃ a xs ws, ι[n]? = some a ∧ SqL K H a xs ∧ Reps K ι H ws xs ∧ (o = .lst ws ∨ o = .flst ws) := by
  obtain ⟨a, ha, r⟩ := s.addr h
  cases o with
  | lst ws =>
    obtain ⟨xs, h1, h2⟩ := r
    exact ⟨a, xs, ws, ha, .inl (.inl h1), h2, .inl rfl⟩
  | flst ws =>
    obtain ⟨xs, h1, h2⟩ := r
    exact ⟨a, xs, ws, ha, h1.sq, h2, .inr rfl⟩
theorem Rep.ref {v : V} {a : Addr} (h : Rep K ι H (.ref n) v) (ha : ι[n]? = some a) : v = .ref a := by
  obtain ⟨b, hb, rfl⟩ := h
  rw [ha] at hb
  cases hb
  rfl
/-- the newest list -/
theorem Sim.newest (s : Sim K ι hp H) {p : Addr} : (ι ++ [p])[hp.length]? = some p := by
  rw [← s.len, List.getElem?_append_right (Nat.le_refl _)]
  simp
/-- items of a list | a tuple -/
theorem Sim.items (s : Sim K ι hp H) {w : W} {v : V} (h : itemsOf hp w = some ws) (r : Rep K ι H w v) : ∃ a xs, v = .ref a ∧ Reps K ι H ws xs ∧ (SqL K H a xs ∨ SqT K H a xs) := by
  cases w with
  | tup us =>
    obtain ⟨a, xs, rfl, h1, h2⟩ := r
    cases h
    exact ⟨a, xs, rfl, h2, .inr h1⟩
  | ref m =>
    cases e : hp[m]? with
    | none => simp only [itemsOf, e] at h; cases h
    | some o =>
      obtain ⟨a, xs, us, ha, hq, hr, ho⟩ := s.seqAt e
      have ev := Rep.ref r ha
      rcases ho with rfl | rfl
      · simp only [itemsOf, e] at h
        cases h
        exact ⟨a, xs, ev, hr, .inl hq⟩
      · simp only [itemsOf, e] at h
        cases h
        exact ⟨a, xs, ev, hr, .inl hq⟩
  | non => cases h
  | bl b => cases h
  | int i => cases h
  | str x => cases h
  | ty t => cases h

/-! ### data -/
theorem dat_list (K : PySem.W.Frag) (ι : List Addr) (H : Hp) {f : W → Option PyData} (hf : ∀ w d v, f w = some d → Rep K ι H w v → Dp K H v d) : ∀ (ws : List W) (ds : List PyData) (xs : List V), allSome f ws = some ds → Reps K ι H ws xs → DpAll K H xs ds
  | [], ds, xs, h, r => by
    cases h
    subst r
    exact .nil
  | w :: ws, ds, xs, h, r => by
    obtain ⟨v, vs, rfl, r1, r2⟩ := r
    unfold allSome at h
    split at h
    · rename_i d ds' e1 e2
      cases h
      exact .cons (hf _ _ _ e1 r1) (dat_list K ι H hf ws ds' vs e2 r2)
    · cases h
theorem Sim.dat (s : Sim K ι hp H) : ∀ (m : Nat) (w : W) (d : PyData) (v : V), dat hp m w = some d → Rep K ι H w v → Dp K H v d
  | 0, w, d, v, h, r => by
    simp only [Itp.dat] at h
    cases h
  | m + 1, w, d, v, h, r => by
    unfold Itp.dat at h
    cases w with
    | non => cases h; cases r; exact .non
    | bl b => cases h; cases r; exact .bl b
    | int i => cases h; cases r; exact .int i
    | str x => cases h; cases r; exact .str x
    | ty t => cases h
    | tup us =>
      obtain ⟨a, xs, rfl, h1, h2⟩ := r
      simp only [Option.map_eq_some_iff] at h
      obtain ⟨ds, e, rfl⟩ := h
      exact .tup h1 (dat_list K ι H (fun w d v => Sim.dat s m w d v) us ds xs e h2)
    | ref k =>
      cases e : hp[k]? with
      | none => simp only [e] at h; cases h
      | some o =>
        obtain ⟨a, xs, us, ha, hq, hr, ho⟩ := s.seqAt e
        have ev := Rep.ref r ha
        subst ev
        rcases ho with rfl | rfl
        · simp only [e, Option.map_eq_some_iff] at h
          obtain ⟨ds, e2, rfl⟩ := h
          exact .lst hq (dat_list K ι H (fun w d v => Sim.dat s m w d v) us ds xs e2 hr)
        · simp only [e, Option.map_eq_some_iff] at h
          obtain ⟨ds, e2, rfl⟩ := h
          exact .lst hq (dat_list K ι H (fun w d v => Sim.dat s m w d v) us ds xs e2 hr)
/-! ### truth -/
theorem isEmpty_reps {xs : List V} (h : Reps K ι H ws xs) : xs.isEmpty = ws.isEmpty := by
  cases ws with
  | nil => cases h; rfl
  | cons w ws =>
    obtain ⟨v, vs, rfl, _⟩ := h
    rfl
theorem Sim.truth (s : Sim K ι hp H) {w : W} {v : V} {k : Bool} (h : truth hp w = some k) (r : Rep K ι H w v) : TruV K v H k := by
  cases w with
  | non => cases h; cases r; rfl
  | bl b => cases h; cases r; rfl
  | int i => cases h; cases r; rfl
  | str x =>
    cases r
    simp only [Itp.truth] at h
    split at h
    · rename_i hl
      cases h
      exact ⟨line_le hl, rfl⟩
    · cases h
  | ty t => cases h
  | tup us =>
    obtain ⟨a, xs, rfl, h1, h2⟩ := r
    cases h
    exact .inr (.inl ⟨xs, h1, by rw [isEmpty_reps h2]⟩)
  | ref m =>
    cases e : hp[m]? with
    | none => simp only [Itp.truth, e] at h; cases h
    | some o =>
      obtain ⟨a, xs, us, ha, hq, hr, ho⟩ := s.seqAt e
      have ev := Rep.ref r ha
      subst ev
      rcases ho with rfl | rfl
      · simp only [Itp.truth, e] at h
        cases h
        exact .inl ⟨xs, hq, by rw [isEmpty_reps hr]⟩
      · simp only [Itp.truth, e] at h
        cases h
        exact .inl ⟨xs, hq, by rw [isEmpty_reps hr]⟩
end

/-- what an operation of two values gives -/
def rF2 (K : PySem.W.Frag) (f : W → W → IH → Option (W × IH)) : R2 := fun x y H Q => ∃ ι hp a b w hp', Sim K ι hp H ∧ Rep K ι H a x ∧ Rep K ι H b y ∧ f a b hp = some (w, hp') ∧
  ∀ v H' ι', Ext ι H ι' H' → Sim K ι' hp' H' → Rep K ι' H' w v → Q v H'
section
variable {X : Cx}
theorem op_bin (op : Operator) : OpR X (binaryOp op) (rF2 X.K (binF op)) := by
  intro pins s σ H x y v u Q I rx ry h
  obtain ⟨ι, hp, a, b, w, hp', sim, ra, rb, e, k⟩ := h
  unfold binF at e
  split at e
  · rename_i i j
    obtain rfl : x = .int i := ra
    obtain rfl : y = .int j := rb
    cases e
    exact op_add pins s σ H _ _ v u Q I rx ry ⟨i, j, rfl, rfl, k _ _ _ (Ext.refl _ _) sim rfl⟩
  · rename_i i j
    obtain rfl : x = .str i := ra
    obtain rfl : y = .str j := rb
    split at e
    · rename_i hl
      cases e
      exact op_add_str pins s σ H _ _ v u Q I rx ry ⟨i, j, rfl, rfl, line_le hl, k _ _ _ (Ext.refl _ _) sim rfl⟩
    · cases e
  · rename_i xs ys
    obtain ⟨pa, vs, rfl, ha, ra⟩ := ra
    obtain ⟨pb, us, rfl, hb, rb⟩ := rb
    split at e
    · rename_i hl
      cases e
      refine op_catA pins s σ H _ _ v u Q I rx ry ⟨pa, pb, vs, us, rfl, rfl, ha, hb, ?_, fun e0 => ?_, fun _ e1 => ?_, fun _ _ p hp0 => ?_⟩
      · rw [ra.length, rb.length]
        exact line_le hl
      · subst e0
        have ez : xs = [] := by
          have := ra.length
          exact List.length_eq_zero_iff.mp this.symm
        subst ez
        exact k _ _ _ (Ext.refl _ _) sim ⟨pb, us, rfl, hb, rb⟩
      · subst e1
        have ez : ys = [] := by
          have := rb.length
          exact List.length_eq_zero_iff.mp this.symm
        subst ez
        refine k _ _ _ (Ext.refl _ _) sim ⟨pa, vs, rfl, ha, ?_⟩
        rw [List.append_nil]
        exact ra
      · exact k _ _ _ (Ext.new hp0) (sim.new hp0) ⟨p, _, rfl, .inl (.inl upd_same), Reps.ext (Ext.new hp0) _ _ (ra.append rb)⟩
    · cases e
  · rename_i m n
    split at e
    · rename_i xs ys e1 e2
      obtain ⟨am, vs, hm, hvm, rm⟩ := sim.lstAt e1
      obtain ⟨an, us, hn, hvn, rn⟩ := sim.lstAt e2
      have ex := Rep.ref ra hm
      have ey := Rep.ref rb hn
      subst ex ey
      split at e
      · rename_i hl
        cases e
        refine op_cat pins s σ H _ _ v u Q I rx ry ⟨am, an, vs, us, rfl, rfl, hvm, hvn, ?_, fun p hp0 => ?_⟩
        · rw [rm.length, rn.length]
          exact line_le hl
        · exact k _ _ _ (Ext.lst hp0) (sim.lst hp0 (rm.append rn)) ⟨p, sim.newest, rfl⟩
      · cases e
    · cases e
  · rename_i i j
    obtain rfl : x = .int i := ra
    obtain rfl : y = .int j := rb
    cases e
    exact op_sub pins s σ H _ _ v u Q I rx ry ⟨i, j, rfl, rfl, k _ _ _ (Ext.refl _ _) sim rfl⟩
  · rename_i i j
    obtain rfl : x = .int i := ra
    obtain rfl : y = .int j := rb
    split at e
    · rename_i hm
      cases e
      refine op_mulX pins s σ H _ _ v u Q I rx ry ⟨i, j, rfl, rfl, ?_, k _ _ _ (Ext.refl _ _) sim rfl⟩
      have hm' : i.natAbs.log2 + j.natAbs.log2 < 134000000 := of_decide_eq_true hm
      have b : ∀ x : Int, Builtin.Int.intBits x ≤ x.natAbs.log2 + 1 := fun x => by
        unfold Builtin.Int.intBits
        split <;> omega
      have h1 := b i
      have h2 := b j
      unfold CMulX
      omega
    · cases e
  · rename_i m kk
    split at e
    · rename_i xs e1
      obtain ⟨am, vs, hm, hvm, rm⟩ := sim.lstAt e1
      have ex := Rep.ref ra hm
      obtain rfl : y = .int kk := rb
      subst ex
      split at e
      · rename_i hl
        cases e
        refine op_rep pins s σ H _ _ v u Q I rx ry ⟨am, kk, vs, rfl, rfl, hvm, by omega, by omega, ?_, fun p hp0 => ?_⟩
        · rw [rm.length]
          exact line_le hl.2.2
        · refine k _ _ _ (Ext.lst hp0) (sim.lst hp0 ?_) ⟨p, sim.newest, rfl⟩
          induction kk.toNat with
          | zero => exact rfl
          | succ n ih =>
            rw [List.replicate_succ, List.flatten_cons, List.replicate_succ, List.flatten_cons]
            exact rm.append ih
      · cases e
    · cases e
  · rename_i xs kk
    obtain ⟨pa, vs, rfl, ha, ra⟩ := ra
    obtain rfl : y = .int kk := rb
    split at e
    · rename_i hl
      cases e
      refine op_repT pins s σ H _ _ v u Q I rx ry ⟨pa, kk, vs, rfl, rfl, ha, fun z => ?_, hl.2.1, hl.2.2.1, ?_, fun p hp0 => ?_⟩
      · subst z
        exact hl.1 (List.length_eq_zero_iff.mp ra.length.symm)
      · rw [ra.length]
        exact hl.2.2.2
      · refine k _ _ _ (Ext.new hp0) (sim.new hp0) ⟨p, _, rfl, .inl (.inl upd_same), Reps.ext (Ext.new hp0) _ _ ?_⟩
        induction kk.toNat with
        | zero => exact rfl
        | succ n ih =>
          rw [List.replicate_succ, List.flatten_cons, List.replicate_succ, List.flatten_cons]
          exact ra.append ih
    · cases e
  · rename_i x' kk
    obtain rfl : x = .str x' := ra
    obtain rfl : y = .int kk := rb
    obtain ⟨t, rfl⟩ := rx
    obtain ⟨t', rfl⟩ := ry
    split at e
    · rename_i hl
      cases e
      refine PySem.SB.mul ⟨?_, fun _ _ => ?_, fun _ _ => ?_⟩ fun t2 tk => ⟨.str _, H, I.tok _, ⟨_, rfl⟩, k _ _ _ (Ext.refl _ _) sim rfl⟩
      · rw [decide_eq_false (by omega), decide_eq_false (by omega)]
        rfl
      · have h1 : x'.length ≤ 1000000 := hl.2.2.1
        intro z
        have : (1000000 : Int) ≤ (2 ^ 63 - 1) / kk := by
          refine (Int.le_ediv_iff_mul_le (by omega)).mpr ?_
          have : kk ≤ 1000000 := hl.2.1
          omega
        omega
      · have h1 : x'.length * kk.toNat ≤ 1000000 := hl.2.2.2
        have e2 : sizeLine = 16777216 := sizeLine_eq
        exact decide_eq_false (by omega)
    · cases e
  · rename_i i j
    obtain rfl : x = .int i := ra
    obtain rfl : y = .int j := rb
    obtain ⟨t, rfl⟩ := rx
    obtain ⟨t', rfl⟩ := ry
    split at e
    · rename_i hc
      cases e
      refine floordiv_int (by omega) ?_ (.inl hc.2)
      rw [Int.fdiv_eq_ediv_of_nonneg i (by omega)]
      exact ⟨.int _, H, I.tok _, ⟨_, rfl⟩, k _ _ _ (Ext.refl _ _) sim rfl⟩
    · cases e
  · rename_i i j
    obtain rfl : x = .int i := ra
    obtain rfl : y = .int j := rb
    split at e
    · rename_i hc
      cases e
      exact op_mod pins s σ H _ _ v u Q I rx ry ⟨i, j, rfl, rfl, hc, k _ _ _ (Ext.refl _ _) sim rfl⟩
    · cases e
  · rename_i i j
    obtain rfl : x = .int i := ra
    obtain rfl : y = .int j := rb
    split at e
    · rename_i hc
      cases e
      exact op_pow pins s σ H _ _ v u Q I rx ry ⟨i, j, rfl, rfl, hc, k _ _ _ (Ext.refl _ _) sim rfl⟩
    · cases e
  · cases e
theorem op_ipF (op : Operator) : OpR X (inplaceOp op) (rF2 X.K (ipF op)) := by
  intro pins s σ H x y v u Q I rx ry h
  obtain ⟨ι, hp, a, b, w, hp', sim, ra, rb, e, k⟩ := h
  unfold ipF at e
  split at e
  · rename_i i j
    obtain rfl : x = .int i := ra
    obtain rfl : y = .int j := rb
    cases e
    exact iop_add pins s σ H _ _ v u Q I rx ry ⟨i, j, rfl, rfl, k _ _ _ (Ext.refl _ _) sim rfl⟩
  · rename_i i j
    obtain rfl : x = .str i := ra
    obtain rfl : y = .str j := rb
    split at e
    · rename_i hl
      cases e
      exact iop_add_str pins s σ H _ _ v u Q I rx ry ⟨i, j, rfl, rfl, line_le hl, k _ _ _ (Ext.refl _ _) sim rfl⟩
    · cases e
  · rename_i i j
    obtain rfl : x = .int i := ra
    obtain rfl : y = .int j := rb
    cases e
    exact iop_sub pins s σ H _ _ v u Q I rx ry ⟨i, j, rfl, rfl, k _ _ _ (Ext.refl _ _) sim rfl⟩
  · cases e

/-- what a comparison gives -/
def rFB (K : PySem.W.Frag) (f : W → W → IH → Option Bool) : R2 := fun x y H Q => ∃ ι hp a b c, Sim K ι hp H ∧ Rep K ι H a x ∧ Rep K ι H b y ∧ f a b hp = some c ∧ Q (.bl c) H
theorem op_eqF (hu : X.A.units + 65 < cLine) : OpR X (compareOp .Eq) (rFB X.K eqF) := by
  intro pins s σ H x y v u Q I rx ry h
  obtain ⟨ι, hp, a, b, c, sim, ra, rb, e, k⟩ := h
  unfold eqF at e
  split at e
  · rename_i z z'
    cases e
    obtain rfl : x = .str z := ra
    obtain rfl : y = .str z' := rb
    exact op_eq pins s σ H _ _ v u Q I rx ry ⟨rfl, by simpa using k⟩
  · unfold eqD at e
    split at e
    · rename_i d d' e1 e2
      split at e
      · rename_i hs
        cases e
        exact op_eqD (by omega) pins s σ H _ _ v u Q I rx ry ⟨d, d', sim.dat _ _ _ _ e1 ra, sim.dat _ _ _ _ e2 rb, hs.1, hs.2, k⟩
      · cases e
    · cases e
theorem op_neF (hu : X.A.units + 65 < cLine) : OpR X (compareOp .NotEq) (rFB X.K fun a b hp => (eqF a b hp).map not) := by
  intro pins s σ H x y v u Q I rx ry h
  obtain ⟨ι, hp, a, b, c, sim, ra, rb, e, k⟩ := h
  simp only [Option.map_eq_some_iff] at e
  obtain ⟨c', e, rfl⟩ := e
  unfold eqF at e
  split at e
  · rename_i z z'
    cases e
    obtain rfl : x = .str z := ra
    obtain rfl : y = .str z' := rb
    exact op_ne pins s σ H _ _ v u Q I rx ry ⟨rfl, by simpa using k⟩
  · unfold eqD at e
    split at e
    · rename_i d d' e1 e2
      split at e
      · rename_i hs
        cases e
        exact op_neD (by omega) pins s σ H _ _ v u Q I rx ry ⟨d, d', sim.dat _ _ _ _ e1 ra, sim.dat _ _ _ _ e2 rb, hs.1, hs.2, k⟩
      · cases e
    · cases e
theorem op_inF (hu : X.A.units + 65 < cLine) : OpR X (compareOp .In) (rFB X.K inF) := by
  intro pins s σ H x y v u Q I rx ry h
  obtain ⟨ι, hp, a, b, c, sim, ra, rb, e, k⟩ := h
  unfold inF at e
  split at e
  · rename_i j
    obtain rfl : y = .str j := rb
    split at e
    · rename_i i
      obtain rfl : x = .str i := ra
      cases e
      exact op_in_str pins s σ H _ _ v u Q I rx ry ⟨i, j, rfl, rfl, k⟩
    · cases e
  · split at e
    · rename_i d ds e1 e2
      split at e
      · rename_i hs
        cases e
        exact op_inD hu pins s σ H _ _ v u Q I rx ry ⟨d, ds, sim.dat _ _ _ _ e1 ra, sim.dat _ _ _ _ e2 rb, hs.1, hs.2, k⟩
      · cases e
    · rename_i d ds e1 e2
      split at e
      · rename_i hs
        cases e
        obtain ⟨as, r1⟩ := Dp.reads I d x v (sim.dat _ _ _ _ e1 ra) rx
        obtain ⟨bs, r2⟩ := Dp.reads I (.tuple ds) y u (sim.dat _ _ _ _ e2 rb) ry
        refine SeqAt.in_tuple_reads r2 r1 (SeqAt.canLay_of_shaped hs.2) (SeqAt.canLay_of_shaped hs.1) ?_ ⟨.bl _, H, I, rfl, k⟩
        have hd := SeqAt.depth_of_shaped hs.1
        omega
      · cases e
    · cases e
theorem op_ninF (hu : X.A.units + 65 < cLine) : OpR X (compareOp .NotIn) (rFB X.K fun a b hp => (inF a b hp).map not) := by
  intro pins s σ H x y v u Q I rx ry h
  obtain ⟨ι, hp, a, b, c, sim, ra, rb, e, k⟩ := h
  simp only [Option.map_eq_some_iff] at e
  obtain ⟨c', e, rfl⟩ := e
  unfold inF at e
  split at e
  · rename_i j
    obtain rfl : y = .str j := rb
    split at e
    · rename_i i
      obtain rfl : x = .str i := ra
      cases e
      exact op_notin_str pins s σ H _ _ v u Q I rx ry ⟨i, j, rfl, rfl, k⟩
    · cases e
  · split at e
    · rename_i d ds e1 e2
      split at e
      · rename_i hs
        cases e
        exact op_notInD hu pins s σ H _ _ v u Q I rx ry ⟨d, ds, sim.dat _ _ _ _ e1 ra, sim.dat _ _ _ _ e2 rb, hs.1, hs.2, k⟩
      · cases e
    · rename_i d ds e1 e2
      split at e
      · rename_i hs
        cases e
        obtain ⟨as, r1⟩ := Dp.reads I d x v (sim.dat _ _ _ _ e1 ra) rx
        obtain ⟨bs, r2⟩ := Dp.reads I (.tuple ds) y u (sim.dat _ _ _ _ e2 rb) ry
        refine SeqAt.notIn_tuple_reads r2 r1 (SeqAt.canLay_of_shaped hs.2) (SeqAt.canLay_of_shaped hs.1) ?_ ⟨.bl _, H, I, rfl, k⟩
        have hd := SeqAt.depth_of_shaped hs.1
        omega
      · cases e
    · cases e
/-- the values that are not None -/
theorem Rep.notNone {K : PySem.W.Frag} {ι : List Addr} {H : Hp} {w : W} {v : V} (r : Rep K ι H w v) (h : w ≠ .non) : v ≠ .non := by
  cases w with
  | non => exact absurd rfl h
  | bl b => cases r; simp
  | int i => cases r; simp
  | str x => cases r; simp
  | ty t => cases r; simp
  | tup us => obtain ⟨a, xs, rfl, _⟩ := r; simp
  | ref m => obtain ⟨a, _, rfl⟩ := r; simp
theorem reps_ints {K : PySem.W.Frag} {ι : List Addr} {H : Hp} : ∀ {ws : List W} {bs : List Int} {vs : List V}, intsOf ws = some bs → Reps K ι H ws vs → vs = bs.map V.int
  | [], _, _, e, r => by cases e; exact r
  | .int b :: ws, bs, vs, e, r => by
    obtain ⟨v, xs, rfl, h1, h2⟩ := r
    obtain rfl : v = .int b := h1
    simp only [intsOf, Option.map_eq_some_iff] at e
    obtain ⟨bs', e, rfl⟩ := e
    rw [reps_ints e h2]
    rfl
  | .non :: _, _, _, e, _ => by cases e
  | .bl _ :: _, _, _, e, _ => by cases e
  | .str _ :: _, _, _, e, _ => by cases e
  | .tup _ :: _, _, _, e, _ => by cases e
  | .ref _ :: _, _, _, e, _ => by cases e
  | .ty _ :: _, _, _, e, _ => by cases e
theorem op_cmp (hu : X.A.units + 65 < cLine) (op : CmpOp) : OpR X (compareOp op) (rFB X.K (cmpB op)) := by
  cases op with
  | Eq => exact op_eqF hu
  | NotEq => exact op_neF hu
  | In => exact op_inF hu
  | NotIn => exact op_ninF hu
  | Lt =>
    intro pins s σ H x y v u Q I rx ry h
    obtain ⟨ι, hp, a, b, c, sim, ra, rb, e, k⟩ := h
    simp only [cmpB] at e
    split at e
    · rename_i i j
      obtain rfl : x = .int i := ra
      obtain rfl : y = .int j := rb
      cases e
      exact op_lt pins s σ H _ _ v u Q I rx ry ⟨i, j, rfl, rfl, k⟩
    · rename_i i j
      obtain rfl : x = .str i := ra
      obtain rfl : y = .str j := rb
      cases e
      exact op_lt_str pins s σ H _ _ v u Q I rx ry ⟨i, j, rfl, rfl, k⟩
    · rename_i i j
      obtain ⟨pa, xs, rfl, h1, r1⟩ := ra
      obtain ⟨pb, ys, rfl, h2, r2⟩ := rb
      split at e
      · rename_i is js e1 e2
        cases e
        obtain rfl := reps_ints e1 r1
        obtain rfl := reps_ints e2 r2
        exact op_ltT (by omega) pins s σ H _ _ v u Q I rx ry ⟨pa, pb, is, js, rfl, rfl, h1, h2, k⟩
      · cases e
    · cases e
  | LtE =>
    intro pins s σ H x y v u Q I rx ry h
    obtain ⟨ι, hp, a, b, c, sim, ra, rb, e, k⟩ := h
    simp only [cmpB] at e
    split at e
    · rename_i i j
      obtain rfl : x = .int i := ra
      obtain rfl : y = .int j := rb
      cases e
      exact op_le pins s σ H _ _ v u Q I rx ry ⟨i, j, rfl, rfl, k⟩
    · rename_i i j
      obtain rfl : x = .str i := ra
      obtain rfl : y = .str j := rb
      cases e
      exact op_le_str pins s σ H _ _ v u Q I rx ry ⟨i, j, rfl, rfl, k⟩
    · cases e
  | Gt =>
    intro pins s σ H x y v u Q I rx ry h
    obtain ⟨ι, hp, a, b, c, sim, ra, rb, e, k⟩ := h
    simp only [cmpB] at e
    split at e
    · rename_i i j
      obtain rfl : x = .int i := ra
      obtain rfl : y = .int j := rb
      cases e
      exact op_gt pins s σ H _ _ v u Q I rx ry ⟨i, j, rfl, rfl, k⟩
    · rename_i i j
      obtain rfl : x = .str i := ra
      obtain rfl : y = .str j := rb
      cases e
      exact op_gt_str pins s σ H _ _ v u Q I rx ry ⟨i, j, rfl, rfl, k⟩
    · cases e
  | GtE =>
    intro pins s σ H x y v u Q I rx ry h
    obtain ⟨ι, hp, a, b, c, sim, ra, rb, e, k⟩ := h
    simp only [cmpB] at e
    split at e
    · rename_i i j
      obtain rfl : x = .int i := ra
      obtain rfl : y = .int j := rb
      cases e
      exact op_ge pins s σ H _ _ v u Q I rx ry ⟨i, j, rfl, rfl, k⟩
    · rename_i i j
      obtain rfl : x = .str i := ra
      obtain rfl : y = .str j := rb
      cases e
      exact op_ge_str pins s σ H _ _ v u Q I rx ry ⟨i, j, rfl, rfl, k⟩
    · cases e
  | Is =>
    intro pins s σ H x y v u Q I rx ry h
    obtain ⟨ι, hp, a, b, c, sim, ra, rb, e, k⟩ := h
    have nn : b = .non → (a = .non → c = true) → (a ≠ .non → c = false) → wpAny (model X.prog X.w) X.A (compareOp .Is v u) (EP X pins σ Q) X.xe s := fun eb h1 h2 => by
      subst eb
      obtain rfl : y = .non := rb
      refine op_isN pins s σ H _ _ v u Q I rx ry ⟨rfl, ?_⟩
      by_cases ha : a = .non
      · subst ha
        obtain rfl : x = .non := ra
        rw [h1 rfl] at k
        exact k
      · rw [h2 ha] at k
        rw [decide_eq_false (Rep.notNone ra ha)]
        exact k
    simp only [cmpB] at e
    split at e
    · cases e; exact nn rfl (fun _ => rfl) (fun z => absurd rfl z)
    · cases e; exact nn rfl (fun z => nomatch z) (fun _ => rfl)
    · cases e; exact nn rfl (fun z => nomatch z) (fun _ => rfl)
    · cases e; exact nn rfl (fun z => nomatch z) (fun _ => rfl)
    · cases e; exact nn rfl (fun z => nomatch z) (fun _ => rfl)
    · cases e; exact nn rfl (fun z => nomatch z) (fun _ => rfl)
    · rename_i i j
      obtain rfl : x = .bl i := ra
      obtain rfl : y = .bl j := rb
      cases e
      exact op_is_bl pins s σ H _ _ v u Q I rx ry ⟨i, j, rfl, rfl, k⟩
    · cases e
  | IsNot =>
    intro pins s σ H x y v u Q I rx ry h
    obtain ⟨ι, hp, a, b, c, sim, ra, rb, e, k⟩ := h
    have nn : b = .non → (a = .non → c = false) → (a ≠ .non → c = true) → wpAny (model X.prog X.w) X.A (compareOp .IsNot v u) (EP X pins σ Q) X.xe s := fun eb h1 h2 => by
      subst eb
      obtain rfl : y = .non := rb
      refine op_notN pins s σ H _ _ v u Q I rx ry ⟨rfl, ?_⟩
      by_cases ha : a = .non
      · subst ha
        obtain rfl : x = .non := ra
        rw [h1 rfl] at k
        exact k
      · rw [h2 ha] at k
        rw [decide_eq_false (Rep.notNone ra ha)]
        exact k
    simp only [cmpB] at e
    split at e
    · cases e; exact nn rfl (fun _ => rfl) (fun z => absurd rfl z)
    · cases e; exact nn rfl (fun z => nomatch z) (fun _ => rfl)
    · cases e; exact nn rfl (fun z => nomatch z) (fun _ => rfl)
    · cases e; exact nn rfl (fun z => nomatch z) (fun _ => rfl)
    · cases e; exact nn rfl (fun z => nomatch z) (fun _ => rfl)
    · cases e; exact nn rfl (fun z => nomatch z) (fun _ => rfl)
    · rename_i i j
      obtain rfl : x = .bl i := ra
      obtain rfl : y = .bl j := rb
      cases e
      exact op_isnot_bl pins s σ H _ _ v u Q I rx ry ⟨i, j, rfl, rfl, k⟩
    · cases e

/-! ### subscripts -/
theorem atI_reps {K : PySem.W.Frag} {ι : List Addr} {H : Hp} {ws : List W} {xs : List V} {k : Int} {w : W} (r : Reps K ι H ws xs) (h : atI ws k = some w) : ∃ v, atI xs k = some v ∧ Rep K ι H w v := by
  unfold atI at h ⊢
  rw [r.length]
  cases e : ixN ws.length k with
  | none => rw [e] at h; cases h
  | some j =>
    rw [e] at h
    exact r.get h
theorem ix_F : IxR X (rF2 X.K subF) := by
  intro value slice pins s σ H x y v u Q I rx ry h hs
  obtain ⟨ι, hp, a, b, w, hp', sim, ra, rb, e, k⟩ := h
  unfold subF at e
  split at e
  · rename_i ws i
    obtain ⟨pa, vs, rfl, ha, ra⟩ := ra
    obtain rfl : y = .int i := rb
    simp only [Option.map_eq_some_iff] at e
    obtain ⟨w', e, e'⟩ := e
    cases e'
    obtain ⟨v', hv, rv⟩ := atI_reps ra e
    exact ix_tup value slice pins s σ H _ _ v u Q I rx ry ⟨pa, vs, i, v', rfl, rfl, ha, hv, k _ _ _ (Ext.refl _ _) sim rv⟩ hs
  · rename_i m i
    obtain rfl : y = .int i := rb
    cases eo : hp[m]? with
    | none => simp only [eo] at e; cases e
    | some o =>
      obtain ⟨am, vs, us, hm, hq, hr, ho⟩ := sim.seqAt eo
      have ex := Rep.ref ra hm
      subst ex
      rcases ho with rfl | rfl
      · simp only [eo, Option.map_eq_some_iff] at e
        obtain ⟨w', e, e'⟩ := e
        cases e'
        obtain ⟨v', hv, rv⟩ := atI_reps hr e
        exact ix_list value slice pins s σ H _ _ v u Q I rx ry ⟨am, vs, i, v', rfl, rfl, hq, hv, k _ _ _ (Ext.refl _ _) sim rv⟩ hs
      · simp only [eo, Option.map_eq_some_iff] at e
        obtain ⟨w', e, e'⟩ := e
        cases e'
        obtain ⟨v', hv, rv⟩ := atI_reps hr e
        exact ix_list value slice pins s σ H _ _ v u Q I rx ry ⟨am, vs, i, v', rfl, rfl, hq, hv, k _ _ _ (Ext.refl _ _) sim rv⟩ hs
  · rename_i z i
    obtain rfl : x = .str z := ra
    obtain rfl : y = .int i := rb
    split at e
    · rename_i hl
      simp only [Option.map_eq_some_iff] at e
      obtain ⟨c, e, e'⟩ := e
      cases e'
      exact ix_str value slice pins s σ H _ _ v u Q I rx ry ⟨z, i, c, rfl, rfl, line_le hl, e, k _ _ _ (Ext.refl _ _) sim rfl⟩ hs
    · cases e
  · cases e
def rSlF (K : PySem.W.Frag) : V → Option Int → Option Int → Hp → VK → Prop := fun x lo hi H Q => ∃ ι hp a w hp', Sim K ι hp H ∧ Rep K ι H a x ∧ slcF a lo hi hp = some (w, hp') ∧
  ∀ v H' ι', Ext ι H ι' H' → Sim K ι' hp' H' → Rep K ι' H' w v → Q v H'
theorem cut_reps {K : PySem.W.Frag} {ι : List Addr} {H : Hp} {ws : List W} {xs : List V} (lo hi : Option Int) (r : Reps K ι H ws xs) : Reps K ι H (cutL ws lo hi) (cutV xs lo hi) := by
  unfold cutL cutV
  rw [r.length]
  exact (r.drop _).take _
theorem sl_F : SlR X (rSlF X.K) := by
  intro pins s σ H x v vl vu lo hi sl Q I rx hs pl pu h
  obtain ⟨ι, hp, a, w, hp', sim, ra, e, k⟩ := h
  unfold slcF at e
  split at e
  · rename_i ws
    obtain ⟨pa, vs, rfl, ha, ra⟩ := ra
    cases e
    refine sl_tupA pins s σ H _ v vl vu lo hi sl Q I rx hs pl pu ⟨pa, vs, rfl, ha, fun hw => ?_, fun hw p hp0 => ?_⟩
    · refine k _ _ _ (Ext.refl _ _) sim ⟨pa, vs, rfl, ha, ?_⟩
      have q := cut_reps lo hi ra
      have ec : cutV vs lo hi = vs := by
        unfold cutV
        rw [hw.1, hw.2, List.drop_zero, Nat.sub_zero, List.take_length]
      rw [ec] at q
      exact q
    · exact k _ _ _ (Ext.new hp0) (sim.new hp0) ⟨p, _, rfl, .inl (.inl upd_same), Reps.ext (Ext.new hp0) _ _ (cut_reps lo hi ra)⟩
  · rename_i m
    cases eo : hp[m]? with
    | none => simp only [eo] at e; cases e
    | some o =>
      obtain ⟨am, vs, us, hm, hq, hr, ho⟩ := sim.seqAt eo
      have ex := Rep.ref ra hm
      subst ex
      rcases ho with rfl | rfl
      · simp only [eo] at e
        cases e
        exact sl_list pins s σ H _ v vl vu lo hi sl Q I rx hs pl pu ⟨am, vs, rfl, hq, fun p hp0 => k _ _ _ (Ext.lst hp0) (sim.lst hp0 (cut_reps lo hi hr)) ⟨p, sim.newest, rfl⟩⟩
      · simp only [eo] at e
        cases e
        exact sl_list pins s σ H _ v vl vu lo hi sl Q I rx hs pl pu ⟨am, vs, rfl, hq, fun p hp0 => k _ _ _ (Ext.lst hp0) (sim.lst hp0 (cut_reps lo hi hr)) ⟨p, sim.newest, rfl⟩⟩
  · rename_i z
    obtain rfl : x = .str z := ra
    split at e
    · rename_i hl
      cases e
      exact sl_str pins s σ H _ v vl vu lo hi sl Q I rx hs pl pu ⟨z, rfl, line_le hl, k _ _ _ (Ext.refl _ _) sim rfl⟩
    · cases e
  · cases e
def rSetF (K : PySem.W.Frag) : V → V → V → Hp → (Hp → Prop) → Prop := fun o i v H Q => ∃ ι hp a b w hp', Sim K ι hp H ∧ Rep K ι H a o ∧ Rep K ι H b i ∧ Rep K ι H w v ∧ setF a b w hp = some hp' ∧
  ∀ H' , Ext ι H ι H' → Sim K ι hp' H' → Q H'
theorem set_F : PSet X (rSetF X.K) := by
  intro pins s σ H o i v ov iv u Q I ro ri rv h
  obtain ⟨ι, hp, a, b, w, hp', sim, ra, rb, rw', e, k⟩ := h
  unfold setF at e
  split at e
  · rename_i m j
    obtain rfl : i = .int j := rb
    split at e
    · rename_i ws eo
      obtain ⟨am, vs, hm, hv, hr⟩ := sim.lstAt eo
      have ex := Rep.ref ra hm
      subst ex
      simp only [Option.map_eq_some_iff] at e
      obtain ⟨z, e, rfl⟩ := e
      exact set_list pins s σ H _ _ v ov iv u Q I ro ri rv ⟨am, vs, j, z, rfl, rfl, hv, by rw [hr.length]; exact e, k _ (Ext.set hv) (sim.set hm eo (hr.set z rw'))⟩
    · cases e
  · cases e
end
end Itp

set_option Elab.async false
set_option linter.all false
set_option autoImplicit false
set_option maxRecDepth 100000
set_option maxHeartbeats 4000000
/-! Itp, part F: sorted: of ints; of tuples of ints and texts, all of one form. -/
namespace Itp
open PySem PySem.Spec PyProof.Rows L2
section
variable {α β : Type}
theorem insK_perm (lt : α → α → Bool) (x : α) : ∀ l : List α, (insK lt x l).Perm (x :: l)
  | [] => List.Perm.refl _
  | y :: l => by
    unfold insK
    split
    · exact ((insK_perm lt x l).cons y).trans (List.Perm.swap x y l)
    · exact List.Perm.refl _
theorem sortK_perm (lt : α → α → Bool) : ∀ l : List α, (sortK lt l).Perm l
  | [] => List.Perm.refl _
  | x :: l => (insK_perm lt x _).trans ((sortK_perm lt l).cons x)
theorem insK_map (lt : β → β → Bool) (f : α → β) (x : α) : ∀ l : List α, (insK (fun a b => lt (f a) (f b)) x l).map f = insK lt (f x) (l.map f)
  | [] => rfl
  | y :: l => by
    unfold insK
    rw [List.map_cons]
    by_cases h : lt (f y) (f x) = true
    · rw [if_pos h, List.map_cons, insK_map lt f x l]
      show _ = if lt (f y) (f x) then f y :: insK lt (f x) (l.map f) else _
      rw [if_pos h]
    · rw [if_neg h, List.map_cons, List.map_cons]
      show _ = if lt (f y) (f x) then f y :: insK lt (f x) (l.map f) else _
      rw [if_neg h]
theorem sortK_map (lt : β → β → Bool) (f : α → β) : ∀ l : List α, (sortK (fun a b => lt (f a) (f b)) l).map f = sortK lt (l.map f)
  | [] => rfl
  | x :: l => by
    show (insK _ x (sortK _ l)).map f = insK lt (f x) (sortK lt (l.map f))
    rw [insK_map, sortK_map lt f l]
theorem insK_sorted {lt : α → α → Bool} (O : SrtO.Swo lt) (x : α) : ∀ l : List α, SrtO.Srtd lt l → SrtO.Srtd lt (insK lt x l)
  | [], _ => List.pairwise_singleton _ _
  | y :: l, h => by
    have h' := List.pairwise_cons.mp h
    unfold insK
    by_cases c : lt y x = true
    · rw [if_pos c]
      refine List.pairwise_cons.mpr ⟨fun z hz => ?_, insK_sorted O x l h'.2⟩
      rcases List.mem_cons.mp ((insK_perm lt x l).mem_iff.mp hz) with e | hz
      · rw [e]
        exact O.asym _ _ c
      · exact h'.1 z hz
    · have c' : lt y x = false := by simpa using c
      rw [if_neg c]
      refine List.pairwise_cons.mpr ⟨fun z hz => ?_, h⟩
      rcases List.mem_cons.mp hz with e | hz
      · rw [e]
        exact c'
      · exact O.tr x y z c' (h'.1 z hz)
theorem sortK_sorted {lt : α → α → Bool} (O : SrtO.Swo lt) : ∀ l : List α, SrtO.Srtd lt (sortK lt l)
  | [] => List.Pairwise.nil
  | x :: l => insK_sorted O x _ (sortK_sorted O l)
theorem insK_cls {lt : α → α → Bool} (O : SrtO.Swo lt) (x z : α) : ∀ l : List α, (insK lt x l).filter (SrtO.eqv lt z) = (x :: l).filter (SrtO.eqv lt z)
  | [] => rfl
  | y :: l => by
    unfold insK
    by_cases c : lt y x = true
    · rw [if_pos c, List.filter_cons, insK_cls O x z l]
      -- y before x: not both alike z
      cases hx : SrtO.eqv lt z x with
      | false =>
        rw [List.filter_cons_of_neg (by rw [hx]; decide), List.filter_cons_of_neg (a := x) (by rw [hx]; decide), List.filter_cons]
      | true =>
        cases hy : SrtO.eqv lt z y with
        | false =>
          rw [if_neg (by decide), List.filter_cons_of_pos hx, List.filter_cons_of_pos hx, List.filter_cons_of_neg (by rw [hy]; decide)]
        | true =>
          obtain ⟨a1, a2⟩ := SrtO.eqv_iff.mp hx
          obtain ⟨b1, b2⟩ := SrtO.eqv_iff.mp hy
          have : lt y x = false := O.tr x z y a1 b2
          rw [this] at c
          cases c
    · rw [if_neg c]
theorem sortK_cls {lt : α → α → Bool} (O : SrtO.Swo lt) (z : α) : ∀ l : List α, (sortK lt l).filter (SrtO.eqv lt z) = l.filter (SrtO.eqv lt z)
  | [] => rfl
  | x :: l => by
    show (insK lt x (sortK lt l)).filter _ = _
    rw [insK_cls O, List.filter_cons, sortK_cls O z l, List.filter_cons]
theorem sortK_stb {lt : α → α → Bool} (O : SrtO.Swo lt) (l : List α) : SrtO.Stb lt (sortK lt l) l := ⟨sortK_perm lt l, fun z => sortK_cls O z l⟩
/-- the one sorted and stable rearrangement -/
theorem sortK_uniq {lt : α → α → Bool} (O : SrtO.Swo lt) {l m : List α} (h1 : SrtO.Srtd lt m) (h2 : SrtO.Stb lt m l) : m = sortK lt l :=
  SrtO.stb_uniq O h1 (sortK_sorted O l) ⟨h2.perm.trans (sortK_stb O l).perm.symm, fun x => (h2.cls x).trans ((sortK_stb O l).cls x).symm⟩
end
theorem swo_int : SrtO.Swo (fun a b : Int => decide (a < b)) := ⟨fun x y h => by simp at *; omega, fun x y z h1 h2 => by simp at *; omega⟩
theorem swo_ltL : SrtO.Swo ltL := by
  refine ⟨fun x y h => ?_, fun x y z h1 h2 => ?_⟩
  · cases q : ltL y x with
    | false => rfl
    | true =>
      have := lex_trans (O := itemOrd) x y x h q
      rw [lex_irrefl] at this
      cases this
  · cases q : ltL z x with
    | false => rfl
    | true =>
      rcases lex_negTrans (O := itemOrd) z y x q with h | h
      · rw [show lexLt itemOrd z y = ltL z y from rfl, h2] at h
        cases h
      · rw [show lexLt itemOrd y x = ltL y x from rfl, h1] at h
        cases h
section
variable {K : PySem.W.Frag} {ι : List Addr} {H : Hp}
/-- atoms stand as ints and texts -/
theorem reps_atoms : ∀ {ws : List W} {ks : List (Int ⊕ List Nat)} {vs : List V}, allSome atomOf ws = some ks → Reps K ι H ws vs → ∀ {us : List Value} {i : Nat} {sh : Nat → Bool}, Vals vs us → (∀ j, j < ks.length → sh (i + j) = (ks.getD j (.inl 0)).isRight) → tupItems sh i us = some ks
  | [], ks, vs, e, r, us, i, sh, v, h => by
    cases e
    obtain rfl : vs = [] := r
    cases v
    rfl
  | w :: ws, ks, vs, e, r, us, i, sh, v, h => by
    unfold allSome at e
    split at e
    · rename_i k ks' e1 e2
      cases e
      obtain ⟨x, xs, rfl, r1, r2⟩ := r
      cases v with
      | @cons _ u _ us' ru rus =>
        have ih := reps_atoms (i := i + 1) (sh := sh) e2 r2 rus fun j hj => by
          have := h (j + 1) (by simp; omega)
          rw [show i + 1 + j = i + (j + 1) by omega, this]
          rfl
        have h0 := h 0 (by simp)
        rw [Nat.add_zero] at h0
        cases w with
        | int n =>
          cases e1
          obtain rfl : x = .int n := r1
          obtain ⟨t, rfl⟩ := ru
          have h0 : sh i = false := h0
          unfold tupItems
          rw [if_neg (by rw [h0]; decide), ih]
          rfl
        | str n =>
          cases e1
          obtain rfl : x = .str n := r1
          obtain ⟨t, rfl⟩ := ru
          have h0 : sh i = true := h0
          unfold tupItems
          rw [if_pos h0, ih]
          rfl
        | non => cases e1
        | bl _ => cases e1
        | tup _ => cases e1
        | ref _ => cases e1
        | ty _ => cases e1
    · cases e
theorem atoms_len : ∀ {ws : List W} {ks : List (Int ⊕ List Nat)}, allSome atomOf ws = some ks → ks.length = ws.length
  | [], _, e => by cases e; rfl
  | w :: ws, _, e => by
    unfold allSome at e
    split at e
    · rename_i k ks' e1 e2
      cases e
      show _ + 1 = _ + 1
      rw [atoms_len e2]
    · cases e
end
section
variable {X : Cx}
/-- sorted of a list of tuples that have keys of one form -/
theorem cr_sortT2 {sh : Nat → Bool} : CallR X (.builtin "sorted") (fun vs H Q => ∃ (a : Addr) (xs : List V) (k : V → List (Int ⊕ List Nat)), vs = [V.ref a] ∧ SqL X.K H a xs ∧
    (∀ x ∈ xs, ∃ t us, x = V.ref t ∧ SqT X.K H t us ∧ us ≠ [] ∧ ∀ ws : List Value, Vals us ws → tupItems sh 0 ws = some (k x)) ∧
    ∀ ys p, SrtO.Srtd (fun x y => ltL (k x) (k y)) ys → SrtO.Stb (fun x y => ltL (k x) (k y)) ys xs → H p = none → Q (.ref p) (upd H p (.lst ys))) := by
  intro pins s σ H vs us Q I r h
  obtain ⟨a, xs, k, rfl, hs, hx, q⟩ := h
  obtain ⟨its, rv, hl, hz⟩ := I.list hs
  obtain ⟨u, rfl, ru⟩ := vals1 r
  obtain rfl : u = Value.ref a := ru
  obtain ⟨e1, e2⟩ := refs_back rv fun x m => by
    obtain ⟨t, _, e, _⟩ := hx x m
    exact ⟨t, e⟩
  have key : ∀ v ∈ its, ∃ t o n ws, v = Value.ref t ∧ s.heap.get? t = some o ∧ o.cls = .type "tuple" ∧ o.data = .seq ws n ∧ ws.toList ≠ [] ∧ tupItems sh 0 ws.toList = some (k (backV v)) := fun v hv => by
    obtain ⟨t, rfl⟩ := e2 v hv
    have hm : V.ref t ∈ xs := by rw [e1]; exact List.mem_map.mpr ⟨_, hv, rfl⟩
    obtain ⟨t', us, e, ht, hne, hk⟩ := hx _ hm
    cases e
    obtain ⟨ws, r2, ⟨o, ho, hc, n, hd⟩, _⟩ := I.tuple ht
    refine ⟨t, o, n, ws.toArray, rfl, ho, hc, hd, ?_, ?_⟩
    · intro z
      have : ws = [] := by simpa using z
      subst this
      cases r2
      exact hne rfl
    · have := hk ws r2
      show tupItems sh 0 ws.toArray.toList = some (k (V.ref t))
      simpa using this
  have O : SrtO.Swo (fun v u : Value => ltL (k (backV v)) (k (backV u))) := ⟨fun x y => swo_ltL.asym _ _, fun x y z => swo_ltL.tr _ _ _⟩
  refine SrtO.sorted_ord O hl.isList (by rw [← rv.length]; exact hz) (fun h2 h₁ d hd kk => ?_) fun out h1 h2 => ?_
  · intro h' keep
    have there : ∀ b o, s.heap.get? b = some o → h'.get? b = some o := fun b o e => by
      obtain ⟨ne, e'⟩ := kk b o e
      exact keep b o ne e'
    refine ⟨tuples' true, fun Q E hq => ?_, fun p q hp hq => ?_⟩
    · have tk : ∀ l : List Value, (∀ v ∈ l, v ∈ its) → ∃ fs, TupsOf h' sh l fs ∧ fs.length = l.length := by
        intro l
        induction l with
        | nil => exact fun _ => ⟨[], .nil, rfl⟩
        | cons v l ih =>
          intro hm
          obtain ⟨fs, f1, f2⟩ := ih fun v hv => hm v (List.mem_cons_of_mem _ hv)
          obtain ⟨t, o, n, ws, rfl, ho, hc, hd, hne, hk⟩ := key v (hm _ List.mem_cons_self)
          obtain ⟨f, ws', ew⟩ : ∃ f ws', ws.toList = f :: ws' := by
            cases e : ws.toList with
            | nil => exact absurd e hne
            | cons f ws' => exact ⟨f, ws', rfl⟩
          have at0 : ws[0]? = some f := by
            rw [← Array.getElem?_toList, ew]
            rfl
          refine ⟨f :: fs, .cons ⟨t, o, ws, n, rfl, there _ _ ho, hc, hd, at0, fun h0 => ?_, fun h0 => ?_⟩ f1, by simp [f2]⟩
          · rw [ew] at hk
            obtain ⟨m, t, _, e, _⟩ := tupItems_int h0 hk
            exact ⟨m, t, e⟩
          · rw [ew] at hk
            obtain ⟨m, t, _, e, _⟩ := tupItems_str h0 hk
            exact ⟨m, t, e⟩
      obtain ⟨fs, f1, f2⟩ := tk its fun v hv => hv
      exact tup_kind (s := { s with heap := h' }) (by omega) f1 hq
    · obtain ⟨t, o, n, ws, e3, ho, hc, hd, hne, hk⟩ := key p.1 hp
      obtain ⟨t', o', n', ws', e3', ho', hc', hd', hne', hk'⟩ := key q.1 hq
      have k1 : (tupKind h' sh).keyOf p.1 = some (k (backV p.1)) := by
        show tupKey h' sh p.1 = _
        rw [e3] at hk ⊢
        simp only [tupKey, there _ _ ho, hd]
        exact hk
      have k2 : (tupKind h' sh).keyOf q.1 = some (k (backV q.1)) := by
        show tupKey h' sh q.1 = _
        rw [e3'] at hk' ⊢
        simp only [tupKey, there _ _ ho', hd']
        exact hk'
      exact tup_ltAt (s := { s with heap := h' }) true _ _ _ _ _ _ k1 k2 ⟨rfl, rfl⟩
  · have h3 : ∀ u ∈ out, ∃ a, u = Value.ref a := fun u hu => e2 u (h2.perm.mem_iff.mp hu)
    have hb : SrtO.Stb (fun x y => ltL (k x) (k y)) (out.map backV) xs := by
      rw [e1]
      exact SrtO.Stb.map (lt := fun x y => ltL (k x) (k y)) ⟨fun x y => swo_ltL.asym _ _, fun x y z => swo_ltL.tr _ _ _⟩ backV h2
    have hd : s.heap.objs.size ≤ s.heap.objs.size + 1 := Nat.le_succ _
    refine ⟨.ref (s.heap.objs.size + 1), upd H (s.heap.objs.size + 1) (.lst (out.map backV)), I.laid (t' := s.toks) (fun b o e => sortedAll_old e) hd ⟨?_, out, ?_⟩, rfl, q _ _ (SrtO.srtd_map h1) hb (I.hok.fresh hd)⟩
    · rw [hb.len]
      exact hz
    · obtain ⟨n, hn⟩ := sortedAll_at s.heap its out.toArray
      refine ⟨n, vals_back h3, ?_⟩
      exact hn
end

theorem insK_congr {α : Type} {lt lt' : α → α → Bool} (x : α) : ∀ l : List α, (∀ y ∈ l, lt y x = lt' y x) → insK lt x l = insK lt' x l
  | [], _ => rfl
  | y :: l, h => by
    unfold insK
    rw [h y List.mem_cons_self, insK_congr x l fun z hz => h z (List.mem_cons_of_mem _ hz)]
theorem sortK_congr {α : Type} {lt lt' : α → α → Bool} : ∀ l : List α, (∀ x ∈ l, ∀ y ∈ l, lt x y = lt' x y) → sortK lt l = sortK lt' l
  | [], _ => rfl
  | x :: l, h => by
    show insK lt x (sortK lt l) = insK lt' x (sortK lt' l)
    rw [sortK_congr l fun y hy z hz => h y (List.mem_cons_of_mem _ hy) z (List.mem_cons_of_mem _ hz)]
    exact insK_congr x _ fun y hy => h y (List.mem_cons_of_mem _ ((sortK_perm _ l).mem_iff.mp hy)) x List.mem_cons_self
theorem sortK_ints {ns is : List Int} (h1 : ns.Perm is) (h2 : ns.Pairwise (· ≤ ·)) : ns = sortK (fun a b => decide (a < b)) is := by
  have s2 : (sortK (fun a b : Int => decide (a < b)) is).Pairwise (· ≤ ·) := (sortK_sorted swo_int is).imp fun {x y} h => by simpa using h
  exact List.Perm.eq_of_pairwise (le := (· ≤ ·)) (fun a b _ _ h1 h2 => Int.le_antisymm h1 h2) h2 s2 (h1.trans (sortK_perm _ is).symm)
section
variable {X : Cx}
def KeyIs (X : Cx) (H : Hp) (sh : Nat → Bool) (v : V) (l : List (Int ⊕ List Nat)) : Prop := ∃ t us, v = V.ref t ∧ SqT X.K H t us ∧ (l ≠ [] → us ≠ []) ∧ ∀ ws : List Value, Vals us ws → tupItems sh 0 ws = some l
open Classical in
noncomputable def keyV (X : Cx) (H : Hp) (sh : Nat → Bool) (v : V) : List (Int ⊕ List Nat) := if h : ∃ l, KeyIs X H sh v l then choose h else []
theorem keyV_is {pins : List (Addr × Obj)} {σ : L2.St} {H : Hp} {s : Shared} {sh : Nat → Bool} {v : V} {l : List (Int ⊕ List Nat)} (I : Inv X pins σ H s) (h : KeyIs X H sh v l) : keyV X H sh v = l := by
  have e : ∃ l, KeyIs X H sh v l := ⟨l, h⟩
  unfold keyV
  rw [dif_pos e]
  have h' := Classical.choose_spec e
  generalize Classical.choose e = m at h' ⊢
  obtain ⟨t, us, rfl, h1, _, h2⟩ := h
  obtain ⟨t', us', e', h1', _, h2'⟩ := h'
  cases e'
  cases I.tuple_inj h1 h1'
  obtain ⟨ws, r, _⟩ := I.tuple h1
  have a := h2 ws r
  have b := h2' ws r
  rw [a] at b
  exact (Option.some.inj b).symm
theorem keys_is {pins : List (Addr × Obj)} {σ : L2.St} {H : Hp} {s : Shared} {ι : List Addr} {sh : Nat → Bool} (I : Inv X pins σ H s) : ∀ {ws : List W} {vs : List V} {ks : List (List (Int ⊕ List Nat))}, allSome tupA ws = some ks → (∀ l ∈ ks, l ≠ [] ∧ ∀ j, j < l.length → sh j = (l.getD j (.inl 0)).isRight) → Reps X.K ι H ws vs → ks = vs.map (keyV X H sh) ∧ ∀ v ∈ vs, KeyIs X H sh v (keyV X H sh v) ∧ keyV X H sh v ≠ []
  | [], vs, ks, e, _, r => by
    cases e
    obtain rfl : vs = [] := r
    exact ⟨rfl, fun v h => nomatch h⟩
  | w :: ws, vs, ks, e, h, r => by
    unfold allSome at e
    split at e
    · rename_i k ks' e1 e2
      cases e
      obtain ⟨v, vs', rfl, r1, r2⟩ := r
      obtain ⟨i1, i2⟩ := keys_is I e2 (fun l hl => h l (List.mem_cons_of_mem _ hl)) r2
      cases w with
      | tup us =>
        obtain ⟨t, xs, rfl, q1, q2⟩ := r1
        have hk := h k List.mem_cons_self
        have kk : KeyIs X H sh (.ref t) k := ⟨t, xs, rfl, q1, fun hne z => hne (by
          have := atoms_len (show allSome atomOf us = some k from e1)
          rw [← q2.length, z] at this
          exact List.length_eq_zero_iff.mp this), fun ws rv => reps_atoms (show allSome atomOf us = some k from e1) q2 rv fun j hj => by
            rw [Nat.zero_add]
            exact hk.2 j hj⟩
        have ek := keyV_is I kk
        refine ⟨by rw [List.map_cons, ek, i1], fun v hv => ?_⟩
        rcases List.mem_cons.mp hv with e | hv
        · subst e
          rw [ek]
          exact ⟨kk, hk.1⟩
        · exact i2 v hv
      | non => cases e1
      | bl _ => cases e1
      | int _ => cases e1
      | str _ => cases e1
      | ref _ => cases e1
      | ty _ => cases e1
    · cases e
theorem reps_pairs {K : PySem.W.Frag} {ι : List Addr} {H : Hp} : ∀ {P : List (W × V)}, (∀ p ∈ P, Rep K ι H p.1 p.2) → Reps K ι H (P.map (·.1)) (P.map (·.2))
  | [], _ => rfl
  | p :: P, h => ⟨p.2, P.map (·.2), rfl, h p List.mem_cons_self, reps_pairs fun q hq => h q (List.mem_cons_of_mem _ hq)⟩
theorem pairs_reps {K : PySem.W.Frag} {ι : List Addr} {H : Hp} : ∀ {ws : List W} {vs : List V}, Reps K ι H ws vs → ∃ P : List (W × V), ws = P.map (·.1) ∧ vs = P.map (·.2) ∧ ∀ p ∈ P, Rep K ι H p.1 p.2
  | [], vs, r => ⟨[], rfl, r, fun p h => nomatch h⟩
  | w :: ws, vs, r => by
    obtain ⟨v, vs', rfl, r1, r2⟩ := r
    obtain ⟨P, e1, e2, h⟩ := pairs_reps r2
    refine ⟨(w, v) :: P, by rw [List.map_cons, e1], by rw [List.map_cons, e2], fun p hp => ?_⟩
    rcases List.mem_cons.mp hp with e | hp
    · rw [e]
      exact r1
    · exact h p hp
theorem zip_maps {α β γ : Type} (f : α → β) (g : α → γ) : ∀ l : List α, (l.map f).zip (l.map g) = l.map fun x => (f x, g x)
  | [] => rfl
  | x :: l => by rw [List.map_cons, List.map_cons, List.map_cons, List.zip_cons_cons, zip_maps f g l]
/-- sorted of what is served -/
theorem cr_sortW {pins : List (Addr × Obj)} {σ : L2.St} {H : Hp} {s : Shared} {Q : VK} {ι : List Addr} {a : Addr} {ws ys : List W} {vs : List V} (I : Inv X pins σ H s) (hs : SqL X.K H a vs) (hr : Reps X.K ι H ws vs) (e : sortW ws = some ys)
    (q : ∀ zs p, Reps X.K ι H ys zs → H p = none → Q (.ref p) (upd H p (.lst zs))) : wpAny (model X.prog X.w) X.A (call (.builtin "sorted") [.ref a]) (EP X pins σ Q) X.xe s := by
  unfold sortW at e
  split at e
  · rename_i is ei
    cases e
    have ev := reps_ints ei hr
    subst ev
    refine cr_sortedI pins s σ H [.ref a] _ Q I (.cons rfl .nil) ⟨a, is, rfl, hs, fun ns p h1 h2 hp => ?_⟩
    rw [sortK_ints h1 h2]
    refine q _ _ ?_ hp
    generalize sortK _ is = ms
    clear h1 h2 ei hr hs
    induction ms with
    | nil => rfl
    | cons m ms ih => exact ⟨.int m, _, rfl, rfl, ih⟩
  · split at e
    · rename_i k ks ek
      split at e
      · rename_i hk
        cases e
        have hsh : ∀ l ∈ k :: ks, l ≠ [] ∧ ∀ j, j < l.length → (fun i => (kindL k).getD i false) j = (l.getD j (.inl 0)).isRight := fun l hl => by
          have el : kindL l = kindL k := by
            rcases List.mem_cons.mp hl with e | hl
            · rw [e]
            · exact hk.2 l hl
          refine ⟨fun z => ?_, fun j hj => ?_⟩
          · rw [z] at el
            exact hk.1 (List.map_eq_nil_iff.mp el.symm)
          · show (kindL k).getD j false = _
            rw [← el]
            unfold kindL
            rw [List.getD_eq_getElem?_getD, List.getD_eq_getElem?_getD, List.getElem?_map, List.getElem?_eq_getElem hj]
            rfl
        obtain ⟨e1, e2⟩ := keys_is I ek hsh hr
        obtain ⟨P, rfl, rfl, hP⟩ := pairs_reps hr
        refine cr_sortT2 (sh := fun i => (kindL k).getD i false) pins s σ H [.ref a] _ Q I (.cons rfl .nil) ⟨a, _, keyV X H (fun i => (kindL k).getD i false), rfl, hs, fun x hx => ?_, fun zs p h1 h2 hp => ?_⟩
        · obtain ⟨⟨t, us, rfl, q1, q2, q3⟩, hne⟩ := e2 x hx
          exact ⟨t, us, rfl, q1, q2 hne, q3⟩
        · have O : SrtO.Swo (fun x y : V => ltL (keyV X H (fun i => (kindL k).getD i false) x) (keyV X H (fun i => (kindL k).getD i false) y)) := ⟨fun x y => swo_ltL.asym _ _, fun x y z => swo_ltL.tr _ _ _⟩
          have ez := sortK_uniq O h1 h2
          rw [ez]
          refine q _ _ ?_ hp
          generalize hkv : keyV X H (fun i => (kindL k).getD i false) = kv at *
          have z1 := sortK_map (fun x y : V => ltL (kv x) (kv y)) (fun p : W × V => p.2) P
          have z2 := sortK_map (fun (a b : List (Int ⊕ List Nat) × W) => ltL a.1 b.1) (fun p : W × V => (kv p.2, p.1)) P
          have z3 : (k :: ks).zip (P.map (·.1)) = P.map (fun p : W × V => (kv p.2, p.1)) := by
            rw [e1, List.map_map]
            exact zip_maps _ _ P
          rw [z3, ← z2, ← z1, List.map_map]
          exact reps_pairs fun p hp => hP p ((sortK_perm _ P).mem_iff.mp hp)
      · cases e
    · cases e
end
end Itp

set_option Elab.async false
set_option linter.all false
set_option autoImplicit false
set_option maxRecDepth 100000
set_option maxHeartbeats 4000000
/-! Itp, part D: the built-in functions and methods. -/
namespace Itp
open PySem PySem.Spec PyProof.Rows L2

def rFL (K : PySem.W.Frag) (f : List W → IH → Option (W × IH)) : List V → Hp → VK → Prop := fun vs H Q => ∃ ι hp ws w hp', Sim K ι hp H ∧ Reps K ι H ws vs ∧ f ws hp = some (w, hp') ∧
  ∀ v H' ι', Ext ι H ι' H' → Sim K ι' hp' H' → Rep K ι' H' w v → Q v H'
def bfVal : BF → Value
  | .len => .builtin "len" | .abs => .builtin "abs" | .max => .builtin "max" | .min => .builtin "min" | .divmod => .builtin "divmod"
  | .all => .builtin "all" | .any => .builtin "any" | .sum => .builtin "sum" | .isinstance => .builtin "isinstance" | .ord => .builtin "ord" | .repr => .builtin "repr" | .sorted => .builtin "sorted"
  | .tInt => .type "int" | .tStr => .type "str" | .tList => .type "list" | .tTuple => .type "tuple" | .tBool => .type "bool"

section
variable {K : PySem.W.Frag} {ι : List Addr} {hp : IH} {H : Hp}
theorem reps1 {w : W} {vs : List V} (h : Reps K ι H [w] vs) : ∃ v, vs = [v] ∧ Rep K ι H w v := by
  obtain ⟨v, r, rfl, h1, h2⟩ := h
  obtain rfl : r = [] := h2
  exact ⟨v, rfl, h1⟩
theorem reps2 {w u : W} {vs : List V} (h : Reps K ι H [w, u] vs) : ∃ v x, vs = [v, x] ∧ Rep K ι H w v ∧ Rep K ι H u x := by
  obtain ⟨v, r, rfl, h1, h2⟩ := h
  obtain ⟨x, rfl, h3⟩ := reps1 h2
  exact ⟨v, x, rfl, h1, h3⟩
theorem reps0 {vs : List V} (h : Reps K ι H [] vs) : vs = [] := h
theorem reps_bools : ∀ {ws : List W} {bs : List Bool} {vs : List V}, boolsOf ws = some bs → Reps K ι H ws vs → vs = bs.map V.bl
  | [], _, _, e, r => by cases e; exact r
  | .bl b :: ws, bs, vs, e, r => by
    obtain ⟨v, xs, rfl, h1, h2⟩ := r
    obtain rfl : v = .bl b := h1
    simp only [boolsOf, Option.map_eq_some_iff] at e
    obtain ⟨bs', e, rfl⟩ := e
    rw [reps_bools e h2]
    rfl
  | .non :: _, _, _, e, _ => by cases e
  | .int _ :: _, _, _, e, _ => by cases e
  | .str _ :: _, _, _, e, _ => by cases e
  | .tup _ :: _, _, _, e, _ => by cases e
  | .ref _ :: _, _, _, e, _ => by cases e
  | .ty _ :: _, _, _, e, _ => by cases e
theorem reps_strs : ∀ {ws : List W} {bs : List Str} {vs : List V}, strsOf ws = some bs → Reps K ι H ws vs → vs = bs.map V.str
  | [], _, _, e, r => by cases e; exact r
  | .str b :: ws, bs, vs, e, r => by
    obtain ⟨v, xs, rfl, h1, h2⟩ := r
    obtain rfl : v = .str b := h1
    simp only [strsOf, Option.map_eq_some_iff] at e
    obtain ⟨bs', e, rfl⟩ := e
    rw [reps_strs e h2]
    rfl
  | .non :: _, _, _, e, _ => by cases e
  | .bl _ :: _, _, _, e, _ => by cases e
  | .int _ :: _, _, _, e, _ => by cases e
  | .tup _ :: _, _, _, e, _ => by cases e
  | .ref _ :: _, _, _, e, _ => by cases e
  | .ty _ :: _, _, _, e, _ => by cases e
theorem reps_tys : ∀ {ws : List W} {ns : List String} {vs : List V}, tysOf ws = some ns → Reps K ι H ws vs → Paired ClsV vs (ns.map Value.type)
  | [], _, _, e, r => by cases e; obtain rfl := reps0 r; exact .nil
  | .ty b :: ws, bs, vs, e, r => by
    obtain ⟨v, xs, rfl, h1, h2⟩ := r
    obtain rfl : v = .ty b := h1
    simp only [tysOf, Option.map_eq_some_iff] at e
    obtain ⟨bs', e, rfl⟩ := e
    exact .cons (.ty b) (reps_tys e h2)
  | .non :: _, _, _, e, _ => by cases e
  | .bl _ :: _, _, _, e, _ => by cases e
  | .int _ :: _, _, _, e, _ => by cases e
  | .tup _ :: _, _, _, e, _ => by cases e
  | .ref _ :: _, _, _, e, _ => by cases e
  | .str _ :: _, _, _, e, _ => by cases e
theorem sqT_ty {a : Addr} {xs : List V} (h : SqT K H a xs) : TyX K H (.ref a) (.type "tuple") := by
  rcases h with (h | ⟨o, h⟩) | ⟨o, its, n, h1, h2, _⟩
  · exact .base (.tup h)
  · exact .fTuple h
  · exact .kTuple h1 h2
theorem Sim.ty (s : Sim K ι hp H) {w : W} {v : V} {t : String} (h : tyName hp w = some t) (r : Rep K ι H w v) : TyX K H v (.type t) ∧ t ∈ ["NoneType", "bool", "int", "str", "tuple", "list"] := by
  cases w with
  | non => cases h; cases r; exact ⟨.base .non, by decide⟩
  | bl b => cases h; cases r; exact ⟨.base (.bl b), by decide⟩
  | int i => cases h; cases r; exact ⟨.base (.int i), by decide⟩
  | str x => cases h; cases r; exact ⟨.base (.str x), by decide⟩
  | ty t => cases h
  | tup us =>
    obtain ⟨a, xs, rfl, h1, h2⟩ := r
    cases h
    exact ⟨sqT_ty h1, by decide⟩
  | ref m =>
    cases e : hp[m]? with
    | none => simp only [tyName, e] at h; cases h
    | some o =>
      obtain ⟨a, ha, ro⟩ := s.addr e
      have ev := Rep.ref r ha
      subst ev
      simp only [tyName, e] at h
      cases h
      refine ⟨?_, by decide⟩
      cases o with
      | lst ws => obtain ⟨xs, h1, _⟩ := ro; exact .base (.lst h1)
      | flst ws =>
        obtain ⟨xs, h1, _⟩ := ro
        rcases h1 with ⟨o, h1⟩ | ⟨o, its, n, h1, h2, _⟩
        · exact .base (.frz h1)
        · exact .kList h1 h2
theorem kit_all : ∀ t ∈ ["NoneType", "bool", "int", "str", "tuple", "list"], ∀ u ∈ ["int", "bool", "str", "tuple", "list"], kitB t u = some (isTy t u) := by decide +kernel
theorem kit_okTy {t u : String} (ht : t ∈ ["NoneType", "bool", "int", "str", "tuple", "list"]) (hu : okTy u = true) : PySem.W.kitOne K (.type t) (.type u) = some (isTy t u) := by
  refine kit_ty (kit_all t ht u ?_)
  unfold okTy at hu
  exact List.contains_iff_mem.mp hu
theorem kit_anyTy {t : String} (ht : t ∈ ["NoneType", "bool", "int", "str", "tuple", "list"]) : ∀ (us : List String), us.all okTy = true → PySem.W.kitAny K (.type t) (us.map Value.type) = some (us.any fun n => isTy t n)
  | [], _ => kitAny_nil
  | u :: us, h => by
    rw [List.all_cons, Bool.and_eq_true] at h
    rw [List.any_cons]
    refine kitAny_cons (kit_okTy ht h.1) (fun hb => ?_) (fun hb => ?_)
    · rw [hb, Bool.false_or]
      exact kit_anyTy ht us h.2
    · rw [hb, Bool.true_or]
end

section
variable {X : Cx}
/-- repr of what is read through -/
theorem repr_dp {pins : List (Addr × Obj)} {σ : L2.St} {H : Hp} {s : Shared} {Q : VK} {v : V} {u : Value} {d : PyData} (hgd : X.A.guards = some []) (hu : X.A.units + 65 < cLine) (I : Inv X pins σ H s) (h : Dp X.K H v d) (r : RelV v u)
    (h1 : d.showable = true) (h2 : d.hasDict = false) (h3 : d.depth ≤ depthMax) (h4 : d.shown.length ≤ sizeLine) (q : Q (.str d.shown) H) : wpAny (model X.prog X.w) X.A (call (.builtin "repr") [u]) (EP X pins σ Q) X.xe s := by
  have big : ∀ a : Addr, v = .ref a → wpAny (model X.prog X.w) X.A (call (.builtin "repr") [.ref a]) (EP X pins σ Q) X.xe s := fun a ea => by
    subst ea
    cases r
    obtain ⟨as, rd⟩ := Dp.reads I d _ _ h rfl
    refine repr_of_reads' rd h1 (fun z => by rw [h2] at z; cases z) hgd (by have : d.depth ≤ 60 := h3; omega) (fun _ _ e => e) (fun h' u' tk hk => ?_) h4
    exact ⟨.str d.shown, H, I.kept hk, ⟨_, rfl⟩, q⟩
  cases h with
  | non => cases r; exact PySem.P.repr_of_none ⟨.str _, H, I.tok _, ⟨_, rfl⟩, by simpa only [PyData.shown] using q⟩
  | bl b => cases r; exact PySem.P.repr_of_bool ⟨.str _, H, I.tok _, ⟨_, rfl⟩, by simpa only [PyData.shown] using q⟩
  | int i =>
    obtain ⟨t, rfl⟩ := r
    exact PySem.P.repr_of_int (by simpa [PyData.showable] using h1) ⟨.str _, H, I.tok _, ⟨_, rfl⟩, by simpa only [PyData.shown] using q⟩
  | str x =>
    obtain ⟨t, rfl⟩ := r
    exact PySem.P.repr_of_str ⟨.str _, H, I.tok _, ⟨_, rfl⟩, by simpa only [PyData.shown] using q⟩ (by simpa only [PyData.shown] using h4)
  | lst a b => cases r; exact big _ rfl
  | tup a b => cases r; exact big _ rfl
theorem call_F (hc : X.calm = true) (hgd : X.A.guards = some []) (hu : X.A.units + 65 < cLine) (f : BF) : CallR X (bfVal f) (rFL X.K (bfF f)) := by
  intro pins s σ H vs us Q I rv h
  obtain ⟨ι, hp, ws, w, hp', sim, ra, e, k⟩ := h
  unfold bfF at e
  split at e
  · -- len of a str
    rename_i y
    obtain ⟨v, rfl, hv⟩ := reps1 ra
    obtain rfl : v = .str y := hv
    split at e
    · rename_i hl
      cases e
      exact call_len_str pins s σ H _ _ Q I rv ⟨y, rfl, line_le hl, k _ _ _ (Ext.refl _ _) sim rfl⟩
    · cases e
  · -- len
    rename_i w' hw'
    obtain ⟨v, rfl, hv⟩ := reps1 ra
    simp only [Option.map_eq_some_iff] at e
    obtain ⟨xs, e, e'⟩ := e
    cases e'
    obtain ⟨a, zs, rfl, hr, hq⟩ := sim.items e hv
    refine call_len_seq pins s σ H _ _ Q I rv ⟨a, zs, rfl, hq, ?_⟩
    rw [hr.length]
    exact k _ _ _ (Ext.refl _ _) sim rfl
  · -- abs
    rename_i i
    obtain ⟨v, rfl, hv⟩ := reps1 ra
    obtain rfl : v = .int i := hv
    cases e
    exact call_abs pins s σ H _ _ Q I rv ⟨i, rfl, k _ _ _ (Ext.refl _ _) sim rfl⟩
  · rename_i i j
    obtain ⟨v, x, rfl, hv, hx⟩ := reps2 ra
    obtain rfl : v = .int i := hv
    obtain rfl : x = .int j := hx
    cases e
    exact call_max2 hc pins s σ H _ _ Q I rv ⟨i, j, rfl, k _ _ _ (Ext.refl _ _) sim rfl⟩
  · rename_i i j
    obtain ⟨v, x, rfl, hv, hx⟩ := reps2 ra
    obtain rfl : v = .int i := hv
    obtain rfl : x = .int j := hx
    cases e
    exact call_min2 hc pins s σ H _ _ Q I rv ⟨i, j, rfl, k _ _ _ (Ext.refl _ _) sim rfl⟩
  · rename_i i j
    obtain ⟨v, x, rfl, hv, hx⟩ := reps2 ra
    obtain rfl : v = .int i := hv
    obtain rfl : x = .int j := hx
    split at e
    · rename_i hcc
      cases e
      exact call_divmodW pins s σ H _ _ Q I rv ⟨i, j, rfl, hcc, fun p hp0 => k _ _ _ (Ext.new hp0) (sim.new hp0) ⟨p, _, rfl, .inl (.inl upd_same), ⟨_, _, rfl, rfl, _, _, rfl, rfl, rfl⟩⟩⟩
    · cases e
  · -- all
    rename_i m
    obtain ⟨v, rfl, hv⟩ := reps1 ra
    split at e
    · rename_i xs eo
      obtain ⟨am, zs, hm, hz, hr⟩ := sim.lstAt eo
      have ex := Rep.ref hv hm
      subst ex
      simp only [Option.map_eq_some_iff] at e
      obtain ⟨bs, e, e'⟩ := e
      cases e'
      have ez := reps_bools e hr
      subst ez
      exact cr_all hc pins s σ H _ _ Q I rv ⟨am, bs, rfl, SqL.of hz, k _ _ _ (Ext.refl _ _) sim rfl⟩
    · cases e
  · -- any
    rename_i m
    obtain ⟨v, rfl, hv⟩ := reps1 ra
    split at e
    · rename_i xs eo
      obtain ⟨am, zs, hm, hz, hr⟩ := sim.lstAt eo
      have ex := Rep.ref hv hm
      subst ex
      simp only [Option.map_eq_some_iff] at e
      obtain ⟨bs, e, e'⟩ := e
      cases e'
      have ez := reps_bools e hr
      subst ez
      exact cr_any hc pins s σ H _ _ Q I rv ⟨am, bs, rfl, SqL.of hz, k _ _ _ (Ext.refl _ _) sim rfl⟩
    · cases e
  · -- sum
    rename_i m
    obtain ⟨v, rfl, hv⟩ := reps1 ra
    split at e
    · rename_i xs eo
      obtain ⟨am, zs, hm, hz, hr⟩ := sim.lstAt eo
      have ex := Rep.ref hv hm
      subst ex
      simp only [Option.map_eq_some_iff] at e
      obtain ⟨bs, e, e'⟩ := e
      cases e'
      have ez := reps_ints e hr
      subst ez
      exact cr_sum hc pins s σ H _ _ Q I rv ⟨am, bs, rfl, SqL.of hz, k _ _ _ (Ext.refl _ _) sim rfl⟩
    · cases e
  · -- isinstance
    rename_i w' n
    obtain ⟨v, x, rfl, hv, hx⟩ := reps2 ra
    obtain rfl : x = .ty n := hx
    split at e
    · rename_i ho
      simp only [Option.map_eq_some_iff] at e
      obtain ⟨t, e, e'⟩ := e
      cases e'
      obtain ⟨ty, ht⟩ := sim.ty e hv
      exact call_isi pins s σ H _ _ Q I rv ⟨v, .ty n, .type t, .type n, isTy t n, rfl, .ty n, ty, kit_okTy ht ho, k _ _ _ (Ext.refl _ _) sim rfl⟩
    · cases e
  · rename_i w' ts
    obtain ⟨v, x, rfl, hv, hx⟩ := reps2 ra
    obtain ⟨pa, zs, rfl, hz, rz⟩ := hx
    split at e
    · rename_i ns en
      split at e
      · rename_i ho
        simp only [Option.map_eq_some_iff] at e
        obtain ⟨t, e, e'⟩ := e
        cases e'
        obtain ⟨ty, ht⟩ := sim.ty e hv
        have pz := reps_tys en rz
        rcases hz with (hz | ⟨o, hz⟩) | ⟨o, its, n, h1, h2, h3, h4, h5⟩
        · exact call_isiT pins s σ H _ _ Q I rv ⟨v, pa, zs, .type t, ns.map Value.type, _, rfl, hz, pz, ty, kit_anyTy ht ns ho, k _ _ _ (Ext.refl _ _) sim rfl⟩
        · -- a frozen tuple: by the object itself
          obtain ⟨u1, u2, rfl, r1, r2⟩ := vals2 rv
          cases (show u2 = Value.ref pa from r2)
          obtain ⟨P, Z, p, hx⟩ := kit_of I r1 ty
          obtain ⟨_, _, its, rv2, oo, h1, h2, n, h3⟩ := (show ObjOk X.prog X.w H s.heap pa (.frz o (.tup zs)) from I.hok pa _ hz)
          have e3 := ClsV.all pz rv2
          subst e3
          obtain ⟨oc, od, dt, sl⟩ := oo
          simp only at h2 h3
          subst h2 h3
          exact PySem.W.kia_tup Z I.kIn p h1 (kit_anyTy ht ns ho) hx fun tk => ⟨.bl _, H, I.tok tk, rfl, k _ _ _ (Ext.refl _ _) sim rfl⟩
        · have e3 := ClsV.all pz h5
          obtain ⟨oc, od, dt, sl⟩ := o
          simp only at h2 h3
          subst h2 h3
          have e4 : its = (ns.map Value.type).toArray := by rw [← e3]
          subst e4
          exact call_isiK pins s σ H _ _ Q I rv ⟨v, pa, od, ns.map Value.type, n, sl, .type t, _, rfl, h1, ty, kit_anyTy ht ns ho, k _ _ _ (Ext.refl _ _) sim rfl⟩
      · cases e
    · cases e
  · -- ord
    rename_i x
    obtain ⟨v, rfl, hv⟩ := reps1 ra
    obtain rfl : v = .str x := hv
    split at e
    · rename_i hl
      cases e
      exact call_ord pins s σ H _ _ Q I rv ⟨x, rfl, hl, k _ _ _ (Ext.refl _ _) sim rfl⟩
    · cases e
  · rename_i i
    obtain ⟨v, rfl, hv⟩ := reps1 ra
    obtain rfl : v = .int i := hv
    cases e
    exact call_int1 pins s σ H _ _ Q I rv (.inl ⟨i, rfl, k _ _ _ (Ext.refl _ _) sim rfl⟩)
  · rename_i b
    obtain ⟨v, rfl, hv⟩ := reps1 ra
    obtain rfl : v = .bl b := hv
    cases e
    exact call_int1 pins s σ H _ _ Q I rv (.inr ⟨b, rfl, k _ _ _ (Ext.refl _ _) sim rfl⟩)
  · rename_i a
    obtain ⟨v, rfl, hv⟩ := reps1 ra
    obtain rfl : v = .str a := hv
    split at e
    · rename_i hl
      simp only [Option.map_eq_some_iff] at e
      obtain ⟨n, e, e'⟩ := e
      cases e'
      exact call_int_str pins s σ H _ _ Q I rv ⟨a, n, rfl, e, hl, k _ _ _ (Ext.refl _ _) sim rfl⟩
    · cases e
  · rename_i i
    obtain ⟨v, rfl, hv⟩ := reps1 ra
    obtain rfl : v = .int i := hv
    split at e
    · rename_i hl
      cases e
      exact call_str_int pins s σ H _ _ Q I rv ⟨i, rfl, hl, k _ _ _ (Ext.refl _ _) sim rfl⟩
    · cases e
  · rename_i a
    obtain ⟨v, rfl, hv⟩ := reps1 ra
    obtain rfl : v = .str a := hv
    cases e
    exact SkE.call_str_str pins s σ H _ _ Q I rv ⟨a, rfl, k _ _ _ (Ext.refl _ _) sim rfl⟩
  · -- list
    rename_i w'
    obtain ⟨v, rfl, hv⟩ := reps1 ra
    simp only [Option.map_eq_some_iff] at e
    obtain ⟨xs, e, e'⟩ := e
    cases e'
    obtain ⟨a, zs, rfl, hr, hq⟩ := sim.items e hv
    exact call_list_of pins s σ H _ _ Q I rv ⟨a, zs, rfl, hq, fun p hp0 => k _ _ _ (Ext.lst hp0) (sim.lst hp0 hr) ⟨p, sim.newest, rfl⟩⟩
  · -- tuple
    rename_i w'
    obtain ⟨v, rfl, hv⟩ := reps1 ra
    simp only [Option.map_eq_some_iff] at e
    obtain ⟨xs, e, e'⟩ := e
    cases e'
    obtain ⟨a, zs, rfl, hr, hq⟩ := sim.items e hv
    refine call_tuple_of pins s σ H _ _ Q I rv ⟨a, zs, rfl, ?_⟩
    rcases hq with hq | hq
    · exact .inl ⟨hq, fun p hp0 => k _ _ _ (Ext.new hp0) (sim.new hp0) ⟨p, _, rfl, .inl (.inl upd_same), Reps.ext (Ext.new hp0) _ _ hr⟩⟩
    · exact .inr ⟨hq, k _ _ _ (Ext.refl _ _) sim ⟨a, zs, rfl, hq, hr⟩⟩
  · -- sorted
    rename_i m
    obtain ⟨v, rfl, hv⟩ := reps1 ra
    split at e
    · rename_i xs ex
      split at e
      · rename_i ys ey
        split at e
        · rename_i hl
          cases e
          have z : ∃ a zs, v = .ref a ∧ Reps X.K ι H xs zs ∧ SqL X.K H a zs := by
            cases eh : hp[m]? with
            | none => simp only [itemsOf, eh] at ex; cases ex
            | some o =>
              obtain ⟨a, zs, us, ha, hq, hr, ho⟩ := sim.seqAt eh
              have ev := Rep.ref hv ha
              rcases ho with rfl | rfl
              · simp only [itemsOf, eh] at ex
                cases ex
                exact ⟨a, zs, ev, hr, hq⟩
              · simp only [itemsOf, eh] at ex
                cases ex
                exact ⟨a, zs, ev, hr, hq⟩
          obtain ⟨a, zs, rfl, hr, hq⟩ := z
          obtain ⟨u, rfl, ru⟩ := vals1 rv
          obtain rfl : u = Value.ref a := ru
          exact cr_sortW I hq hr ey fun zs p hz hp0 => k _ _ _ (Ext.lst hp0) (sim.lst hp0 hz) ⟨p, sim.newest, rfl⟩
        · cases e
      · cases e
    · cases e
  · -- repr
    rename_i w'
    obtain ⟨v, rfl, hv⟩ := reps1 ra
    split at e
    · rename_i d ed
      split at e
      · rename_i hd
        cases e
        obtain ⟨u, rfl, ru⟩ := vals1 rv
        exact repr_dp hgd hu I (sim.dat _ _ _ _ ed hv) ru hd.1 hd.2.1 hd.2.2.1 (line_le hd.2.2.2) (k _ _ _ (Ext.refl _ _) sim rfl)
      · cases e
    · cases e
  · cases e
end

/-! ### methods -/
def bmT : BM → String
  | .append => "list" | .extend => "list" | .pop => "list"
  | .join => "str" | .count => "str" | .rfind => "str" | .isalpha => "str" | .index => "str" | .upper => "str"
def bmId : BM → String
  | .append => "list.append" | .extend => "list.extend" | .pop => "list.pop"
  | .join => "str.join" | .count => "str.count" | .rfind => "str.rfind" | .isalpha => "str.isalpha" | .index => "str.index" | .upper => "str.upper"
def bmName : BM → Str
  | .append => "append" | .extend => "extend" | .pop => "pop"
  | .join => "join" | .count => "count" | .rfind => "rfind" | .isalpha => "isalpha" | .index => "index" | .upper => "upper"
/-- o.m(..): the receiver is of the type, the method gives this -/
def rFM (K : PySem.W.Frag) (m : BM) : V → List V → Hp → VK → Prop := fun x vs H Q => ∃ ι hp o ws w hp', Sim K ι hp H ∧ Rep K ι H o x ∧ Reps K ι H ws vs ∧ bmF m o ws hp = some (w, hp') ∧
  ∀ v H' ι', Ext ι H ι' H' → Sim K ι' hp' H' → Rep K ι' H' w v → Q v H'
section
variable {X : Cx}
theorem meth_F (m : BM) : MtR X (bmId m) (rFM X.K m) := by
  intro pins s σ H x vs xv us Q I rx rv h
  obtain ⟨ι, hp, o, ws, w, hp', sim, ro, ra, e, k⟩ := h
  unfold bmF at e
  split at e
  · -- append
    rename_i n w'
    obtain ⟨v, rfl, hv⟩ := reps1 ra
    split at e
    · rename_i xs eo
      obtain ⟨am, zs, hm, hz, hr⟩ := sim.lstAt eo
      have ex := Rep.ref ro hm
      subst ex
      split at e
      · rename_i hl
        cases e
        exact mt_append pins s σ H _ _ xv us Q I rx rv ⟨am, zs, v, rfl, rfl, hz, by rw [hr.length]; exact line_lt hl, k _ _ _ (Ext.set hz) (sim.set hm eo (hr.append (Reps.one hv))) rfl⟩
      · cases e
    · cases e
  · -- extend
    rename_i n n2
    obtain ⟨v, rfl, hv⟩ := reps1 ra
    split at e
    · rename_i xs ys eo eo2
      obtain ⟨am, zs, hm, hz, hr⟩ := sim.lstAt eo
      obtain ⟨an, zs2, hn, hz2, hr2⟩ := sim.lstAt eo2
      have ex := Rep.ref ro hm
      have ey := Rep.ref hv hn
      subst ex ey
      split at e
      · rename_i hl
        cases e
        exact mt_extend pins s σ H _ _ xv us Q I rx rv ⟨am, an, zs, zs2, rfl, rfl, hz, hz2, by rw [hr.length, hr2.length]; exact line_le hl, k _ _ _ (Ext.set hz) (sim.set hm eo (hr.append hr2)) rfl⟩
      · cases e
    · cases e
  · -- pop
    rename_i n
    obtain rfl := reps0 ra
    split at e
    · rename_i xs eo
      obtain ⟨am, zs, hm, hz, hr⟩ := sim.lstAt eo
      have ex := Rep.ref ro hm
      subst ex
      simp only [Option.map_eq_some_iff] at e
      obtain ⟨w', e, e'⟩ := e
      cases e'
      obtain ⟨v', hv', rv'⟩ := hr.get e
      refine mt_pop pins s σ H _ _ xv us Q I rx rv ⟨am, zs, v', rfl, rfl, hz, by rw [hr.length]; exact hv', k _ _ _ (Ext.set hz) (sim.set hm eo ?_) (Rep.ext (Ext.set hz) _ _ rv')⟩
      rw [List.dropLast_eq_take, List.dropLast_eq_take, hr.length]
      exact hr.take _
    · cases e
  · -- join
    rename_i a w'
    obtain rfl : x = .str a := ro
    obtain ⟨v, rfl, hv⟩ := reps1 ra
    split at e
    · rename_i zs ez
      split at e
      · rename_i ys ey
        split at e
        · rename_i hl
          cases e
          obtain ⟨pa, us2, rfl, hr, hq⟩ := sim.items ez hv
          have eu := reps_strs ey hr
          subst eu
          exact mt_join pins s σ H _ _ xv us Q I rx rv ⟨a, pa, ys, rfl, rfl, hq, line_le' hl, k _ _ _ (Ext.refl _ _) sim rfl⟩
        · cases e
      · cases e
    · cases e
  · rename_i a b
    obtain rfl : x = .str a := ro
    obtain ⟨v, rfl, hv⟩ := reps1 ra
    obtain rfl : v = .str b := hv
    cases e
    exact mt_count pins s σ H _ _ xv us Q I rx rv ⟨a, b, rfl, rfl, k _ _ _ (Ext.refl _ _) sim rfl⟩
  · rename_i a b
    obtain rfl : x = .str a := ro
    obtain ⟨v, rfl, hv⟩ := reps1 ra
    obtain rfl : v = .str b := hv
    cases e
    exact mt_rfind pins s σ H _ _ xv us Q I rx rv ⟨a, b, rfl, rfl, k _ _ _ (Ext.refl _ _) sim rfl⟩
  · rename_i a
    obtain rfl : x = .str a := ro
    obtain rfl := reps0 ra
    cases e
    exact mt_isalpha pins s σ H _ _ xv us Q I rx rv ⟨a, rfl, rfl, True.intro, k _ _ _ (Ext.refl _ _) sim rfl⟩
  · rename_i a
    obtain rfl : x = .str a := ro
    obtain rfl := reps0 ra
    split at e
    · rename_i hl
      cases e
      exact mt_upper pins s σ H _ _ xv us Q I rx rv ⟨a, rfl, rfl, Nat.le_trans hl (by decide), k _ _ _ (Ext.refl _ _) sim rfl⟩
    · cases e
  · rename_i a b
    obtain rfl : x = .str a := ro
    obtain ⟨v, rfl, hv⟩ := reps1 ra
    obtain rfl : v = .str b := hv
    simp only [Option.map_eq_some_iff] at e
    obtain ⟨i, hi, e'⟩ := e
    cases e'
    obtain ⟨rest, hr⟩ : ∃ rest, Builtin.Str.occurrences a b 0 a.length 1 = i :: rest := by
      cases ho : Builtin.Str.occurrences a b 0 a.length 1 with
      | nil => rw [ho] at hi; cases hi
      | cons y r =>
        rw [ho] at hi
        cases hi
        exact ⟨r, rfl⟩
    exact mt_sindex pins s σ H _ _ xv us Q I rx rv ⟨a, b, i, rest, rfl, rfl, hr, k _ _ _ (Ext.refl _ _) sim rfl⟩
  · cases e
end
end Itp

set_option Elab.async false
set_option linter.all false
set_option autoImplicit false
set_option maxRecDepth 100000
set_option maxHeartbeats 4000000
/-! Itp, part E: each form of expression, by the hand layer's rule. -/
namespace Itp
open PySem PySem.Spec PyProof.Rows L2

/-- what is asked of a called def: by the function that it is -/
def spG (g : Gx) (n : Nat) (G : List W → IH → Out W) : Sp := fun vs H Q E => vs.length = n ∧ ∃ ι ws hp, Sim g.K ι hp H ∧ Reps g.K ι H ws vs ∧ OutG g (fun cls d _ H => E cls d H) ι [] H (Rep g.K) (G ws hp) Q

theorem notStar_each {e : Expr} {es : List Expr} {env : Env} (h : (match e with | .Starred _ _ => false | _ => true) = true) : starEach (e :: es) env = (false, eval e env) :: starEach es env := by
  cases e <;> first | rfl | cases h
def notStar : Expr → Bool
  | .Starred _ _ => false
  | _ => true
theorem star_each {e : Expr} {es : List Expr} {env : Env} (h : notStar e = true) : starEach (e :: es) env = (false, eval e env) :: starEach es env := by
  cases e <;> first | rfl | cases h
theorem star_none : ∀ {es : List Expr} {env : Env} {pos : Pos}, es.all notStar = true → (backTo pos (starEach es env)).any (·.1) = false
  | [], _, _, _ => rfl
  | e :: es, env, pos, h => by
    rw [List.all_cons, Bool.and_eq_true] at h
    rw [star_each h.1]
    show (false || (backTo pos (starEach es env)).any (·.1)) = false
    rw [star_none h.2]
    rfl
theorem star_all : ∀ {es : List Expr} {env : Env} {pos : Pos}, es.all notStar = true → (backTo pos (starEach es env)).all (fun x => !x.1) = true
  | [], _, _, _ => rfl
  | e :: es, env, pos, h => by
    rw [List.all_cons, Bool.and_eq_true] at h
    rw [star_each h.1]
    show (true && (backTo pos (starEach es env)).all (fun x => !x.1)) = true
    rw [star_all h.2]
    rfl

section
variable {X : Cx} {ca : Nat → Addr} {F : FEnv} {Wx : WX}
abbrev PEf (X : Cx) (ca : Nat → Addr) (Wx : WX) (e : Expr) (f : IS → IH → Out W) : Prop := PE X e (rdE ⟨X.K, ca⟩ Wx f)
abbrev PTf (X : Cx) (ca : Nat → Addr) (Wx : WX) (e : Expr) (f : IS → IH → Out Bool) : Prop := PT X e (rdT ⟨X.K, ca⟩ Wx f)
abbrev PAf (X : Cx) (ca : Nat → Addr) (Wx : WX) (es : List Expr) (f : IS → IH → Out (List W)) : Prop := PA X es (rdA ⟨X.K, ca⟩ Wx f)

theorem se_var {i : Nat} {x : Str} {pos : Pos} (hN : X.N[i]? = some x) (hv : Vis X.env.scope x) (hd : (x == ("__debug__" : Str)) = false) (hcd : (x == ("__classdict__" : Str)) = false) :
    PEf X ca Wx (.Name x pos) (ev F (.var i)) := by
  refine PEimp (pe_var hN hv hd hcd) fun σ H Q h => ?_
  obtain ⟨ι, ρ, hp, s, r, o⟩ := h
  simp only [ev] at o
  cases e : ρ[i]? with
  | none => simp only [e] at o; exact o.elim
  | some ow =>
    cases ow with
    | none => simp only [e] at o; exact o.elim
    | some w =>
      simp only [e] at o
      obtain ⟨v, hv, rv⟩ := r.2 i w e
      exact ⟨v, hv, o v H ι (Ext.refl _ _) s rv⟩
/-- a value that is known -/
theorem se_cst {w : W} {v : V} {e : Expr} (h : PE X e (tC v)) (r : ∀ ι H, Rep X.K ι H w v) : PEf X ca Wx e (ev F (.cst w)) := by
  refine PEimp h fun σ H Q h => ?_
  obtain ⟨ι, ρ, hp, s, _, o⟩ := h
  exact o v H ι (Ext.refl _ _) s (r _ _)
theorem sa_nil : PAf X ca Wx [] (evs F []) := by
  refine PAimp pa_nil fun σ H Q h => ?_
  obtain ⟨ι, ρ, hp, s, _, o⟩ := h
  exact o [] H ι (Ext.refl _ _) s rfl
theorem sa_cons {e : Expr} {es : List Expr} {a : IE} {as : List IE} (h1 : PEf X ca Wx e (ev F a)) (h2 : PAf X ca Wx es (evs F as)) (hs : notStar e = true) : PAf X ca Wx (e :: es) (evs F (a :: as)) := by
  refine PAimp (pa_cons h1 h2 (star_each hs)) fun σ H Q h => ?_
  obtain ⟨ι, ρ, hp, s, r, o⟩ := h
  simp only [evs] at o
  refine (bindG s r o).mono fun x H1 ⟨⟨ι1, hp1, w, e1, s1, rw1, r1, o1⟩⟩ => ?_
  refine (bindG s1 r1 o1).mono fun xs H2 ⟨⟨ι2, hp2, ws, e2, s2, rw2, r2, o2⟩⟩ => ?_
  exact o2 (x :: xs) H2 ι2 (Ext.refl _ _) s2 ⟨x, xs, rfl, Rep.ext e2 _ _ rw1, rw2⟩
theorem se_tup {es : List Expr} {as : List IE} {k : Nat} {pos : Pos} (h : PAf X ca Wx es (evs F as)) : PEf X ca Wx (.Tuple es k pos) (ev F (.tup as)) := by
  refine PEimp (pe_tup h) fun σ H Q h => ?_
  obtain ⟨ι, ρ, hp, s, r, o⟩ := h
  simp only [ev] at o
  refine (bindG s r o).mono fun xs H1 ⟨⟨ι1, hp1, ws, e1, s1, rw1, r1, o1⟩⟩ => ?_
  by_cases hl : ws.length ≤ lineLen
  · rw [if_pos hl] at o1
    refine ⟨by rw [rw1.length]; exact line_le hl, fun p hp0 => ?_⟩
    exact o1 _ _ ι1 (Ext.new hp0) (s1.new hp0) ⟨p, xs, rfl, .inl (.inl upd_same), Reps.ext (Ext.new hp0) _ _ rw1⟩
  · rw [if_neg hl] at o1
    exact o1.elim
theorem se_lst {es : List Expr} {as : List IE} {pos : Pos} (h : PAf X ca Wx es (evs F as)) : PEf X ca Wx (.List es pos) (ev F (.lst as)) := by
  refine PEimp (pe_lst h) fun σ H Q h => ?_
  obtain ⟨ι, ρ, hp, s, r, o⟩ := h
  simp only [ev] at o
  refine (bindG s r o).mono fun xs H1 ⟨⟨ι1, hp1, ws, e1, s1, rw1, r1, o1⟩⟩ => ?_
  by_cases hl : ws.length ≤ lineLen
  · rw [if_pos hl] at o1
    refine ⟨by rw [rw1.length]; exact line_le hl, fun p hp0 => ?_⟩
    exact o1 _ _ _ (Ext.lst hp0) (s1.lst hp0 rw1) ⟨p, s1.newest, rfl⟩
  · rw [if_neg hl] at o1
    exact o1.elim
theorem se_bin {op : Operator} {a b : Expr} {ia ib : IE} {pos : Pos} (ha : PEf X ca Wx a (ev F ia)) (hb : PEf X ca Wx b (ev F ib)) : PEf X ca Wx (.BinOp a op b pos) (ev F (.bin op ia ib)) := by
  refine PEimp (pe_op (op_bin op) ha hb) fun σ H Q h => ?_
  obtain ⟨ι, ρ, hp, s, r, o⟩ := h
  simp only [ev] at o
  refine (bindG s r o).mono fun x H1 ⟨⟨ι1, hp1, w, e1, s1, rw1, r1, o1⟩⟩ => ?_
  refine (bindG s1 r1 o1).mono fun y H2 ⟨⟨ι2, hp2, u, e2, s2, rw2, r2, o2⟩⟩ => ?_
  obtain ⟨z, hp', e, k⟩ := OutG.of o2
  exact ⟨ι2, hp2, w, u, z, hp', s2, Rep.ext e2 _ _ rw1, rw2, e, k⟩
theorem se_neg {a : Expr} {ia : IE} {pos : Pos} (ha : PEf X ca Wx a (ev F ia)) : PEf X ca Wx (.UnaryOp .USub a pos) (ev F (.neg ia)) := by
  refine PEimp (pe_un un_neg ha) fun σ H Q h => ?_
  obtain ⟨ι, ρ, hp, s, r, o⟩ := h
  simp only [ev] at o
  refine (bindG s r o).mono fun x H1 ⟨⟨ι1, hp1, w, e1, s1, rw1, r1, o1⟩⟩ => ?_
  cases w with
  | int i => exact ⟨i, rw1, o1 _ _ _ (Ext.refl _ _) s1 rfl⟩
  | non => exact o1.elim
  | bl _ => exact o1.elim
  | str _ => exact o1.elim
  | tup _ => exact o1.elim
  | ref _ => exact o1.elim
  | ty _ => exact o1.elim
theorem se_not {a : Expr} {ia : IE} {pos : Pos} (ha : PEf X ca Wx a (ev F ia)) : PEf X ca Wx (.UnaryOp .Not a pos) (ev F (.not ia)) := by
  refine PEimp (pe_notT ha) fun σ H Q h => ?_
  obtain ⟨ι, ρ, hp, s, r, o⟩ := h
  simp only [ev] at o
  refine (bindG s r o).mono fun x H1 ⟨⟨ι1, hp1, w, e1, s1, rw1, r1, o1⟩⟩ => ?_
  cases e : truth hp1 w with
  | none => simp only [e] at o1; exact o1.elim
  | some k =>
    simp only [e] at o1
    exact ⟨k, s1.truth e rw1, o1 _ _ _ (Ext.refl _ _) s1 rfl⟩
theorem se_cmp (hu : X.A.units + 65 < cLine) {op : CmpOp} {a b : Expr} {ia ib : IE} {pos : Pos} (ha : PEf X ca Wx a (ev F ia)) (hb : PEf X ca Wx b (ev F ib)) (hm : behindInMarks op b = false) :
    PEf X ca Wx (.Compare a [op] [b] pos) (ev F (.cmp op ia ib)) := by
  refine PEimp (pe_cmpR (op_cmp hu op) ha hb hm) fun σ H Q h => ?_
  obtain ⟨ι, ρ, hp, s, r, o⟩ := h
  simp only [ev] at o
  refine (bindG s r o).mono fun x H1 ⟨⟨ι1, hp1, w, e1, s1, rw1, r1, o1⟩⟩ => ?_
  refine (bindG s1 r1 o1).mono fun y H2 ⟨⟨ι2, hp2, u, e2, s2, rw2, r2, o2⟩⟩ => ?_
  obtain ⟨z, hp', e, k⟩ := OutG.of o2
  simp only [cmpF, Option.map_eq_some_iff] at e
  obtain ⟨c, e, e'⟩ := e
  cases e'
  exact ⟨ι2, hp2, w, u, c, s2, Rep.ext e2 _ _ rw1, rw2, e, k _ _ _ (Ext.refl _ _) s2 rfl⟩
theorem st_cmp (hu : X.A.units + 65 < cLine) {op : CmpOp} {a b : Expr} {ia ib : IE} {pos : Pos} (ha : PEf X ca Wx a (ev F ia)) (hb : PEf X ca Wx b (ev F ib)) (hm : behindInMarks op b = false) :
    PTf X ca Wx (.Compare a [op] [b] pos) (tst F (.cmp op ia ib)) := by
  refine PTimp (pt_cmpR (op_cmp hu op) ha hb hm) fun σ H Q h => ?_
  obtain ⟨ι, ρ, hp, s, r, o⟩ := h
  simp only [tst] at o
  refine (bindG s r o).mono fun x H1 ⟨⟨ι1, hp1, w, e1, s1, rw1, r1, o1⟩⟩ => ?_
  refine (bindG s1 r1 o1).mono fun y H2 ⟨⟨ι2, hp2, u, e2, s2, rw2, r2, o2⟩⟩ => ?_
  cases e : cmpB op w u hp2 with
  | none => simp only [e] at o2; exact o2.elim
  | some c =>
    simp only [e] at o2
    exact ⟨ι2, hp2, w, u, c, s2, Rep.ext e2 _ _ rw1, rw2, e, c, rfl, o2 _ _ _ (Ext.refl _ _) s2 rfl⟩
theorem se_chn (hu : X.A.units + 65 < cLine) {op op' : CmpOp} {a b c : Expr} {ia ib ic : IE} {pos : Pos} (ha : PEf X ca Wx a (ev F ia)) (hb : PEf X ca Wx b (ev F ib)) (hc : PEf X ca Wx c (ev F ic)) (hm : lastMarks [op, op'] [b, c] = false) :
    PEf X ca Wx (.Compare a [op, op'] [b, c] pos) (ev F (.chn op op' ia ib ic)) := by
  refine PEimp (pe_chain (op_cmp hu op) (op_cmp hu op') ha hb hc hm) fun σ H Q h => ?_
  obtain ⟨ι, ρ, hp, s, r, o⟩ := h
  simp only [ev] at o
  refine (bindG s r o).mono fun x H1 ⟨⟨ι1, hp1, w, e1, s1, rw1, r1, o1⟩⟩ => ?_
  refine (bindG s1 r1 o1).mono fun y H2 ⟨⟨ι2, hp2, u, e2, s2, rw2, r2, o2⟩⟩ => ?_
  cases e : cmpB op w u hp2 with
  | none => simp only [e] at o2; exact o2.elim
  | some k =>
    refine ⟨ι2, hp2, w, u, k, s2, Rep.ext e2 _ _ rw1, rw2, e, k, rfl, ?_⟩
    cases k with
    | false =>
      simp only [e] at o2
      rw [if_neg Bool.false_ne_true]
      exact o2 _ _ _ (Ext.refl _ _) s2 rfl
    | true =>
      simp only [e] at o2
      rw [if_pos rfl]
      refine (bindG s2 r2 o2).mono fun z H3 ⟨⟨ι3, hp3, q, e3, s3, rw3, r3, o3⟩⟩ => ?_
      obtain ⟨z', hp', e', k'⟩ := OutG.of o3
      simp only [cmpF, Option.map_eq_some_iff] at e'
      obtain ⟨c', e', e''⟩ := e'
      cases e''
      exact ⟨ι3, hp3, u, q, c', s3, Rep.ext e3 _ _ rw2, rw3, e', k' _ _ _ (Ext.refl _ _) s3 rfl⟩
theorem st_chn (hu : X.A.units + 65 < cLine) {op op' : CmpOp} {a b c : Expr} {ia ib ic : IE} {pos : Pos} (ha : PEf X ca Wx a (ev F ia)) (hb : PEf X ca Wx b (ev F ib)) (hc : PEf X ca Wx c (ev F ic)) (hm : lastMarks [op, op'] [b, c] = false) :
    PTf X ca Wx (.Compare a [op, op'] [b, c] pos) (tst F (.chn op op' ia ib ic)) := by
  refine PTimp (pt_chain (op_cmp hu op) (op_cmp hu op') ha hb hc hm) fun σ H Q h => ?_
  obtain ⟨ι, ρ, hp, s, r, o⟩ := h
  simp only [tst] at o
  refine (bindG s r o).mono fun x H1 ⟨⟨ι1, hp1, w, e1, s1, rw1, r1, o1⟩⟩ => ?_
  refine (bindG s1 r1 o1).mono fun y H2 ⟨⟨ι2, hp2, u, e2, s2, rw2, r2, o2⟩⟩ => ?_
  cases e : cmpB op w u hp2 with
  | none => simp only [e] at o2; exact o2.elim
  | some k =>
    refine ⟨ι2, hp2, w, u, k, s2, Rep.ext e2 _ _ rw1, rw2, e, k, rfl, ?_⟩
    cases k with
    | false =>
      simp only [e] at o2
      rw [if_neg Bool.false_ne_true]
      exact ⟨false, rfl, o2 _ _ _ (Ext.refl _ _) s2 rfl⟩
    | true =>
      simp only [e] at o2
      rw [if_pos rfl]
      refine (bindG s2 r2 o2).mono fun z H3 ⟨⟨ι3, hp3, q, e3, s3, rw3, r3, o3⟩⟩ => ?_
      cases e' : cmpB op' u q hp3 with
      | none => simp only [e'] at o3; exact o3.elim
      | some c' =>
        simp only [e'] at o3
        exact ⟨ι3, hp3, u, q, c', s3, Rep.ext e3 _ _ rw2, rw3, e', c', rfl, o3 _ _ _ (Ext.refl _ _) s3 rfl⟩
theorem se_and {a b : Expr} {rest : List Expr} {ia ib : IE} {pos : Pos} (ha : PEf X ca Wx a (ev F ia)) (hb : PEf X ca Wx (.BoolOp .And (b :: rest) pos) (ev F ib)) : PEf X ca Wx (.BoolOp .And (a :: b :: rest) pos) (ev F (.and ia ib)) := by
  refine PEimp (pe_andT ha hb) fun σ H Q h => ?_
  obtain ⟨ι, ρ, hp, s, r, o⟩ := h
  simp only [ev] at o
  refine (bindG s r o).mono fun x H1 ⟨⟨ι1, hp1, w, e1, s1, rw1, r1, o1⟩⟩ => ?_
  cases e : truth hp1 w with
  | none => simp only [e] at o1; exact o1.elim
  | some k =>
    refine ⟨k, s1.truth e rw1, ?_⟩
    cases k with
    | true =>
      simp only [e] at o1
      rw [if_pos rfl]
      exact ⟨ι1, ρ, hp1, s1, r1, o1⟩
    | false =>
      simp only [e] at o1
      rw [if_neg Bool.false_ne_true]
      exact o1 _ _ _ (Ext.refl _ _) s1 rw1
theorem se_or {a b : Expr} {rest : List Expr} {ia ib : IE} {pos : Pos} (ha : PEf X ca Wx a (ev F ia)) (hb : PEf X ca Wx (.BoolOp .Or (b :: rest) pos) (ev F ib)) : PEf X ca Wx (.BoolOp .Or (a :: b :: rest) pos) (ev F (.or ia ib)) := by
  refine PEimp (pe_orT ha hb) fun σ H Q h => ?_
  obtain ⟨ι, ρ, hp, s, r, o⟩ := h
  simp only [ev] at o
  refine (bindG s r o).mono fun x H1 ⟨⟨ι1, hp1, w, e1, s1, rw1, r1, o1⟩⟩ => ?_
  cases e : truth hp1 w with
  | none => simp only [e] at o1; exact o1.elim
  | some k =>
    refine ⟨k, s1.truth e rw1, ?_⟩
    cases k with
    | true =>
      simp only [e] at o1
      rw [if_pos rfl]
      exact o1 _ _ _ (Ext.refl _ _) s1 rw1
    | false =>
      simp only [e] at o1
      rw [if_neg Bool.false_ne_true]
      exact ⟨ι1, ρ, hp1, s1, r1, o1⟩
theorem se_ite {c a b : Expr} {ic : IT} {ia ib : IE} {pos : Pos} (hc : PTf X ca Wx c (tst F ic)) (ha : PEf X ca Wx a (ev F ia)) (hb : PEf X ca Wx b (ev F ib)) : PEf X ca Wx (.IfExp c a b pos) (ev F (.ite ic ia ib)) := by
  refine PEimp (pe_ifExp hc ha hb) fun σ H Q h => ?_
  obtain ⟨ι, ρ, hp, s, r, o⟩ := h
  simp only [ev] at o
  refine (bindG s r o).mono fun k H1 ⟨⟨ι1, hp1, w, e1, s1, rw1, r1, o1⟩⟩ => ?_
  obtain rfl : k = w := rw1
  cases k with
  | true =>
    rw [if_pos rfl] at o1
    rw [if_pos rfl]
    exact ⟨ι1, ρ, hp1, s1, r1, o1⟩
  | false =>
    rw [if_neg Bool.false_ne_true] at o1
    rw [if_neg Bool.false_ne_true]
    exact ⟨ι1, ρ, hp1, s1, r1, o1⟩
/-! tests -/
theorem st_not {a : Expr} {ia : IT} {pos : Pos} (ha : PTf X ca Wx a (tst F ia)) : PTf X ca Wx (.UnaryOp .Not a pos) (tst F (.not ia)) := by
  refine PTimp (pt_not ha) fun σ H Q h => ?_
  obtain ⟨ι, ρ, hp, s, r, o⟩ := h
  simp only [tst] at o
  refine (bindG s r o).mono fun k H1 ⟨⟨ι1, hp1, w, e1, s1, rw1, r1, o1⟩⟩ => ?_
  obtain rfl : k = w := rw1
  exact o1 _ _ _ (Ext.refl _ _) s1 rfl
theorem st_tru {e : Expr} {ie : IE} (h : PEf X ca Wx e (ev F ie)) (he : ∀ whole, isTrue e X.env whole = (do let v ← whole; standAt e.pos; holding [v] (truthy v))) : PTf X ca Wx e (tst F (.tru ie)) := by
  refine PTimp (pt_truth h he) fun σ H Q h => ?_
  obtain ⟨ι, ρ, hp, s, r, o⟩ := h
  simp only [tst] at o
  refine (bindG s r o).mono fun x H1 ⟨⟨ι1, hp1, w, e1, s1, rw1, r1, o1⟩⟩ => ?_
  cases e : truth hp1 w with
  | none => simp only [e] at o1; exact o1.elim
  | some k =>
    simp only [e] at o1
    exact ⟨k, s1.truth e rw1, o1 _ _ _ (Ext.refl _ _) s1 rfl⟩
abbrev PWf (X : Cx) (ca : Nat → Addr) (Wx : WX) (e : Expr) (f : IS → IH → Out Bool) : Prop := PW X e (rdT ⟨X.K, ca⟩ Wx f)
theorem PWimp {e : Expr} {t t' : TT} (h : PW X e t) (k : ∀ σ H Q, t' σ H Q → t σ H Q) : PW X e t' := ⟨fun wh pins s σ H Q I q => h.run wh pins s σ H Q I (k _ _ _ q)⟩
theorem sw_and1 {a : Expr} {ia : IT} {pos : Pos} (ha : PTf X ca Wx a (tst F ia)) : PWf X ca Wx (.BoolOp .And [a] pos) (tst F ia) := pw_and1 ha
theorem sw_or1 {a : Expr} {ia : IT} {pos : Pos} (ha : PTf X ca Wx a (tst F ia)) : PWf X ca Wx (.BoolOp .Or [a] pos) (tst F ia) := pw_or1 ha
theorem sw_and {a b : Expr} {rest : List Expr} {ia ib : IT} {pos : Pos} (ha : PTf X ca Wx a (tst F ia)) (hb : PWf X ca Wx (.BoolOp .And (b :: rest) pos) (tst F ib)) : PWf X ca Wx (.BoolOp .And (a :: b :: rest) pos) (tst F (.and ia ib)) := by
  refine PWimp (pw_and ha hb) fun σ H Q h => ?_
  obtain ⟨ι, ρ, hp, s, r, o⟩ := h
  simp only [tst] at o
  refine (bindG s r o).mono fun k H1 ⟨⟨ι1, hp1, w, e1, s1, rw1, r1, o1⟩⟩ => ?_
  obtain rfl : k = w := rw1
  cases k with
  | true =>
    rw [if_pos rfl] at o1
    rw [if_pos rfl]
    exact ⟨ι1, ρ, hp1, s1, r1, o1⟩
  | false =>
    rw [if_neg Bool.false_ne_true] at o1
    rw [if_neg Bool.false_ne_true]
    exact o1 _ _ _ (Ext.refl _ _) s1 rfl
theorem sw_or {a b : Expr} {rest : List Expr} {ia ib : IT} {pos : Pos} (ha : PTf X ca Wx a (tst F ia)) (hb : PWf X ca Wx (.BoolOp .Or (b :: rest) pos) (tst F ib)) : PWf X ca Wx (.BoolOp .Or (a :: b :: rest) pos) (tst F (.or ia ib)) := by
  refine PWimp (pw_or ha hb) fun σ H Q h => ?_
  obtain ⟨ι, ρ, hp, s, r, o⟩ := h
  simp only [tst] at o
  refine (bindG s r o).mono fun k H1 ⟨⟨ι1, hp1, w, e1, s1, rw1, r1, o1⟩⟩ => ?_
  obtain rfl : k = w := rw1
  cases k with
  | true =>
    rw [if_pos rfl] at o1
    rw [if_pos rfl]
    exact o1 _ _ _ (Ext.refl _ _) s1 rfl
  | false =>
    rw [if_neg Bool.false_ne_true] at o1
    rw [if_neg Bool.false_ne_true]
    exact ⟨ι1, ρ, hp1, s1, r1, o1⟩
/-! subscripts -/
theorem se_sub {a b : Expr} {ia ib : IE} {pos : Pos} (ha : PEf X ca Wx a (ev F ia)) (hb : PEf X ca Wx b (ev F ib)) (hs : PlainIx b) : PEf X ca Wx (.Subscript a b pos) (ev F (.sub ia ib)) := by
  refine PEimp (pe_ix ix_F ha hb hs) fun σ H Q h => ?_
  obtain ⟨ι, ρ, hp, s, r, o⟩ := h
  simp only [ev] at o
  refine (bindG s r o).mono fun x H1 ⟨⟨ι1, hp1, w, e1, s1, rw1, r1, o1⟩⟩ => ?_
  refine (bindG s1 r1 o1).mono fun y H2 ⟨⟨ι2, hp2, u, e2, s2, rw2, r2, o2⟩⟩ => ?_
  obtain ⟨z, hp', e, k⟩ := OutG.of o2
  exact ⟨ι2, hp2, w, u, z, hp', s2, Rep.ext e2 _ _ rw1, rw2, e, k⟩
abbrev POf (X : Cx) (ca : Nat → Addr) (Wx : WX) (e : Option Expr) (f : IS → IH → Out (Option Int)) : Prop := PO X e (rdG ⟨X.K, ca⟩ Wx (fun _ _ a b => b = a) f)
theorem POimp {e : Option Expr} {t t' : TO} (h : PO X e t) (k : ∀ σ H Q, t' σ H Q → t σ H Q) : PO X e t' := ⟨fun pins s σ H Q I q => h.run pins s σ H Q I (k _ _ _ q)⟩
theorem so_none : POf X ca Wx none (evO F none) := by
  refine POimp po_none fun σ H Q h => ?_
  obtain ⟨ι, ρ, hp, s, r, o⟩ := h
  exact o _ _ _ (Ext.refl _ _) s rfl
theorem so_some {e : Expr} {ie : IE} (h : PEf X ca Wx e (ev F ie)) : POf X ca Wx (some e) (evO F (some ie)) := by
  refine POimp (po_some h) fun σ H Q h => ?_
  obtain ⟨ι, ρ, hp, s, r, o⟩ := h
  simp only [evO] at o
  refine (bindG s r o).mono fun x H1 ⟨⟨ι1, hp1, w, e1, s1, rw1, r1, o1⟩⟩ => ?_
  cases w with
  | int i => exact ⟨i, rw1, o1 _ _ _ (Ext.refl _ _) s1 rfl⟩
  | non => exact o1.elim
  | bl _ => exact o1.elim
  | str _ => exact o1.elim
  | tup _ => exact o1.elim
  | ref _ => exact o1.elim
  | ty _ => exact o1.elim
theorem se_slc {a : Expr} {lo hi : Option Expr} {ia : IE} {il ih : Option IE} {pos p2 : Pos} (ha : PEf X ca Wx a (ev F ia)) (hl : POf X ca Wx lo (evO F il)) (hh : POf X ca Wx hi (evO F ih)) :
    PEf X ca Wx (.Subscript a (.Slice lo hi none p2) pos) (ev F (.slc ia il ih)) := by
  refine PEimp (pe_slice sl_F ha hl hh) fun σ H Q h => ?_
  obtain ⟨ι, ρ, hp, s, r, o⟩ := h
  simp only [ev] at o
  refine (bindG s r o).mono fun x H1 ⟨⟨ι1, hp1, w, e1, s1, rw1, r1, o1⟩⟩ => ?_
  refine (bindG s1 r1 o1).mono fun l H2 ⟨⟨ι2, hp2, l', e2, s2, rw2, r2, o2⟩⟩ => ?_
  refine (bindG s2 r2 o2).mono fun u H3 ⟨⟨ι3, hp3, u', e3, s3, rw3, r3, o3⟩⟩ => ?_
  obtain rfl : l = l' := rw2
  obtain rfl : u = u' := rw3
  obtain ⟨z, hp', e, k⟩ := OutG.of o3
  exact ⟨ι3, hp3, w, z, hp', s3, Rep.ext (e2.trans e3) _ _ rw1, e, k⟩
/-! built-in functions and methods -/
theorem se_bltB {f : BF} {id : String} {x : Str} {e : Expr} {es : List Expr} {as : List IE} {p pos : Pos} (hid : bfVal f = .builtin id) (hc : X.calm = true) (hgd : X.A.guards = some []) (hu : X.A.units + 65 < cLine) (hg : Gl X x) (hm : X.mg x = none) (hv : bootBuiltins x = some (.builtin id))
    (ha : PAf X ca Wx (e :: es) (evs F as)) (hs : (e :: es).all notStar = true) (hn : x ≠ "__name__") (hdb : (x == ("__debug__" : Str)) = false) : PEf X ca Wx (.Call (.Name x p) (e :: es) [] pos) (ev F (.blt f as)) := by
  have h2 := hs
  rw [List.all_cons, Bool.and_eq_true] at h2
  have cF := call_F (X := X) hc hgd hu f
  rw [hid] at cF
  refine PEimp (pe_callB cF hg hm hv ha hn hdb (star_each h2.1) (star_none h2.2)) fun σ H Q h => ?_
  obtain ⟨ι, ρ, hp, s, r, o⟩ := h
  simp only [ev] at o
  refine (bindG s r o).mono fun xs H1 ⟨⟨ι1, hp1, ws, e1, s1, rw1, r1, o1⟩⟩ => ?_
  obtain ⟨z, hp', e, k⟩ := OutG.of o1
  exact ⟨ι1, hp1, ws, z, hp', s1, rw1, e, k⟩
theorem se_bltT {f : BF} {id : String} {x : Str} {e : Expr} {es : List Expr} {as : List IE} {p pos : Pos} (hid : bfVal f = .type id) (hc : X.calm = true) (hgd : X.A.guards = some []) (hu : X.A.units + 65 < cLine) (hg : Gl X x) (hm : X.mg x = none) (hv : bootBuiltins x = some (.type id))
    (ha : PAf X ca Wx (e :: es) (evs F as)) (hs : (e :: es).all notStar = true) (hn : x ≠ "__name__") (hdb : (x == ("__debug__" : Str)) = false) : PEf X ca Wx (.Call (.Name x p) (e :: es) [] pos) (ev F (.blt f as)) := by
  have h2 := hs
  rw [List.all_cons, Bool.and_eq_true] at h2
  have cF := call_F (X := X) hc hgd hu f
  rw [hid] at cF
  refine PEimp (pe_callTy cF hg hm hv ha hn hdb (star_each h2.1) (star_none h2.2)) fun σ H Q h => ?_
  obtain ⟨ι, ρ, hp, s, r, o⟩ := h
  simp only [ev] at o
  refine (bindG s r o).mono fun xs H1 ⟨⟨ι1, hp1, ws, e1, s1, rw1, r1, o1⟩⟩ => ?_
  obtain ⟨z, hp', e, k⟩ := OutG.of o1
  exact ⟨ι1, hp1, ws, z, hp', s1, rw1, e, k⟩
theorem rec_ty {K : PySem.W.Frag} {ι : List Addr} {hp : IH} {H : Hp} {m : BM} {w : W} {v : V} (s : Sim K ι hp H) (h : recOk m w hp = true) (r : Rep K ι H w v) : tyV K (bmT m) v H := by
  cases w with
  | str x => cases r; cases m <;> first | rfl | cases h
  | ref n =>
    cases m
    all_goals first
      | cases h
      | (simp only [recOk] at h
         split at h
         · rename_i xs e
           obtain ⟨a, vs, ha, hv, _⟩ := s.lstAt e
           have ev := Rep.ref r ha
           subst ev
           exact .inl ⟨rfl, vs, SqL.of hv⟩
         · cases h)
  | non => cases m <;> cases h
  | bl _ => cases m <;> cases h
  | int _ => cases m <;> cases h
  | tup _ => cases m <;> cases h
  | ty _ => cases m <;> cases h
theorem meth_facts (m : BM) : PlainAttrs (bmT m) ∧ Slot (bmT m) (bmName m) (bmId m) ∧ typeOf (.builtin (bmId m)) = pure (.type "method_descriptor") := by
  cases m with
  | append => exact ⟨PySem.F.plainAttrs_list, PySem.F.slot_list_append, PySem.F.type_list_append⟩
  | extend => exact ⟨PySem.F.plainAttrs_list, PySem.F.slot_list_extend, PySem.F.type_list_extend⟩
  | pop => exact ⟨PySem.F.plainAttrs_list, PySem.F.slot_list_pop, PySem.F.type_list_pop⟩
  | join => exact ⟨PySem.F.plainAttrs_str, PySem.F.slot_str_join, PySem.F.type_str_join⟩
  | count => exact ⟨PySem.F.plainAttrs_str, PySem.F.slot_str_count, PySem.F.type_str_count⟩
  | rfind => exact ⟨PySem.F.plainAttrs_str, PySem.F.slot_str_rfind, PySem.F.type_str_rfind⟩
  | isalpha => exact ⟨PySem.F.plainAttrs_str, PySem.F.slot_str_isalpha, PySem.F.type_str_isalpha⟩
  | index => exact ⟨PySem.F.plainAttrs_str, PySem.F.slot_str_index, PySem.F.type_str_index⟩
  | upper => exact ⟨PySem.F.plainAttrs_str, PySem.F.slot_str_upper, PySem.F.type_str_upper⟩
theorem se_meth {m : BM} {o e : Expr} {es : List Expr} {io : IE} {as : List IE} {apos cpos : Pos} (ho : PEf X ca Wx o (ev F io)) (ha : PAf X ca Wx (e :: es) (evs F as)) (hs : (e :: es).all notStar = true) (hlen : (e :: es).length < 30)
    (hbase : attributeBase o (bmName m) X.env (eval o X.env) = eval o X.env) (hline : (apos.endLine == cpos.line) = true) : PEf X ca Wx (.Call (.Attribute o (bmName m) apos) (e :: es) [] cpos) (ev F (.meth m io as)) := by
  have h2 := hs
  rw [List.all_cons, Bool.and_eq_true] at h2
  obtain ⟨f1, f2, f3⟩ := meth_facts m
  refine PEimp (pe_bm f1 f2 f3 (meth_F m) ho ha hbase ?_ hline (star_each h2.1) (star_none h2.2)) fun σ H Q h => ?_
  · rw [star_all hs]
    show (true && decide ((e :: es).length + 0 + 0 < 30)) = true
    rw [decide_eq_true (by omega)]
    rfl
  · obtain ⟨ι, ρ, hp, s, r, o⟩ := h
    simp only [ev] at o
    refine (bindG s r o).mono fun x H1 ⟨⟨ι1, hp1, w, e1, s1, rw1, r1, o1⟩⟩ => ?_
    cases ho : recOk m w hp1 with
    | false => rw [ho, if_neg Bool.false_ne_true] at o1; exact o1.elim
    | true =>
      rw [ho, if_pos rfl] at o1
      refine ⟨rec_ty s1 ho rw1, (bindG s1 r1 o1).mono fun xs H2 ⟨⟨ι2, hp2, ws, e2, s2, rw2, r2, o2⟩⟩ => ?_⟩
      obtain ⟨z, hp', e, k⟩ := OutG.of o2
      exact ⟨ι2, hp2, w, ws, z, hp', s2, Rep.ext e2 _ _ rw1, rw2, e, k⟩
theorem se_meth0 {m : BM} {o : Expr} {io : IE} {apos cpos : Pos} (ho : PEf X ca Wx o (ev F io))
    (hbase : attributeBase o (bmName m) X.env (eval o X.env) = eval o X.env) (hline : (apos.endLine == cpos.line) = true) : PEf X ca Wx (.Call (.Attribute o (bmName m) apos) [] [] cpos) (ev F (.meth m io [])) := by
  obtain ⟨f1, f2, f3⟩ := meth_facts m
  refine PEimp (pe_bm0 f1 f2 f3 (meth_F m) ho hbase hline) fun σ H Q h => ?_
  obtain ⟨ι, ρ, hp, s, r, o⟩ := h
  simp only [ev, evs] at o
  refine (bindG s r o).mono fun x H1 ⟨⟨ι1, hp1, w, e1, s1, rw1, r1, o1⟩⟩ => ?_
  cases ho : recOk m w hp1 with
  | false => rw [ho, if_neg Bool.false_ne_true] at o1; exact o1.elim
  | true =>
    rw [ho, if_pos rfl] at o1
    refine ⟨rec_ty s1 ho rw1, ?_⟩
    simp only [Out.bind_ok] at o1
    obtain ⟨z, hp', e, k⟩ := OutG.of o1
    exact ⟨ι1, hp1, w, [], z, hp', s1, rw1, rfl, e, k⟩
end
end Itp

set_option Elab.async false
set_option linter.all false
set_option autoImplicit false
set_option maxRecDepth 100000
set_option maxHeartbeats 4000000
/-! Itp, part G: calls of own defs, targets, what is walked, comprehensions. -/
namespace Itp
open PySem PySem.Spec PyProof.Rows L2

/-- what is told of an own def: its name, its parameters, the calls with keywords (how many by position, the keywords, where each parameter's value stands), its level -/
structure FI where
  name : Str
  ps : List Str
  kwp : List (Nat × List Str × List Nat)
  lev : Nat
/-- a def's promise where nothing is being shown (no repr is under way around it) -/
structure FnG (P : Program) (w : World) (K : PySem.W.Frag) (mg : Str → Option Value) (base : Heap) (k : Nat) (f : Addr) (fd : FuncData) (ps : List Str) (sp : Sp) : Prop where
  len : ∀ vs H Q E, sp vs H Q E → vs.length = ps.length
  go : ∀ (A : Around) (outer : List Env) (s : Shared) (H : Hp) (args : Args) (us : List Value) (vs : List V) (Q : VK) (E : XK), A.guards = some [] → Room k A → Env0 P w K mg base A outer s H →
    BindsTo s fd args (ps.zip us) → Vals vs us → sp vs H Q E → codeAny (model P w) A (.call (.ref f) args) (CR (L2.CX P w) outer P w H s Q E) s
structure FOk (X : Cx) (ca : Nat → Addr) (i : FI) (G : List W → IH → Out W) : Prop where
  ar : ∀ ws hp, G ws hp ≠ .stuck → ws.length = i.ps.length
  ex : ∃ fa fd, X.mg i.name = some (.ref fa) ∧ PySem.W.keepIn X.K (.ref fa) = true ∧ Binds X.K fd i.ps [] ∧
    (∀ q ∈ i.kwp, KBn X.K fd i.ps q.1 q.2.1 (fun us ws => pm q.2.2 (us ++ ws)) (fun vs zs => pm q.2.2 (vs ++ zs))) ∧
    FnG X.prog X.w X.K X.mg X.base i.lev fa fd i.ps (spG ⟨X.K, ca⟩ i.ps.length G) ∧ Room i.lev X.A ∧ X.A.guards = some []

theorem pm_vals {vs : List V} {us : List Value} (r : Vals vs us) : ∀ perm : List Nat, Vals (pm perm vs) (pm perm us)
  | [] => .nil
  | j :: perm => by
    unfold pm
    rw [List.filterMap_cons, List.filterMap_cons]
    cases e : vs[j]? with
    | none =>
      rw [Vals.none_of r e]
      exact pm_vals r perm
    | some v =>
      obtain ⟨u, hu, ru⟩ := r.get e
      rw [hu]
      exact .cons ru (pm_vals r perm)
theorem pm_reps {K : PySem.W.Frag} {ι : List Addr} {H : Hp} {ws : List W} {vs : List V} (r : Reps K ι H ws vs) : ∀ perm : List Nat, Reps K ι H (pm perm ws) (pm perm vs)
  | [] => rfl
  | j :: perm => by
    unfold pm
    rw [List.filterMap_cons, List.filterMap_cons]
    cases e : ws[j]? with
    | none =>
      have hj : vs[j]? = none := by
        rw [List.getElem?_eq_none_iff, r.length]
        exact List.getElem?_eq_none_iff.mp e
      rw [hj]
      exact pm_reps r perm
    | some w =>
      obtain ⟨v, hv, rv⟩ := r.get e
      rw [hv]
      exact ⟨v, _, rfl, rv, pm_reps r perm⟩

section
variable {X : Cx} {ca : Nat → Addr} {F : FEnv} {Wx : WX}
theorem spG_of {fi : FI} {f : Nat} (ok : FOk X ca fi (F f)) {ι : List Addr} {σ : L2.St} {H : Hp} {hp : IH} {ws : List W} {vs : List V} {Q : VK} (s : Sim X.K ι hp H) (r : Reps X.K ι H ws vs) (o : OutG ⟨X.K, ca⟩ Wx ι σ H (Rep X.K) (F f ws hp) Q) :
    spG ⟨X.K, ca⟩ fi.ps.length (F f) vs H Q (WE Wx σ) := by
  refine ⟨?_, ι, ws, hp, s, r, ?_⟩
  · rw [r.length]
    refine ok.ar ws hp fun z => ?_
    rw [z] at o
    exact o
  · generalize F f ws hp = z at o ⊢
    cases z with
    | ok a hp' => exact o
    | err c fs hp' => exact o
    | stuck => exact o
/-- f(e, ..): the call itself -/
theorem run_ps {k : Nat} {f : Addr} {fd : FuncData} {ps : List Str} {sp : Sp} {E : L2.St → XK} {pins : List (Addr × Obj)} {σ : L2.St} {H : Hp} {s : Shared} {Q : VK} {us : List Value} {vs : List V}
    (Fk : FnG X.prog X.w X.K X.mg X.base k f fd ps sp) (hgd : X.A.guards = some []) (hr : Room k X.A) (hb : Binds X.K fd ps []) (hx : PassesAt (L2.CX X.prog X.w) X σ (E σ)) (I : Inv X pins σ H s) (r : Vals vs us)
    (h : sp vs H Q (E σ)) : wpAny (model X.prog X.w) X.A (call (.ref f) us) (EP X pins σ Q) X.xe s := by
  have many : (us ++ []).length = ps.length := by rw [List.append_nil, ← r.length, Fk.len _ _ _ _ h]
  have bound := hb s us I.kIn many
  simp only [List.append_nil] at bound
  refine wpAny_call (codeAny_mono (Fk.go X.A X.stack s H ⟨us, []⟩ us vs Q (E σ) hgd hr I.env0 bound r h) fun rr s' hq => ?_)
  match rr, hq with
  | .error e, hq => exact hx pins H s e s' I hq
  | .ok (.ret u), hq => exact I.after hq
theorem se_call {fi : FI} {f : Nat} {e : Expr} {es : List Expr} {as : List IE} {p pos : Pos} (ok : FOk X ca fi (F f)) (tk : Takes X Wx) (hg : Gl X fi.name) (ha : PAf X ca Wx (e :: es) (evs F as)) (hs : (e :: es).all notStar = true)
    (hdb : (fi.name == ("__debug__" : Str)) = false) : PEf X ca Wx (.Call (.Name fi.name p) (e :: es) [] pos) (ev F (.call f as)) := by
  have h2 := hs
  rw [List.all_cons, Bool.and_eq_true] at h2
  obtain ⟨fa, fd, hm, hk, hb, _, Fk, hr, hgd⟩ := ok.ex
  refine ⟨fun pins s σ H Q I h => ?_⟩
  obtain ⟨ι, ρ, hp, sm, r, o⟩ := h
  simp only [ev] at o
  refine wpAny_Call_Name_kw (ld_glob I hg hm ?_ hdb)
  refine PySem.W.callWith_K (h₀ := X.base) I.ok.mod.kin hk (thn (ha.run pos pins s σ H _ I (bindG sm r o)) fun us s1 ⟨vs, H1, I1, rv, ⟨ι1, hp1, ws, e1, sm1, rw1, r1, o1⟩⟩ => ⟨I1.kIn, ?_⟩) (star_each h2.1) (star_none h2.2)
  exact run_ps (E := WE Wx) Fk hgd hr hb (passAt tk σ) I1 rv (spG_of ok sm1 rw1 o1)
theorem se_call0 {fi : FI} {f : Nat} {p pos : Pos} (ok : FOk X ca fi (F f)) (tk : Takes X Wx) (hg : Gl X fi.name) (hdb : (fi.name == ("__debug__" : Str)) = false) : PEf X ca Wx (.Call (.Name fi.name p) [] [] pos) (ev F (.call f [])) := by
  obtain ⟨fa, fd, hm, hk, hb, _, Fk, hr, hgd⟩ := ok.ex
  refine ⟨fun pins s σ H Q I h => ?_⟩
  obtain ⟨ι, ρ, hp, sm, r, o⟩ := h
  simp only [ev, evs] at o
  refine wpAny_Call_Name_kw (ld_glob I hg hm ?_ hdb)
  refine PySem.W.callWith_K0 I.kIn hk (run_ps (E := WE Wx) (us := []) (vs := []) Fk hgd hr hb (passAt tk σ) I .nil ?_)
  exact spG_of (ws := []) ok sm rfl o

/-- f(e, .., k = v, ..) with what is raised wished for at the slots -/
theorem run_kw {k n : Nat} {f : Addr} {fd : FuncData} {ps ks : List Str} {sp : Sp} {E : L2.St → XK} {g : List Value → List Value → List Value} {gV : List V → List V → List V} {pins : List (Addr × Obj)} {σ : L2.St} {H : Hp} {s : Shared} {Q : VK} {us ws : List Value} {vs zs : List V}
    (Fk : FnG X.prog X.w X.K X.mg X.base k f fd ps sp) (hgd : X.A.guards = some []) (hr : Room k X.A) (hb : KBn X.K fd ps n ks g gV) (hx : PassesAt (L2.CX X.prog X.w) X σ (E σ)) (I : Inv X pins σ H s) (r : Vals vs us) (rz : Vals zs ws) (l1 : vs.length = n) (l2 : zs.length = ks.length)
    (h : sp (gV vs zs) H Q (E σ)) : wpAny (model X.prog X.w) X.A (call (.ref f) us (ks.zip ws)) (EP X pins σ Q) X.xe s := by
  refine wpAny_call (codeAny_mono (Fk.go X.A X.stack s H ⟨us, ks.zip ws⟩ (g us ws) (gV vs zs) Q (E σ) hgd hr I.env0 (hb.to s us ws I.kIn (r.length.symm.trans l1) (rz.length.symm.trans l2)) (hb.rel r rz) h) fun rr s' hq => ?_)
  match rr, hq with
  | .error e, hq => exact hx pins H s e s' I hq
  | .ok (.ret u), hq => exact I.after hq
abbrev PKf (X : Cx) (ca : Nat → Addr) (Wx : WX) (es : List Keyword) (f : IS → IH → Out (List W)) : Prop := PK X es (rdA ⟨X.K, ca⟩ Wx f)
theorem PKimp {e : List Keyword} {t t' : TA} (h : PK X e t) (k : ∀ σ H Q, t' σ H Q → t σ H Q) : PK X e t' := ⟨fun p pins s σ H Q I q => h.run p pins s σ H Q I (k _ _ _ q)⟩
theorem sk_nil : PKf X ca Wx [] (evs F []) := by
  refine PKimp pk_nil fun σ H Q h => ?_
  obtain ⟨ι, ρ, hp, s, _, o⟩ := h
  exact o [] H ι (Ext.refl _ _) s rfl
theorem sk_cons {nm : Option Str} {e : Expr} {kp : Pos} {kws : List Keyword} {a : IE} {as : List IE} (h1 : PEf X ca Wx e (ev F a)) (h2 : PKf X ca Wx kws (evs F as)) : PKf X ca Wx (⟨nm, e, kp⟩ :: kws) (evs F (a :: as)) := by
  refine PKimp (pk_cons h1 h2) fun σ H Q h => ?_
  obtain ⟨ι, ρ, hp, s, r, o⟩ := h
  simp only [evs] at o
  refine (bindG s r o).mono fun x H1 ⟨⟨ι1, hp1, w, e1, s1, rw1, r1, o1⟩⟩ => ?_
  refine (bindG s1 r1 o1).mono fun xs H2 ⟨⟨ι2, hp2, ws, e2, s2, rw2, r2, o2⟩⟩ => ?_
  exact o2 (x :: xs) H2 ι2 (Ext.refl _ _) s2 ⟨x, xs, rfl, Rep.ext e2 _ _ rw1, rw2⟩
/-- keywords, each by a name -/
def kwNames : List Keyword → Option (List Str)
  | [] => some []
  | ⟨some n, _, _⟩ :: r => (kwNames r).map (n :: ·)
  | ⟨none, _, _⟩ :: _ => none
theorem kw_ok {pos : Pos} {env : Env} : ∀ {kws : List Keyword} {ks : List Str}, kwNames kws = some ks →
    (backToKw pos (keywordEach kws env)).all (·.1.isSome) = true ∧ (backToKw pos (keywordEach kws env)).filterMap (·.1) = ks ∧ (backToKw pos (keywordEach kws env)).any (·.1.isNone) = false
  | [], ks, h => by cases h; exact ⟨rfl, rfl, rfl⟩
  | ⟨some n, e, p⟩ :: r, ks, h => by
    simp only [kwNames, Option.map_eq_some_iff] at h
    obtain ⟨ks', h, rfl⟩ := h
    obtain ⟨h1, h2, h3⟩ := kw_ok (pos := pos) (env := env) h
    refine ⟨?_, ?_, ?_⟩
    · show (true && (backToKw pos (keywordEach r env)).all (·.1.isSome)) = true
      rw [h1]
      rfl
    · show n :: (backToKw pos (keywordEach r env)).filterMap (·.1) = n :: ks'
      rw [h2]
    · show (false || (backToKw pos (keywordEach r env)).any (·.1.isNone)) = false
      rw [h3]
      rfl
  | ⟨none, _, _⟩ :: _, _, h => by cases h
theorem se_callk {fi : FI} {f n : Nat} {ks : List Str} {perm : List Nat} {e : Expr} {es : List Expr} {kws : List Keyword} {as zs : List IE} {p pos : Pos} (ok : FOk X ca fi (F f)) (tk : Takes X Wx) (hg : Gl X fi.name) (ha : PAf X ca Wx (e :: es) (evs F as)) (hkw : PKf X ca Wx kws (evs F zs))
    (hs : (e :: es).all notStar = true) (hdb : (fi.name == ("__debug__" : Str)) = false) (hks : kwNames kws = some ks) (hq : (n, ks, perm) ∈ fi.kwp) (l1 : as.length = n) (l2 : zs.length = ks.length) :
    PEf X ca Wx (.Call (.Name fi.name p) (e :: es) kws pos) (ev F (.callk f perm as zs)) := by
  have h2 := hs
  rw [List.all_cons, Bool.and_eq_true] at h2
  obtain ⟨k1, k2, k3⟩ := kw_ok (pos := pos) (env := X.env) hks
  obtain ⟨fa, fd, hm, hk, _, hb, Fk, hr, hgd⟩ := ok.ex
  refine ⟨fun pins s σ H Q I h => ?_⟩
  obtain ⟨ι, ρ, hp, sm, r, o⟩ := h
  simp only [ev] at o
  refine wpAny_Call_Name_kw (ld_glob I hg hm ?_ hdb)
  refine PySem.W.callWith_KW (h₀ := X.base) I.ok.mod.kin hk k1 (thn (ha.run pos pins s σ H _ I (bindG sm r o)) fun us s1 ⟨vs, H1, I1, rv, ⟨ι1, hp1, ws, e1, sm1, rw1, r1, o1⟩⟩ => ?_) ?_ (star_each h2.1)
  · refine thn (hkw.run pos pins s1 σ H1 _ I1 (bindG sm1 r1 o1)) fun us2 s2 ⟨vs2, H2, I2, rv2, ⟨ι2, hp2, ws2, e2, sm2, rw2, r2, o2⟩⟩ => ⟨I2.kIn, ?_⟩
    rw [k2]
    by_cases hl : ws.length = as.length ∧ ws2.length = zs.length
    · rw [if_pos hl] at o2
      refine run_kw (E := WE Wx) Fk hgd hr (hb _ hq) (passAt tk σ) I2 rv rv2 ?_ ?_ ?_
      · rw [rw1.length, hl.1, l1]
      · rw [rw2.length, hl.2, l2]
      · exact spG_of ok sm2 (pm_reps ((Reps.ext e2 _ _ rw1).append rw2) _) o2
    · rw [if_neg hl] at o2
      exact o2.elim
  · rw [k3]
    show ((backTo pos (starEach (e :: es) X.env)).any (·.1) || false) = false
    rw [star_none hs]
    rfl
theorem se_callk0 {fi : FI} {f : Nat} {ks : List Str} {perm : List Nat} {kws : List Keyword} {zs : List IE} {p pos : Pos} (ok : FOk X ca fi (F f)) (tk : Takes X Wx) (hg : Gl X fi.name) (hkw : PKf X ca Wx kws (evs F zs))
    (hdb : (fi.name == ("__debug__" : Str)) = false) (hks : kwNames kws = some ks) (hq : (0, ks, perm) ∈ fi.kwp) (l2 : zs.length = ks.length) :
    PEf X ca Wx (.Call (.Name fi.name p) [] kws pos) (ev F (.callk f perm [] zs)) := by
  obtain ⟨k1, k2, k3⟩ := kw_ok (pos := pos) (env := X.env) hks
  obtain ⟨fa, fd, hm, hk, _, hb, Fk, hr, hgd⟩ := ok.ex
  refine ⟨fun pins s σ H Q I h => ?_⟩
  obtain ⟨ι, ρ, hp, sm, r, o⟩ := h
  simp only [ev, evs, Out.bind_ok] at o
  refine wpAny_Call_Name_kw (ld_glob I hg hm ?_ hdb)
  refine PySem.W.callWith_KW0 (h₀ := X.base) I.ok.mod.kin hk k1 (thn (hkw.run pos pins s σ H _ I (bindG sm r o)) fun us2 s2 ⟨vs2, H2, I2, rv2, ⟨ι2, hp2, ws2, e2, sm2, rw2, r2, o2⟩⟩ => ⟨I2.kIn, ?_⟩) ?_
  · rw [k2]
    by_cases hl : ([] : List W).length = ([] : List IE).length ∧ ws2.length = zs.length
    · rw [if_pos hl] at o2
      refine run_kw (E := WE Wx) (us := []) (vs := []) Fk hgd hr (hb _ hq) (passAt tk σ) I2 .nil rv2 rfl ?_ ?_
      · rw [rw2.length, hl.2, l2]
      · exact spG_of ok sm2 (pm_reps rw2 _) o2
    · rw [if_neg hl] at o2
      exact o2.elim
  · rw [k3]
    rfl

/-! ### targets that are names -/
mutual
def gT (K : PySem.W.Frag) : Tgt → TG
  | .name i => gName i
  | .tup ts => gTup K ts.length (gTs K ts)
def gTs (K : PySem.W.Frag) : List Tgt → TGs
  | [] => gNil
  | t :: ts => gCons (gT K t) (gTs K ts)
end
mutual
def tNames : Tgt → List Nat
  | .name i => [i]
  | .tup ts => tNamesL ts
def tNamesL : List Tgt → List Nat
  | [] => []
  | t :: ts => tNames t ++ tNamesL ts
end
/-- behind the stores -/
structure Stored (K : PySem.W.Frag) (ι : List Addr) (H : Hp) (ρ' : IS) (σ : L2.St) (ns : List Nat) (σ' : L2.St) (H' : Hp) : Prop where
  hp : H' = H
  rep : RepSt K ι H ρ' σ'
  out : ∀ j, j ∉ ns → σ'[j]? = σ[j]?
  len : σ'.length = σ.length
mutual
theorem gT_ok {K : PySem.W.Frag} {ι : List Addr} {H : Hp} : ∀ (t : Tgt) {w : W} {v : V} {ρ ρ' : IS} {σ : L2.St}, asgT t w ρ = some ρ' → Rep K ι H w v → RepSt K ι H ρ σ → gT K t v σ H (Stored K ι H ρ' σ (tNames t))
  | .name i, w, v, ρ, ρ', σ, h, r, rs => by
    unfold asgT at h
    cases h
    unfold gT
    exact ⟨rfl, rs.set i r, fun j hj => List.getElem?_set_ne (fun e => hj (by subst e; unfold tNames; exact List.mem_singleton.mpr rfl)), List.length_set⟩
  | .tup ts, .tup ws, v, ρ, ρ', σ, h, r, rs => by
    unfold asgT at h
    obtain ⟨a, xs, rfl, hs, hr⟩ := r
    unfold gT
    refine ⟨a, xs, rfl, hs, ?_, ?_⟩
    · rw [hr.length, gTs_len ts h]
    · have q := gTs_ok ts h hr rs
      unfold tNames
      exact q
  | .tup _, .non, _, _, _, _, h, _, _ => by unfold asgT at h; cases h
  | .tup _, .bl _, _, _, _, _, h, _, _ => by unfold asgT at h; cases h
  | .tup _, .int _, _, _, _, _, h, _, _ => by unfold asgT at h; cases h
  | .tup _, .str _, _, _, _, _, h, _, _ => by unfold asgT at h; cases h
  | .tup _, .ref _, _, _, _, _, h, _, _ => by unfold asgT at h; cases h
  | .tup _, .ty _, _, _, _, _, h, _, _ => by unfold asgT at h; cases h
theorem gTs_len : ∀ (ts : List Tgt) {ws : List W} {ρ ρ' : IS}, asgTs ts ws ρ = some ρ' → ws.length = ts.length
  | [], [], _, _, _ => rfl
  | [], _ :: _, _, _, h => by unfold asgTs at h; cases h
  | _ :: _, [], _, _, h => by unfold asgTs at h; cases h
  | t :: ts, w :: ws, ρ, ρ', h => by
    unfold asgTs at h
    split at h
    · show _ + 1 = _ + 1
      rw [gTs_len ts h]
    · cases h
theorem gTs_ok {K : PySem.W.Frag} {ι : List Addr} {H : Hp} : ∀ (ts : List Tgt) {ws : List W} {vs : List V} {ρ ρ' : IS} {σ : L2.St}, asgTs ts ws ρ = some ρ' → Reps K ι H ws vs → RepSt K ι H ρ σ → gTs K ts vs σ H (Stored K ι H ρ' σ (tNamesL ts))
  | [], [], _, _, _, σ, h, r, rs => by
    unfold asgTs at h
    cases h
    unfold gTs
    exact ⟨r, rfl, rs, fun _ _ => rfl, rfl⟩
  | [], _ :: _, _, _, _, _, h, _, _ => by unfold asgTs at h; cases h
  | _ :: _, [], _, _, _, _, h, _, _ => by unfold asgTs at h; cases h
  | t :: ts, w :: ws, vs, ρ, ρ', σ, h, r, rs => by
    unfold asgTs at h
    obtain ⟨v, vs', rfl, r1, r2⟩ := r
    split at h
    · rename_i ρ1 e1
      unfold gTs
      refine ⟨v, vs', rfl, ?_⟩
      have q1 := gT_ok t e1 r1 rs
      refine gT_mono t q1 fun σ1 H1 s1 => ?_
      obtain ⟨rfl, rep1, out1, len1⟩ := s1
      refine gTs_mono ts (gTs_ok ts h r2 rep1) fun σ2 H2 s2 => ?_
      obtain ⟨rfl, rep2, out2, len2⟩ := s2
      refine ⟨rfl, rep2, fun j hj => ?_, len2.trans len1⟩
      unfold tNamesL at hj
      rw [List.mem_append, not_or] at hj
      rw [out2 j hj.2, out1 j hj.1]
    · cases h
theorem gT_mono {K : PySem.W.Frag} : ∀ (t : Tgt) {v : V} {σ : L2.St} {H : Hp} {Q Q' : L2.St → Hp → Prop}, gT K t v σ H Q → (∀ σ' H', Q σ' H' → Q' σ' H') → gT K t v σ H Q'
  | .name i, _, _, _, _, _, h, k => by
    unfold gT at h ⊢
    exact k _ _ h
  | .tup ts, _, _, _, _, _, h, k => by
    unfold gT at h ⊢
    obtain ⟨a, xs, e, hs, hl, q⟩ := h
    exact ⟨a, xs, e, hs, hl, gTs_mono ts q k⟩
theorem gTs_mono {K : PySem.W.Frag} : ∀ (ts : List Tgt) {vs : List V} {σ : L2.St} {H : Hp} {Q Q' : L2.St → Hp → Prop}, gTs K ts vs σ H Q → (∀ σ' H', Q σ' H' → Q' σ' H') → gTs K ts vs σ H Q'
  | [], _, _, _, _, _, h, k => by
    unfold gTs at h ⊢
    exact ⟨h.1, k _ _ h.2⟩
  | t :: ts, _, _, _, _, _, h, k => by
    unfold gTs at h ⊢
    obtain ⟨v, r, e, q⟩ := h
    exact ⟨v, r, e, gT_mono t q fun σ' H' q' => gTs_mono ts q' k⟩
end
end
end Itp

set_option Elab.async false
set_option linter.all false
set_option autoImplicit false
set_option maxRecDepth 100000
set_option maxHeartbeats 4000000
/-! Itp, part I: what is walked; comprehensions. -/
namespace Itp
open PySem PySem.Spec PyProof.Rows L2

/-- enumerate of a text: the signs with their places, in new pairs -/
def ItEs (x : Str) : It where
  go := fun i _ => i < x.cps.size
  yld := fun i H v H' => ∃ T c, v = .ref T ∧ H T = none ∧ H' = upd H T (.tup [.int (i : Nat), .str ⟨#[c]⟩]) ∧ x.cps[i]? = some c
  stop := fun i _ => x.cps.size ≤ i
/-- how such a walk stands -/
def EsAt (x : Str) (t : Tok) (ty : String) (en si : Addr) (i : Nat) (h : Heap) : Prop := (∃ old, IsEnum h en si ((i : Nat) : Int) old) ∧ h.IsStrIter si ty x t i ∧ en ≠ si ∧ i ≤ x.cps.size
theorem es_draws {P : Program} {w : World} {A : Around} (hh : A.handled = none) (x : Str) (t : Tok) {ty : String} (hty : ty = "str_ascii_iterator" ∨ ty = "str_iterator") (si : Addr) :
    Draws P w A.in1 si [si] x.cps.size (fun i v => ∃ c u, x.cps[i]? = some c ∧ v = .str ⟨#[c]⟩ u) (fun i h => h.IsStrIter si ty x t i) := by
  rcases hty with rfl | rfl
  · exact Draws.strAscii (A := A.in1) hh si x t
  · exact Draws.strWide (A := A.in1) hh si x t
theorem turn_enumS {P : Program} {w : World} {K : PySem.W.Frag} {elts : List Expr} {kk : Nat} {tpos : Pos} (x : Str) (t : Tok) (ty : String) (hty : ty = "str_ascii_iterator" ∨ ty = "str_iterator") (en si : Addr) :
    Turn P w K (.Tuple elts kk tpos) (ItEs x) [en, si] en (EsAt x t ty en si) where
  mem := by simp
  obj := fun i h st b hb => by
    obtain ⟨⟨old, hen⟩, ⟨o, ho, _, hd⟩, _⟩ := st
    rcases (show b = en ∨ b = si by simpa using hb) with rfl | rfl
    · exact ⟨_, hen, fun v q => nomatch q⟩
    · exact ⟨o, ho, fun v q => by rw [hd] at q; cases q⟩
  keep := fun i h h' st k => by
    obtain ⟨⟨old, hen⟩, ⟨o, ho, r⟩, ne, le⟩ := st
    exact ⟨⟨old, k en (by simp) _ hen⟩, ⟨o, k si (by simp) o ho, r⟩, ne, le⟩
  item := by
    intro X e1 e2 e3 calm i pins s σ H E I fp st lt
    subst e1 e2 e3
    obtain ⟨⟨old, hen⟩, hsi, ne, le⟩ := st
    have len : en < s.heap.objs.size := Heap.lt_size hen
    have lsi : si < s.heap.objs.size := by
      obtain ⟨_, q, _⟩ := hsi
      exact Heap.lt_size q
    refine wpAny_pyNext_enum_itemD (es_draws (I.ok.hd calm) x t hty si) hen hsi lt ne (by simpa using ne) fun v h1 tk hv out hsi1 tup siz kept => ?_
    obtain ⟨c, u, hcx, rfl⟩ := hv
    refine ⟨_, rfl, wpAny_letOwnedTupleGo_enum (s := { s with heap := h1, toks := tk + 1 }) out fun h2 back same => ?_⟩
    have other : ∀ b, b ≠ en → ∀ o, h1.get? b = some o → h2.get? b = some o := fun b hb o q => (same.2 b hb).trans q
    have tup2 := other _ (Nat.ne_of_gt len) _ tup
    have pair : ObjOk X.prog X.w (upd H s.heap.objs.size (.tup [.int (i : Nat), .str ⟨#[c]⟩])) h2 s.heap.objs.size (.tup [.int (i : Nat), .str ⟨#[c]⟩]) :=
      ⟨by show 2 ≤ sizeLine; decide, [.int i tk, .str ⟨#[c]⟩ u], .cons ⟨_, rfl⟩ (.cons ⟨_, rfl⟩ .nil), ⟨_, tup2, rfl, _, rfl⟩⟩
    have I1 : Inv X pins σ (upd H s.heap.objs.size (.tup [.int (i : Nat), .str ⟨#[c]⟩])) { s with heap := h2, toks := tk + 1 } :=
      I.turnedNew (ch := [en, si]) (fun b ob hb q => other b (fun z => hb (by simp [z])) _ (kept b ob (fun z => hb (by simp [z])) (fun z => hb (by simp [z])) q)) fp (Nat.le_refl _) pair
    obtain ⟨oi, hoi, ri⟩ := hsi1
    refine ⟨.ref s.heap.objs.size, _, I1, rfl, ⟨_, c, rfl, I.hok.fresh (Nat.le_refl _), rfl, hcx⟩, ⟨⟨.str ⟨#[c]⟩ u, ?_⟩, ⟨oi, other si (Ne.symm ne) _ hoi, ri⟩, ne, lt⟩, fun b hb => ?_⟩
    · rw [show ((i + 1 : Nat) : Int) = (i : Int) + 1 by omega]
      exact back
    · have lb : b < s.heap.objs.size := by
        rcases (show b = en ∨ b = si by simpa using hb) with rfl | rfl
        · exact len
        · exact lsi
      rw [upd_ne (Nat.ne_of_lt lb)]
      exact (fp b hb).1
  done := by
    intro X e1 e2 e3 calm i pins s σ H E I fp st ge
    subst e1 e2 e3
    obtain ⟨⟨old, hen⟩, hsi, ne, le⟩ := st
    obtain ⟨g0, g1, g2, g3, g4, g5⟩ := fp si (by simp)
    have ei : i = x.cps.size := Nat.le_antisymm le ge
    have hsi2 : s.heap.IsStrIter si ty x t x.cps.size := by
      rw [← ei]
      exact hsi
    refine wpAny_pyNext_enum_endD (i := ((i : Nat) : Int)) (es_draws (I.ok.hd calm) x t hty si) hen hsi2 fun h1 eb => ⟨rfl, ?_⟩
    exact I.turned (t' := s.toks) (fun b o hb q => eb b o hb q) g0 g1 g3 g4 g5
  self := fun A i s Q E st h => by
    obtain ⟨⟨_, hen⟩, _⟩ := st
    exact wpAny_pyIter_enum hen h
/-- enumerate of a list, of a text -/
def iEnumA (K : PySem.W.Frag) (ta : TA) : TI := fun σ H R => ta σ H fun vs H1 => (∃ a xs, vs = [.ref a] ∧ SqL K H1 a xs ∧ R (Ite K a) H1) ∨ ∃ x : Str, vs = [.str x] ∧ R (ItEs x) H1
theorem pi_enumA {X : Cx} {e : Expr} {ta : TA} {p pos tpos : Pos} {elts : List Expr} {kk : Nat} (hg : Gl X "enumerate") (hm : X.mg "enumerate" = none) (ha : PA X [e] ta) (hs : starEach [e] X.env = [(false, eval e X.env)]) :
    PI X (.Tuple elts kk tpos) (.Call (.Name "enumerate" p) [e] [] pos) (iEnumA X.K ta) := by
  refine ⟨fun pins s σ H R I h => ?_⟩
  refine Call_ (ld_blt I hg hm boot_enumerate (PyProof.Rows.callWith_type1 (thn (ha.run pos pins s σ H _ I h) fun us s1 ⟨vs, H1, I1, r1, q1⟩ => ?_) hs rfl))
  have two : ∀ b, b ∈ [s1.heap.objs.size + 1, s1.heap.objs.size] → s1.heap.objs.size ≤ b := fun b hb => by
    rcases (show b = s1.heap.objs.size + 1 ∨ b = s1.heap.objs.size by simpa using hb) with z | z
    · rw [z]; exact Nat.le_add_right _ _
    · rw [z]; exact Nat.le_refl _
  rcases q1 with ⟨a, xs, ex, hq, q⟩ | ⟨x, ex, q⟩
  · subst ex
    obtain ⟨u, rfl, ru⟩ := vals1 r1
    cases ru
    obtain ⟨its, rv, plain, _⟩ := I1.list hq
    refine call_enumerate_list plain.isList fun h1 hen hli siz kept => wpAny_pyIter_enum hen ?_
    have I2 : Inv X pins σ H1 { s1 with heap := h1 } := I1.kept (t' := s1.toks) kept
    exact ⟨s1.heap.objs.size + 1, _, _, _, H1, rfl, I2, turn_enum a _ _, ⟨⟨.none, hen⟩, hli, Nat.succ_ne_self _⟩, fun b hb => I1.fpOk (two b hb) (I1.hok.fresh (two b hb)), q⟩
  · subst ex
    obtain ⟨u, rfl, t, rfl⟩ := vals1 r1
    have hty : strIterType x = "str_ascii_iterator" ∨ strIterType x = "str_iterator" := by
      unfold strIterType
      split
      · exact .inl rfl
      · exact .inr rfl
    refine call_enumerate_str fun h1 hen hsi siz kept => wpAny_pyIter_enum hen ?_
    have I2 : Inv X pins σ H1 { s1 with heap := h1 } := I1.kept (t' := s1.toks) kept
    exact ⟨s1.heap.objs.size + 1, _, _, _, H1, rfl, I2, turn_enumS x t _ hty _ _, ⟨⟨.none, hen⟩, hsi, Nat.succ_ne_self _, Nat.zero_le _⟩, fun b hb => I1.fpOk (two b hb) (I1.hok.fresh (two b hb)), q⟩
/-- the hand layer's iterator walks as the interpreter's -/
structure ItOk (K : PySem.W.Frag) (J : Iter) (T : It) (ι : List Addr) (H : Hp) : Prop where
  item : ∀ (ι' : List Addr) (hp' : IH) (H' : Hp), Ext ι H ι' H' → Sim K ι' hp' H' → ∀ (i : Nat) (w : W), cur J i hp' = some (some w) → T.go i H' ∧ ∀ x H3, T.yld i H' x H3 → Ext ι' H' ι' H3 ∧ Sim K ι' hp' H3 ∧ Rep K ι' H3 w x
  done : ∀ (ι' : List Addr) (hp' : IH) (H' : Hp), Ext ι H ι' H' → Sim K ι' hp' H' → ∀ (i : Nat), cur J i hp' = some none → T.stop i H'
section
variable {K : PySem.W.Frag} {ι ι' : List Addr} {H H' : Hp} {a b : Addr} {n m : Nat}
theorem ItOk.ext {J : Iter} {T : It} (e : Ext ι H ι' H') (h : ItOk K J T ι H) : ItOk K J T ι' H' :=
  ⟨fun ι2 hp2 H2 e2 => h.item ι2 hp2 H2 (e.trans e2), fun ι2 hp2 H2 e2 => h.done ι2 hp2 H2 (e.trans e2)⟩
/-- a list at its place, later -/
theorem lst_now {hp : IH} {H : Hp} (s : Sim K ι hp H) (ha : ι[n]? = some a) {o : Option W} {i : Nat} (h : cur (.lstR n) i hp = some o) : ∃ xs ws, SqL K H a xs ∧ Reps K ι H ws xs ∧ ws[i]? = o := by
  cases e : hp[n]? with
  | none => simp only [cur, e] at h; cases h
  | some q =>
    obtain ⟨a', xs, ws, ha', hq, hr, ho⟩ := s.seqAt e
    rw [ha] at ha'
    cases ha'
    rcases ho with rfl | rfl
    · simp only [cur, e] at h
      cases h
      exact ⟨xs, ws, hq, hr, rfl⟩
    · simp only [cur, e] at h
      cases h
      exact ⟨xs, ws, hq, hr, rfl⟩
theorem reps_none {ws : List W} {xs : List V} {i : Nat} (r : Reps K ι H ws xs) (h : ws[i]? = none) : xs.length ≤ i := by
  rw [r.length]
  exact List.getElem?_eq_none_iff.mp h
theorem ItOk.lst (ha : ι[n]? = some a) : ItOk K (.lstR n) (Itl K a) ι H := by
  refine ⟨fun ι' hp' H' e s i w hw => ?_, fun ι' hp' H' e s i hw => ?_⟩
  · obtain ⟨xs, ws, hq, hr, hi⟩ := lst_now s (e.at ha) hw
    obtain ⟨v, hv, rv⟩ := hr.get hi
    refine ⟨⟨xs, v, hq, hv⟩, fun x H3 hy => ?_⟩
    obtain ⟨rfl, hx⟩ := hy
    have := hx xs hq
    rw [hv] at this
    cases this
    exact ⟨Ext.refl _ _, s, rv⟩
  · obtain ⟨xs, ws, hq, hr, hi⟩ := lst_now s (e.at ha) hw
    exact ⟨xs, hq, reps_none hr hi⟩
theorem ItOk.tup {ws : List W} {xs : List V} (hs : SqT K H a xs) (hr : Reps K ι H ws xs) : ItOk K (.tupR ws) (Itt K a) ι H := by
  refine ⟨fun ι' hp' H' e s i w hw => ?_, fun ι' hp' H' e s i hw => ?_⟩
  · simp only [cur, Option.some.injEq] at hw
    obtain ⟨v, hv, rv⟩ := hr.get hw
    refine ⟨⟨xs, v, e.sqT hs, hv⟩, fun x H3 hy => ?_⟩
    obtain ⟨rfl, hx⟩ := hy
    have := hx xs (e.sqT hs)
    rw [hv] at this
    cases this
    exact ⟨Ext.refl _ _, s, Rep.ext e _ _ rv⟩
  · simp only [cur, Option.some.injEq] at hw
    exact ⟨xs, e.sqT hs, reps_none hr hw⟩
theorem ItOk.str (z : Str) : ItOk K (.strR z) (Its z) ι H := by
  refine ⟨fun ι' hp' H' e s i w hw => ?_, fun ι' hp' H' e s i hw => ?_⟩
  · simp only [cur, Option.some.injEq, Option.map_eq_some_iff] at hw
    obtain ⟨c, hc, rfl⟩ := hw
    refine ⟨(Array.getElem?_eq_some_iff.mp hc).1, fun x H3 hy => ?_⟩
    obtain ⟨rfl, c', hc', rfl⟩ := hy
    rw [hc] at hc'
    cases hc'
    exact ⟨Ext.refl _ _, s, rfl⟩
  · simp only [cur, Option.some.injEq, Option.map_eq_none_iff] at hw
    exact Array.getElem?_eq_none_iff.mp hw
theorem ItOk.rng (lo : Int) (k : Nat) : ItOk K (.rng lo k) (Itr lo k) ι H := by
  refine ⟨fun ι' hp' H' e s i w hw => ?_, fun ι' hp' H' e s i hw => ?_⟩
  · simp only [cur, Option.some.injEq] at hw
    split at hw
    · rename_i hi
      cases hw
      refine ⟨hi, fun x H3 hy => ?_⟩
      obtain ⟨rfl, rfl⟩ := hy
      exact ⟨Ext.refl _ _, s, rfl⟩
    · cases hw
  · simp only [cur, Option.some.injEq] at hw
    split at hw
    · cases hw
    · rename_i hi
      exact Nat.le_of_not_lt hi
theorem ItOk.enumL (ha : ι[n]? = some a) : ItOk K (.enum (.lstR n)) (Ite K a) ι H := by
  refine ⟨fun ι' hp' H' e s i w hw => ?_, fun ι' hp' H' e s i hw => ?_⟩
  · simp only [cur, Option.map_eq_some_iff] at hw
    obtain ⟨o, ho, u, rfl, rfl⟩ := hw
    obtain ⟨xs, ws, hq, hr, hi⟩ := lst_now s (e.at ha) (o := some u) (i := i) (by simpa only [cur] using ho)
    obtain ⟨v, hv, rv⟩ := hr.get hi
    refine ⟨⟨xs, v, hq, hv⟩, fun x H3 hy => ?_⟩
    obtain ⟨T, x', rfl, hT, rfl, hx⟩ := hy
    have := hx xs hq
    rw [hv] at this
    cases this
    exact ⟨Ext.new hT, s.new hT, T, _, rfl, .inl (.inl upd_same), .int i, _, rfl, rfl, _, _, rfl, Rep.ext (Ext.new hT) _ _ rv, rfl⟩
  · simp only [cur, Option.map_eq_some_iff] at hw
    obtain ⟨o, ho, hn⟩ := hw
    cases o with
    | some u => cases hn
    | none =>
      obtain ⟨xs, ws, hq, hr, hi⟩ := lst_now s (e.at ha) (o := none) (i := i) (by simpa only [cur] using ho)
      exact ⟨xs, hq, reps_none hr hi⟩
theorem ItOk.enumS {x : Str} : ItOk K (.enum (.strR x)) (ItEs x) ι H := by
  refine ⟨fun ι' hp' H' e s i w hw => ?_, fun ι' hp' H' e s i hw => ?_⟩
  · simp only [cur, Option.map_some, Option.some.injEq, Option.map_eq_some_iff] at hw
    obtain ⟨u, ⟨c, hc, rfl⟩, rfl⟩ := hw
    refine ⟨(Array.getElem?_eq_some_iff.mp hc).1, fun y H3 hy => ?_⟩
    obtain ⟨T, c', rfl, hT, rfl, hc'⟩ := hy
    rw [hc] at hc'
    cases hc'
    exact ⟨Ext.new hT, s.new hT, T, _, rfl, .inl (.inl upd_same), .int i, _, rfl, rfl, .str ⟨#[c]⟩, _, rfl, rfl, rfl⟩
  · simp only [cur, Option.map_some, Option.some.injEq, Option.map_eq_none_iff] at hw
    exact Array.getElem?_eq_none_iff.mp hw
theorem cur_zip {J J' : Iter} {i : Nat} {hp : IH} {w : W} (h : cur (.zip J J') i hp = some (some w)) : ∃ x y, w = .tup [x, y] ∧ cur J i hp = some (some x) ∧ cur J' i hp = some (some y) := by
  unfold cur at h
  split at h
  · rename_i x y e1 e2
    cases h
    exact ⟨x, y, rfl, e1, e2⟩
  · cases h
  · cases h
theorem cur_zip_none {J J' : Iter} {i : Nat} {hp : IH} (h : cur (.zip J J') i hp = some none) : ∃ o o', cur J i hp = some o ∧ cur J' i hp = some o' ∧ (o = none ∨ o' = none) := by
  unfold cur at h
  split at h
  · cases h
  · rename_i o o' hno e1 e2
    refine ⟨o, o', e1, e2, ?_⟩
    cases o with
    | none => exact .inl rfl
    | some x =>
      cases o' with
      | none => exact .inr rfl
      | some y => exact (hno x y rfl rfl).elim
  · cases h
theorem ItOk.zipL (ha : ι[n]? = some a) (hb : ι[m]? = some b) : ItOk K (.zip (.lstR n) (.lstR m)) (Itz K a b) ι H := by
  refine ⟨fun ι' hp' H' e s i w hw => ?_, fun ι' hp' H' e s i hw => ?_⟩
  · obtain ⟨u1, u2, rfl, h1, h2⟩ := cur_zip hw
    obtain ⟨xs, ws, hq, hr, hi⟩ := lst_now s (e.at ha) h1
    obtain ⟨ys, us, hq2, hr2, hi2⟩ := lst_now s (e.at hb) h2
    obtain ⟨v, hv, rv⟩ := hr.get hi
    obtain ⟨v2, hv2, rv2⟩ := hr2.get hi2
    refine ⟨⟨xs, ys, v, v2, hq, hq2, hv, hv2⟩, fun x H3 hy => ?_⟩
    obtain ⟨T, x1, x2, rfl, hT, rfl, hx, hx2⟩ := hy
    have q1 := hx xs hq
    rw [hv] at q1
    cases q1
    have q2 := hx2 ys hq2
    rw [hv2] at q2
    cases q2
    exact ⟨Ext.new hT, s.new hT, T, _, rfl, .inl (.inl upd_same), _, _, rfl, Rep.ext (Ext.new hT) _ _ rv, _, _, rfl, Rep.ext (Ext.new hT) _ _ rv2, rfl⟩
  · obtain ⟨o, o', h1, h2, h3⟩ := cur_zip_none hw
    obtain ⟨xs, ws, hq, hr, hi⟩ := lst_now s (e.at ha) h1
    obtain ⟨ys, us, hq2, hr2, hi2⟩ := lst_now s (e.at hb) h2
    refine ⟨xs, ys, hq, hq2, ?_⟩
    rcases h3 with rfl | rfl
    · exact .inl (reps_none hr hi)
    · exact .inr (reps_none hr2 hi2)
theorem ItOk.zipT {ws us : List W} {xs ys : List V} (hs : SqT K H a xs) (hr : Reps K ι H ws xs) (hs2 : SqT K H b ys) (hr2 : Reps K ι H us ys) : ItOk K (.zip (.tupR ws) (.tupR us)) (RZ.ItzT K a b) ι H := by
  refine ⟨fun ι' hp' H' e s i w hw => ?_, fun ι' hp' H' e s i hw => ?_⟩
  · obtain ⟨u1, u2, rfl, h1, h2⟩ := cur_zip hw
    simp only [cur, Option.some.injEq] at h1 h2
    obtain ⟨v, hv, rv⟩ := hr.get h1
    obtain ⟨v2, hv2, rv2⟩ := hr2.get h2
    refine ⟨⟨xs, ys, v, v2, e.sqT hs, e.sqT hs2, hv, hv2⟩, fun x H3 hy => ?_⟩
    obtain ⟨T, x1, x2, rfl, hT, rfl, hx, hx2⟩ := hy
    have q1 := hx xs (e.sqT hs)
    rw [hv] at q1
    cases q1
    have q2 := hx2 ys (e.sqT hs2)
    rw [hv2] at q2
    cases q2
    have e3 := e.trans (Ext.new (ι := ι') (o := .tup [v, v2]) hT)
    exact ⟨Ext.new hT, s.new hT, T, _, rfl, .inl (.inl upd_same), _, _, rfl, Rep.ext e3 _ _ rv, _, _, rfl, Rep.ext e3 _ _ rv2, rfl⟩
  · obtain ⟨o, o', h1, h2, h3⟩ := cur_zip_none hw
    simp only [cur, Option.some.injEq] at h1 h2
    refine ⟨xs, ys, e.sqT hs, e.sqT hs2, ?_⟩
    rcases h3 with rfl | rfl
    · exact .inl (reps_none hr h1)
    · exact .inr (reps_none hr2 h2)
end

section
variable {X : Cx} {ca : Nat → Addr} {F : FEnv} {Wx : WX} {tg : Expr}
abbrev PIf (X : Cx) (ca : Nat → Addr) (Wx : WX) (tg e : Expr) (f : IS → IH → Out Iter) : Prop := PI X tg e (rdG ⟨X.K, ca⟩ Wx (fun ι H J T => ItOk X.K J T ι H) f)
theorem PIimp {e : Expr} {t t' : TI} (h : PI X tg e t) (k : ∀ σ H Q, t' σ H Q → t σ H Q) : PI X tg e t' := ⟨fun pins s σ H Q I q => h.run pins s σ H Q I (k _ _ _ q)⟩
theorem si_val {e : Expr} {ie : IE} (he : PEf X ca Wx e (ev F ie)) : PIf X ca Wx tg e (evIt F (.val ie)) := by
  refine ⟨fun pins s σ H R I h => ?_⟩
  obtain ⟨ι, ρ, hp, sm, r, o⟩ := h
  simp only [evIt] at o
  cases ew : ev F ie ρ hp with
  | stuck => rw [ew] at o; exact o.elim
  | err c fs hp1 =>
    rw [ew] at o
    exact (pi_list he).run pins s σ H R I ⟨ι, ρ, hp, sm, r, by rw [ew]; exact o⟩
  | ok w hp1 =>
    rw [ew] at o
    simp only [Out.bind_ok] at o
    cases w with
    | tup ws =>
      refine (pi_tup he).run pins s σ H R I ⟨ι, ρ, hp, sm, r, ?_⟩
      rw [ew]
      intro v H1 ι1 e1 s1 rv
      obtain ⟨a, xs, rfl, hs, hr⟩ := rv
      exact ⟨a, rfl, ⟨xs, hs⟩, o _ H1 ι1 e1 s1 (ItOk.tup hs hr)⟩
    | ref n =>
      cases en : hp1[n]? with
      | none => simp only [iterOf, en] at o; exact o.elim
      | some q =>
        simp only [iterOf, en] at o
        refine (pi_list he).run pins s σ H R I ⟨ι, ρ, hp, sm, r, ?_⟩
        rw [ew]
        intro v H1 ι1 e1 s1 rv
        obtain ⟨a, xs, ws, ha, hq, hr, _⟩ := s1.seqAt en
        have ev' := Rep.ref rv ha
        exact ⟨a, ev', ⟨xs, hq⟩, o _ H1 ι1 e1 s1 (ItOk.lst ha)⟩
    | str z =>
      refine (pi_str he).run pins s σ H R I ⟨ι, ρ, hp, sm, r, ?_⟩
      rw [ew]
      intro v H1 ι1 e1 s1 rv
      exact ⟨z, rv, o _ H1 ι1 e1 s1 (ItOk.str z)⟩
    | non => exact o.elim
    | bl _ => exact o.elim
    | int _ => exact o.elim
    | ty _ => exact o.elim
theorem si_rng {e : Expr} {ie : IE} {p pos : Pos} (he : PEf X ca Wx e (ev F ie)) (hs : notStar e = true) (hg : Gl X "range") (hm : X.mg "range" = none) : PIf X ca Wx tg (.Call (.Name "range" p) [e] [] pos) (evIt F (.rng ie)) := by
  refine PIimp (pi_range1 hg hm (pa_cons he pa_nil (star_each hs)) (star_each hs)) fun σ H Q h => ?_
  obtain ⟨ι, ρ, hp, s, r, o⟩ := h
  simp only [evIt] at o
  refine (bindG s r o).mono fun x H1 ⟨⟨ι1, hp1, w, e1, s1, rw1, r1, o1⟩⟩ => ?_
  cases w with
  | int j =>
    obtain rfl : x = .int j := rw1
    by_cases hj : -(2 ^ 62) ≤ j ∧ j < 2 ^ 62
    · simp only [if_pos hj] at o1
      exact ⟨j, rfl, hj.1, hj.2, o1 _ _ _ (Ext.refl _ _) s1 (ItOk.rng 0 _)⟩
    · simp only [if_neg hj] at o1
      exact o1.elim
  | non => exact o1.elim
  | bl _ => exact o1.elim
  | str _ => exact o1.elim
  | tup _ => exact o1.elim
  | ref _ => exact o1.elim
  | ty _ => exact o1.elim
theorem si_rng2 {a b : Expr} {ia ib : IE} {p pos : Pos} (ha : PEf X ca Wx a (ev F ia)) (hb : PEf X ca Wx b (ev F ib)) (hs : notStar a = true) (hs2 : notStar b = true) (hg : Gl X "range") (hm : X.mg "range" = none) : PIf X ca Wx tg (.Call (.Name "range" p) [a, b] [] pos) (evIt F (.rng2 ia ib)) := by
  refine PIimp (pi_range2 hg hm (pa_cons ha (pa_cons hb pa_nil (star_each hs2)) (star_each hs)) (by rw [star_each hs, star_each hs2]; rfl) (star_each hs2)) fun σ H Q h => ?_
  obtain ⟨ι, ρ, hp, s, r, o⟩ := h
  simp only [evIt] at o
  refine (bindG s r o).mono fun x H1 ⟨⟨ι1, hp1, w, e1, s1, rw1, r1, o1⟩⟩ => ?_
  refine (bindG s1 r1 o1).mono fun y H2 ⟨⟨ι2, hp2, u, e2, s2, rw2, r2, o2⟩⟩ => ?_
  cases w with
  | int i =>
    cases u with
    | int j =>
      obtain rfl : x = .int i := rw1
      obtain rfl : y = .int j := rw2
      by_cases hj : -(2 ^ 62) ≤ i ∧ i < 2 ^ 62 ∧ -(2 ^ 62) ≤ j ∧ j < 2 ^ 62
      · simp only [if_pos hj] at o2
        exact ⟨i, j, rfl, hj, o2 _ _ _ (Ext.refl _ _) s2 (ItOk.rng _ _)⟩
      · simp only [if_neg hj] at o2
        exact o2.elim
    | non => exact o2.elim
    | bl _ => exact o2.elim
    | str _ => exact o2.elim
    | tup _ => exact o2.elim
    | ref _ => exact o2.elim
    | ty _ => exact o2.elim
  | non => exact o2.elim
  | bl _ => exact o2.elim
  | str _ => exact o2.elim
  | tup _ => exact o2.elim
  | ref _ => exact o2.elim
  | ty _ => exact o2.elim
theorem si_enum {e : Expr} {ie : IE} {elts : List Expr} {kk : Nat} {p pos tpos : Pos} (he : PEf X ca Wx e (ev F ie)) (hs : notStar e = true) (hg : Gl X "enumerate") (hm : X.mg "enumerate" = none) : PIf X ca Wx (.Tuple elts kk tpos) (.Call (.Name "enumerate" p) [e] [] pos) (evIt F (.enum ie)) := by
  refine PIimp (pi_enumA hg hm (pa_cons he pa_nil (star_each hs)) (star_each hs)) fun σ H Q h => ?_
  obtain ⟨ι, ρ, hp, s, r, o⟩ := h
  simp only [evIt] at o
  refine (bindG s r o).mono fun x H1 ⟨⟨ι1, hp1, w, e1, s1, rw1, r1, o1⟩⟩ => ?_
  cases w with
  | ref n =>
    cases en : hp1[n]? with
    | none => simp only [iterE, en] at o1; exact o1.elim
    | some q =>
      simp only [iterE, en] at o1
      obtain ⟨a, xs, ws, ha, hq, hr, _⟩ := s1.seqAt en
      have ev' := Rep.ref rw1 ha
      subst ev'
      exact .inl ⟨a, xs, rfl, hq, o1 _ _ _ (Ext.refl _ _) s1 (ItOk.enumL ha)⟩
  | str z =>
    simp only [iterE] at o1
    obtain rfl : x = .str z := rw1
    exact .inr ⟨z, rfl, o1 _ _ _ (Ext.refl _ _) s1 ItOk.enumS⟩
  | non => exact o1.elim
  | bl _ => exact o1.elim
  | int _ => exact o1.elim
  | tup _ => exact o1.elim
  | ty _ => exact o1.elim
theorem si_zip {a b : Expr} {ia ib : IE} {elts : List Expr} {kk : Nat} {p pos tpos : Pos} (ha : PEf X ca Wx a (ev F ia)) (hb : PEf X ca Wx b (ev F ib)) (hs : notStar a = true) (hs2 : notStar b = true) (hg : Gl X "zip") (hm : X.mg "zip" = none) :
    PIf X ca Wx (.Tuple elts kk tpos) (.Call (.Name "zip" p) [a, b] [] pos) (evIt F (.zip ia ib)) := by
  refine PIimp (RZ.pi_zipA hg hm (pa_cons ha (pa_cons hb pa_nil (star_each hs2)) (star_each hs)) (star_each hs) (star_none (by rw [List.all_cons, hs2]; rfl))) fun σ H Q h => ?_
  obtain ⟨ι, ρ, hp, s, r, o⟩ := h
  simp only [evIt] at o
  refine (bindG s r o).mono fun x H1 ⟨⟨ι1, hp1, w, e1, s1, rw1, r1, o1⟩⟩ => ?_
  refine (bindG s1 r1 o1).mono fun y H2 ⟨⟨ι2, hp2, u, e2, s2, rw2, r2, o2⟩⟩ => ?_
  have rw1' := Rep.ext e2 _ _ rw1
  cases ez : iterZ w u hp2 with
  | none => simp only [ez] at o2; exact o2.elim
  | some J =>
    simp only [ez] at o2
    unfold iterZ at ez
    split at ez
    · rename_i n m
      split at ez
      · rename_i q1 q2 e3 e4
        cases ez
        obtain ⟨pa, xs, ws, hpa, hq, hr, _⟩ := s2.seqAt e3
        obtain ⟨pb, ys, us, hpb, hq2, hr2, _⟩ := s2.seqAt e4
        have ev1 := Rep.ref rw1' hpa
        have ev2 := Rep.ref rw2 hpb
        subst ev1 ev2
        exact ⟨pa, pb, xs, ys, rfl, .inl ⟨hq, hq2, o2 _ _ _ (Ext.refl _ _) s2 (ItOk.zipL hpa hpb)⟩⟩
      · cases ez
    · rename_i ws us
      cases ez
      obtain ⟨pa, xs, rfl, hq, hr⟩ := rw1'
      obtain ⟨pb, ys, rfl, hq2, hr2⟩ := rw2
      exact ⟨pa, pb, xs, ys, rfl, .inr ⟨hq, hq2, o2 _ _ _ (Ext.refl _ _) s2 (ItOk.zipT hq hr hq2 hr2)⟩⟩
    · cases ez

/-! ### comprehensions -/
theorem wipe_rep {K : PySem.W.Frag} {ι : List Addr} {H : Hp} {ρ : IS} {σ : L2.St} (h : RepSt K ι H ρ σ) : ∀ vs : List Nat, RepSt K ι H (wipeI ρ vs) (wipe σ vs)
  | [] => h
  | v :: vs => (wipe_rep h vs).unset v
theorem wipe_in {σ : L2.St} {j : Nat} : ∀ {vs : List Nat}, j ∈ vs → (wipe σ vs)[j]? = if j < σ.length then some none else none
  | [], h => by cases h
  | v :: vs, h => by
    unfold wipe
    by_cases e : v = j
    · subst e
      by_cases hl : v < σ.length
      · rw [if_pos hl, List.getElem?_set_self (by rw [wipe_length]; exact hl)]
      · rw [if_neg hl, List.getElem?_eq_none (by rw [List.length_set, wipe_length]; omega)]
    · rw [List.getElem?_set_ne e]
      rcases List.mem_cons.mp h with q | q
      · exact absurd q.symm e
      · exact wipe_in q
theorem wipe_same {σ σ2 : L2.St} {vs ns : List Nat} (hl : σ2.length = (wipe σ vs).length) (ho : ∀ j, j ∉ ns → σ2[j]? = (wipe σ vs)[j]?) (hs : ∀ j ∈ ns, j ∈ vs) : wipe σ2 vs = wipe σ vs := by
  refine List.ext_getElem? fun j => ?_
  by_cases hj : j ∈ vs
  · rw [wipe_in hj, wipe_in hj, hl, wipe_length]
  · rw [wipe_out hj]
    exact ho j fun z => hj (hs j z)
abbrev W0 : WX := fun _ _ _ _ => False
theorem se_comp {elt iter : Expr} {ifs : List Expr} {scope : Scope} {own : List (Str × Nat)} {pos : Pos} {ie : IE} {tgt : Tgt} {it : IIt} {cond : Option IT} (hc : X.calm = true) (hN : X.N.Nodup) (hi : PIf X ca Wx tg iter (evIt F it)) (ok : BlkOk X.N X.env.scope scope own)
    (hg : ∀ (s : Shared) (H : Hp) (C : Addr) (cl : List (Str × Addr)) (fp : List Addr), PG (X.blk s H scope (compEnvC scope cl C X.env) fp) tg (gT X.K tgt))
    (ht : ∀ (s : Shared) (H : Hp) (C : Addr) (cl : List (Str × Addr)) (fp : List Addr), PTs (X.blk s H scope (compEnvC scope cl C X.env) fp) ifs (rdT ⟨X.K, ca⟩ W0 (tstO F cond)))
    (he : ∀ (s : Shared) (H : Hp) (C : Addr) (cl : List (Str × Addr)) (fp : List Addr), PE (X.blk s H scope (compEnvC scope cl C X.env) fp) elt (rdE ⟨X.K, ca⟩ W0 (ev F ie)))
    (hs : ∀ x, foldedSetIterable iter X.env x = pure x) (hown : ∀ j ∈ tNames tgt, j ∈ own.map (·.2)) :
    PEf X ca Wx (.ListComp elt [⟨tg, iter, ifs, 0⟩] scope pos) (ev F (.comp ie tgt it cond (own.map (·.2)))) := by
  refine PEimp (pe_lc hc hN hi ok hg ht he hs) fun σ H Q h => ?_
  exact comp_read hown h
where
  comp_read {own : List (Str × Nat)} {ie : IE} {tgt : Tgt} {it : IIt} {cond : Option IT} {σ : L2.St} {H : Hp} {Q : VK} (hown : ∀ j ∈ tNames tgt, j ∈ own.map (·.2)) (h : rdE ⟨X.K, ca⟩ Wx (ev F (.comp ie tgt it cond (own.map (·.2)))) σ H Q) :
      tLc (rdG ⟨X.K, ca⟩ Wx (fun ι H J T => ItOk X.K J T ι H) (evIt F it)) (gT X.K tgt) (rdT ⟨X.K, ca⟩ W0 (tstO F cond)) (rdE ⟨X.K, ca⟩ W0 (ev F ie)) (own.map (·.2)) σ H Q := by
    obtain ⟨ι, ρ, hp, s, r, o⟩ := h
    simp only [ev] at o
    refine (bindG s r o).mono fun T H1 ⟨⟨ι1, hp1, J, e1, s1, itok, r1, o1⟩⟩ => ?_
    intro D hD
    cases ec : compL (ev F ie) (tstO F cond) tgt J hp1.length (wipeI ρ (own.map (·.2))) (itLen J hp1) 0 (hp1 ++ [.lst []]) with
    | stuck => rw [ec] at o1; exact o1.elim
    | err c fs hpF => exact absurd ec (no_err _ _ _)
    | ok w hpF =>
      rw [ec] at o1
      have o1' : ∀ b H' ι', Ext ι1 H1 ι' H' → Sim X.K ι' hpF H' → Rep X.K ι' H' w b → Q b H' := o1
      refine ⟨fun i m H' => ∃ ι' hp', Ext ι1 H1 ι' H' ∧ Sim X.K ι' hp' H' ∧ ι'[hp1.length]? = some D ∧ compL (ev F ie) (tstO F cond) tgt J hp1.length (wipeI ρ (own.map (·.2))) m i hp' = .ok w hpF, ⟨itLen J hp1, ι1 ++ [D], _, Ext.lst hD, s1.lst (ws := []) hD rfl, s1.newest, ec⟩, fun i m H' hW => ?_⟩
      obtain ⟨ι', hp', e', s', hd, ec'⟩ := hW
      have stop : cur J i hp' = some none → Out.ok (.ref hp1.length) hp' = Out.ok w hpF → T.stop i H' ∧ Q (.ref D) H' := fun hcur hz => by
        cases hz
        exact ⟨itok.done _ _ _ e' s' i hcur, o1' _ _ _ e' s' ⟨D, hd, rfl⟩⟩
      cases m with
      | zero =>
        unfold compL at ec'
        split at ec'
        · rename_i hcur
          exact .inl (stop hcur ec')
        · cases ec'
      | succ k =>
        unfold compL at ec'
        split at ec'
        · rename_i wv hcur
          obtain ⟨go, yl⟩ := itok.item _ _ _ e' s' i wv hcur
          refine .inr ⟨go, fun H'' => ∃ ι' hp', Ext ι1 H1 ι' H'' ∧ Sim X.K ι' hp' H'' ∧ ι'[hp1.length]? = some D ∧ compL (ev F ie) (tstO F cond) tgt J hp1.length (wipeI ρ (own.map (·.2))) k (i + 1) hp' = .ok w hpF, fun H'' hh => ⟨k, Nat.lt_succ_self k, hh⟩, fun x H3 hy => ?_⟩
          obtain ⟨e3, s3, rx⟩ := yl x H3 hy
          split at ec'
          · rename_i ρ1 eρ
            have rw0 := wipe_rep (r1.ext (e'.trans e3)) (own.map (·.2))
            refine gT_mono tgt (gT_ok tgt eρ rx rw0) fun σ2 H2 st => ?_
            obtain ⟨rfl, rep2, out2, len2⟩ := st
            refine ⟨wipe_same len2 out2 hown, ι', ρ1, hp', s3, rep2, ?_⟩
            split at ec'
            · rename_i hpA econd
              rw [econd]
              intro b' H4 ι4 e4 s4 hb
              obtain rfl : b' = true := hb
              rw [if_pos rfl]
              refine ⟨ι4, ρ1, hpA, s4, rep2.ext e4, ?_⟩
              split at ec'
              · rename_i y hpB eelt
                rw [eelt]
                intro yv H5 ι5 e5 s5 ry
                split at ec'
                · rename_i acc eacc
                  split at ec'
                  · rename_i hlen
                    obtain ⟨a5, vs5, ha5, hv5, hr5⟩ := s5.lstAt eacc
                    have hD5 : ι5[hp1.length]? = some D := e5.at (e4.at (e3.at hd))
                    rw [hD5] at ha5
                    cases ha5
                    exact ⟨vs5, hv5, by rw [hr5.length]; exact line_lt hlen, ι5, _, ((((e'.trans e3).trans e4).trans e5).trans (Ext.set hv5)), s5.set hD5 eacc (hr5.append (Reps.one ry)), hD5, ec'⟩
                  · cases ec'
                · cases ec'
              · cases ec'
            · rename_i hpA econd
              rw [econd]
              intro b' H4 ι4 e4 s4 hb
              obtain rfl : b' = false := hb
              rw [if_neg Bool.false_ne_true]
              exact ⟨ι4, hpA, (e'.trans e3).trans e4, s4, e4.at (e3.at hd), ec'⟩
            · cases ec'
          · cases ec'
        · rename_i hcur
          exact .inl (stop hcur ec')
        · cases ec'
  no_err {elt : IS → IH → Out W} {cond : IS → IH → Out Bool} {t : Tgt} {J : Iter} {D : Nat} {ρ : IS} {c : Nat} {fs : List (Str × W)} {hpF : IH} : ∀ (k i : Nat) (hp : IH), compL elt cond t J D ρ k i hp ≠ .err c fs hpF
    | 0, i, hp, h => by
      unfold compL at h
      split at h <;> cases h
    | k + 1, i, hp, h => by
      unfold compL at h
      split at h
      · split at h
        · split at h
          · split at h
            · split at h
              · split at h
                · exact no_err k _ _ h
                · cases h
              · cases h
            · cases h
          · exact no_err k _ _ h
          · cases h
        · cases h
      · cases h
      · cases h
end
end Itp

set_option Elab.async false
set_option linter.all false
set_option autoImplicit false
set_option maxRecDepth 100000
set_option maxHeartbeats 4000000
/-! Itp, part S: statements; a def's body. -/
namespace Itp
open PySem PySem.Spec PyProof.Rows L2

def OutS (g : Gx) (Wx : WX) (ι : List Addr) (H : Hp) (o : SOut) (D : Ends) : Prop := match o with
  | .nx ρ hp => ∀ σ' H' ι', Ext ι H ι' H' → Sim g.K ι' hp H' → RepSt g.K ι' H' ρ σ' → D.nx σ' H'
  | .rt w hp => ∀ v H' ι', Ext ι H ι' H' → Sim g.K ι' hp H' → Rep g.K ι' H' w v → D.rt v H'
  | .bk ρ hp => ∀ σ' H' ι', Ext ι H ι' H' → Sim g.K ι' hp H' → RepSt g.K ι' H' ρ σ' → D.bk σ' H'
  | .ct ρ hp => ∀ σ' H' ι', Ext ι H ι' H' → Sim g.K ι' hp H' → RepSt g.K ι' H' ρ σ' → D.ct σ' H'
  | .err c fs ρ hp => ∀ cls d σ' H' ι', Ext ι H ι' H' → Sim g.K ι' hp H' → RepSt g.K ι' H' ρ σ' → XRep g ι' H' c fs cls d → Wx cls d σ' H'
  | .stuck => False
def rdS (g : Gx) (Wx : WX) (f : IS → IH → SOut) : TS := fun D σ H => ∃ ι ρ hp, Sim g.K ι hp H ∧ RepSt g.K ι H ρ σ ∧ OutS g Wx ι H (f ρ hp) D
section
variable {g : Gx} {Wx : WX} {ι ι' : List Addr} {H H' : Hp} {D : Ends}
theorem OutS.ext {o : SOut} (e : Ext ι H ι' H') (h : OutS g Wx ι H o D) : OutS g Wx ι' H' o D := by
  cases o with
  | nx ρ hp => exact fun σ' H2 ι2 e2 => h σ' H2 ι2 (e.trans e2)
  | rt w hp => exact fun v H2 ι2 e2 => h v H2 ι2 (e.trans e2)
  | bk ρ hp => exact fun σ' H2 ι2 e2 => h σ' H2 ι2 (e.trans e2)
  | ct ρ hp => exact fun σ' H2 ι2 e2 => h σ' H2 ι2 (e.trans e2)
  | err c fs ρ hp => exact fun cls d σ' H2 ι2 e2 => h cls d σ' H2 ι2 (e.trans e2)
  | stuck => exact h
structure AftS {α β : Type} (g : Gx) (Wx : WX) (ι : List Addr) (H : Hp) (ρ : IS) (σ : L2.St) (R : List Addr → Hp → α → β → Prop) (k : α → IH → SOut) (D : Ends) (b : β) (H' : Hp) : Prop where
  ex : ∃ ι' hp' a, Ext ι H ι' H' ∧ Sim g.K ι' hp' H' ∧ R ι' H' a b ∧ RepSt g.K ι' H' ρ σ ∧ OutS g Wx ι' H' (k a hp') D
theorem thenG {α β : Type} {R : List Addr → Hp → α → β → Prop} {ρ : IS} {σ : L2.St} {hp : IH} {f : IS → IH → Out α} {k : α → IH → SOut} (s : Sim g.K ι hp H) (r : RepSt g.K ι H ρ σ) (h : OutS g Wx ι H ((f ρ hp).then ρ k) D) :
    rdG g Wx R f σ H (AftS g Wx ι H ρ σ R k D) := by
  refine ⟨ι, ρ, hp, s, r, ?_⟩
  generalize f ρ hp = z at h ⊢
  cases z with
  | ok a hp' => exact fun b H2 ι2 e2 s2 r2 => ⟨ι2, hp', a, e2, s2, r2, r.ext e2, OutS.ext e2 h⟩
  | err c fs hp' => exact fun cls d H2 ι2 e2 s2 x => h cls d σ H2 ι2 e2 s2 (r.ext e2) x
  | stuck => exact h
end

section
variable {X : Cx} {ca : Nat → Addr} {F : FEnv} {gas : Nat} {Wx : WX}
abbrev PSf (X : Cx) (ca : Nat → Addr) (Wx : WX) (s : Stmt) (f : IS → IH → SOut) : Prop := PS X s (rdS ⟨X.K, ca⟩ Wx f)
abbrev PSsf (X : Cx) (ca : Nat → Addr) (Wx : WX) (s : List Stmt) (f : IS → IH → SOut) : Prop := PSs X s (rdS ⟨X.K, ca⟩ Wx f)
theorem ss_nil : PSsf X ca Wx [] (evSs F gas []) := by
  refine PSsimp pss_nil fun D σ H h => ?_
  obtain ⟨ι, ρ, hp, s, r, o⟩ := h
  exact o σ H ι (Ext.refl _ _) s r
theorem ss_cons {st : Stmt} {sts : List Stmt} {a : IStm} {as : List IStm} (h1 : PSf X ca Wx st (evS F gas a)) (h2 : PSsf X ca Wx sts (evSs F gas as)) : PSsf X ca Wx (st :: sts) (evSs F gas (a :: as)) := by
  refine PSsimp (pss_cons h1 h2) fun D σ H h => ?_
  obtain ⟨ι, ρ, hp, s, r, o⟩ := h
  simp only [evSs] at o
  refine ⟨ι, ρ, hp, s, r, ?_⟩
  generalize evS F gas a ρ hp = z at o ⊢
  cases z with
  | nx ρ1 hp1 => exact fun σ' H' ι' e1 s1 r1 => ⟨ι', ρ1, hp1, s1, r1, OutS.ext e1 o⟩
  | rt w hp1 => exact o
  | bk ρ1 hp1 => exact o
  | ct ρ1 hp1 => exact o
  | err c fs ρ1 hp1 => exact o
  | stuck => exact o
theorem ss_expr {e : Expr} {ie : IE} {pos : Pos} (he : PEf X ca Wx e (ev F ie)) (hs : swapsWith e none pos.line X.env = pure false) : PSf X ca Wx (.Expr e pos) (evS F gas (.expr ie)) := by
  refine PSimp (ps_expr he hs) fun D σ H h => ?_
  obtain ⟨ι, ρ, hp, s, r, o⟩ := h
  simp only [evS] at o
  refine (thenG s r o).mono fun x H1 ⟨⟨ι1, hp1, w, e1, s1, rw1, r1, o1⟩⟩ => ?_
  exact o1 _ _ _ (Ext.refl _ _) s1 r1
theorem ss_ret {e : Expr} {ie : IE} {pos : Pos} (he : PEf X ca Wx e (ev F ie)) : PSf X ca Wx (.Return (some e) pos) (evS F gas (.ret ie)) := by
  refine PSimp (ps_ret he) fun D σ H h => ?_
  obtain ⟨ι, ρ, hp, s, r, o⟩ := h
  simp only [evS] at o
  refine (thenG s r o).mono fun x H1 ⟨⟨ι1, hp1, w, e1, s1, rw1, r1, o1⟩⟩ => ?_
  exact o1 _ _ _ (Ext.refl _ _) s1 rw1
theorem ss_retN {pos : Pos} : PSf X ca Wx (.Return none pos) (evS F gas .retN) := by
  refine PSimp ps_retN fun D σ H h => ?_
  obtain ⟨ι, ρ, hp, s, r, o⟩ := h
  simp only [evS] at o
  exact o _ _ _ (Ext.refl _ _) s rfl
theorem ss_pass {pos : Pos} : PSf X ca Wx (.Pass pos) (evS F gas .pass) := by
  refine PSimp ps_pass fun D σ H h => ?_
  obtain ⟨ι, ρ, hp, s, r, o⟩ := h
  exact o _ _ _ (Ext.refl _ _) s r
theorem ss_brk {pos : Pos} : PSf X ca Wx (.Break pos) (evS F gas .brk) := by
  refine PSimp ps_break fun D σ H h => ?_
  obtain ⟨ι, ρ, hp, s, r, o⟩ := h
  exact o _ _ _ (Ext.refl _ _) s r
theorem ss_cont {pos : Pos} : PSf X ca Wx (.Continue pos) (evS F gas .cont) := by
  refine PSimp ps_continue fun D σ H h => ?_
  obtain ⟨ι, ρ, hp, s, r, o⟩ := h
  exact o _ _ _ (Ext.refl _ _) s r
theorem ss_nev {st : Stmt} : PSf X ca Wx st (evS F gas .nev) := by
  refine PSimp ps_never fun D σ H h => ?_
  obtain ⟨ι, ρ, hp, s, r, o⟩ := h
  exact o
theorem ss_ite {c : Expr} {a b : List Stmt} {ic : IT} {ia ib : List IStm} {pos : Pos} (hc : PTf X ca Wx c (tst F ic)) (ha : PSsf X ca Wx a (evSs F gas ia)) (hb : PSsf X ca Wx b (evSs F gas ib)) : PSf X ca Wx (.If c a b pos) (evS F gas (.ite ic ia ib)) := by
  refine PSimp (ps_if hc ha hb) fun D σ H h => ?_
  obtain ⟨ι, ρ, hp, s, r, o⟩ := h
  simp only [evS] at o
  refine (thenG s r o).mono fun k H1 ⟨⟨ι1, hp1, w, e1, s1, rw1, r1, o1⟩⟩ => ?_
  obtain rfl : k = w := rw1
  cases k with
  | true =>
    rw [if_pos rfl] at o1
    rw [if_pos rfl]
    exact ⟨ι1, ρ, hp1, s1, r1, o1⟩
  | false =>
    rw [if_neg Bool.false_ne_true] at o1
    rw [if_neg Bool.false_ne_true]
    exact ⟨ι1, ρ, hp1, s1, r1, o1⟩

/-! ### stores -/
abbrev endsQ (Q : L2.St → Hp → Prop) : Ends := { nx := Q, rt := fun _ _ => False }
def rdTG (g : Gx) (Wx : WX) (f : W → IS → IH → SOut) : TG := fun v σ H Q => ∃ ι ρ hp w, Sim g.K ι hp H ∧ RepSt g.K ι H ρ σ ∧ Rep g.K ι H w v ∧ OutS g Wx ι H (f w ρ hp) (endsQ Q)
def rdTGs (g : Gx) (Wx : WX) (f : List W → IS → IH → SOut) : TGs := fun vs σ H Q => ∃ ι ρ hp ws, Sim g.K ι hp H ∧ RepSt g.K ι H ρ σ ∧ Reps g.K ι H ws vs ∧ OutS g Wx ι H (f ws ρ hp) (endsQ Q)
abbrev PGf (X : Cx) (ca : Nat → Addr) (Wx : WX) (e : Expr) (f : W → IS → IH → SOut) : Prop := PG X e (rdTG ⟨X.K, ca⟩ Wx f)
abbrev PGsf (X : Cx) (ca : Nat → Addr) (Wx : WX) (e : List Expr) (f : List W → IS → IH → SOut) : Prop := PGs X e (rdTGs ⟨X.K, ca⟩ Wx f)
theorem PGimp {e : Expr} {t t' : TG} (h : PG X e t) (k : ∀ v σ H Q, t' v σ H Q → t v σ H Q) : PG X e t' := ⟨fun pins s σ H v u Q I r q => h.run pins s σ H v u Q I r (k _ _ _ _ q)⟩
theorem PGsimp {e : List Expr} {t t' : TGs} (h : PGs X e t) (k : ∀ v σ H Q, t' v σ H Q → t v σ H Q) : PGs X e t' := ⟨fun pins s σ H v u Q I r q => h.run pins s σ H v u Q I r (k _ _ _ _ q)⟩
theorem sg_name {i : Nat} {x : Str} {pos : Pos} (hN : X.N.Nodup) (hi : X.N[i]? = some x) (hx : Loc X.env.scope x) (hf : X.fn x = true ∨ X.env.scope.names.lookup x = some .local) : PGf X ca Wx (.Name x pos) (sto F (.name i)) := by
  refine PGimp (pg_name hN hi hx hf) fun v σ H Q h => ?_
  obtain ⟨ι, ρ, hp, w, s, r, rw1, o⟩ := h
  simp only [sto] at o
  exact o _ _ _ (Ext.refl _ _) s (r.set i rw1)
theorem sg_sub {o i : Expr} {io ii : IE} {pos : Pos} (ho : PEf X ca Wx o (ev F io)) (hi : PEf X ca Wx i (ev F ii))
    (ha : ∀ v, assign (.Subscript o i pos) X.env v = (do
      let ov ← holding [v] (eval o X.env)
      let iv ← holding [v, ov] (eval i X.env)
      standAt pos
      holding [v, ov, iv] (setItem ov iv v)
      release [v, ov, iv] [])) : PGf X ca Wx (.Subscript o i pos) (sto F (.sub io ii)) := by
  refine PGimp (pg_sub ho hi set_F ha) fun v σ H Q h => ?_
  obtain ⟨ι, ρ, hp, w, s, r, rw1, o⟩ := h
  simp only [sto] at o
  refine (thenG s r o).mono fun x H1 ⟨⟨ι1, hp1, w1, e1, s1, rx, r1, o1⟩⟩ => ?_
  refine (thenG s1 r1 o1).mono fun y H2 ⟨⟨ι2, hp2, w2, e2, s2, ry, r2, o2⟩⟩ => ?_
  cases es : setF w1 w2 w hp2 with
  | none => simp only [es] at o2; exact o2.elim
  | some hp3 =>
    simp only [es] at o2
    exact ⟨ι2, hp2, w1, w2, w, hp3, s2, Rep.ext e2 _ _ rx, ry, Rep.ext (e1.trans e2) _ _ rw1, es, fun H3 e3 s3 => o2 σ H3 ι2 e3 s3 (r2.ext e3)⟩
theorem sgs_nil : PGsf X ca Wx [] (stos F []) := by
  refine PGsimp pgs_nil fun vs σ H Q h => ?_
  obtain ⟨ι, ρ, hp, ws, s, r, rw1, o⟩ := h
  cases ws with
  | nil =>
    simp only [stos] at o
    exact ⟨rw1, o _ _ _ (Ext.refl _ _) s r⟩
  | cons w ws => simp only [stos] at o; exact o.elim
theorem asg_each {e : Expr} {es : List Expr} {env : Env} (h : notStar e = true) : (assignEach (e :: es) env).map (·.2) = assign e env :: (assignEach es env).map (·.2) := by
  cases e <;> first | rfl | cases h
theorem sgs_cons {e : Expr} {es : List Expr} {t : STgt} {ts : List STgt} (h1 : PGf X ca Wx e (sto F t)) (h2 : PGsf X ca Wx es (stos F ts)) (hs : notStar e = true) : PGsf X ca Wx (e :: es) (stos F (t :: ts)) := by
  refine PGsimp (pgs_cons h1 h2 (asg_each hs)) fun vs σ H Q h => ?_
  obtain ⟨ι, ρ, hp, ws, s, r, rw1, o⟩ := h
  cases ws with
  | nil => simp only [stos] at o; exact o.elim
  | cons w ws =>
    simp only [stos] at o
    obtain ⟨v, vs', rfl, rv, rvs⟩ := rw1
    refine ⟨v, vs', rfl, ι, ρ, hp, w, s, r, rv, ?_⟩
    generalize sto F t w ρ hp = z at o ⊢
    cases z with
    | nx ρ1 hp1 => exact fun σ' H' ι' e1 s1 r1 => ⟨ι', ρ1, hp1, ws, s1, r1, Reps.ext e1 _ _ rvs, OutS.ext e1 o⟩
    | rt w hp1 => exact o
    | bk ρ1 hp1 => exact o
    | ct ρ1 hp1 => exact o
    | err c fs ρ1 hp1 => exact o
    | stuck => exact o
theorem each_len : ∀ {es : List Expr} {env : Env}, (assignEach es env).length = es.length
  | [], _ => rfl
  | e :: es, env => by
    cases e <;> (show (assignEach es env).length + 1 = es.length + 1; rw [each_len])
theorem each_none : ∀ {es : List Expr} {env : Env}, es.all notStar = true → (assignEach es env).findIdx? (·.1) = none
  | [], _, _ => rfl
  | e :: es, env, h => by
    rw [List.all_cons, Bool.and_eq_true] at h
    have q : assignEach (e :: es) env = (false, assign e env) :: assignEach es env := by cases e <;> first | rfl | cases h.1
    rw [q, List.findIdx?_cons, each_none h.2]
    rfl
/-- a list or a tuple, unpacked -/
theorem pg_seq {es : List Expr} {k : Nat} {t : TGs} {n : Nat} {pos : Pos} (hc : X.calm = true) (h : PGs X es t) (hn : (assignEach es X.env).length = n) (hst : (assignEach es X.env).findIdx? (·.1) = none) :
    PG X (.Tuple es k pos) (fun v σ H Q => ∃ a xs, v = .ref a ∧ (SqT X.K H a xs ∨ SqL X.K H a xs) ∧ xs.length = n ∧ t xs σ H Q) := by
  refine ⟨fun pins s σ H v u Q I r hw => ?_⟩
  obtain ⟨a, xs, e1, hq, hl, q⟩ := hw
  rcases hq with hq | hq
  · exact (pg_tup hc h hn hst).run pins s σ H v u Q I r ⟨a, xs, e1, hq, hl, q⟩
  · exact (pg_unl hc h hn hst).run pins s σ H v u Q I r ⟨a, xs, e1, hq, hl, q⟩
theorem sg_tup {es : List Expr} {ts : List STgt} {k : Nat} {pos : Pos} (hc : X.calm = true) (h : PGsf X ca Wx es (stos F ts)) (hl : es.length = ts.length) (hs : es.all notStar = true) : PGf X ca Wx (.Tuple es k pos) (sto F (.tup ts)) := by
  refine PGimp (pg_seq (n := es.length) hc h each_len (each_none hs)) fun v σ H Q hh => ?_
  obtain ⟨ι, ρ, hp, w, s, r, rw1, o⟩ := hh
  simp only [sto, unpk] at o
  cases ei : itemsOf hp w with
  | none => simp only [ei] at o; exact o.elim
  | some ws =>
    simp only [ei] at o
    by_cases hn : ws.length = ts.length
    · simp only [if_pos hn] at o
      obtain ⟨a, xs, rfl, hr, hq⟩ := s.items ei rw1
      exact ⟨a, xs, rfl, hq.symm, by rw [hr.length, hn, hl], ι, ρ, hp, ws, s, r, hr, o⟩
    · simp only [if_neg hn] at o
      exact o.elim
/-- a store is done, raises or is not served -/
def isPlain : SOut → Prop
  | .rt _ _ => False
  | .bk _ _ => False
  | .ct _ _ => False
  | _ => True
theorem then_plain {α : Type} {o : Out α} {ρ : IS} {k : α → IH → SOut} (hk : ∀ a hp, isPlain (k a hp)) : isPlain (o.then ρ k) := by
  cases o with
  | ok a hp => exact hk a hp
  | err c fs hp => exact True.intro
  | stuck => exact True.intro
mutual
theorem sto_plain (F : FEnv) : ∀ (t : STgt) (w : W) (ρ : IS) (hp : IH), isPlain (sto F t w ρ hp)
  | .name i, w, ρ, hp => by simp only [sto, isPlain]
  | .sub o i, w, ρ, hp => by
    simp only [sto]
    refine then_plain fun a hp => then_plain fun b hp => ?_
    split <;> exact True.intro
  | .tup ts, w, ρ, hp => by
    simp only [sto]
    split
    · exact stos_plain F ts _ _ _
    · exact True.intro
theorem stos_plain (F : FEnv) : ∀ (ts : List STgt) (ws : List W) (ρ : IS) (hp : IH), isPlain (stos F ts ws ρ hp)
  | [], [], ρ, hp => by simp only [stos, isPlain]
  | [], _ :: _, ρ, hp => by simp only [stos, isPlain]
  | _ :: _, [], ρ, hp => by simp only [stos, isPlain]
  | t :: ts, w :: ws, ρ, hp => by
    simp only [stos]
    have q := sto_plain F t w ρ hp
    generalize sto F t w ρ hp = z at q ⊢
    cases z with
    | nx ρ1 hp1 => exact stos_plain F ts ws ρ1 hp1
    | rt _ _ => exact q
    | bk _ _ => exact q
    | ct _ _ => exact q
    | err _ _ _ _ => exact True.intro
    | stuck => exact True.intro
end
/-- target = e, plainly -/
theorem ss_asg {tg e : Expr} {t : STgt} {ie : IE} {pos : Pos} (he : PEf X ca Wx e (ev F ie)) (hg : PGf X ca Wx tg (sto F t)) (hs : swapsWithSole [tg] e pos.line X.env = pure false) (hw : swappedStores [tg] e X.env = pure none) (hn : notStar tg = true) :
    PSf X ca Wx (.Assign [tg] e pos) (evS F gas (.asg t ie)) := by
  refine PSimp (ps_asg he hg hs hw (asg_each hn)) fun D σ H h => ?_
  obtain ⟨ι, ρ, hp, s, r, o⟩ := h
  simp only [evS] at o
  refine (thenG s r o).mono fun x H1 ⟨⟨ι1, hp1, w, e1, s1, rw1, r1, o1⟩⟩ => ?_
  refine ⟨ι1, ρ, hp1, w, s1, r1, rw1, ?_⟩
  have key : ∀ (t : STgt) (w : W) (ρ : IS) (hp : IH), ∀ o, sto F t w ρ hp = o → OutS ⟨X.K, ca⟩ Wx ι1 H1 o D → OutS ⟨X.K, ca⟩ Wx ι1 H1 o (endsQ D.nx) := fun t w ρ hp o ho h => by
    cases o with
    | nx ρ1 hp1 => exact h
    | rt w1 hp1 => have q := sto_plain F t w ρ hp; rw [ho] at q; exact q.elim
    | bk ρ1 hp1 => have q := sto_plain F t w ρ hp; rw [ho] at q; exact q.elim
    | ct ρ1 hp1 => have q := sto_plain F t w ρ hp; rw [ho] at q; exact q.elim
    | err c fs ρ1 hp1 => exact h
    | stuck => exact h
  exact key t w ρ hp1 _ rfl o1
/-- name = e -/
theorem ss_set {i : Nat} {x : Str} {e : Expr} {ie : IE} {p pos : Pos} (hN : X.N.Nodup) (hi : X.N[i]? = some x) (hx : Loc X.env.scope x) (hf : X.fn x = true ∨ X.env.scope.names.lookup x = some .local) (he : PEf X ca Wx e (ev F ie))
    (hs : swapsWith e (some (.Name x p)) pos.line X.env = pure false) : PSf X ca Wx (.Assign [.Name x p] e pos) (evS F gas (.asg (.name i) ie)) := by
  refine PSimp (ps_set hN hi hx he hs hf) fun D σ H h => ?_
  obtain ⟨ι, ρ, hp, s, r, o⟩ := h
  simp only [evS, sto] at o
  refine (thenG s r o).mono fun x H1 ⟨⟨ι1, hp1, w, e1, s1, rw1, r1, o1⟩⟩ => ?_
  exact o1 _ _ _ (Ext.refl _ _) s1 (r1.set i rw1)
/-- name = [..] on one line -/
theorem ss_setLc {i : Nat} {y : Str} {py : Pos} {elt iter tg : Expr} {ifs : List Expr} {scope : Scope} {own : List (Str × Nat)} {pos spos : Pos} {ie : IE} {tgt : Tgt} {it : IIt} {cond : Option IT} (hc : X.calm = true) (hN : X.N.Nodup) (hy : X.N[i]? = some y) (hyl : X.env.scope.names.lookup y = some .local)
    (hsw : swapsWith (.ListComp elt [⟨tg, iter, ifs, 0⟩] scope pos) (some (.Name y py)) spos.line X.env = pure true)
    (hi : PIf X ca Wx tg iter (evIt F it)) (ok : BlkOk X.N X.env.scope scope own)
    (hg : ∀ (s : Shared) (H : Hp) (C : Addr) (cl : List (Str × Addr)) (fp : List Addr), PG (X.blk s H scope (compEnvC scope cl C X.env) fp) tg (gT X.K tgt))
    (ht : ∀ (s : Shared) (H : Hp) (C : Addr) (cl : List (Str × Addr)) (fp : List Addr), PTs (X.blk s H scope (compEnvC scope cl C X.env) fp) ifs (rdT ⟨X.K, ca⟩ W0 (tstO F cond)))
    (he : ∀ (s : Shared) (H : Hp) (C : Addr) (cl : List (Str × Addr)) (fp : List Addr), PE (X.blk s H scope (compEnvC scope cl C X.env) fp) elt (rdE ⟨X.K, ca⟩ W0 (ev F ie)))
    (hs : ∀ x, foldedSetIterable iter X.env x = pure x) (hown : ∀ j ∈ tNames tgt, j ∈ own.map (·.2)) :
    PSf X ca Wx (.Assign [.Name y py] (.ListComp elt [⟨tg, iter, ifs, 0⟩] scope pos) spos) (evS F gas (.asg (.name i) (.comp ie tgt it cond (own.map (·.2))))) := by
  refine PSimp (ps_setLc hc hN hy hyl hsw hi ok hg ht he hs) fun D σ H h => ?_
  obtain ⟨ι, ρ, hp, s, r, o⟩ := h
  simp only [evS, sto] at o
  refine se_comp.comp_read (Wx := Wx) hown ((thenG s r o).mono fun x H1 ⟨⟨ι1, hp1, w, e1, s1, rw1, r1, o1⟩⟩ => ?_)
  exact o1 _ _ _ (Ext.refl _ _) s1 (r1.set i rw1)
/-- a, b = x, y stored from the right -/
theorem ss_par {i j : Nat} {x y : Str} {a b : Expr} {ia ib : IE} {px py pt pos : Pos} {kt k2 : Nat} {pt2 : Pos} (hc : X.calm = true) (hN : X.N.Nodup) (hi : X.N[i]? = some x) (hj : X.N[j]? = some y) (hij : i ≠ j)
    (hx : X.env.scope.names.lookup x = some .local) (hy : X.env.scope.names.lookup y = some .local) (ha : PAf X ca Wx [a, b] (evs F [ia, ib]))
    (hw : swappedStores [.Tuple [.Name x px, .Name y py] kt pt] (.Tuple [a, b] k2 pt2) X.env = pure (some [x, y]))
    (hs : swapsWithSole [.Tuple [.Name x px, .Name y py] kt pt] (.Tuple [a, b] k2 pt2) pos.line X.env = pure false) :
    PSf X ca Wx (.Assign [.Tuple [.Name x px, .Name y py] kt pt] (.Tuple [a, b] k2 pt2) pos) (evS F gas (.asg (.tup [.name i, .name j]) (.tup [ia, ib]))) := by
  refine PSimp (ps_par hc hN hi hj hij hx hy ha hw hs) fun D σ H h => ?_
  obtain ⟨ι, ρ, hp, s, r, o⟩ := h
  have o' : OutS ⟨X.K, ca⟩ Wx ι H ((evs F [ia, ib] ρ hp).then ρ fun ws hp => (if ws.length ≤ lineLen then (Out.ok (.tup ws) hp) else .stuck).then ρ fun w hp => sto F (.tup [.name i, .name j]) w ρ hp) D := by
    have e : evS F gas (.asg (.tup [.name i, .name j]) (.tup [ia, ib])) ρ hp = (evs F [ia, ib] ρ hp).then ρ fun ws hp => (if ws.length ≤ lineLen then (Out.ok (.tup ws) hp) else .stuck).then ρ fun w hp => sto F (.tup [.name i, .name j]) w ρ hp := by
      simp only [evS, ev]
      generalize evs F [ia, ib] ρ hp = z
      cases z <;> rfl
    rw [← e]
    exact o
  refine (thenG s r o').mono fun xs H1 ⟨⟨ι1, hp1, ws, e1, s1, rw1, r1, o1⟩⟩ => ?_
  by_cases hl : ws.length ≤ lineLen
  · rw [if_pos hl] at o1
    simp only [Out.then_ok, sto] at o1
    by_cases hn : ws.length = 2
    · match ws, hn, rw1 with
      | [w1, w2], _, rw1 =>
        obtain ⟨v1, v2, rfl, h1, h2⟩ := reps2 rw1
        simp only [unpk, itemsOf, List.length_cons, List.length_nil, stos, sto, SOut.seq_nx, if_true] at o1
        exact ⟨v1, v2, rfl, o1 _ _ _ (Ext.refl _ _) s1 ((r1.set i h1).set j h2)⟩
    · simp only [unpk, itemsOf, List.length_cons, List.length_nil, if_neg hn] at o1
      exact o1.elim
  · rw [if_neg hl] at o1
    exact o1.elim
theorem ss_par3 {i j l : Nat} {x y z : Str} {a b c : Expr} {ia ib ic : IE} {px py pz pt pos : Pos} {kt k2 : Nat} {pt2 : Pos} (hc : X.calm = true) (hN : X.N.Nodup) (hi : X.N[i]? = some x) (hj : X.N[j]? = some y) (hl : X.N[l]? = some z) (hij : i ≠ j) (hil : i ≠ l) (hjl : j ≠ l)
    (hx : X.env.scope.names.lookup x = some .local) (hy : X.env.scope.names.lookup y = some .local) (hz : X.env.scope.names.lookup z = some .local) (ha : PAf X ca Wx [a, b, c] (evs F [ia, ib, ic]))
    (hw : swappedStores [.Tuple [.Name x px, .Name y py, .Name z pz] kt pt] (.Tuple [a, b, c] k2 pt2) X.env = pure (some [x, y, z]))
    (hs : swapsWithSole [.Tuple [.Name x px, .Name y py, .Name z pz] kt pt] (.Tuple [a, b, c] k2 pt2) pos.line X.env = pure false) :
    PSf X ca Wx (.Assign [.Tuple [.Name x px, .Name y py, .Name z pz] kt pt] (.Tuple [a, b, c] k2 pt2) pos) (evS F gas (.asg (.tup [.name i, .name j, .name l]) (.tup [ia, ib, ic]))) := by
  refine PSimp (ps_par3 hc hN hi hj hl hij hil hjl hx hy hz ha hw hs) fun D σ H h => ?_
  obtain ⟨ι, ρ, hp, s, r, o⟩ := h
  have o' : OutS ⟨X.K, ca⟩ Wx ι H ((evs F [ia, ib, ic] ρ hp).then ρ fun ws hp => (if ws.length ≤ lineLen then (Out.ok (.tup ws) hp) else .stuck).then ρ fun w hp => sto F (.tup [.name i, .name j, .name l]) w ρ hp) D := by
    have e : evS F gas (.asg (.tup [.name i, .name j, .name l]) (.tup [ia, ib, ic])) ρ hp = (evs F [ia, ib, ic] ρ hp).then ρ fun ws hp => (if ws.length ≤ lineLen then (Out.ok (.tup ws) hp) else .stuck).then ρ fun w hp => sto F (.tup [.name i, .name j, .name l]) w ρ hp := by
      simp only [evS, ev]
      generalize evs F [ia, ib, ic] ρ hp = z
      cases z <;> rfl
    rw [← e]
    exact o
  refine (thenG s r o').mono fun xs H1 ⟨⟨ι1, hp1, ws, e1, s1, rw1, r1, o1⟩⟩ => ?_
  by_cases hl : ws.length ≤ lineLen
  · rw [if_pos hl] at o1
    simp only [Out.then_ok, sto] at o1
    by_cases hn : ws.length = 3
    · match ws, hn, rw1 with
      | [w1, w2, w3], _, rw1 =>
        obtain ⟨v1, r', rfl, h1, h2⟩ := rw1
        obtain ⟨v2, v3, rfl, h2, h3⟩ := reps2 h2
        simp only [unpk, itemsOf, List.length_cons, List.length_nil, stos, sto, SOut.seq_nx, if_true] at o1
        exact ⟨v1, v2, v3, rfl, o1 _ _ _ (Ext.refl _ _) s1 (((r1.set i h1).set j h2).set l h3)⟩
    · simp only [unpk, itemsOf, List.length_cons, List.length_nil, if_neg hn] at o1
      exact o1.elim
  · rw [if_neg hl] at o1
    exact o1.elim
/-- name op= e -/
theorem ss_augN {i : Nat} {x : Str} {op : Operator} {e : Expr} {ie : IE} {p pos : Pos} (hN : X.N.Nodup) (hi : X.N[i]? = some x) (hx : Loc X.env.scope x) (hf : X.fn x = true ∨ X.env.scope.names.lookup x = some .local) (he : PEf X ca Wx e (ev F ie)) :
    PSf X ca Wx (.AugAssign (.Name x p) op e pos) (evS F gas (.augN i op ie)) := by
  have hip : PIp X op (rF2 X.K (ipF op)) := fun pins s σ H x y v u Q I rx ry h => op_ipF op pins s σ H x y v u Q I rx ry h
  refine PSimp (ps_aug hN hi hx he hip hf) fun D σ H h => ?_
  obtain ⟨ι, ρ, hp, s, r, o⟩ := h
  simp only [evS] at o
  cases ei : ρ[i]? with
  | none => simp only [ei] at o; exact o.elim
  | some ow =>
    cases ow with
    | none => simp only [ei] at o; exact o.elim
    | some w =>
      simp only [ei] at o
      obtain ⟨v, hv, rv⟩ := r.2 i w ei
      refine ⟨v, hv, (thenG s r o).mono fun y H1 ⟨⟨ι1, hp1, u, e1, s1, ru, r1, o1⟩⟩ => ?_⟩
      cases eb : ipF op w u hp1 with
      | none => simp only [eb] at o1; exact o1.elim
      | some z =>
        simp only [eb] at o1
        exact ⟨ι1, hp1, w, u, z.1, z.2, s1, Rep.ext e1 _ _ rv, ru, eb, fun zv H2 ι2 e2 s2 rz => o1 _ _ _ e2 s2 ((r1.ext e2).set i rz)⟩

/-- o[i] op= e -/
def rGetF (K : PySem.W.Frag) : V → V → Hp → VK → Prop := fun o i H Q => ∃ ι hp a b w, Sim K ι hp H ∧ Rep K ι H a o ∧ Rep K ι H b i ∧ getF a b hp = some w ∧ ∀ v, Rep K ι H w v → Q v H
theorem get_F : PGet X (rGetF X.K) := by
  intro pins s σ H o i ov iv Q I ro ri h
  obtain ⟨ι, hp, a, b, w, sim, ra, rb, e, k⟩ := h
  unfold getF at e
  split at e
  · rename_i n j
    obtain rfl : i = .int j := rb
    split at e
    · rename_i ws eo
      split at e
      · rename_i hj
        obtain ⟨am, vs, hm, hv, hr⟩ := sim.lstAt eo
        have ex := Rep.ref ra hm
        subst ex
        cases ro
        obtain ⟨t, rfl⟩ := ri
        obtain ⟨v, hv2, rv⟩ := hr.get e
        obtain ⟨its, r, pl, hz⟩ := I.list (SqL.of hv)
        obtain ⟨u, eu, ru⟩ := r.get hv2
        exact wpAny_getItem_list pl.isList hj.1 (by omega) (by simpa using eu) ⟨v, H, I, ru, k v rv⟩
      · cases e
    · cases e
  · cases e
theorem ss_augS {o i e : Expr} {io ii ie : IE} {op : Operator} {tpos pos : Pos} (ho : PEf X ca Wx o (ev F io)) (hi : PEf X ca Wx i (ev F ii)) (he : PEf X ca Wx e (ev F ie))
    (ha : ∀ ov iv new, augStore i ov iv new = (do holding [new, ov, iv] (setItem ov iv new); release [new, ov, iv] []; pure .next)) : PSf X ca Wx (.AugAssign (.Subscript o i tpos) op e pos) (evS F gas (.augS io ii op ie)) := by
  have hip : PIp X op (rF2 X.K (ipF op)) := fun pins s σ H x y v u Q I rx ry h => op_ipF op pins s σ H x y v u Q I rx ry h
  refine PSimp (ps_augS ho hi get_F he hip set_F ha) fun D σ H h => ?_
  obtain ⟨ι, ρ, hp, s, r, o⟩ := h
  simp only [evS] at o
  refine (thenG s r o).mono fun x H1 ⟨⟨ι1, hp1, w1, e1, s1, rx, r1, o1⟩⟩ => ?_
  refine (thenG s1 r1 o1).mono fun y H2 ⟨⟨ι2, hp2, w2, e2, s2, ry, r2, o2⟩⟩ => ?_
  cases eg : getF w1 w2 hp2 with
  | none => simp only [eg] at o2; exact o2.elim
  | some v0 =>
    simp only [eg] at o2
    refine ⟨ι2, hp2, w1, w2, v0, s2, Rep.ext e2 _ _ rx, ry, eg, fun v rv => ?_⟩
    refine (thenG s2 r2 o2).mono fun z H3 ⟨⟨ι3, hp3, w3, e3, s3, rz, r3, o3⟩⟩ => ?_
    cases eb : ipF op v0 w3 hp3 with
    | none => simp only [eb] at o3; exact o3.elim
    | some q =>
      simp only [eb] at o3
      refine ⟨ι3, hp3, v0, w3, q.1, q.2, s3, Rep.ext e3 _ _ rv, rz, eb, fun zv H4 ι4 e4 s4 rq => ?_⟩
      cases es : setF w1 w2 q.1 q.2 with
      | none => simp only [es] at o3; exact o3.elim
      | some hp5 =>
        simp only [es] at o3
        exact ⟨ι4, q.2, w1, w2, q.1, hp5, s4, Rep.ext ((e2.trans e3).trans e4) _ _ rx, Rep.ext (e3.trans e4) _ _ ry, rq, es, fun H5 e5 s5 => o3 σ H5 ι4 (e4.trans e5) s5 (r3.ext (e4.trans e5))⟩

/-! ### loops -/
theorem ss_for {tg iter : Expr} {body : List Stmt} {t : Tgt} {it : IIt} {ib : List IStm} {pos : Pos} (hp : PassesOwn (model X.prog X.w) X.A X.env X.xe) (hc : X.calm = true) (hi : PIf X ca Wx tg iter (evIt F it)) (hg : PG X tg (gT X.K t)) (hb : PSsf X ca Wx body (evSs F gas ib))
    (hs : ∀ x, foldedSetIterable iter X.env x = pure x) : PSf X ca Wx (.For tg iter body [] pos) (evS F gas (.forS t it ib)) := by
  refine PSimp (ps_for hp hc hi hg hb hs) fun D σ H h => ?_
  obtain ⟨ι, ρ, hp, s, r, o⟩ := h
  simp only [evS] at o
  refine (thenG s r o).mono fun T H1 ⟨⟨ι1, hp1, J, e1, s1, itok, r1, o1⟩⟩ => ?_
  refine ⟨fun i m σ' H' => ∃ ι' ρ' hp', Ext ι1 H1 ι' H' ∧ Sim X.K ι' hp' H' ∧ RepSt X.K ι' H' ρ' σ' ∧ OutS ⟨X.K, ca⟩ Wx ι' H' (forL (evSs F gas ib) t J m i ρ' hp') D, ⟨itLen J hp1, ι1, ρ, hp1, Ext.refl _ _, s1, r1, o1⟩, fun i m σ' H' hW => ?_⟩
  obtain ⟨ι', ρ', hp', e', s', r', o'⟩ := hW
  cases m with
  | zero =>
    unfold forL at o'
    split at o'
    · rename_i hcur
      exact .inl ⟨itok.done _ _ _ e' s' i hcur, o' _ _ _ (Ext.refl _ _) s' r'⟩
    · exact o'.elim
  | succ k =>
    unfold forL at o'
    split at o'
    · rename_i wv hcur
      obtain ⟨go, yl⟩ := itok.item _ _ _ e' s' i wv hcur
      refine .inr ⟨go, fun σ2 H2 => ∃ ι' ρ' hp', Ext ι1 H1 ι' H2 ∧ Sim X.K ι' hp' H2 ∧ RepSt X.K ι' H2 ρ' σ2 ∧ OutS ⟨X.K, ca⟩ Wx ι' H2 (forL (evSs F gas ib) t J k (i + 1) ρ' hp') D, fun σ2 H2 hh => ⟨k, Nat.lt_succ_self k, hh⟩, fun x H3 hy => ?_⟩
      obtain ⟨e3, s3, rx⟩ := yl x H3 hy
      split at o'
      · rename_i ρ1 eρ
        refine gT_mono t (gT_ok t eρ rx (r'.ext e3)) fun σ2 H2 st => ?_
        obtain ⟨rfl, rep2, out2, len2⟩ := st
        refine ⟨ι', ρ1, hp', s3, rep2, ?_⟩
        generalize evSs F gas ib ρ1 hp' = z at o' ⊢
        cases z with
        | nx ρ2 hp2 => exact fun σ4 H4 ι4 e4 s4 r4 => ⟨ι4, ρ2, hp2, (e'.trans e3).trans e4, s4, r4, OutS.ext (e3.trans e4) o'⟩
        | ct ρ2 hp2 => exact fun σ4 H4 ι4 e4 s4 r4 => ⟨ι4, ρ2, hp2, (e'.trans e3).trans e4, s4, r4, OutS.ext (e3.trans e4) o'⟩
        | bk ρ2 hp2 => exact fun σ4 H4 ι4 e4 s4 r4 => o' _ _ _ (e3.trans e4) s4 r4
        | rt w hp2 => exact OutS.ext e3 o'
        | err c fs ρ2 hp2 => exact OutS.ext e3 o'
        | stuck => exact o'.elim
      · exact o'.elim
    · rename_i hcur
      exact .inl ⟨itok.done _ _ _ e' s' i hcur, o' _ _ _ (Ext.refl _ _) s' r'⟩
    · exact o'.elim
theorem ss_whl {c : Expr} {body : List Stmt} {ic : IT} {ib : List IStm} {pos : Pos} (hp : PassesOwn (model X.prog X.w) X.A X.env X.xe) (hc : PTf X ca Wx c (tst F ic)) (hb : PSsf X ca Wx body (evSs F gas ib)) : PSf X ca Wx (.While c body [] pos) (evS F gas (.whl ic ib)) := by
  refine PSimp (ps_while hp hc hb) fun D σ H h => ?_
  obtain ⟨ι, ρ, hp, s, r, o⟩ := h
  simp only [evS] at o
  refine ⟨fun m σ' H' => ∃ ι' ρ' hp', Sim X.K ι' hp' H' ∧ RepSt X.K ι' H' ρ' σ' ∧ OutS ⟨X.K, ca⟩ Wx ι' H' (whlL (tst F ic) (evSs F gas ib) m ρ' hp') D, ⟨gas, ι, ρ, hp, s, r, o⟩, fun m σ' H' hW => ?_⟩
  obtain ⟨ι', ρ', hp', s', r', o'⟩ := hW
  cases m with
  | zero => unfold whlL at o'; exact o'.elim
  | succ k =>
    unfold whlL at o'
    refine (thenG s' r' o').mono fun b H1 ⟨⟨ι1, hp1, w, e1, s1, rw1, r1, o1⟩⟩ => ?_
    obtain rfl : b = w := rw1
    cases b with
    | false =>
      rw [if_neg Bool.false_ne_true] at o1
      rw [if_neg Bool.false_ne_true]
      exact o1 _ _ _ (Ext.refl _ _) s1 r1
    | true =>
      rw [if_pos rfl] at o1
      rw [if_pos rfl]
      refine ⟨fun σ2 H2 => ∃ ι' ρ' hp', Sim X.K ι' hp' H2 ∧ RepSt X.K ι' H2 ρ' σ2 ∧ OutS ⟨X.K, ca⟩ Wx ι' H2 (whlL (tst F ic) (evSs F gas ib) k ρ' hp') D, fun σ2 H2 hh => ⟨k, Nat.lt_succ_self k, hh⟩, ι1, ρ', hp1, s1, r1, ?_⟩
      generalize evSs F gas ib ρ' hp1 = z at o1 ⊢
      cases z with
      | nx ρ2 hp2 => exact fun σ4 H4 ι4 e4 s4 r4 => ⟨ι4, ρ2, hp2, s4, r4, OutS.ext e4 o1⟩
      | ct ρ2 hp2 => exact fun σ4 H4 ι4 e4 s4 r4 => ⟨ι4, ρ2, hp2, s4, r4, OutS.ext e4 o1⟩
      | bk ρ2 hp2 => exact fun σ4 H4 ι4 e4 s4 r4 => o1 _ _ _ e4 s4 r4
      | rt w hp2 => exact o1
      | err c fs ρ2 hp2 => exact o1
      | stuck => exact o1.elim
end
end Itp

set_option Elab.async false
set_option linter.all false
set_option autoImplicit false
set_option maxRecDepth 100000
set_option maxHeartbeats 4000000
/-! Itp, part X: from the text's own trees to the small language, with the proof that it says the same. -/
namespace Itp
open PySem PySem.Spec PyProof.Rows L2

/-- what the reading of a def knows: its names by slot, its scope, the defs it may call, the constants, the built-in names that are still built in -/
structure Ctx where
  N : List Str
  sc : Scope
  top : Bool
  fns : List FI
  glb : List (Str × W)
  blt : List Str
structure Good (c : Ctx) (ca : Nat → Addr) (F : FEnv) (Wx : WX) (X : Cx) : Prop where
  N : X.N = c.N
  nd : c.N.Nodup
  sc : X.env.scope = c.sc
  kind : c.sc.kind = .function
  calm : X.calm = true
  hu : X.A.units + 65 < cLine
  gd : X.A.guards = some []
  tk : Takes X Wx
  po : PassesOwn (model X.prog X.w) X.A X.env X.xe
  fn : c.top = true → ∀ x, X.fn x = true
  fok : ∀ (i : Nat) (fi : FI), c.fns[i]? = some fi → FOk X ca fi (F i)
  glb : ∀ (x : Str) (w : W), (x, w) ∈ c.glb → ∃ u v, X.mg x = some u ∧ RelV v u ∧ ∀ ι H, Rep X.K ι H w v
  blt : ∀ x ∈ c.blt, X.mg x = none

/-! ### names -/
def ixOf : List Str → Str → Option Nat
  | [], _ => none
  | y :: ys, x => if y = x then some 0 else (ixOf ys x).map (· + 1)
theorem ixOf_ok : ∀ {N : List Str} {x : Str} {i : Nat}, ixOf N x = some i → N[i]? = some x
  | [], _, _, h => by cases h
  | y :: ys, x, i, h => by
    unfold ixOf at h
    split at h
    · rename_i e
      cases h
      subst e
      rfl
    · simp only [Option.map_eq_some_iff] at h
      obtain ⟨j, hj, rfl⟩ := h
      show ys[j]? = some x
      exact ixOf_ok hj
def visC (sc : Scope) (x : Str) : Bool := match sc.names.lookup x with
  | some .local => true
  | some .cell => true
  | some .free => true
  | _ => false
def locC (c : Ctx) (x : Str) : Bool := match c.sc.names.lookup x with
  | some .local => true
  | some .cell => c.top
  | _ => false
def glC (sc : Scope) (x : Str) : Bool := match sc.names.lookup x with
  | some .globalImplicit => true
  | _ => false
def okN (x : Str) : Bool := !(x == ("__debug__" : Str)) && !(x == ("__classdict__" : Str)) && !(decide (x = "__name__"))
theorem okN_1 {x : Str} (h : okN x = true) : (x == ("__debug__" : Str)) = false := by
  unfold okN at h
  simp only [Bool.and_eq_true, Bool.not_eq_true'] at h
  exact h.1.1
theorem okN_2 {x : Str} (h : okN x = true) : (x == ("__classdict__" : Str)) = false := by
  unfold okN at h
  simp only [Bool.and_eq_true, Bool.not_eq_true'] at h
  exact h.1.2
theorem okN_3 {x : Str} (h : okN x = true) : x ≠ "__name__" := by
  unfold okN at h
  simp only [Bool.and_eq_true, Bool.not_eq_true', decide_eq_false_iff_not] at h
  exact h.2
theorem visC_ok {sc : Scope} {x : Str} (h : visC sc x = true) : Vis sc x := by
  unfold visC at h
  split at h
  · rename_i e; exact .inl e
  · rename_i e; exact .inr (.inl e)
  · rename_i e; exact .inr (.inr e)
  · cases h
theorem locC_ok {c : Ctx} {x : Str} (h : locC c x = true) : Loc c.sc x ∧ (c.top = true ∨ c.sc.names.lookup x = some .local) := by
  unfold locC at h
  split at h
  · rename_i e; exact ⟨.inl e, .inr e⟩
  · rename_i e; exact ⟨.inr e, .inl h⟩
  · cases h
theorem glC_ok {X : Cx} {sc : Scope} {x : Str} (hs : X.env.scope = sc) (h : glC sc x = true) : Gl X x := by
  unfold glC at h
  split at h
  · rename_i e
    show X.env.scope.names.lookup x = some .globalImplicit
    rw [hs]
    exact e
  · cases h
/-- built-in types as values -/
def tyOf (x : Str) : Option String :=
  if x = "int" then some "int" else if x = "str" then some "str" else if x = "bool" then some "bool" else if x = "tuple" then some "tuple" else if x = "list" then some "list" else none
theorem tyOf_ok {x : Str} {n : String} (h : tyOf x = some n) : bootBuiltins x = some (.type n) := by
  unfold tyOf at h
  split at h
  · rename_i e; subst e; cases h; decide +kernel
  split at h
  · rename_i e; subst e; cases h; decide +kernel
  split at h
  · rename_i e; subst e; cases h; decide +kernel
  split at h
  · rename_i e; subst e; cases h; decide +kernel
  split at h
  · rename_i e; subst e; cases h; decide +kernel
  cases h
/-- built-in functions -/
def bfTab : List (Str × BF) := [("len", .len), ("abs", .abs), ("max", .max), ("min", .min), ("divmod", .divmod), ("all", .all), ("any", .any), ("sum", .sum), ("isinstance", .isinstance), ("ord", .ord), ("repr", .repr), ("sorted", .sorted), ("int", .tInt), ("str", .tStr), ("list", .tList), ("tuple", .tTuple)]
def bfOf (x : Str) : Option BF := bfTab.lookup x
theorem bfTab_ok : ∀ p ∈ bfTab, bootBuiltins p.1 = some (bfVal p.2) := by decide +kernel
theorem bfVal_ok (f : BF) : (∃ id, bfVal f = .builtin id) ∨ ∃ id, bfVal f = .type id := by
  cases f <;> first | exact .inl ⟨_, rfl⟩ | exact .inr ⟨_, rfl⟩
theorem bfOf_ok {x : Str} {f : BF} (h : bfOf x = some f) : bootBuiltins x = some (bfVal f) := bfTab_ok _ (PySem.mem_of_lookup h)
def bmOf (x : Str) : Option BM :=
  if x = "append" then some .append else if x = "extend" then some .extend else if x = "pop" then some .pop else if x = "join" then some .join
  else if x = "count" then some .count else if x = "rfind" then some .rfind else if x = "isalpha" then some .isalpha else if x = "index" then some .index else if x = "upper" then some .upper else none
theorem bmOf_ok {x : Str} {m : BM} (h : bmOf x = some m) : x = bmName m := by
  unfold bmOf at h
  repeat' (split at h)
  all_goals first
    | (rename_i e; subst e; cases h; rfl)
    | cases h
def fnIx : List FI → Str → Option (Nat × FI)
  | [], _ => none
  | f :: fs, x => if f.name = x then some (0, f) else (fnIx fs x).map fun p => (p.1 + 1, p.2)
theorem fnIx_ok : ∀ {fs : List FI} {x : Str} {i : Nat} {fi : FI}, fnIx fs x = some (i, fi) → fs[i]? = some fi ∧ fi.name = x
  | [], _, _, _, h => by cases h
  | f :: fs, x, i, fi, h => by
    unfold fnIx at h
    split at h
    · rename_i e
      cases h
      exact ⟨rfl, e⟩
    · simp only [Option.map_eq_some_iff] at h
      obtain ⟨⟨j, fj⟩, hj, e⟩ := h
      cases e
      show fs[j]? = some fj ∧ fj.name = x
      exact fnIx_ok hj

/-! ### small looks at trees -/
def plainIx : Expr → Bool
  | .Slice _ _ _ _ => false
  | _ => true
theorem plainIx_ok {e : Expr} (h : plainIx e = true) : PlainIx e := by
  intro o i
  cases e <;> first | rfl | cases h
def noCall0 : Expr → Bool
  | .Call _ [] [] _ => false
  | _ => true
theorem base_ok {e : Expr} {a : Str} {env : Env} {w : Sem Value} (h : noCall0 e = true) : attributeBase e a env w = w := by
  cases e with
  | Call f args kws p =>
    cases args with
    | nil =>
      cases kws with
      | nil => cases h
      | cons k ks => cases f <;> rfl
    | cons x xs => cases f <;> rfl
  | _ => rfl
def noSet : Expr → Bool
  | .Set _ _ _ => false
  | _ => true
theorem fold_ok {e : Expr} {env : Env} (h : noSet e = true) : ∀ x, foldedSetIterable e env x = pure x := by
  intro x
  cases e <;> first | rfl | cases h
def noComp : Expr → Bool
  | .ListComp _ _ _ _ => false
  | .SetComp _ _ _ _ => false
  | .DictComp _ _ _ _ _ => false
  | _ => true
theorem swap_ok {e : Expr} {t : Option Expr} {l : Nat} {env : Env} (h : noComp e = true) : swapsWith e t l env = pure false := by
  cases e <;> first | rfl | cases h
def plainTest : Expr → Bool
  | .UnaryOp .Not _ _ => false
  | .BoolOp _ _ _ => false
  | .IfExp _ _ _ _ => false
  | .Compare _ _ _ _ => false
  | _ => true
theorem test_ok {e : Expr} {env : Env} (h : plainTest e = true) : ∀ whole, isTrue e env whole = (do let v ← whole; standAt e.pos; holding [v] (truthy v)) := by
  intro whole
  cases e with
  | UnaryOp op a p => cases op <;> first | rfl | cases h
  | BoolOp _ _ _ => cases h
  | IfExp _ _ _ _ => cases h
  | Compare _ _ _ _ => cases h
  | _ => rfl
def augPlain : Expr → Bool
  | .Slice _ _ _ _ => false
  | _ => true
theorem aug_ok {e : Expr} (h : augPlain e = true) : ∀ ov iv new, augStore e ov iv new = (do holding [new, ov, iv] (setItem ov iv new); release [new, ov, iv] []; pure .next) := by
  intro ov iv new
  cases e <;> first | rfl | cases h
theorem sub_ok {o i : Expr} {pos : Pos} {env : Env} (h : plainIx i = true) : ∀ v, assign (.Subscript o i pos) env v = (do
      let ov ← holding [v] (eval o env)
      let iv ← holding [v, ov] (eval i env)
      standAt pos
      holding [v, ov, iv] (setItem ov iv v)
      release [v, ov, iv] []) := by
  intro v
  cases i <;> first | rfl | cases h
def isTuple : Expr → Bool
  | .Tuple _ _ _ => true
  | _ => false
theorem isTuple_ok {e : Expr} (h : isTuple e = true) : ∃ es k p, e = .Tuple es k p := by
  cases e <;> first | exact ⟨_, _, _, rfl⟩ | cases h
def fnKind : ScopeKind → Bool
  | .function => true
  | _ => false
theorem fnKind_ok {k : ScopeKind} (h : fnKind k = true) : k = .function := by
  cases k <;> first | rfl | cases h
def cConst : Const → Option W
  | .none => some .non
  | .bool b => some (.bl b)
  | .int i => some (.int i)
  | .str s => some (.str s)
  | _ => none
/-- the perm of a call with keywords -/
def kwFind (fi : FI) (n : Nat) (ks : List Str) : Option (List Nat) := (fi.kwp.find? fun q => decide (q.1 = n ∧ q.2.1 = ks)).map (·.2.2)
theorem kwFind_ok {fi : FI} {n : Nat} {ks : List Str} {perm : List Nat} (h : kwFind fi n ks = some perm) : (n, ks, perm) ∈ fi.kwp := by
  unfold kwFind at h
  simp only [Option.map_eq_some_iff] at h
  obtain ⟨q, hq, rfl⟩ := h
  have h1 := List.find?_some hq
  have h2 := List.mem_of_find?_eq_some hq
  obtain ⟨e1, e2⟩ := of_decide_eq_true h1
  obtain ⟨a, b, d⟩ := q
  simp only at e1 e2
  subst e1 e2
  exact h2

/-! ### the translation -/
def cAll (f : Expr → Option IE) : List Expr → Option (List IE)
  | [] => some []
  | e :: es => if notStar e then match f e, cAll f es with
      | some a, some as => some (a :: as)
      | _, _ => none
    else none
def cKws (f : Expr → Option IE) : List Keyword → Option (List IE)
  | [] => some []
  | ⟨_, e, _⟩ :: es => match f e, cKws f es with
    | some a, some as => some (a :: as)
    | _, _ => none
def cOpt (f : Expr → Option IE) : Option Expr → Option (Option IE)
  | none => some none
  | some e => (f e).map some
mutual
def cTgt (c : Ctx) : Nat → Expr → Option Tgt
  | 0, _ => none
  | n + 1, e => match e with
    | .Name x _ => if locC c x then (ixOf c.N x).map .name else none
    | .Tuple es _ _ => (cTgts c n es).map .tup
    | _ => none
def cTgts (c : Ctx) : Nat → List Expr → Option (List Tgt)
  | _, [] => some []
  | 0, _ :: _ => none
  | n + 1, e :: es => if notStar e then match cTgt c n e, cTgts c n es with
      | some t, some ts => some (t :: ts)
      | _, _ => none
    else none
end
def ownOf (N : List Str) (scope : Scope) : List (Str × Nat) := scope.names.filterMap fun y => match y.2 with
  | .local => (ixOf N y.1).map fun i => (y.1, i)
  | .cell => (ixOf N y.1).map fun i => (y.1, i)
  | _ => none
def blkCtx (c : Ctx) (scope : Scope) : Ctx := { c with sc := relS scope c.sc, top := false }
def cName (c : Ctx) (x : Str) : Option IE :=
  if okN x then
    if visC c.sc x then (ixOf c.N x).map .var
    else if glC c.sc x then match c.glb.lookup x with
      | some w => some (.cst w)
      | none => match tyOf x with
        | some n => if x ∈ c.blt then some (.cst (.ty n)) else none
        | none => none
    else none
  else none
mutual
def cE : Nat → Ctx → Expr → Option IE
  | 0, _, _ => none
  | n + 1, c, e => match e with
    | .Name x _ => cName c x
    | .Constant k _ _ => (cConst k).map .cst
    | .Tuple es _ _ => (cAll (cE n c) es).map .tup
    | .List es _ => (cAll (cE n c) es).map .lst
    | .BinOp a op b _ => match cE n c a, cE n c b with
      | some x, some y => some (.bin op x y)
      | _, _ => none
    | .UnaryOp .USub a _ => (cE n c a).map .neg
    | .UnaryOp .Not a _ => (cE n c a).map .not
    | .Compare a [op] [b] _ => if behindInMarks op b then none else match cE n c a, cE n c b with
      | some x, some y => some (.cmp op x y)
      | _, _ => none
    | .Compare a [op, op'] [b, d] _ => if lastMarks [op, op'] [b, d] then none else match cE n c a, cE n c b, cE n c d with
      | some x, some y, some z => some (.chn op op' x y z)
      | _, _, _ => none
    | .BoolOp op (a :: b :: rest) pos => match cE n c a, cE n c (.BoolOp op (b :: rest) pos) with
      | some x, some y => some (match op with
        | .And => .and x y
        | .Or => .or x y)
      | _, _ => none
    | .BoolOp _ [a] _ => cE n c a
    | .IfExp t a b _ => match cT n c t, cE n c a, cE n c b with
      | some z, some x, some y => some (.ite z x y)
      | _, _, _ => none
    | .Call (.Name f _) args kws _ => if okN f && glC c.sc f then match fnIx c.fns f with
        | some (i, fi) => match kws with
          | [] => (cAll (cE n c) args).map (.call i)
          | kws => match kwNames kws with
            | some ks => match kwFind fi args.length ks, cAll (cE n c) args, cKws (cE n c) kws with
              | some perm, some as, some zs => some (.callk i perm as zs)
              | _, _, _ => none
            | none => none
        | none => match bfOf f with
          | some b => if f ∈ c.blt then match args, kws with
              | _ :: _, [] => (cAll (cE n c) args).map (.blt b)
              | _, _ => none
            else none
          | none => none
      else none
    | .Call (.Attribute o m apos) args [] cpos => match bmOf m with
      | some b => if noCall0 o && apos.endLine == cpos.line && decide (args.length < 30) then match cE n c o, cAll (cE n c) args with
          | some x, some as => some (.meth b x as)
          | _, _ => none
        else none
      | none => none
    | .Subscript a (.Slice lo hi none _) _ => match cE n c a, cOpt (cE n c) lo, cOpt (cE n c) hi with
      | some x, some l, some h => some (.slc x l h)
      | _, _, _ => none
    | .Subscript a i _ => if plainIx i then match cE n c a, cE n c i with
        | some x, some y => some (.sub x y)
        | _, _ => none
      else none
    | .ListComp elt [⟨tg, iter, ifs, async⟩] scope _ => cC n c elt tg iter ifs async scope
    | _ => none
def cT : Nat → Ctx → Expr → Option IT
  | 0, _, _ => none
  | n + 1, c, e => match e with
    | .UnaryOp .Not a _ => (cT n c a).map .not
    | .Compare a [op] [b] _ => if behindInMarks op b then none else match cE n c a, cE n c b with
      | some x, some y => some (.cmp op x y)
      | _, _ => none
    | .Compare a [op, op'] [b, d] _ => if lastMarks [op, op'] [b, d] then none else match cE n c a, cE n c b, cE n c d with
      | some x, some y, some z => some (.chn op op' x y z)
      | _, _, _ => none
    | .BoolOp op (a :: b :: rest) pos => match cT n c a, cT n c (.BoolOp op (b :: rest) pos) with
      | some x, some y => some (match op with
        | .And => .and x y
        | .Or => .or x y)
      | _, _ => none
    | .BoolOp _ [a] _ => cT n c a
    | e => if plainTest e then (cE n c e).map .tru else none
def cI : Nat → Ctx → Expr → Expr → Option IIt
  | 0, _, _, _ => none
  | n + 1, c, tg, e => match e with
    | .Call (.Name f p) [a] [] pos =>
      if f = "range" then if glC c.sc f && decide (f ∈ c.blt) && notStar a then (cE n c a).map .rng else none
      else if f = "enumerate" then if glC c.sc f && decide (f ∈ c.blt) && notStar a && isTuple tg then (cE n c a).map .enum else none
      else (cE n c (.Call (.Name f p) [a] [] pos)).map .val
    | .Call (.Name f p) [a, b] [] pos =>
      if f = "range" then if glC c.sc f && decide (f ∈ c.blt) && notStar a && notStar b then match cE n c a, cE n c b with
          | some x, some y => some (.rng2 x y)
          | _, _ => none
        else none
      else if f = "zip" then if glC c.sc f && decide (f ∈ c.blt) && notStar a && notStar b && isTuple tg then match cE n c a, cE n c b with
          | some x, some y => some (.zip x y)
          | _, _ => none
        else none
      else (cE n c (.Call (.Name f p) [a, b] [] pos)).map .val
    | e => (cE n c e).map .val
def cC : Nat → Ctx → Expr → Expr → Expr → List Expr → Int → Scope → Option IE
  | 0, _, _, _, _, _, _, _ => none
  | n + 1, c, elt, tg, iter, ifs, async, scope =>
    if async = 0 then
      if noSet iter && blkC c.N c.sc scope (ownOf c.N scope) && fnKind (relS scope c.sc).kind then
        match cI n c tg iter, cTgt (blkCtx c scope) n tg, cE n (blkCtx c scope) elt with
        | some it, some t, some x => if (tNames t).all (fun j => decide (j ∈ (ownOf c.N scope).map (·.2))) then match ifs with
            | [] => some (.comp x t it none ((ownOf c.N scope).map (·.2)))
            | [q] => (cT n (blkCtx c scope) q).map fun z => .comp x t it (some z) ((ownOf c.N scope).map (·.2))
            | _ => none
          else none
        | _, _, _ => none
      else none
    else none
end
end Itp

set_option Elab.async false
set_option linter.all false
set_option autoImplicit false
set_option maxRecDepth 100000
set_option maxHeartbeats 8000000
/-! Itp, part Y: the translation of expressions is sound. -/
namespace Itp
open PySem PySem.Spec PyProof.Rows L2
section
variable {X : Cx} {ca : Nat → Addr} {F : FEnv} {Wx : WX} {c : Ctx}
theorem cAll_ok {f : Expr → Option IE} (hf : ∀ e a, f e = some a → PEf X ca Wx e (ev F a)) : ∀ {es : List Expr} {as : List IE}, cAll f es = some as → PAf X ca Wx es (evs F as) ∧ es.all notStar = true ∧ as.length = es.length
  | [], as, h => by
    cases h
    exact ⟨sa_nil, rfl, rfl⟩
  | e :: es, as, h => by
    unfold cAll at h
    split at h
    · rename_i hs
      split at h
      · rename_i a as' e1 e2
        cases h
        obtain ⟨h1, h2, h3⟩ := cAll_ok hf e2
        refine ⟨sa_cons (hf _ _ e1) h1 hs, ?_, ?_⟩
        · rw [List.all_cons, hs, h2]; rfl
        · show _ + 1 = _ + 1
          rw [h3]
      · cases h
    · cases h
theorem cKws_ok {f : Expr → Option IE} (hf : ∀ e a, f e = some a → PEf X ca Wx e (ev F a)) : ∀ {es : List Keyword} {as : List IE}, cKws f es = some as → PKf X ca Wx es (evs F as) ∧ as.length = es.length
  | [], as, h => by
    cases h
    exact ⟨sk_nil, rfl⟩
  | ⟨_, e, _⟩ :: es, as, h => by
    unfold cKws at h
    split at h
    · rename_i a as' e1 e2
      cases h
      obtain ⟨h1, h3⟩ := cKws_ok hf e2
      refine ⟨sk_cons (hf _ _ e1) h1, ?_⟩
      show _ + 1 = _ + 1
      rw [h3]
    · cases h
theorem cOpt_ok {f : Expr → Option IE} (hf : ∀ e a, f e = some a → PEf X ca Wx e (ev F a)) {o : Option Expr} {i : Option IE} (h : cOpt f o = some i) : POf X ca Wx o (evO F i) := by
  cases o with
  | none => cases h; exact so_none
  | some e =>
    simp only [cOpt, Option.map_eq_some_iff] at h
    obtain ⟨a, ha, rfl⟩ := h
    exact so_some (hf _ _ ha)
theorem kwNames_len : ∀ {kws : List Keyword} {ks : List Str}, kwNames kws = some ks → ks.length = kws.length
  | [], _, h => by cases h; rfl
  | ⟨some n, e, p⟩ :: r, ks, h => by
    simp only [kwNames, Option.map_eq_some_iff] at h
    obtain ⟨ks', h, rfl⟩ := h
    show _ + 1 = _ + 1
    rw [kwNames_len h]
  | ⟨none, _, _⟩ :: _, _, h => by cases h
theorem cName_ok (G : Good c ca F Wx X) {x : Str} {pos : Pos} {ie : IE} (h : cName c x = some ie) : PEf X ca Wx (.Name x pos) (ev F ie) := by
  unfold cName at h
  split at h
  · rename_i hok
    split at h
    · rename_i hv
      simp only [Option.map_eq_some_iff] at h
      obtain ⟨i, hi, rfl⟩ := h
      refine se_var (by rw [G.N]; exact ixOf_ok hi) (by rw [G.sc]; exact visC_ok hv) (okN_1 hok) (okN_2 hok)
    · split at h
      · rename_i hg
        have gl := glC_ok G.sc hg
        split at h
        · rename_i w hw
          cases h
          obtain ⟨u, v, hm, rv, rp⟩ := G.glb x w (PySem.mem_of_lookup hw)
          exact se_cst (pe_glob gl hm rv (okN_1 hok)) rp
        · split at h
          · rename_i n hn
            split at h
            · rename_i hb
              cases h
              exact se_cst (v := .ty n) (pe_bltn gl (G.blt x hb) (tyOf_ok hn) rfl (okN_3 hok) (okN_1 hok)) fun _ _ => rfl
            · cases h
          · cases h
      · cases h
  · cases h
theorem cConst_ok {k : Const} {j : Nat} {pos : Pos} {w : W} (h : cConst k = some w) : PEf X ca Wx (.Constant k j pos) (ev F (.cst w)) := by
  cases k with
  | none => cases h; exact se_cst pe_non fun _ _ => rfl
  | bool b => cases h; exact se_cst pe_bl fun _ _ => rfl
  | int i => cases h; exact se_cst pe_int fun _ _ => rfl
  | str s => cases h; exact se_cst pe_str fun _ _ => rfl
  | float _ => cases h
  | complex _ _ => cases h
  | bytes _ => cases h
  | ellipsis => cases h
mutual
theorem cTgt_ok (G : Good c ca F Wx X) : ∀ (n : Nat) (e : Expr) (t : Tgt), cTgt c n e = some t → PG X e (gT X.K t)
  | 0, e, t, h => by unfold cTgt at h; cases h
  | n + 1, e, t, h => by
    unfold cTgt at h
    split at h
    · rename_i x p
      split at h
      · rename_i hl
        simp only [Option.map_eq_some_iff] at h
        obtain ⟨i, hi, rfl⟩ := h
        obtain ⟨h1, h2⟩ := locC_ok hl
        unfold gT
        refine pg_name (by rw [G.N]; exact G.nd) (by rw [G.N]; exact ixOf_ok hi) (by rw [G.sc]; exact h1) ?_
        rcases h2 with h2 | h2
        · exact .inl (G.fn h2 x)
        · exact .inr (by rw [G.sc]; exact h2)
      · cases h
    · rename_i es k p
      simp only [Option.map_eq_some_iff] at h
      obtain ⟨ts, hts, rfl⟩ := h
      obtain ⟨h1, h2, h3⟩ := cTgts_ok G n es ts hts
      unfold gT
      refine pg_tup G.calm h1 ?_ (each_none h2)
      rw [each_len, h3]
    · cases h
theorem cTgts_ok (G : Good c ca F Wx X) : ∀ (n : Nat) (es : List Expr) (ts : List Tgt), cTgts c n es = some ts → PGs X es (gTs X.K ts) ∧ es.all notStar = true ∧ es.length = ts.length
  | 0, [], ts, h => by
    unfold cTgts at h
    cases h
    unfold gTs
    exact ⟨pgs_nil, rfl, rfl⟩
  | n + 1, [], ts, h => by
    unfold cTgts at h
    cases h
    unfold gTs
    exact ⟨pgs_nil, rfl, rfl⟩
  | 0, _ :: _, ts, h => by unfold cTgts at h; cases h
  | n + 1, e :: es, ts, h => by
    unfold cTgts at h
    split at h
    · rename_i hs
      split at h
      · rename_i t ts' e1 e2
        cases h
        obtain ⟨h1, h2, h3⟩ := cTgts_ok G n es ts' e2
        unfold gTs
        refine ⟨pgs_cons (cTgt_ok G n e t e1) h1 (asg_each hs), ?_, ?_⟩
        · rw [List.all_cons, hs, h2]; rfl
        · show _ + 1 = _ + 1
          rw [h3]
      · cases h
    · cases h
end
/-- within a comprehension -/
theorem Good.blk (G : Good c ca F Wx X) {scope : Scope} (hk : (relS scope c.sc).kind = .function) (s : Shared) (H : Hp) (C : Addr) (cl : List (Str × Addr)) (fp : List Addr) : Good (blkCtx c scope) ca F W0 (X.blk s H scope (compEnvC scope cl C X.env) fp) where
  N := G.N
  nd := G.nd
  sc := by
    show relabel scope X.env = relS scope c.sc
    rw [← G.sc]
    rfl
  kind := hk
  calm := G.calm
  hu := G.hu
  gd := G.gd
  tk := takes0
  po := PassesOwn.never
  fn := fun h => nomatch h
  fok := fun i fi h => ⟨(G.fok i fi h).ar, (G.fok i fi h).ex⟩
  glb := G.glb
  blt := G.blt
end

/-- what the translation promises at a depth -/
structure Sound (n : Nat) : Prop where
  e : ∀ {c : Ctx} {x : Expr} {ie : IE}, cE n c x = some ie → ∀ {X : Cx} {ca : Nat → Addr} {F : FEnv} {Wx : WX}, Good c ca F Wx X → PEf X ca Wx x (ev F ie)
  t : ∀ {c : Ctx} {x : Expr} {it : IT}, cT n c x = some it → ∀ {X : Cx} {ca : Nat → Addr} {F : FEnv} {Wx : WX}, Good c ca F Wx X → PTf X ca Wx x (tst F it) ∧ ∀ op vs pos, x = .BoolOp op vs pos → PWf X ca Wx x (tst F it)
  i : ∀ {c : Ctx} {tg x : Expr} {ii : IIt}, cI n c tg x = some ii → ∀ {X : Cx} {ca : Nat → Addr} {F : FEnv} {Wx : WX}, Good c ca F Wx X → PIf X ca Wx tg x (evIt F ii)
  c : ∀ {c : Ctx} {elt tg iter : Expr} {ifs : List Expr} {async : Int} {scope : Scope} {ie : IE}, cC n c elt tg iter ifs async scope = some ie → ∀ {X : Cx} {ca : Nat → Addr} {F : FEnv} {Wx : WX}, Good c ca F Wx X →
    async = 0 ∧ (∀ x, foldedSetIterable iter X.env x = pure x) ∧ ∃ (a : IE) (t : Tgt) (it : IIt) (cond : Option IT), ie = .comp a t it cond ((ownOf c.N scope).map (·.2)) ∧ PIf X ca Wx tg iter (evIt F it) ∧ BlkOk X.N X.env.scope scope (ownOf c.N scope) ∧
      (∀ (s : Shared) (H : Hp) (C : Addr) (cl : List (Str × Addr)) (fp : List Addr), PG (X.blk s H scope (compEnvC scope cl C X.env) fp) tg (gT X.K t)) ∧
      (∀ (s : Shared) (H : Hp) (C : Addr) (cl : List (Str × Addr)) (fp : List Addr), PTs (X.blk s H scope (compEnvC scope cl C X.env) fp) ifs (rdT ⟨X.K, ca⟩ W0 (tstO F cond))) ∧
      (∀ (s : Shared) (H : Hp) (C : Addr) (cl : List (Str × Addr)) (fp : List Addr), PE (X.blk s H scope (compEnvC scope cl C X.env) fp) elt (rdE ⟨X.K, ca⟩ W0 (ev F a))) ∧
      ∀ j ∈ tNames t, j ∈ (ownOf c.N scope).map (·.2)
theorem PTsimp {X : Cx} {ifs : List Expr} {t t' : TT} (h : PTs X ifs t) (k : ∀ σ H Q, t' σ H Q → t σ H Q) : PTs X ifs t' := ⟨fun pins s σ H Q I q => h.run pins s σ H Q I (k _ _ _ q)⟩
theorem sound_c {n : Nat} (S : Sound n) {c : Ctx} {elt tg iter : Expr} {ifs : List Expr} {async : Int} {scope : Scope} {ie : IE} (h : cC (n + 1) c elt tg iter ifs async scope = some ie) {X : Cx} {ca : Nat → Addr} {F : FEnv} {Wx : WX} (G : Good c ca F Wx X) :
    async = 0 ∧ (∀ x, foldedSetIterable iter X.env x = pure x) ∧ ∃ (a : IE) (t : Tgt) (it : IIt) (cond : Option IT), ie = .comp a t it cond ((ownOf c.N scope).map (·.2)) ∧ PIf X ca Wx tg iter (evIt F it) ∧ BlkOk X.N X.env.scope scope (ownOf c.N scope) ∧
      (∀ (s : Shared) (H : Hp) (C : Addr) (cl : List (Str × Addr)) (fp : List Addr), PG (X.blk s H scope (compEnvC scope cl C X.env) fp) tg (gT X.K t)) ∧
      (∀ (s : Shared) (H : Hp) (C : Addr) (cl : List (Str × Addr)) (fp : List Addr), PTs (X.blk s H scope (compEnvC scope cl C X.env) fp) ifs (rdT ⟨X.K, ca⟩ W0 (tstO F cond))) ∧
      (∀ (s : Shared) (H : Hp) (C : Addr) (cl : List (Str × Addr)) (fp : List Addr), PE (X.blk s H scope (compEnvC scope cl C X.env) fp) elt (rdE ⟨X.K, ca⟩ W0 (ev F a))) ∧
      ∀ j ∈ tNames t, j ∈ (ownOf c.N scope).map (·.2) := by
  unfold cC at h
  split at h
  · rename_i ha
    split at h
    · rename_i hb
      simp only [Bool.and_eq_true] at hb
      obtain ⟨⟨hb1, hb2⟩, hb3⟩ := hb
      have hk : (relS scope c.sc).kind = .function := fnKind_ok hb3
      have hblk : BlkOk X.N X.env.scope scope (ownOf c.N scope) := by
        rw [G.N, G.sc]
        exact blkOk_by hb2
      split at h
      · rename_i it t x e1 e2 e3
        split at h
        · rename_i hown
          have hown' : ∀ j ∈ tNames t, j ∈ (ownOf c.N scope).map (·.2) := fun j hj => of_decide_eq_true (List.all_eq_true.mp hown j hj)
          have pg : ∀ (s : Shared) (H : Hp) (C : Addr) (cl : List (Str × Addr)) (fp : List Addr), PG (X.blk s H scope (compEnvC scope cl C X.env) fp) tg (gT X.K t) := fun s H C cl fp => cTgt_ok (G.blk hk s H C cl fp) n tg t e2
          have pe : ∀ (s : Shared) (H : Hp) (C : Addr) (cl : List (Str × Addr)) (fp : List Addr), PE (X.blk s H scope (compEnvC scope cl C X.env) fp) elt (rdE ⟨X.K, ca⟩ W0 (ev F x)) := fun s H C cl fp => S.e e3 (G.blk hk s H C cl fp)
          split at h
          · cases h
            refine ⟨ha, fold_ok hb1, x, t, it, none, rfl, S.i e1 G, hblk, pg, fun s H C cl fp => ?_, pe, hown'⟩
            refine PTsimp pts_nil fun σ H Q h => ?_
            obtain ⟨ι, ρ, hp, sm, r, o⟩ := h
            simp only [tstO] at o
            exact o _ _ _ (Ext.refl _ _) sm rfl
          · simp only [Option.map_eq_some_iff] at h
            obtain ⟨z, hz, rfl⟩ := h
            refine ⟨ha, fold_ok hb1, x, t, it, some z, rfl, S.i e1 G, hblk, pg, fun s H C cl fp => ?_, pe, hown'⟩
            exact PTsimp (pts_one (S.t hz (G.blk hk s H C cl fp)).1) fun σ H Q h => h
          · cases h
        · cases h
      · cases h
    · cases h
  · cases h
theorem sound_e {n : Nat} (S : Sound n) {c : Ctx} {x : Expr} {ie : IE} (h : cE (n + 1) c x = some ie) {X : Cx} {ca : Nat → Addr} {F : FEnv} {Wx : WX} (G : Good c ca F Wx X) : PEf X ca Wx x (ev F ie) := by
  have SE : ∀ e a, cE n c e = some a → PEf X ca Wx e (ev F a) := fun e a h => S.e h G
  unfold cE at h
  split at h
  · exact cName_ok G h
  · simp only [Option.map_eq_some_iff] at h
    obtain ⟨w, hw, rfl⟩ := h
    exact cConst_ok hw
  · simp only [Option.map_eq_some_iff] at h
    obtain ⟨as, ha, rfl⟩ := h
    exact se_tup (cAll_ok SE ha).1
  · simp only [Option.map_eq_some_iff] at h
    obtain ⟨as, ha, rfl⟩ := h
    exact se_lst (cAll_ok SE ha).1
  · split at h
    · rename_i e1 e2
      cases h
      exact se_bin (SE _ _ e1) (SE _ _ e2)
    · cases h
  · simp only [Option.map_eq_some_iff] at h
    obtain ⟨a, ha, rfl⟩ := h
    exact se_neg (SE _ _ ha)
  · simp only [Option.map_eq_some_iff] at h
    obtain ⟨a, ha, rfl⟩ := h
    exact se_not (SE _ _ ha)
  · split at h
    · cases h
    · rename_i hm
      split at h
      · rename_i e1 e2
        cases h
        exact se_cmp G.hu (SE _ _ e1) (SE _ _ e2) (by simpa using hm)
      · cases h
  · split at h
    · cases h
    · rename_i hm
      split at h
      · rename_i e1 e2 e3
        cases h
        exact se_chn G.hu (SE _ _ e1) (SE _ _ e2) (SE _ _ e3) (by simpa using hm)
      · cases h
  · rename_i op a b rest pos
    split at h
    · rename_i e1 e2
      cases h
      cases op with
      | And => exact se_and (SE _ _ e1) (SE _ _ e2)
      | Or => exact se_or (SE _ _ e1) (SE _ _ e2)
    · cases h
  · exact pe_one (SE _ _ h)
  · split at h
    · rename_i e1 e2 e3
      cases h
      exact se_ite (S.t e1 G).1 (SE _ _ e2) (SE _ _ e3)
    · cases h
  · -- a call of a name
    rename_i f p args kws pos
    split at h
    · rename_i hok
      simp only [Bool.and_eq_true] at hok
      have gl := glC_ok G.sc hok.2
      split at h
      · rename_i i fi hfi
        obtain ⟨hi, hname⟩ := fnIx_ok hfi
        subst hname
        have fok := G.fok i fi hi
        split at h
        · simp only [Option.map_eq_some_iff] at h
          obtain ⟨as, ha, rfl⟩ := h
          obtain ⟨h1, h2, h3⟩ := cAll_ok SE ha
          cases args with
          | nil =>
            have e0 : as = [] := List.length_eq_zero_iff.mp h3
            subst e0
            exact se_call0 fok G.tk gl (okN_1 hok.1)
          | cons e es => exact se_call fok G.tk gl h1 h2 (okN_1 hok.1)
        · split at h
          · rename_i ks hks
            split at h
            · rename_i perm as zs e1 e2 e3
              cases h
              obtain ⟨h1, h2, h3⟩ := cAll_ok SE e2
              obtain ⟨k1, k2⟩ := cKws_ok SE e3
              have hq := kwFind_ok e1
              have l2 : zs.length = ks.length := by rw [k2, kwNames_len hks]
              cases args with
              | nil =>
                have e0 : as = [] := List.length_eq_zero_iff.mp h3
                subst e0
                exact se_callk0 fok G.tk gl k1 (okN_1 hok.1) hks hq l2
              | cons e es => exact se_callk fok G.tk gl h1 k1 h2 (okN_1 hok.1) hks hq h3 l2
            · cases h
          · cases h
      · split at h
        · rename_i b hb
          split at h
          · rename_i hbl
            split at h
            · rename_i e es
              simp only [Option.map_eq_some_iff] at h
              obtain ⟨as, ha, rfl⟩ := h
              obtain ⟨h1, h2, h3⟩ := cAll_ok SE ha
              have hv := bfOf_ok hb
              rcases bfVal_ok b with ⟨id, hid⟩ | ⟨id, hid⟩
              · exact se_bltB hid G.calm G.gd G.hu gl (G.blt f hbl) (by rw [hv, hid]) h1 h2 (okN_3 hok.1) (okN_1 hok.1)
              · exact se_bltT hid G.calm G.gd G.hu gl (G.blt f hbl) (by rw [hv, hid]) h1 h2 (okN_3 hok.1) (okN_1 hok.1)
            · cases h
          · cases h
        · cases h
    · cases h
  · -- a method
    rename_i o m apos args cpos
    split at h
    · rename_i b hb
      have hname := bmOf_ok hb
      subst hname
      split at h
      · rename_i hc
        simp only [Bool.and_eq_true] at hc
        obtain ⟨⟨c1, c2⟩, c3⟩ := hc
        split at h
        · rename_i x as e1 e2
          cases h
          obtain ⟨h1, h2, h3⟩ := cAll_ok SE e2
          cases args with
          | nil =>
            have e0 : as = [] := List.length_eq_zero_iff.mp h3
            subst e0
            exact se_meth0 (SE _ _ e1) (base_ok c1) c2
          | cons e es => exact se_meth (SE _ _ e1) h1 h2 (of_decide_eq_true c3) (base_ok c1) c2
        · cases h
      · cases h
    · cases h
  · split at h
    · rename_i e1 e2 e3
      cases h
      exact se_slc (SE _ _ e1) (cOpt_ok SE e2) (cOpt_ok SE e3)
    · cases h
  · split at h
    · rename_i hp
      split at h
      · rename_i e1 e2
        cases h
        exact se_sub (SE _ _ e1) (SE _ _ e2) (plainIx_ok hp)
      · cases h
    · cases h
  · rename_i elt tg iter ifs async scope pos
    obtain ⟨rfl, hf, a, t, it, cond, rfl, pi, bo, pg, pt, pe, ho⟩ := S.c h G
    exact se_comp G.calm (by rw [G.N]; exact G.nd) pi bo pg pt pe hf ho
  · cases h
theorem sound_t {n : Nat} (S : Sound n) {c : Ctx} {x : Expr} {it : IT} (h : cT (n + 1) c x = some it) {X : Cx} {ca : Nat → Addr} {F : FEnv} {Wx : WX} (G : Good c ca F Wx X) :
    PTf X ca Wx x (tst F it) ∧ ∀ op vs pos, x = .BoolOp op vs pos → PWf X ca Wx x (tst F it) := by
  have SE : ∀ e a, cE n c e = some a → PEf X ca Wx e (ev F a) := fun e a h => S.e h G
  unfold cT at h
  split at h
  · simp only [Option.map_eq_some_iff] at h
    obtain ⟨a, ha, rfl⟩ := h
    exact ⟨st_not (S.t ha G).1, fun _ _ _ z => nomatch z⟩
  · split at h
    · cases h
    · rename_i hm
      split at h
      · rename_i e1 e2
        cases h
        exact ⟨st_cmp G.hu (SE _ _ e1) (SE _ _ e2) (by simpa using hm), fun _ _ _ z => nomatch z⟩
      · cases h
  · split at h
    · cases h
    · rename_i hm
      split at h
      · rename_i e1 e2 e3
        cases h
        exact ⟨st_chn G.hu (SE _ _ e1) (SE _ _ e2) (SE _ _ e3) (by simpa using hm), fun _ _ _ z => nomatch z⟩
      · cases h
  · rename_i op a b rest pos
    split at h
    · rename_i e1 e2
      cases h
      have ha := (S.t e1 G).1
      have hb := (S.t e2 G).2 _ _ _ rfl
      cases op with
      | And => exact ⟨(sw_and ha hb).pt, fun _ _ _ _ => sw_and ha hb⟩
      | Or => exact ⟨(sw_or ha hb).pt, fun _ _ _ _ => sw_or ha hb⟩
    · cases h
  · rename_i op a pos
    have ha := (S.t h G).1
    cases op with
    | And => exact ⟨(sw_and1 ha).pt, fun _ _ _ _ => sw_and1 ha⟩
    | Or => exact ⟨(sw_or1 ha).pt, fun _ _ _ _ => sw_or1 ha⟩
  · split at h
    · rename_i hp
      simp only [Option.map_eq_some_iff] at h
      obtain ⟨a, ha, rfl⟩ := h
      refine ⟨st_tru (SE _ _ ha) (test_ok hp), fun op vs pos e => ?_⟩
      subst e
      cases hp
    · cases h
theorem sound_i {n : Nat} (S : Sound n) {c : Ctx} {tg x : Expr} {ii : IIt} (h : cI (n + 1) c tg x = some ii) {X : Cx} {ca : Nat → Addr} {F : FEnv} {Wx : WX} (G : Good c ca F Wx X) : PIf X ca Wx tg x (evIt F ii) := by
  have SE : ∀ e a, cE n c e = some a → PEf X ca Wx e (ev F a) := fun e a h => S.e h G
  unfold cI at h
  split at h
  · rename_i f p a pos
    split at h
    · rename_i hf
      subst hf
      split at h
      · rename_i hc
        simp only [Bool.and_eq_true] at hc
        obtain ⟨⟨c1, c2⟩, c3⟩ := hc
        simp only [Option.map_eq_some_iff] at h
        obtain ⟨ia, ha, rfl⟩ := h
        exact si_rng (SE _ _ ha) c3 (glC_ok G.sc c1) (G.blt _ (of_decide_eq_true c2))
      · cases h
    · split at h
      · rename_i hf
        subst hf
        split at h
        · rename_i hc
          simp only [Bool.and_eq_true] at hc
          obtain ⟨⟨⟨c1, c2⟩, c3⟩, c4⟩ := hc
          simp only [Option.map_eq_some_iff] at h
          obtain ⟨ia, ha, rfl⟩ := h
          obtain ⟨es, k, p', rfl⟩ := isTuple_ok c4
          exact si_enum (SE _ _ ha) c3 (glC_ok G.sc c1) (G.blt _ (of_decide_eq_true c2))
        · cases h
      · simp only [Option.map_eq_some_iff] at h
        obtain ⟨ia, ha, rfl⟩ := h
        exact si_val (SE _ _ ha)
  · rename_i f p a b pos
    split at h
    · rename_i hf
      subst hf
      split at h
      · rename_i hc
        simp only [Bool.and_eq_true] at hc
        obtain ⟨⟨⟨c1, c2⟩, c3⟩, c4⟩ := hc
        split at h
        · rename_i e1 e2
          cases h
          exact si_rng2 (SE _ _ e1) (SE _ _ e2) c3 c4 (glC_ok G.sc c1) (G.blt _ (of_decide_eq_true c2))
        · cases h
      · cases h
    · split at h
      · rename_i hf
        subst hf
        split at h
        · rename_i hc
          simp only [Bool.and_eq_true] at hc
          obtain ⟨⟨⟨⟨c1, c2⟩, c3⟩, c4⟩, c5⟩ := hc
          obtain ⟨es, k, p', rfl⟩ := isTuple_ok c5
          split at h
          · rename_i e1 e2
            cases h
            exact si_zip (SE _ _ e1) (SE _ _ e2) c3 c4 (glC_ok G.sc c1) (G.blt _ (of_decide_eq_true c2))
          · cases h
        · cases h
      · simp only [Option.map_eq_some_iff] at h
        obtain ⟨ia, ha, rfl⟩ := h
        exact si_val (SE _ _ ha)
  · simp only [Option.map_eq_some_iff] at h
    obtain ⟨ia, ha, rfl⟩ := h
    exact si_val (SE _ _ ha)
theorem sound (n : Nat) : Sound n := by
  induction n with
  | zero => exact { e := fun h => (by unfold cE at h; cases h), t := fun h => (by unfold cT at h; cases h), i := fun h => (by unfold cI at h; cases h), c := fun h => (by unfold cC at h; cases h) }
  | succ n ih => exact { e := fun h => sound_e ih h, t := fun h => sound_t ih h, i := fun h => sound_i ih h, c := fun h => sound_c ih h }
end Itp

set_option Elab.async false
set_option linter.all false
set_option autoImplicit false
set_option maxRecDepth 100000
set_option maxHeartbeats 8000000
/-! Itp, part Z: the translation of statements, and that it is sound. -/
namespace Itp
open PySem PySem.Spec PyProof.Rows L2
/-- what the stores of a tuple of names are exchanged to -/
def swC (sc : Scope) (ts vs : List Expr) : Option (Option (List Str)) :=
  if !(ts.length == 2 || ts.length == 3) || vs.length != ts.length then some none
  else if vs.any (fun | .Starred .. => true | _ => false) then some none
  else
    let line := (ts.head?.map (·.pos.line)).getD 0
    let names := ts.filterMap fun
      | .Name id pos => if sc.names.lookup id == some .local && pos.line == line then some id else none
      | _ => none
    if names.length != ts.length || names.eraseDups.length != names.length then some none
    else if vs.all (foldedForSure 8) then some none
    else if vs.all (constantsAlone 8) then none
    else some (some names)
theorem swC_ok {sc : Scope} {env : Env} {ts vs : List Expr} {k k2 : Nat} {p p2 : Pos} {r : Option (List Str)} (hs : env.scope = sc) (hk : sc.kind = .function) (h : swC sc ts vs = some r) :
    swappedStores [.Tuple ts k p] (.Tuple vs k2 p2) env = pure r := by
  subst hs
  have hb : env.blockKind = .function := by unfold Env.blockKind; rw [hk]; rfl
  have hbb : (env.blockKind != .function) = false := by rw [hb]; rfl
  unfold swC at h
  unfold swappedStores
  simp only [hbb, Bool.or_false]
  have key : ∀ (b1 b2 b3 b4 b5 : Bool) (ns : List Str) (z : Sem (Option (List Str))), (if b1 = true then some none else if b2 = true then some none else if b3 = true then some none else if b4 = true then some none else if b5 = true then none else some (some ns)) = some r →
      (if b1 = true then pure none else if b2 = true then pure none else if b3 = true then pure none else if b4 = true then pure none else if b5 = true then z else pure (some ns)) = (pure r : Sem (Option (List Str))) := by
    intro b1 b2 b3 b4 b5 ns z h
    cases b1 <;> cases b2 <;> cases b3 <;> cases b4 <;> cases b5 <;> simp_all
  exact key _ _ _ _ _ _ _ h
theorem sw_noTup {tg e : Expr} {env : Env} (h : isTuple e = false) : swappedStores [tg] e env = pure none := by
  cases e <;> first | (cases tg <;> rfl) | cases h
theorem sw_noTgt {tg e : Expr} {env : Env} (h : ∀ ts k p, tg ≠ .Tuple ts k p) (h2 : ∀ ts p, tg ≠ .List ts p) : swappedStores [tg] e env = pure none := by
  cases tg <;> first | exact absurd rfl (h _ _ _) | exact absurd rfl (h2 _ _) | rfl

mutual
def cSt (c : Ctx) : Nat → Expr → Option STgt
  | 0, _ => none
  | n + 1, e => match e with
    | .Name x _ => if locC c x then (ixOf c.N x).map .name else none
    | .Subscript o i _ => if plainIx i then match cE n c o, cE n c i with
        | some x, some y => some (.sub x y)
        | _, _ => none
      else none
    | .Tuple es _ _ => (cSts c n es).map .tup
    | _ => none
def cSts (c : Ctx) : Nat → List Expr → Option (List STgt)
  | _, [] => some []
  | 0, _ :: _ => none
  | n + 1, e :: es => if notStar e then match cSt c n e, cSts c n es with
      | some t, some ts => some (t :: ts)
      | _, _ => none
    else none
end
/-- whether a comprehension stores into the name itself -/
def lcSw (c : Ctx) (x : Str) (p : Pos) (scope : Scope) (lpos : Pos) : Bool := c.sc.names.lookup x == some .local && p.line == lpos.line && !(scope.names.any fun (n, k) => n == x && (k == .local || k == .cell))
def isList : Expr → Bool
  | .List _ _ => true
  | _ => false
def parC (c : Ctx) : List Expr → Option (List Nat)
  | [.Name x _, .Name y _] => match ixOf c.N x, ixOf c.N y with
    | some i, some j => if decide (i ≠ j) && c.sc.names.lookup x == some .local && c.sc.names.lookup y == some .local then some [i, j] else none
    | _, _ => none
  | [.Name x _, .Name y _, .Name z _] => match ixOf c.N x, ixOf c.N y, ixOf c.N z with
    | some i, some j, some l => if decide (i ≠ j ∧ i ≠ l ∧ j ≠ l) && c.sc.names.lookup x == some .local && c.sc.names.lookup y == some .local && c.sc.names.lookup z == some .local then some [i, j, l] else none
    | _, _, _ => none
  | _ => none
mutual
def cS : Nat → Ctx → Stmt → IStm
  | 0, _, _ => .nev
  | n + 1, c, s => match s with
    | .Expr e _ => if noComp e then match cE n c e with
        | some x => .expr x
        | none => .nev
      else .nev
    | .Return none _ => .retN
    | .Return (some e) _ => match cE n c e with
      | some x => .ret x
      | none => .nev
    | .Pass _ => .pass
    | .Break _ => .brk
    | .Continue _ => .cont
    | .Assign [.Name x p] e pos => if locC c x then match ixOf c.N x, cE (n + 1) c e with
        | some i, some a => if noComp e then .asg (.name i) a else match e with
          | .ListComp elt [⟨tg, iter, ifs, async⟩] scope lpos => if lcSw c x p scope lpos then match cC n c elt tg iter ifs async scope with
              | some b => .asg (.name i) b
              | none => .nev
            else .asg (.name i) a
          | _ => .nev
        | _, _ => .nev
      else .nev
    | .Assign [.Tuple ts k p] e pos => match e with
        | .Tuple vs k2 p2 => match swC c.sc ts vs with
          | some none => match cSt c n (.Tuple ts k p), cE n c (.Tuple vs k2 p2) with
            | some t, some a => .asg t a
            | _, _ => .nev
          | some (some names) => match parC c ts, cAll (cE n c) vs with
            | some is, some as => if decide (names = ts.filterMap fun | .Name id _ => some id | _ => none) && decide (as.length = is.length) then .asg (.tup (is.map .name)) (.tup as) else .nev
            | _, _ => .nev
          | none => .nev
        | e => match cSt c n (.Tuple ts k p), cE n c e with
          | some t, some a => .asg t a
          | _, _ => .nev
    | .Assign [.Subscript o i p] e pos => match cSt c n (.Subscript o i p), cE n c e with
        | some t, some a => .asg t a
        | _, _ => .nev
    | .AugAssign (.Name x p) op e pos => if locC c x then match ixOf c.N x, cE n c e with
        | some i, some a => .augN i op a
        | _, _ => .nev
      else .nev
    | .AugAssign (.Subscript o i p) op e pos => if augPlain i then match cE n c o, cE n c i, cE n c e with
        | some x, some y, some z => .augS x y op z
        | _, _, _ => .nev
      else .nev
    | .If t a b _ => match cT n c t with
      | some x => .ite x (cSs n c a) (cSs n c b)
      | none => .nev
    | .For tg iter body [] _ => if noSet iter then match cI n c tg iter, cTgt c n tg with
        | some it, some t => .forS t it (cSs n c body)
        | _, _ => .nev
      else .nev
    | .While t body [] _ => match cT n c t with
      | some x => .whl x (cSs n c body)
      | none => .nev
    | _ => .nev
def cSs : Nat → Ctx → List Stmt → List IStm
  | _, _, [] => []
  | 0, _, _ :: _ => [.nev]
  | n + 1, c, s :: ss => cS n c s :: cSs n c ss
end
section
variable {X : Cx} {ca : Nat → Addr} {F : FEnv} {gas : Nat} {Wx : WX} {c : Ctx}
mutual
theorem cSt_ok (G : Good c ca F Wx X) : ∀ (n : Nat) (e : Expr) (t : STgt), cSt c n e = some t → PGf X ca Wx e (sto F t)
  | 0, e, t, h => by unfold cSt at h; cases h
  | n + 1, e, t, h => by
    unfold cSt at h
    split at h
    · split at h
      · rename_i hl
        simp only [Option.map_eq_some_iff] at h
        obtain ⟨i, hi, rfl⟩ := h
        obtain ⟨l1, l2⟩ := locC_ok hl
        refine sg_name (by rw [G.N]; exact G.nd) (by rw [G.N]; exact ixOf_ok hi) (by rw [G.sc]; exact l1) ?_
        rcases l2 with q | q
        · exact .inl (G.fn q _)
        · exact .inr (by rw [G.sc]; exact q)
      · cases h
    · split at h
      · rename_i hp
        split at h
        · rename_i e1 e2
          cases h
          exact sg_sub ((sound n).e e1 G) ((sound n).e e2 G) (sub_ok hp)
        · cases h
      · cases h
    · rename_i es k p
      simp only [Option.map_eq_some_iff] at h
      obtain ⟨ts, ht, rfl⟩ := h
      obtain ⟨h1, h2, h3⟩ := cSts_ok G n es ts ht
      exact sg_tup G.calm h1 h3.symm h2
    · cases h
theorem cSts_ok (G : Good c ca F Wx X) : ∀ (n : Nat) (es : List Expr) (ts : List STgt), cSts c n es = some ts → PGsf X ca Wx es (stos F ts) ∧ es.all notStar = true ∧ ts.length = es.length
  | n, [], ts, h => by
    unfold cSts at h
    cases h
    exact ⟨sgs_nil, rfl, rfl⟩
  | 0, e :: es, ts, h => by unfold cSts at h; cases h
  | n + 1, e :: es, ts, h => by
    unfold cSts at h
    split at h
    · rename_i hs
      split at h
      · rename_i t ts' e1 e2
        cases h
        obtain ⟨h1, h2, h3⟩ := cSts_ok G n es ts' e2
        refine ⟨sgs_cons (cSt_ok G n e t e1) h1 hs, ?_, ?_⟩
        · rw [List.all_cons, hs, h2]; rfl
        · show _ + 1 = _ + 1
          rw [h3]
      · cases h
    · cases h
end
theorem lc_false {elt : Expr} {gs : List Comprehension} {scope : Scope} {lpos py : Pos} {y : Str} {l : Nat} {env : Env} (hs : env.scope = c.sc) (hk : c.sc.kind = .function) (h : lcSw c y py scope lpos = false) : swapsWith (.ListComp elt gs scope lpos) (some (.Name y py)) l env = pure false := by
  have hb : env.blockKind = .function := by unfold Env.blockKind; rw [hs, hk]; rfl
  have ky : env.kindOf y = c.sc.names.lookup y := by rw [← hs]; rfl
  unfold lcSw at h
  unfold swapsWith
  simp only [hb, ky, Expr.pos]
  show pure _ = pure _
  congr 1
theorem lc_true {elt : Expr} {gs : List Comprehension} {scope : Scope} {lpos py : Pos} {y : Str} {l : Nat} {env : Env} (hs : env.scope = c.sc) (hk : c.sc.kind = .function) (h : lcSw c y py scope lpos = true) : swapsWith (.ListComp elt gs scope lpos) (some (.Name y py)) l env = pure true := by
  have hb : env.blockKind = .function := by unfold Env.blockKind; rw [hs, hk]; rfl
  have ky : env.kindOf y = c.sc.names.lookup y := by rw [← hs]; rfl
  unfold lcSw at h
  unfold swapsWith
  simp only [hb, ky, Expr.pos]
  show pure _ = pure _
  congr 1
theorem lcSw_loc {x : Str} {p : Pos} {scope : Scope} {lpos : Pos} (h : lcSw c x p scope lpos = true) : c.sc.names.lookup x = some .local := by
  unfold lcSw at h
  simp only [Bool.and_eq_true, beq_iff_eq] at h
  exact h.1.1
theorem noSwapTup {ts : List Expr} {k : Nat} {p pos : Pos} {e : Expr} {env : Env} : swapsWithSole [.Tuple ts k p] e pos.line env = pure false := by
  show swapsWith e (some (.Tuple ts k p)) pos.line env = pure false
  cases e <;> rfl
theorem noSwapSub {o i : Expr} {p pos : Pos} {e : Expr} {env : Env} : swapsWithSole [.Subscript o i p] e pos.line env = pure false := by
  show swapsWith e (some (.Subscript o i p)) pos.line env = pure false
  cases e <;> rfl
theorem parC_two {ts : List Expr} {is : List Nat} (h : parC c ts = some is) :
    (∃ x px y py i j, ts = [.Name x px, .Name y py] ∧ is = [i, j] ∧ ixOf c.N x = some i ∧ ixOf c.N y = some j ∧ i ≠ j ∧ c.sc.names.lookup x = some .local ∧ c.sc.names.lookup y = some .local) ∨
    (∃ x px y py z pz i j l, ts = [.Name x px, .Name y py, .Name z pz] ∧ is = [i, j, l] ∧ ixOf c.N x = some i ∧ ixOf c.N y = some j ∧ ixOf c.N z = some l ∧ (i ≠ j ∧ i ≠ l ∧ j ≠ l) ∧ c.sc.names.lookup x = some .local ∧ c.sc.names.lookup y = some .local ∧ c.sc.names.lookup z = some .local) := by
  unfold parC at h
  split at h
  · rename_i x px y py
    split at h
    · rename_i i j e1 e2
      split at h
      · rename_i hc
        cases h
        simp only [Bool.and_eq_true, decide_eq_true_eq, beq_iff_eq] at hc
        exact .inl ⟨x, px, y, py, i, j, rfl, rfl, e1, e2, hc.1.1, hc.1.2, hc.2⟩
      · cases h
    · cases h
  · rename_i x px y py z pz
    split at h
    · rename_i i j l e1 e2 e3
      split at h
      · rename_i hc
        cases h
        simp only [Bool.and_eq_true, decide_eq_true_eq, beq_iff_eq] at hc
        exact .inr ⟨x, px, y, py, z, pz, i, j, l, rfl, rfl, e1, e2, e3, hc.1.1.1, hc.1.1.2, hc.1.2, hc.2⟩
      · cases h
    · cases h
  · cases h
theorem ss_dead : ∀ ss : List Stmt, PSsf X ca Wx ss (evSs F gas [.nev])
  | [] => PSsimp (ss_nil (X := X) (ca := ca) (Wx := Wx) (F := F) (gas := gas)) fun D σ H h => by
    obtain ⟨ι, ρ, hp, s, r, o⟩ := h
    simp only [evSs, evS, SOut.seq_stuck] at o
    exact o.elim
  | s :: ss => PSsimp (ss_cons (a := .nev) ss_nev (ss_dead ss)) fun D σ H h => by
    obtain ⟨ι, ρ, hp, s, r, o⟩ := h
    simp only [evSs, evS, SOut.seq_stuck] at o
    exact o.elim
mutual
theorem cS_ok (G : Good c ca F Wx X) : ∀ (n : Nat) (s : Stmt), PSf X ca Wx s (evS F gas (cS n c s))
  | 0, s => by unfold cS; exact ss_nev
  | n + 1, s => by
    have hN : X.N.Nodup := by rw [G.N]; exact G.nd
    have hix : ∀ {x : Str} {i : Nat}, ixOf c.N x = some i → X.N[i]? = some x := fun h => by rw [G.N]; exact ixOf_ok h
    have hloc : ∀ {x : Str}, c.sc.names.lookup x = some .local → X.env.scope.names.lookup x = some .local := fun h => by rw [G.sc]; exact h
    have hfn : ∀ {x : Str}, (c.top = true ∨ c.sc.names.lookup x = some .local) → (X.fn x = true ∨ X.env.scope.names.lookup x = some .local) := fun h => by
      rcases h with q | q
      · exact .inl (G.fn q _)
      · exact .inr (hloc q)
    unfold cS
    split
    · split
      · rename_i hn
        split
        · rename_i e1
          exact ss_expr ((sound n).e e1 G) (swap_ok hn)
        · exact ss_nev
      · exact ss_nev
    · exact ss_retN
    · split
      · rename_i e1
        exact ss_ret ((sound n).e e1 G)
      · exact ss_nev
    · exact ss_pass
    · exact ss_brk
    · exact ss_cont
    · rename_i x p e pos
      split
      · rename_i hl
        obtain ⟨l1, l2⟩ := locC_ok hl
        have hx : Loc X.env.scope x := by rw [G.sc]; exact l1
        split
        · rename_i i a e1 e2
          split
          · rename_i hn
            exact ss_set hN (hix e1) hx (hfn l2) ((sound (n + 1)).e e2 G) (swap_ok hn)
          · split
            · rename_i elt tg iter ifs async scope lpos _
              split
              · rename_i hsw
                split
                · rename_i b e3
                  obtain ⟨rfl, hf, a', t, it, cond, rfl, pi, bo, pg, pt, pe, ho⟩ := (sound n).c e3 G
                  exact ss_setLc G.calm hN (hix e1) (hloc (lcSw_loc hsw)) (lc_true G.sc G.kind hsw) pi bo pg pt pe hf ho
                · exact ss_nev
              · rename_i hsw
                exact ss_set hN (hix e1) hx (hfn l2) ((sound (n + 1)).e e2 G) (lc_false G.sc G.kind (by simpa using hsw))
            · exact ss_nev
        · exact ss_nev
      · exact ss_nev
    · rename_i ts k p e pos
      split
      · rename_i vs k2 p2
        split
        · rename_i hsw
          split
          · rename_i e1 e2
            exact ss_asg ((sound n).e e2 G) (cSt_ok G n _ _ e1) noSwapTup (swC_ok G.sc G.kind hsw) rfl
          · exact ss_nev
        · rename_i names hsw
          split
          · rename_i is as e1 e2
            split
            · rename_i hc
              simp only [Bool.and_eq_true, decide_eq_true_eq] at hc
              obtain ⟨c1, c2⟩ := hc
              obtain ⟨h1, h2, h3⟩ := cAll_ok (fun e a h => (sound n).e h G) e2
              have hw := swC_ok (k := k) (k2 := k2) (p := p) (p2 := p2) G.sc G.kind hsw
              rcases parC_two e1 with ⟨x, px, y, py, i, j, rfl, rfl, i1, i2, ne, lx, ly⟩ | ⟨x, px, y, py, z, pz, i, j, l, rfl, rfl, i1, i2, i3, ne, lx, ly, lz⟩
              · have c1' : names = [x, y] := c1
                subst c1'
                match as, c2, vs, h3 with
                | [a1, a2], _, [v1, v2], _ =>
                  exact ss_par G.calm hN (hix i1) (hix i2) ne (hloc lx) (hloc ly) h1 hw noSwapTup
              · have c1' : names = [x, y, z] := c1
                subst c1'
                match as, c2, vs, h3 with
                | [a1, a2, a3], _, [v1, v2, v3], _ =>
                  exact ss_par3 G.calm hN (hix i1) (hix i2) (hix i3) ne.1 ne.2.1 ne.2.2 (hloc lx) (hloc ly) (hloc lz) h1 hw noSwapTup
            · exact ss_nev
          · exact ss_nev
        · exact ss_nev
      · rename_i hne
        split
        · rename_i e1 e2
          refine ss_asg ((sound n).e e2 G) (cSt_ok G n _ _ e1) noSwapTup (sw_noTup ?_) rfl
          cases hq : isTuple e with
          | false => rfl
          | true =>
            obtain ⟨es, k', p', rfl⟩ := isTuple_ok hq
            exact absurd rfl (hne _ _ _)
        · exact ss_nev
    · split
      · rename_i e1 e2
        exact ss_asg ((sound n).e e2 G) (cSt_ok G n _ _ e1) noSwapSub (sw_noTgt (fun _ _ _ h => nomatch h) (fun _ _ h => nomatch h)) rfl
      · exact ss_nev
    · split
      · rename_i hl
        obtain ⟨l1, l2⟩ := locC_ok hl
        split
        · rename_i e1 e2
          exact ss_augN hN (hix e1) (by rw [G.sc]; exact l1) (hfn l2) ((sound n).e e2 G)
        · exact ss_nev
      · exact ss_nev
    · split
      · rename_i hp
        split
        · rename_i e1 e2 e3
          exact ss_augS ((sound n).e e1 G) ((sound n).e e2 G) ((sound n).e e3 G) (aug_ok hp)
        · exact ss_nev
      · exact ss_nev
    · split
      · rename_i e1
        exact ss_ite ((sound n).t e1 G).1 (cSs_ok G n _) (cSs_ok G n _)
      · exact ss_nev
    · split
      · rename_i hs
        split
        · rename_i e1 e2
          exact ss_for G.po G.calm ((sound n).i e1 G) (cTgt_ok G n _ _ e2) (cSs_ok G n _) (fold_ok hs)
        · exact ss_nev
      · exact ss_nev
    · split
      · rename_i e1
        exact ss_whl G.po ((sound n).t e1 G).1 (cSs_ok G n _)
      · exact ss_nev
    · exact ss_nev
theorem cSs_ok (G : Good c ca F Wx X) : ∀ (n : Nat) (s : List Stmt), PSsf X ca Wx s (evSs F gas (cSs n c s))
  | n, [] => by unfold cSs; exact ss_nil
  | 0, s :: ss => by unfold cSs; exact ss_dead _
  | n + 1, s :: ss => by unfold cSs; exact ss_cons (cS_ok G n s) (cSs_ok G n ss)
end
end
end Itp

set_option Elab.async false
set_option linter.all false
set_option autoImplicit false
set_option maxRecDepth 100000
set_option maxHeartbeats 8000000
/-! Itp, part M: what is claimed of a def may forget lists that nothing leads to; a def by its translated body; the law. -/
namespace Itp
open PySem PySem.Spec PyProof.Rows L2
mutual
def rnW (φ : List Nat) : W → W
  | .tup ws => .tup (rnWs φ ws)
  | .ref n => .ref (φ.getD n 0)
  | .non => .non
  | .bl b => .bl b
  | .int i => .int i
  | .str s => .str s
  | .ty n => .ty n
def rnWs (φ : List Nat) : List W → List W
  | [] => []
  | w :: ws => rnW φ w :: rnWs φ ws
end
mutual
def bndW (n : Nat) : W → Bool
  | .tup ws => bndWs n ws
  | .ref m => decide (m < n)
  | .non => true
  | .bl _ => true
  | .int _ => true
  | .str _ => true
  | .ty _ => true
def bndWs (n : Nat) : List W → Bool
  | [] => true
  | w :: ws => bndW n w && bndWs n ws
end
def rnO (φ : List Nat) : IO → IO
  | .lst ws => .lst (rnWs φ ws)
  | .flst ws => .flst (rnWs φ ws)
def bndO (n : Nat) : IO → Bool
  | .lst ws => bndWs n ws
  | .flst ws => bndWs n ws
theorem range_getD {n m : Nat} (h : m < n) : (List.range n).getD m 0 = m := by
  rw [List.getD_eq_getElem?_getD, List.getElem?_range h]
  rfl
mutual
theorem rnW_id {n : Nat} {φ : List Nat} (hφ : ∀ m, m < n → φ.getD m 0 = m) : ∀ w : W, bndW n w = true → rnW φ w = w
  | .tup ws, h => by
    unfold bndW at h
    unfold rnW
    rw [rnWs_id hφ ws h]
  | .ref m, h => by
    unfold bndW at h
    unfold rnW
    rw [hφ m (of_decide_eq_true h)]
  | .non, _ => by unfold rnW; rfl
  | .bl _, _ => by unfold rnW; rfl
  | .int _, _ => by unfold rnW; rfl
  | .str _, _ => by unfold rnW; rfl
  | .ty _, _ => by unfold rnW; rfl
theorem rnWs_id {n : Nat} {φ : List Nat} (hφ : ∀ m, m < n → φ.getD m 0 = m) : ∀ ws : List W, bndWs n ws = true → rnWs φ ws = ws
  | [], _ => by unfold rnWs; rfl
  | w :: ws, h => by
    unfold bndWs at h
    rw [Bool.and_eq_true] at h
    unfold rnWs
    rw [rnW_id hφ w h.1, rnWs_id hφ ws h.2]
end
theorem rnO_id {n : Nat} {φ : List Nat} (hφ : ∀ m, m < n → φ.getD m 0 = m) (o : IO) (h : bndO n o = true) : rnO φ o = o := by
  cases o with
  | lst ws => show IO.lst _ = _; rw [rnWs_id hφ ws h]
  | flst ws => show IO.flst _ = _; rw [rnWs_id hφ ws h]
mutual
theorem bndW_mono {n m : Nat} (h : n ≤ m) : ∀ w : W, bndW n w = true → bndW m w = true
  | .tup ws, q => by
    unfold bndW at q ⊢
    exact bndWs_mono h ws q
  | .ref k, q => by
    unfold bndW at q ⊢
    exact decide_eq_true (Nat.lt_of_lt_of_le (of_decide_eq_true q) h)
  | .non, _ => by unfold bndW; rfl
  | .bl _, _ => by unfold bndW; rfl
  | .int _, _ => by unfold bndW; rfl
  | .str _, _ => by unfold bndW; rfl
  | .ty _, _ => by unfold bndW; rfl
theorem bndWs_mono {n m : Nat} (h : n ≤ m) : ∀ ws : List W, bndWs n ws = true → bndWs m ws = true
  | [], _ => by unfold bndWs; rfl
  | w :: ws, q => by
    unfold bndWs at q ⊢
    rw [Bool.and_eq_true] at q ⊢
    exact ⟨bndW_mono h w q.1, bndWs_mono h ws q.2⟩
end
theorem bndO_mono {n m : Nat} (h : n ≤ m) (o : IO) (q : bndO n o = true) : bndO m o = true := by
  cases o with
  | lst ws => exact bndWs_mono h ws q
  | flst ws => exact bndWs_mono h ws q
def bndH (n : Nat) (hp : IH) : Bool := hp.all (bndO n)

/-- the claimed end is the real one, places renamed, the others forgotten -/
structure Gc (n : Nat) (w : W) (hp : IH) (w' : W) (hp' : IH) (φ : List Nat) : Prop where
  len : φ.length = hp'.length
  nd : φ.Nodup
  pre : ∀ i, i < n → φ[i]? = some i
  le : n ≤ hp'.length
  val : w = rnW φ w'
  bnd : bndW hp'.length w' = true
  cell : ∀ (k : Nat) (o : IO), hp'[k]? = some o → ∃ m, φ[k]? = some m ∧ hp[m]? = some (rnO φ o) ∧ bndO hp'.length o = true
def GcOut (n : Nat) (real claimed : Out W) : Prop := real = claimed ∨ ∃ w hp w' hp' φ, real = .ok w hp ∧ claimed = .ok w' hp' ∧ Gc n w hp w' hp' φ
theorem GcOut.refl {n : Nat} (o : Out W) : GcOut n o o := .inl rfl
/-- what hangs behind is forgotten -/
theorem gc_drop {n : Nat} {w : W} {h g : IH} (hn : n ≤ h.length) (hw : bndW h.length w = true) (hh : bndH h.length h = true) : GcOut n (.ok w (h ++ g)) (.ok w h) := by
  have hφ : ∀ m, m < h.length → (List.range h.length).getD m 0 = m := fun m hm => range_getD hm
  refine .inr ⟨w, h ++ g, w, h, List.range h.length, rfl, rfl, List.length_range, List.nodup_range, fun i hi => List.getElem?_range (by omega), hn, (rnW_id hφ w hw).symm, hw, fun k o e => ?_⟩
  have hk := (List.getElem?_eq_some_iff.mp e).1
  have hb : bndO h.length o = true := List.all_eq_true.mp hh o (List.mem_of_getElem? e)
  refine ⟨k, List.getElem?_range hk, ?_, hb⟩
  rw [List.getElem?_append_left hk, rnO_id hφ o hb]
  exact e
/-- a new list, and what hangs between and behind -/
theorem gc_keep {n : Nat} {h g g2 : IH} {o : IO} (hn : n ≤ h.length) (hh : bndH h.length h = true) (ho : bndO h.length o = true) :
    GcOut n (.ok (.ref (h.length + g.length)) (h ++ g ++ [o] ++ g2)) (.ok (.ref h.length) (h ++ [o])) := by
  have e1 : ∀ m, m < h.length → (List.range h.length ++ [h.length + g.length])[m]? = some m := fun m hm => by
    rw [List.getElem?_append_left (by rw [List.length_range]; exact hm)]
    exact List.getElem?_range hm
  have e2 : (List.range h.length ++ [h.length + g.length])[h.length]? = some (h.length + g.length) := by
    rw [List.getElem?_append_right (by rw [List.length_range]; exact Nat.le_refl _), List.length_range, Nat.sub_self]
    rfl
  have hφ : ∀ m, m < h.length → (List.range h.length ++ [h.length + g.length]).getD m 0 = m := fun m hm => by
    rw [List.getD_eq_getElem?_getD, e1 m hm]
    rfl
  refine .inr ⟨_, _, _, _, List.range h.length ++ [h.length + g.length], rfl, rfl, by simp, ?_, fun i hi => e1 i (by omega), by simp; omega, ?_, ?_, fun k o' e => ?_⟩
  · refine List.nodup_append.mpr ⟨List.nodup_range, by simp, fun a ha b hb => ?_⟩
    have := List.mem_range.mp ha
    have : b = h.length + g.length := by simpa using hb
    omega
  · unfold rnW
    rw [List.getD_eq_getElem?_getD, e2]
    rfl
  · unfold bndW
    simp
  · by_cases hk : k < h.length
    · rw [List.getElem?_append_left hk] at e
      have hb : bndO h.length o' = true := List.all_eq_true.mp hh o' (List.mem_of_getElem? e)
      refine ⟨k, e1 k hk, ?_, bndO_mono (by simp) _ hb⟩
      rw [rnO_id hφ o' hb, List.append_assoc, List.append_assoc, List.getElem?_append_left hk]
      exact e
    · have hk2 : k = h.length := by
        have := (List.getElem?_eq_some_iff.mp e).1
        simp at this
        omega
      subst hk2
      rw [List.getElem?_append_right (Nat.le_refl _), Nat.sub_self] at e
      have e' : o = o' := Option.some.inj e
      subst e'
      refine ⟨_, e2, ?_, bndO_mono (by simp) _ ho⟩
      rw [rnO_id hφ o ho, List.append_assoc, List.getElem?_append_right (by simp)]
      simp
section
variable {K : PySem.W.Frag} {ι ι' : List Addr} {H H' : Hp}
mutual
theorem Rep.unrn {φ : List Nat} {ι2 : List Addr} (hι : ∀ m a, m < φ.length → ι'[φ.getD m 0]? = some a → ι2[m]? = some a) : ∀ (w : W) (v : V), bndW φ.length w = true → Rep K ι' H' (rnW φ w) v → Rep K ι2 H' w v
  | .non, _, _, h => by unfold rnW at h; exact h
  | .bl _, _, _, h => by unfold rnW at h; exact h
  | .int _, _, _, h => by unfold rnW at h; exact h
  | .str _, _, _, h => by unfold rnW at h; exact h
  | .ty _, _, _, h => by unfold rnW at h; exact h
  | .ref m, _, hb, h => by
    unfold rnW at h
    unfold bndW at hb
    obtain ⟨a, ha, rfl⟩ := h
    exact ⟨a, hι m a (of_decide_eq_true hb) ha, rfl⟩
  | .tup ws, _, hb, h => by
    unfold rnW at h
    unfold bndW at hb
    obtain ⟨a, xs, rfl, hs, hr⟩ := h
    exact ⟨a, xs, rfl, hs, Reps.unrn hι ws xs hb hr⟩
theorem Reps.unrn {φ : List Nat} {ι2 : List Addr} (hι : ∀ m a, m < φ.length → ι'[φ.getD m 0]? = some a → ι2[m]? = some a) : ∀ (ws : List W) (xs : List V), bndWs φ.length ws = true → Reps K ι' H' (rnWs φ ws) xs → Reps K ι2 H' ws xs
  | [], _, _, h => by unfold rnWs at h; exact h
  | w :: ws, _, hb, h => by
    unfold rnWs at h
    unfold bndWs at hb
    rw [Bool.and_eq_true] at hb
    obtain ⟨v, vs, rfl, h1, h2⟩ := h
    exact ⟨v, vs, rfl, Rep.unrn hι w v hb.1 h1, Reps.unrn hι ws vs hb.2 h2⟩
end
/-- what is claimed may be asked for instead of what is -/
theorem OutG.gc {g : Gx} {Wx : WX} {σ : L2.St} {real claimed : Out W} {Q : V → Hp → Prop} (gc : GcOut ι.length real claimed) (h : OutG g Wx ι σ H (Rep g.K) claimed Q) : OutG g Wx ι σ H (Rep g.K) real Q := by
  rcases gc with rfl | ⟨w, hp, w', hp', φ, rfl, rfl, c⟩
  · exact h
  · intro v H' ι' ex sim rep
    obtain ⟨ι2, hι2⟩ : ∃ ι2 : List Addr, ι2 = φ.map fun m => ι'.getD m 0 := ⟨_, rfl⟩
    have at2 : ∀ m a, m < φ.length → ι'[φ.getD m 0]? = some a → ι2[m]? = some a := fun m a hm ha => by
      rw [hι2, List.getElem?_map, List.getElem?_eq_getElem hm]
      rw [List.getD_eq_getElem?_getD, List.getElem?_eq_getElem hm] at ha
      show some (ι'.getD φ[m] 0) = some a
      rw [List.getD_eq_getElem?_getD]
      have ha' : ι'[φ[m]]? = some a := ha
      rw [ha']
      rfl
    have inb : ∀ m, m ∈ φ → m < ι'.length := fun m hm => by
      obtain ⟨k, hk, rfl⟩ := List.mem_iff_getElem.mp hm
      have hk' : k < hp'.length := by rw [← c.len]; exact hk
      obtain ⟨m, e1, e2, _⟩ := c.cell k _ (List.getElem?_eq_getElem hk')
      rw [List.getElem?_eq_getElem hk] at e1
      cases e1
      rw [sim.len]
      exact (List.getElem?_eq_some_iff.mp e2).1
    have getI : ∀ m, m < ι'.length → ι'[m]? = some (ι'.getD m 0) := fun m hm => by
      rw [List.getD_eq_getElem?_getD, List.getElem?_eq_getElem hm]
      rfl
    have unre : ∀ (o : IO) (a : Addr), bndO φ.length o = true → ORep g.K ι' H' a (rnO φ o) → ORep g.K ι2 H' a o := fun o a hb r => by
      cases o with
      | lst ws =>
        obtain ⟨xs, h1, h2⟩ := r
        exact ⟨xs, h1, Reps.unrn at2 ws xs hb h2⟩
      | flst ws =>
        obtain ⟨xs, h1, h2⟩ := r
        exact ⟨xs, h1, Reps.unrn at2 ws xs hb h2⟩
    have len2 : ι2.length = hp'.length := by rw [hι2, List.length_map, c.len]
    refine h v H' ι2 ⟨?_, ex.tup, ex.frz⟩ ⟨len2, ?_, fun n a o e1 e2 => ?_⟩ ?_
    · -- what stood at the entry stands
      refine List.prefix_iff_getElem?.mpr fun i hi => ?_
      rw [hι2, List.getElem?_map, c.pre i hi]
      show some (ι'.getD i 0) = some ι[i]
      have := ex.at (List.getElem?_eq_getElem hi)
      rw [List.getD_eq_getElem?_getD, this]
      rfl
    · intro i j a us ws e1 e2 e3 e4
      obtain ⟨m, q1, q2, q3⟩ := c.cell i _ e3
      obtain ⟨m', r1, r2, r3⟩ := c.cell j _ e4
      have h1 := getI m (inb m (List.mem_of_getElem? q1))
      have h2 := getI m' (inb m' (List.mem_of_getElem? r1))
      rw [hι2, List.getElem?_map, q1] at e1
      rw [hι2, List.getElem?_map, r1] at e2
      have e1' : ι'.getD m 0 = a := Option.some.inj e1
      have e2' : ι'.getD m' 0 = a := Option.some.inj e2
      rw [e1'] at h1
      rw [e2'] at h2
      have e := sim.nd m m' a _ _ h1 h2 q2 r2
      subst e
      obtain ⟨l1, g1⟩ := List.getElem?_eq_some_iff.mp q1
      obtain ⟨l2, g2⟩ := List.getElem?_eq_some_iff.mp r1
      exact (List.getElem_inj c.nd).mp (g1.trans g2.symm)
    · obtain ⟨m, q1, q2, q3⟩ := c.cell n o e2
      rw [hι2, List.getElem?_map, q1] at e1
      have e1' : ι'.getD m 0 = a := Option.some.inj e1
      subst e1'
      refine unre o _ (by rw [c.len]; exact q3) ?_
      refine sim.cell m _ _ (getI m (inb m (List.mem_of_getElem? q1))) q2
    · refine Rep.unrn at2 w' v (by rw [c.len]; exact c.bnd) ?_
      rw [← c.val]
      exact rep
/-! ### at a def's entry -/
mutual
theorem Rep.bnd {hp : IH} (s : Sim K ι hp H) : ∀ (w : W) (v : V), Rep K ι H w v → bndW hp.length w = true
  | .non, _, _ => by unfold bndW; rfl
  | .bl _, _, _ => by unfold bndW; rfl
  | .int _, _, _ => by unfold bndW; rfl
  | .str _, _, _ => by unfold bndW; rfl
  | .ty _, _, _ => by unfold bndW; rfl
  | .ref m, _, h => by
    obtain ⟨a, ha, rfl⟩ := h
    unfold bndW
    refine decide_eq_true ?_
    rw [← s.len]
    exact (List.getElem?_eq_some_iff.mp ha).1
  | .tup ws, _, h => by
    obtain ⟨a, xs, rfl, hs, hr⟩ := h
    unfold bndW
    exact Reps.bnd s ws xs hr
theorem Reps.bnd {hp : IH} (s : Sim K ι hp H) : ∀ (ws : List W) (xs : List V), Reps K ι H ws xs → bndWs hp.length ws = true
  | [], _, _ => by unfold bndWs; rfl
  | w :: ws, _, h => by
    obtain ⟨v, vs, rfl, h1, h2⟩ := h
    unfold bndWs
    rw [Rep.bnd s w v h1, Reps.bnd s ws vs h2]
    rfl
end
theorem Sim.bnd {hp : IH} (s : Sim K ι hp H) : bndH hp.length hp = true := by
  refine List.all_eq_true.mpr fun o ho => ?_
  obtain ⟨n, hn, rfl⟩ := List.mem_iff_getElem.mp ho
  obtain ⟨a, ha, r⟩ := s.addr (List.getElem?_eq_getElem hn)
  cases e : hp[n] with
  | lst ws =>
    rw [e] at r
    obtain ⟨xs, _, h2⟩ := r
    exact Reps.bnd s _ _ h2
  | flst ws =>
    rw [e] at r
    obtain ⟨xs, _, h2⟩ := r
    exact Reps.bnd s _ _ h2
theorem repSt_start {N : List Str} {ws : List W} {vs : List V} (r : Reps K ι H ws vs) : RepSt K ι H (ws.map some ++ List.replicate (N.length - ws.length) none) (L2.start N vs) := by
  unfold L2.start
  refine ⟨by simp [r.length], fun i w e => ?_⟩
  by_cases hi : i < ws.length
  · rw [List.getElem?_append_left (by simpa using hi), List.getElem?_map] at e
    cases q : ws[i]? with
    | none => rw [q] at e; cases e
    | some u =>
      rw [q] at e
      cases e
      obtain ⟨v, hv, rv⟩ := r.get q
      refine ⟨v, ?_, rv⟩
      rw [List.getElem?_append_left (by simpa [r.length] using hi), List.getElem?_map, hv]
      rfl
  · rw [List.getElem?_append_right (by simpa using hi), List.getElem?_replicate] at e
    split at e <;> cases e
end

/-- what is promised of a def, wherever it is called -/
structure DefOk (P : Program) (w : World) (K : PySem.W.Frag) (mg : Str → Option Value) (base : Heap) (ca : Nat → Addr) (i : FI) (G : List W → IH → Out W) : Prop where
  ar : ∀ ws hp, G ws hp ≠ .stuck → ws.length = i.ps.length
  ex : ∃ fa fd, mg i.name = some (.ref fa) ∧ PySem.W.keepIn K (.ref fa) = true ∧ Binds K fd i.ps [] ∧
    (∀ q ∈ i.kwp, KBn K fd i.ps q.1 q.2.1 (fun us ws => pm q.2.2 (us ++ ws)) (fun vs zs => pm q.2.2 (vs ++ zs))) ∧
    FnG P w K mg base i.lev fa fd i.ps (spG ⟨K, ca⟩ i.ps.length G)
theorem DefOk.at {X : Cx} {ca : Nat → Addr} {i : FI} {G : List W → IH → Out W} {k : Nat} (h : DefOk X.prog X.w X.K X.mg X.base ca i G) (r : Room k X.A) (hgd : X.A.guards = some []) (hl : i.lev ≤ k) : FOk X ca i G := by
  obtain ⟨fa, fd, h1, h2, h3, h4, h5⟩ := h.ex
  exact ⟨h.ar, fa, fd, h1, h2, h3, h4, h5, r.mono hl, hgd⟩
section
variable {P : Program} {w : World} {K : PySem.W.Frag} {mg : Str → Option Value} {base : Heap} {ca : Nat → Addr} {F : FEnv}
/-- what holds of the top for a def's reading -/
structure TopOk (K : PySem.W.Frag) (mg : Str → Option Value) (glb : List (Str × W)) (blt : List Str) : Prop where
  glb : ∀ (x : Str) (w : W), (x, w) ∈ glb → ∃ u v, mg x = some u ∧ RelV v u ∧ ∀ ι H, Rep K ι H w v
  blt : ∀ x ∈ blt, mg x = none
/-- entering a def: the frame is made, its body runs, what it returns is handed on -/
theorem enter_def {qual : Str} {st : Stmt} {f : Addr} {fd : FuncData} {N ps : List Str} {k : Nat} {nm : Str} {sp : Sp} (Fn : L2.Fun K nm qual st f fd) (S : FnScope N ps (defScope st)) (len : ∀ vs H Q E, sp vs H Q E → vs.length = ps.length)
    (hbody : ∀ (cdv : Value) (A : Around) (outer : List Env) (s : Shared) (H : Hp) (vs : List V) (Q : VK) (E : XK), A.guards = some [] → Room k (A.deeper (envOfC qual (defScope st) s.heap.objs.size f cdv)) → sp vs H Q E →
      ∃ t, PSs (cxOf (L2.CX P w) P w K mg base N qual (defScope st) f cdv A outer s H E) (defBody st) t ∧ t { nx := fun _ H' => Q .non H', rt := Q } (L2.start N vs) H) : FnG P w K mg base (k + 1) f fd ps sp := by
  obtain ⟨oc, od, kV, doc, pm, an, cdv, ct, osl, rfl, lk, hcd⟩ := Fn.ex
  refine ⟨len, fun A outer s H args us vs Q E hgd hr e0 hb r hsp => ?_⟩
  have keeps : ∀ b o, base.get? b = some o → s.heap.get? b = some o := fun b o e => (e0.bs b o e).1
  have inH : K.In s.heap := e0.mod.kin.keeps keeps
  have kinds : ∀ y ∈ ps.zip us, (defScope st).names.lookup y.1 = some .local ∨ ((defScope st).names.lookup y.1 = some .cell ∧ ((cellsFrom (s.heap.objs.size + 1) (defScope st).names []).lookup y.1).isSome = true) := fun ⟨n, v⟩ hy =>
    (S.par n (List.of_mem_zip hy).1).imp id fun q => ⟨q, PySem.W.cellsFrom_some _ _ _ (.inl q)⟩
  refine codeAny_call_function hr.depth (inH _ _ lk) rfl S.co S.gen rfl (PySem.W.codeRec_of inH hcd) (hb _ _ _ _ ?_)
  refine wpAny_newFunctionEnv_cells S.kind kinds fun env he s1 x => ?_
  subst he
  refine ⟨(e0.mod.nolimit.keeps keeps).keeps x.toInCall.keep, codeAny_func ?_⟩
  obtain ⟨t, ht, hq⟩ := hbody cdv A outer s H vs Q E hgd (hr.deeper _) hsp
  refine wpAny_mono (ht.run [] s1 (L2.start N vs) H _ (inv_start S hr.hd e0 (len _ _ _ _ hsp) r x) hq) (fun fl s' hs => ?_) fun e s' hs => hs
  match fl, hs with
  | .ret u, ⟨v, σ', H', J, rv, q⟩ => exact ⟨v, H', J.os, J.bare, J.base, J.hok, rv, q⟩
  | .next, ⟨σ', H', J, q⟩ => exact ⟨V.non, H', J.os, J.bare, J.base, J.hok, rfl, q⟩
  | .brk, ⟨_, _, _, q⟩ => exact q.elim
  | .cont, ⟨_, _, _, q⟩ => exact q.elim
theorem fnOk_of {qual : Str} {st : Stmt} {fa : Addr} {fd : FuncData} {c : Ctx} {n k : Nat} {i : FI} {G : List W → IH → Out W} (Fn : L2.Fun K i.name qual st fa fd) (S : FnScope c.N i.ps (defScope st)) (hsc : c.sc = defScope st)
    (hlev : i.lev = k + 1) (T : TopOk K mg c.glb c.blt) (fok : ∀ (j : Nat) (fi : FI), c.fns[j]? = some fi → DefOk P w K mg base ca fi (F j) ∧ fi.lev ≤ k)
    (run : ∀ ws hp, bndWs hp.length ws = true → bndH hp.length hp = true → G ws hp ≠ .stuck → ∃ gas, GcOut hp.length (runB F gas (cSs n c (defBody st)) c.N.length ws hp) (G ws hp)) :
    FnG P w K mg base i.lev fa fd i.ps (spG ⟨K, ca⟩ i.ps.length G) := by
  rw [hlev]
  refine enter_def Fn S (fun vs H Q E h => h.1) fun cdv A outer s H vs Q E hgd hr h => ?_
  obtain ⟨hl, ι, ws, hp, sim, rep, out⟩ := h
  have ns : G ws hp ≠ .stuck := fun z => by
    rw [z] at out
    exact out
  obtain ⟨gas, gc⟩ := run ws hp (Reps.bnd sim _ _ rep) sim.bnd ns
  rw [← sim.len] at gc
  have out2 := OutG.gc gc out
  let X := cxOf (L2.CX P w) P w K mg base c.N qual (defScope st) fa cdv A outer s H E
  have G' : Good c ca F (fun cls d _ H => E cls d H) X := {
    N := rfl
    nd := S.nd
    sc := hsc.symm
    kind := by rw [hsc]; exact S.kind
    calm := rfl
    hu := by have := hr.un; show (A.deeper (envOfC qual (defScope st) s.heap.objs.size fa cdv)).units + 65 < cLine; omega
    gd := hgd
    tk := takes_of rfl rfl rfl rfl
    po := passes_of rfl
    fn := fun _ _ => rfl
    fok := fun j fi hj => (fok j fi hj).1.at hr hgd (fok j fi hj).2
    glb := T.glb
    blt := T.blt }
  refine ⟨_, cSs_ok (gas := gas) G' n (defBody st), ι, _, hp, sim, repSt_start (N := c.N) rep, ?_⟩
  unfold runB at out2
  generalize evSs F gas (cSs n c (defBody st)) (ws.map some ++ List.replicate (c.N.length - ws.length) none) hp = z at out2 ⊢
  cases z with
  | nx ρ hp1 => exact fun σ' H' ι' e1 s1 r1 => out2 .non H' ι' e1 s1 rfl
  | rt u hp1 => exact fun v H' ι' e1 s1 r1 => out2 v H' ι' e1 s1 r1
  | bk ρ hp1 => exact out2.elim
  | ct ρ hp1 => exact out2.elim
  | err c fs ρ hp1 => exact fun cls d σ' H' ι' e1 s1 r1 x => out2 cls d H' ι' e1 s1 x
  | stuck => exact out2.elim
theorem kbn_of {x qual : Str} {st : Stmt} {f : Addr} {fd : FuncData} (F : L2.Fun K x qual st f fd) {ps ks : List Str} {n : Nat} {perm : List Nat}
    (h : ∀ (kV doc pm' : Value) (an : Option Addr) (cdv ct : Value) (us ws : List Value), us.length = n → ws.length = ks.length → bindArgs (PySem.W.fnOf x qual (defArgs st) (defBody st) (defScope st) .none kV doc pm' an cdv ct) ⟨us, ks.zip ws⟩ = pure (ps.zip (pm perm (us ++ ws)))) :
    KBn K fd ps n ks (fun us ws => pm perm (us ++ ws)) (fun vs zs => pm perm (vs ++ zs)) := by
  obtain ⟨oc, od, kV, doc, pm', an, cdv, ct, osl, rfl, lk, hcd⟩ := F.ex
  exact ⟨fun s us ws _ h1 h2 => .of_eq (h kV doc pm' an cdv ct us ws h1 h2), fun r1 r2 => pm_vals (r1.append r2) perm⟩
end
/-! ### the law -/
theorem vals_of_ints : ∀ {vs : List Value} {ns : List Int}, IntsAre vs ns → Vals (ns.map V.int) vs
  | _, _, .nil => .nil
  | _, _, .cons n t h => .cons ⟨t, rfl⟩ (vals_of_ints h)
theorem reps_of_ints {K : PySem.W.Frag} {ι : List Addr} {H : Hp} : ∀ ns : List Int, Reps K ι H (ns.map W.int) (ns.map V.int)
  | [] => rfl
  | n :: ns => ⟨_, _, rfl, rfl, reps_of_ints ns⟩
/-- what is tracked at the law's call: the script, if the module knows nothing of it -/
def onlyA (K : PySem.W.Frag) (a : Addr) (vs : List Value) (ns : List Int) : Hp := fun b => if b = a ∧ (K.lookup a).isNone = true then some (.frz { cls := .type "list", data := .seq vs.toArray } (.lst (ns.map V.int))) else none
section
variable {P : Program} {w : World} {K : PySem.W.Frag} {mg mb : Str → Option Value} {ca : Nat → Addr} {k : Nat} {fa a : Addr} {fd : FuncData} {s₁ : Shared} {vs : List Value} {ns : List Int} {x : Str} {G : List W → IH → Out W}
/-- the law's def, called with a script, answers True -/
theorem law_go (KX : K.In s₁.heap) (hns : s₁.heap.Ns mainGlobals mg) (hb : s₁.heap.Ns builtinsNs mb) (hbb : ∀ y : Str, y ≠ "__name__" → mb y = bootBuiltins y) (hlim : s₁.heap.NoLimit) (hg : s₁.gens = #[])
    (ha : s₁.heap.get? a = some { cls := .type "list", data := .seq vs.toArray }) (hi : IntsAre vs ns) (hl : ns.length ≤ sizeLine) (hr : Room k callerA)
    (hF : ∀ base : Heap, K.In base → base.Ns mainGlobals mg → FnG P w K mg base k fa fd [x] (spG ⟨K, ca⟩ 1 G)) (hbind : ∀ (s : Shared) (u : Value), BindsTo s fd ⟨[u], []⟩ [(x, u)])
    (law : ∃ hp, G [.ref 0] [.flst (ns.map W.int)] = .ok (.bl true) hp) :
    codeAny (model P w) callerA (.call (.ref fa) ⟨[.ref a], []⟩) (fun r s' => r = .ok (.ret (.bool true)) ∧ OldK s₁.heap s'.heap ∧ s'.os = s₁.os ∧ AllBare s'.gens) s₁ := by
  have rv := vals_of_ints hi
  have lenV := hi.length
  obtain ⟨H, eH⟩ : ∃ H, H = onlyA K a vs ns := ⟨_, rfl⟩
  have tracked : ∀ b u, H b = some u → b = a ∧ K.lookup a = none ∧ u = .frz { cls := .type "list", data := .seq vs.toArray } (.lst (ns.map V.int)) := fun b u e => by
    rw [eH] at e
    unfold onlyA at e
    split at e
    · rename_i c
      exact ⟨c.1, by simpa using c.2, (Option.some.inj e).symm⟩
    · cases e
  have free : ∀ b o, s₁.heap.get? b = some o → (b = a → K.lookup a ≠ none) → H b = none := fun b o e n => by
    cases q : H b with
    | none => rfl
    | some u =>
      obtain ⟨h1, h2, _⟩ := tracked b u q
      exact absurd h2 (n h1)
  have notA : ∀ b o es ep, s₁.heap.get? b = some o → o.data = .dict es ep → b ≠ a := fun b o es ep e d => by
    rintro rfl
    rw [ha] at e
    cases e
    cases d
  have nsB : ∀ {b : Addr} {m : Str → Option Value}, s₁.heap.Ns b m → (hidT s₁.heap H).Ns b m := fun {b m} ⟨o, es, ep, e, d, r⟩ =>
    ⟨o, es, ep, hidT_get e (free b o e fun z => absurd z (notA b o es ep e d)), d, r⟩
  have inB : K.In (hidT s₁.heap H) := fun b o e => hidT_get (KX b o e) (free b o (KX b o e) fun z => by rw [← z, e]; simp)
  have okH : HOk P w H s₁.heap := fun b u e => by
    obtain ⟨rfl, _, rfl⟩ := tracked b u e
    exact ⟨ha, by rw [List.length_map]; exact hl, vs, _, rv, ha⟩
  have modB : Mod K mg (hidT s₁.heap H) := ⟨inB, nsB hns, ⟨mb, nsB hb, hbb⟩, by
    obtain ⟨mc, h1, h2⟩ := hlim
    exact ⟨mc, nsB h1, h2⟩⟩
  have e0 : Env0 P w K mg (hidT s₁.heap H) callerA [] s₁ H := ⟨rfl, modB, fun b o e => of_hidT e, Nat.le_of_eq (hidT_size _ _), trivial, fun b z => (nomatch z), okH, .of_eq hg⟩
  have fz : FzL K H a (ns.map V.int) := by
    cases q : K.lookup a with
    | none =>
      refine .inl ⟨{ cls := .type "list", data := .seq vs.toArray }, ?_⟩
      rw [eH]
      exact if_pos ⟨rfl, by rw [q]; rfl⟩
    | some o =>
      have e := KX a o q
      rw [ha] at e
      cases e
      exact .inr ⟨_, vs.toArray, _, q, rfl, rfl, rfl, by rw [List.size_toArray, lenV]; exact hl, by simpa using rv⟩
  have sim : Sim K [a] [.flst (ns.map W.int)] H := ⟨rfl, fun i j b us ws e1 e2 e3 e4 => by
    match i, e3 with
    | 0, e3 => simp at e3
    | i + 1, e3 => simp at e3, fun n b o e1 e2 => by
    match n, e1, e2 with
    | 0, e1, e2 =>
      cases e1
      cases e2
      exact ⟨_, fz, reps_of_ints ns⟩
    | n + 1, e1, e2 => simp at e1⟩
  have asked : spG ⟨K, ca⟩ 1 G [.ref a] H (fun v _ => v = .bl true) fun _ _ _ => False := by
    refine ⟨rfl, [a], [.ref 0], _, sim, ⟨_, _, rfl, ⟨a, rfl, rfl⟩, rfl⟩, ?_⟩
    obtain ⟨hp, e⟩ := law
    rw [e]
    exact fun v H' ι' _ _ r => r
  refine codeAny_mono ((hF _ inB (nsB hns)).go callerA [] s₁ H ⟨[.ref a], []⟩ [.ref a] [.ref a] _ _ rfl hr e0 (hbind s₁ (.ref a)) (.cons rfl .nil) asked) fun r s' h => ?_
  match r, h with
  | .error e, h =>
    obtain ⟨_, _, _, _, _, _, _, _, _, _, _, _, z⟩ := h
    exact z.elim
  | .ok (.ret u), ⟨v, H', os, bare, un, hok', r', q⟩ =>
    subst q
    obtain rfl : u = Value.bool true := r'
    refine ⟨rfl, OldK.of_keep fun b o e => ?_, os, bare⟩
    cases q : H b with
    | none => exact un.keep b o e q (fun z => nomatch z) (fun z => nomatch z)
    | some u =>
      obtain ⟨rfl, _, rfl⟩ := tracked b u q
      obtain ⟨e1, _⟩ := okH _ _ q
      obtain ⟨e2, _⟩ := hok' _ _ (un.frzs _ _ _ q)
      rw [e] at e1
      cases e1
      exact e2
end
/-- the goal behind the head -/
theorem walk_itp {l : PySem.W.OpenLaw} {n k : Nat} {q : Program} {loose : List Str} {XP : (Str → Option Value) → Heap → Prop} {YP : World → Heap → Prop} {d : DefRec} {K : Params → PySem.W.Frag} {x : Str} {G : List W → IH → Out W} {ca : World → Nat → Addr}
    (hn : l.most = some n) (hn2 : n ≤ sizeLine) (hdf : d.params.defaults = []) (hr : Room k callerA)
    (hY : ∀ (w : World) (h : Heap), YP w h → (K w.params).In h)
    (F : ∀ (w : World) (mg : Str → Option Value) (fa : Addr) (h : Heap), (K w.params).In h → h.Ns mainGlobals mg → mg d.name = some (.ref fa) →
      ∃ fd : FuncData, (∀ (s : Shared) (u : Value), BindsTo s fd ⟨[u], []⟩ [(x, u)]) ∧
        ∀ base : Heap, (K w.params).In base → base.Ns mainGlobals mg → FnG l.prog w (K w.params) mg base k fa fd [x] (spG ⟨K w.params, ca w⟩ 1 G))
    (law : ∀ ns : List Int, ns.length ≤ n → ∃ hp, G [.ref 0] [.flst (ns.map W.int)] = .ok (.bl true) hp) :
    PySem.W.WalkO q loose XP YP l.row.toRowW d [] (fun f vs => PySem.call f vs) := by
  refine Att.attach_call hn hdf fun w s₀ s₁ mg mb fa o pm cd doc a vs ns Gr Y ho hd hcd hmg hobj hints hlen hg => ?_
  obtain ⟨fd, hb, hF⟩ := F w mg fa _ (hY w _ Y) Gr.T.g hmg
  exact law_go (hY w _ Y) Gr.T.g Gr.T.b Gr.T.builtins Gr.T.nolimit hg hobj hints (Nat.le_trans hlen hn2) hr hF hb (law ns hlen)
end Itp

set_option Elab.async false
set_option linter.all false
set_option autoImplicit false
set_option maxRecDepth 100000
set_option maxHeartbeats 8000000
/-! Itp, part N: a row of defs, each running over the earlier ones; what is left behind is forgotten at each return. -/
namespace Itp
open PySem PySem.Spec PyProof.Rows L2
/-- what a return may forget: nothing that was there leads to what is new, and neither does the answer -/
def Clean (hp : IH) (w : W) (hp' : IH) : Prop := hp.length ≤ hp'.length ∧ bndW hp.length w = true ∧ ∀ i, i < hp.length → hp'[i]? = hp[i]? ∨ ∃ o, hp'[i]? = some o ∧ bndO hp.length o = true
open Classical in
noncomputable def fin (cl : Bool) (hp : IH) (o : Out W) : Out W := match cl, o with
  | true, .ok w hp' => if Clean hp w hp' then .ok w (hp'.take hp.length) else .ok w hp'
  | _, o => o
theorem Clean.bnd {hp hp' : IH} {w : W} (c : Clean hp w hp') (h : bndH hp.length hp = true) : bndH hp.length (hp'.take hp.length) = true := by
  refine List.all_eq_true.mpr fun o ho => ?_
  obtain ⟨i, hi, e⟩ := List.mem_iff_getElem.mp ho
  have hi' : i < hp.length := by
    rw [List.length_take] at hi
    omega
  have e2 : hp'[i]? = some o := by
    rw [List.getElem_take] at e
    rw [List.getElem?_eq_getElem (by have := c.1; omega), e]
  rcases c.2.2 i hi' with q | ⟨o', q, b⟩
  · rw [q] at e2
    exact List.all_eq_true.mp h o (List.mem_of_getElem? e2)
  · rw [q] at e2
    cases e2
    exact b
theorem gc_fin {cl : Bool} {hp : IH} {o : Out W} (h : bndH hp.length hp = true) : GcOut hp.length o (fin cl hp o) := by
  unfold fin
  split
  · rename_i w hp'
    split
    · rename_i c
      have hl : (hp'.take hp.length).length = hp.length := by
        rw [List.length_take]
        exact Nat.min_eq_left c.1
      have e : hp' = hp'.take hp.length ++ hp'.drop hp.length := (List.take_append_drop _ _).symm
      have g := gc_drop (n := hp.length) (w := w) (h := hp'.take hp.length) (g := hp'.drop hp.length) (by omega) (by rw [hl]; exact c.2.1) (by rw [hl]; exact c.bnd h)
      rw [← e] at g
      exact g
    · exact .inl rfl
  · exact .inl rfl
/-- a def of the row -/
structure DC where
  code : List IStm
  n : Nat
  ar : Nat
  gas : Nat
  cl : Bool
noncomputable def envTo (dcs : Nat → DC) : Nat → FEnv
  | 0 => fun _ _ _ => .stuck
  | k + 1 => fun i ws hp => if i = k then (if ws.length = (dcs k).ar then fin (dcs k).cl hp (runB (envTo dcs k) (dcs k).gas (dcs k).code (dcs k).n ws hp) else .stuck) else envTo dcs k i ws hp
noncomputable def G (dcs : Nat → DC) (i : Nat) : List W → IH → Out W := envTo dcs (i + 1) i
theorem env_lt {dcs : Nat → DC} : ∀ {k i : Nat}, i < k → envTo dcs k i = G dcs i
  | 0, _, h => absurd h (Nat.not_lt_zero _)
  | k + 1, i, h => by
    by_cases e : i = k
    · subst e
      rfl
    · rw [← env_lt (show i < k by omega)]
      funext ws hp
      show (if i = k then _ else _) = _
      rw [if_neg e]
theorem G_eq {dcs : Nat → DC} {i : Nat} {ws : List W} {hp : IH} (h : ws.length = (dcs i).ar) : G dcs i ws hp = fin (dcs i).cl hp (runB (envTo dcs i) (dcs i).gas (dcs i).code (dcs i).n ws hp) := by
  show (if i = i then _ else _) = _
  rw [if_pos rfl, if_pos h]
section
variable {P : Program} {w : World} {K : PySem.W.Frag} {mg : Str → Option Value} {base : Heap} {ca : Nat → Addr} {dcs : Nat → DC}
def DefsOk (P : Program) (w : World) (K : PySem.W.Frag) (mg : Str → Option Value) (base : Heap) (ca : Nat → Addr) (dcs : Nat → DC) (fs : List FI) : Prop := ∀ (j : Nat) (fi : FI), fs[j]? = some fi → DefOk P w K mg base ca fi (G dcs j)
theorem defs_nil : DefsOk P w K mg base ca dcs [] := fun j fi h => by simp at h
theorem defs_snoc {fs : List FI} {fi : FI} (h : DefsOk P w K mg base ca dcs fs) (d : DefOk P w K mg base ca fi (G dcs fs.length)) : DefsOk P w K mg base ca dcs (fs ++ [fi]) := fun j f e => by
  by_cases hj : j < fs.length
  · rw [List.getElem?_append_left hj] at e
    exact h j f e
  · have hj2 : j = fs.length := by
      have := (List.getElem?_eq_some_iff.mp e).1
      simp at this
      omega
    subst hj2
    rw [List.getElem?_append_right (Nat.le_refl _), Nat.sub_self] at e
    cases e
    exact d
theorem def_ar {k n : Nat} (har : n = (dcs k).ar) : ∀ ws hp, G dcs k ws hp ≠ .stuck → ws.length = n := fun ws hp h => by
  rw [har]
  by_cases e : ws.length = (dcs k).ar
  · exact e
  · refine absurd ?_ h
    show (if _ then (if _ then _ else _) else _) = _
    rw [if_pos rfl, if_neg e]
/-- the i-th def of the row, run -/
theorem def_g {qual : Str} {st : Stmt} {fa : Addr} {fd : FuncData} {c : Itp.Ctx} {n : Nat} {i : FI} (A : DefsOk P w K mg base ca dcs c.fns) (Fn : L2.Fun K i.name qual st fa fd)
    (S : FnScope c.N i.ps (defScope st)) (hsc : c.sc = defScope st) (hlev : i.lev = c.fns.length + 1) (hlevs : ∀ fi ∈ c.fns, fi.lev ≤ c.fns.length) (T : TopOk K mg c.glb c.blt)
    (hcode : cSs n c (defBody st) = (dcs c.fns.length).code) (hn : c.N.length = (dcs c.fns.length).n) (har : i.ps.length = (dcs c.fns.length).ar) : FnG P w K mg base i.lev fa fd i.ps (spG ⟨K, ca⟩ i.ps.length (G dcs c.fns.length)) := by
  refine fnOk_of (F := envTo dcs c.fns.length) (c := c) (n := n) Fn S hsc hlev T (fun j fi h => ?_) fun ws hp h1 h2 h3 => ?_
  · have hj := (List.getElem?_eq_some_iff.mp h).1
    rw [env_lt hj]
    exact ⟨A j fi h, hlevs fi (List.mem_of_getElem? h)⟩
  · refine ⟨(dcs c.fns.length).gas, ?_⟩
    rw [hcode, hn, G_eq (by rw [def_ar har ws hp h3, har])]
    exact gc_fin h2
/-- .. as the later ones may call it -/
theorem def_mk {qual : Str} {st : Stmt} {fa : Addr} {fd : FuncData} {c : Itp.Ctx} {n : Nat} {i : FI} (A : DefsOk P w K mg base ca dcs c.fns) (Fn : L2.Fun K i.name qual st fa fd) (hm : mg i.name = some (.ref fa)) (hk : PySem.W.keepIn K (.ref fa) = true)
    (hb : Binds K fd i.ps []) (hq : ∀ q ∈ i.kwp, KBn K fd i.ps q.1 q.2.1 (fun us ws => pm q.2.2 (us ++ ws)) (fun vs zs => pm q.2.2 (vs ++ zs)))
    (S : FnScope c.N i.ps (defScope st)) (hsc : c.sc = defScope st) (hlev : i.lev = c.fns.length + 1) (hlevs : ∀ fi ∈ c.fns, fi.lev ≤ c.fns.length) (T : TopOk K mg c.glb c.blt)
    (hcode : cSs n c (defBody st) = (dcs c.fns.length).code) (hn : c.N.length = (dcs c.fns.length).n) (har : i.ps.length = (dcs c.fns.length).ar) : DefOk P w K mg base ca i (G dcs c.fns.length) :=
  ⟨def_ar har, fa, fd, hm, hk, hb, hq, def_g A Fn S hsc hlev hlevs T hcode hn har⟩
end
/-! ### constants of the top -/
def GlbOk (K : PySem.W.Frag) (mg : Str → Option Value) (l : List (Str × W)) : Prop := ∀ (x : Str) (w : W), (x, w) ∈ l → ∃ u v, mg x = some u ∧ RelV v u ∧ ∀ ι H, Rep K ι H w v
section
variable {K : PySem.W.Frag} {mg : Str → Option Value} {x : Str} {l : List (Str × W)}
theorem glb_nil : GlbOk K mg [] := fun _ _ h => nomatch h
theorem glb_cons {w : W} {u : Value} {v : V} (hm : mg x = some u) (r : RelV v u) (p : ∀ ι H, Rep K ι H w v) (t : GlbOk K mg l) : GlbOk K mg ((x, w) :: l) := fun y z h => by
  cases h with
  | head => exact ⟨u, v, hm, r, p⟩
  | tail _ h => exact t y z h
theorem glb_int {i : Int} {t : Tok} (hm : mg x = some (.int i t)) (r : GlbOk K mg l) : GlbOk K mg ((x, .int i) :: l) := glb_cons (v := .int i) hm ⟨t, rfl⟩ (fun _ _ => rfl) r
theorem glb_str {i : Str} {t : Tok} (hm : mg x = some (.str i t)) (r : GlbOk K mg l) : GlbOk K mg ((x, .str i) :: l) := glb_cons (v := .str i) hm ⟨t, rfl⟩ (fun _ _ => rfl) r
theorem glb_bool {i : Bool} (hm : mg x = some (.bool i)) (r : GlbOk K mg l) : GlbOk K mg ((x, .bl i) :: l) := glb_cons (v := .bl i) hm rfl (fun _ _ => rfl) r
/-- a tuple of the top whose items are known -/
theorem krep_tup {ws : List W} {xs : List V} {a : Addr} {o : Obj} {its : Array Value} {n : Nat} (e : K.lookup a = some o) (c : o.cls = .type "tuple") (d : o.data = .seq its n) (z : its.size ≤ sizeLine) (r : Vals xs its.toList) (h : ∀ ι H, Reps K ι H ws xs) :
    ∀ ι H, Rep K ι H (.tup ws) (.ref a) := fun ι H => ⟨a, xs, rfl, .inr ⟨o, its, n, e, c, d, z, r⟩, h ι H⟩
theorem relI (i : Int) (t : Tok) : RelV (.int i) (.int i t) := ⟨t, rfl⟩
theorem relS (i : Str) (t : Tok) : RelV (.str i) (.str i t) := ⟨t, rfl⟩
theorem relB (i : Bool) : RelV (.bl i) (.bool i) := rfl
theorem relN : RelV .non .none := rfl
theorem relR (a : Addr) : RelV (.ref a) (.ref a) := rfl
theorem krep_nil : ∀ ι H, Reps K ι H [] [] := fun _ _ => rfl
theorem krep_cons {w : W} {ws : List W} {v : V} {vs : List V} (h : ∀ ι H, Rep K ι H w v) (t : ∀ ι H, Reps K ι H ws vs) : ∀ ι H, Reps K ι H (w :: ws) (v :: vs) := fun ι H => ⟨v, vs, rfl, h ι H, t ι H⟩
theorem krep_int (i : Int) : ∀ ι H, Rep K ι H (.int i) (.int i) := fun _ _ => rfl
theorem krep_str (i : Str) : ∀ ι H, Rep K ι H (.str i) (.str i) := fun _ _ => rfl
theorem krep_bl (i : Bool) : ∀ ι H, Rep K ι H (.bl i) (.bl i) := fun _ _ => rfl
theorem krep_non : ∀ ι H, Rep K ι H .non .non := fun _ _ => rfl
end
/-! ### how a return reads -/
theorem fin_ok {hp h g : IH} {w : W} (hl : h.length = hp.length) (hw : bndW hp.length w = true) (hc : ∀ i, i < hp.length → h[i]? = hp[i]? ∨ ∃ o, h[i]? = some o ∧ bndO hp.length o = true) : fin true hp (.ok w (h ++ g)) = .ok w h := by
  have c : Clean hp w (h ++ g) := ⟨by rw [List.length_append]; omega, hw, fun i hi => by
    rw [List.getElem?_append_left (by omega)]
    exact hc i hi⟩
  unfold fin
  dsimp only
  rw [if_pos c, ← hl, List.take_left]
theorem fin_same {hp g : IH} {w : W} (hw : bndW hp.length w = true) : fin true hp (.ok w (hp ++ g)) = .ok w hp := fin_ok rfl hw fun _ _ => .inl rfl
theorem fin_same0 {hp : IH} {w : W} (hw : bndW hp.length w = true) : fin true hp (.ok w hp) = .ok w hp := by
  have h := fin_same (hp := hp) (g := []) hw
  rwa [List.append_nil] at h
theorem fin_set {hp g : IH} {w : W} {k : Nat} {o : IO} (hw : bndW hp.length w = true) (ho : bndO hp.length o = true) : fin true hp (.ok w (hp.set k o ++ g)) = .ok w (hp.set k o) := by
  refine fin_ok (List.length_set ..) hw fun i hi => ?_
  by_cases e : k = i
  · subst e
    exact .inr ⟨o, List.getElem?_set_self hi, ho⟩
  · exact .inl (List.getElem?_set_ne e)
theorem fin_set0 {hp : IH} {w : W} {k : Nat} {o : IO} (hw : bndW hp.length w = true) (ho : bndO hp.length o = true) : fin true hp (.ok w (hp.set k o)) = .ok w (hp.set k o) := by
  have h := fin_set (hp := hp) (g := []) (k := k) hw ho
  rwa [List.append_nil] at h
theorem fin_f {hp : IH} {o : Out W} : fin false hp o = o := by unfold fin; rfl
end Itp

set_option Elab.async false
set_option linter.all false
set_option autoImplicit false
set_option maxRecDepth 100000
set_option maxHeartbeats 4000000
/-! Itp, part Q: sizes of whole numbers, fractions as pairs. -/
namespace Itp
open PySem PySem.Spec PyProof.Rows L2
/-- fewer than so many bits -/
def B (k : Nat) (x : Int) : Prop := x.natAbs < 2 ^ k
theorem B.mono {k l : Nat} {x : Int} (h : B k x) (q : k ≤ l) : B l x := Nat.lt_of_lt_of_le h (Nat.pow_le_pow_right (by decide) q)
theorem B.mul {k l : Nat} {x y : Int} (h : B k x) (q : B l y) : B (k + l) (x * y) := by
  unfold B
  rw [Int.natAbs_mul, Nat.pow_add]
  exact Nat.mul_lt_mul'' h q
theorem B.neg {k : Nat} {x : Int} (h : B k x) : B k (-x) := by
  unfold B
  rw [Int.natAbs_neg]
  exact h
theorem B.add {k l m : Nat} {x y : Int} (h : B k x) (q : B l y) (h1 : k + 1 ≤ m) (h2 : l + 1 ≤ m) : B m (x + y) := by
  have a := h.mono (show k ≤ m - 1 by omega)
  have b := q.mono (show l ≤ m - 1 by omega)
  unfold B at *
  have e : 2 ^ m = 2 * 2 ^ (m - 1) := by
    rw [← Nat.pow_succ']
    congr 1
    omega
  have := Int.natAbs_add_le x y
  omega
theorem B.sub {k l m : Nat} {x y : Int} (h : B k x) (q : B l y) (h1 : k + 1 ≤ m) (h2 : l + 1 ≤ m) : B m (x - y) := by
  rw [Int.sub_eq_add_neg]
  exact h.add q.neg h1 h2
theorem B.abs {k : Nat} {x y : Int} (h : B k x) (q : y.natAbs ≤ x.natAbs) : B k y := Nat.lt_of_le_of_lt q h
theorem B.log2 {k : Nat} {x : Int} (h : B k x) : x.natAbs.log2 ≤ k := by
  by_cases e : x.natAbs = 0
  · rw [e]
    exact Nat.zero_le _
  · exact Nat.le_of_lt ((Nat.log2_lt e).mpr h)
theorem mulOk_of {k l : Nat} {x y : Int} (h : B k x) (q : B l y) (z : k + l < 134000000) : mulOk x y = true := by
  have a := h.log2
  have b := q.log2
  exact decide_eq_true (by omega)
theorem noPy {k : Nat} {x y : Int} (h : B k y) (z : k < 9000) : Builtin.divisionGoesByPylong x y = false := PyProof.noPylong_of_log2 (by have := h.log2; omega)
theorem B.small {x : Int} {k : Nat} (h : x.natAbs < 2 ^ k) : B k x := h
/-- a fraction as the program has it -/
def frW (r : Rat) : W := .tup [.int r.num, .int (r.den : Int)]
def okR (k : Nat) (r : Rat) : Prop := B k r.num ∧ B k (r.den : Int)
theorem okR.mono {k l : Nat} {r : Rat} (h : okR k r) (q : k ≤ l) : okR l r := ⟨h.1.mono q, h.2.mono q⟩
theorem natAbs_div_le (a : Int) (n : Nat) : (a / (n : Int)).natAbs ≤ a.natAbs := by
  have := Int.natAbs_ediv_le_natAbs a n
  exact this
theorem okR_divInt {k : Nat} {t b : Int} (h1 : B k t) (h2 : B k b) (hb : b ≠ 0) : okR k (Rat.divInt t b) := by
  constructor
  · rw [Rat.num_divInt]
    refine h1.abs (Nat.le_trans (natAbs_div_le _ _) ?_)
    rw [Int.natAbs_mul, Int.natAbs_sign_of_ne_zero hb, Nat.one_mul]
    exact Nat.le_refl _
  · rw [Rat.den_divInt, if_neg hb]
    refine h2.abs ?_
    show Int.natAbs ((b.natAbs / b.gcd t : Nat) : Int) ≤ b.natAbs
    rw [Int.natAbs_natCast]
    exact Nat.div_le_self _ _
theorem rat_add (r s : Rat) : r + s = Rat.divInt (r.num * s.den + s.num * r.den) (r.den * s.den) := by
  rw [← Rat.divInt_add_divInt _ _ (by exact_mod_cast r.den_nz) (by exact_mod_cast s.den_nz), Rat.num_divInt_den, Rat.num_divInt_den]
theorem rat_sub (r s : Rat) : r - s = Rat.divInt (r.num * s.den - s.num * r.den) (r.den * s.den) := by
  rw [← Rat.divInt_sub_divInt _ _ (by exact_mod_cast r.den_nz) (by exact_mod_cast s.den_nz), Rat.num_divInt_den, Rat.num_divInt_den]
theorem rat_mul (r s : Rat) : r * s = Rat.divInt (r.num * s.num) (r.den * s.den) := by
  rw [← Rat.divInt_mul_divInt, Rat.num_divInt_den, Rat.num_divInt_den]
theorem rat_div (r s : Rat) : r / s = Rat.divInt (r.num * s.den) (r.den * s.num) := by
  rw [Rat.div_def, ← Rat.num_divInt_den s, Rat.inv_divInt, ← Rat.divInt_mul_divInt, Rat.num_divInt_den, Rat.num_divInt_den]
theorem den_ne (r : Rat) : (r.den : Int) ≠ 0 := by exact_mod_cast r.den_nz
theorem okR_add {k : Nat} {r s : Rat} (h : okR k r) (q : okR k s) : okR (2 * k + 1) (r + s) := by
  rw [rat_add]
  refine okR_divInt ((h.1.mul q.2).add (q.1.mul h.2) (by omega) (by omega)) ((h.2.mul q.2).mono (by omega)) (Int.mul_ne_zero (den_ne r) (den_ne s))
theorem okR_sub {k : Nat} {r s : Rat} (h : okR k r) (q : okR k s) : okR (2 * k + 1) (r - s) := by
  rw [rat_sub]
  refine okR_divInt ((h.1.mul q.2).sub (q.1.mul h.2) (by omega) (by omega)) ((h.2.mul q.2).mono (by omega)) (Int.mul_ne_zero (den_ne r) (den_ne s))
theorem okR_mul {k : Nat} {r s : Rat} (h : okR k r) (q : okR k s) : okR (2 * k + 1) (r * s) := by
  rw [rat_mul]
  exact okR_divInt ((h.1.mul q.1).mono (by omega)) ((h.2.mul q.2).mono (by omega)) (Int.mul_ne_zero (den_ne r) (den_ne s))
theorem okR_div {k : Nat} {r s : Rat} (h : okR k r) (q : okR k s) (hs : s.num ≠ 0) : okR (2 * k + 1) (r / s) := by
  rw [rat_div]
  exact okR_divInt ((h.1.mul q.2).mono (by omega)) ((h.2.mul q.1).mono (by omega)) (Int.mul_ne_zero (den_ne r) hs)
theorem rat_ext {r s : Rat} (h1 : r.num = s.num) (h2 : r.den = s.den) : r = s := Rat.ext h1 h2
theorem rat_gcd (r : Rat) : Int.gcd r.num r.den = 1 := r.reduced
/-- the same as so much over so much -/
theorem rat_is {r : Rat} {t b : Int} (hb : b ≠ 0) : r.num * b = t * r.den ↔ r = Rat.divInt t b := by
  rw [← Rat.divInt_eq_divInt_iff (den_ne r) hb, Rat.num_divInt_den]
end Itp

set_option Elab.async false
set_option linter.all false
set_option autoImplicit false
set_option maxRecDepth 100000
set_option maxHeartbeats 4000000
/-! Itp, part L: how operations on plain values read. -/
namespace Itp
open PySem PySem.Spec PyProof.Rows L2
section
variable {hp : IH} {i j : Int} {s t : Str} {b c : Bool} {ws us : List W} {n : Nat} {r q : Rat}
@[simp] theorem dat_non : dat hp (n + 1) .non = some .none := rfl
@[simp] theorem dat_bl : dat hp (n + 1) (.bl b) = some (.bool b) := rfl
@[simp] theorem dat_int : dat hp (n + 1) (.int i) = some (.int i) := rfl
@[simp] theorem dat_str : dat hp (n + 1) (.str s) = some (.str s) := rfl
@[simp] theorem dat_tup : dat hp (n + 1) (.tup ws) = (allSome (dat hp n) ws).map .tuple := rfl
theorem dat_ref {k : Nat} (h : hp[k]? = some (.lst ws)) : dat hp (n + 1) (.ref k) = (allSome (dat hp n) ws).map .list := by
  show (match hp[k]? with
    | some (.lst ws) => (allSome (dat hp n) ws).map PyData.list
    | some (.flst ws) => (allSome (dat hp n) ws).map PyData.list
    | none => none) = _
  rw [h]
@[simp] theorem allSome_nil {α β : Type} {f : α → Option β} : allSome f [] = some [] := rfl
@[simp] theorem allSome_cons {α β : Type} {f : α → Option β} {x : α} {xs : List α} : allSome f (x :: xs) = (match f x, allSome f xs with
    | some y, some ys => some (y :: ys)
    | _, _ => none) := rfl
@[simp] theorem eqF_int : eqF (.int i) (.int j) hp = some (decide (i = j)) := by
  show (if SeqAt.shaped (.int i) = true ∧ SeqAt.shaped (.int j) = true then some (i == j) else none) = _
  rw [if_pos ⟨rfl, rfl⟩]
  rfl
@[simp] theorem eqF_str : eqF (.str s) (.str t) hp = some (decide (s = t)) := rfl
@[simp] theorem eqF_bl : eqF (.bl b) (.bl c) hp = some (b == c) := by
  show (if SeqAt.shaped (.bool b) = true ∧ SeqAt.shaped (.bool c) = true then some (b == c) else none) = _
  rw [if_pos ⟨rfl, rfl⟩]
theorem eqF_two {k l : Int} : eqF (.tup [.int i, .int j]) (.tup [.int k, .int l]) hp = some (decide (i = k ∧ j = l)) := by
  show (if SeqAt.shaped (.tuple [.int i, .int j]) = true ∧ SeqAt.shaped (.tuple [.int k, .int l]) = true then some (i == k && (j == l && true)) else none) = _
  rw [if_pos ⟨rfl, rfl⟩]
  by_cases h1 : i = k <;> by_cases h2 : j = l <;> simp [h1, h2]
@[simp] theorem eqF_fr : eqF (frW r) (frW q) hp = some (decide (r = q)) := by
  unfold frW
  rw [eqF_two]
  congr 1
  refine decide_eq_decide.mpr ⟨fun h => Rat.ext h.1 (by exact_mod_cast h.2), fun h => by subst h; exact ⟨rfl, rfl⟩⟩
@[simp] theorem truth_non : truth hp .non = some false := rfl
@[simp] theorem truth_bl : truth hp (.bl b) = some b := rfl
@[simp] theorem truth_int : truth hp (.int i) = some (i != 0) := rfl
@[simp] theorem truth_tup : truth hp (.tup ws) = some (!ws.isEmpty) := rfl
@[simp] theorem tyName_int : tyName hp (.int i) = some "int" := rfl
@[simp] theorem tyName_non : tyName hp .non = some "NoneType" := rfl
@[simp] theorem tyName_bl : tyName hp (.bl b) = some "bool" := rfl
@[simp] theorem tyName_str : tyName hp (.str s) = some "str" := rfl
@[simp] theorem tyName_tup : tyName hp (.tup ws) = some "tuple" := rfl
theorem tyName_ref {k : Nat} {o : IO} (h : hp[k]? = some o) : tyName hp (.ref k) = some "list" := by unfold tyName; simp only [h]
@[simp] theorem bndW_int {m : Nat} : bndW m (.int i) = true := by unfold bndW; rfl
@[simp] theorem bndW_bl {m : Nat} : bndW m (.bl b) = true := by unfold bndW; rfl
@[simp] theorem bndW_non {m : Nat} : bndW m .non = true := by unfold bndW; rfl
@[simp] theorem bndW_str {m : Nat} : bndW m (.str s) = true := by unfold bndW; rfl
@[simp] theorem bndW_tup {m : Nat} : bndW m (.tup ws) = bndWs m ws := by conv => lhs; unfold bndW
@[simp] theorem bndWs_nil {m : Nat} : bndWs m [] = true := by unfold bndWs; rfl
@[simp] theorem bndWs_cons {m : Nat} {w : W} : bndWs m (w :: ws) = (bndW m w && bndWs m ws) := by conv => lhs; unfold bndWs
@[simp] theorem bndW_fr {m : Nat} : bndW m (frW r) = true := by unfold frW; simp
@[simp] theorem bndO_lst {m : Nat} : bndO m (.lst ws) = bndWs m ws := rfl
@[simp] theorem itemsOf_tup : itemsOf hp (.tup ws) = some ws := rfl
@[simp] theorem frW_sub0 : subF (frW r) (.int 0) hp = some (.int r.num, hp) := rfl
@[simp] theorem frW_sub1 : subF (frW r) (.int 1) hp = some (.int r.den, hp) := rfl
@[simp] theorem tyName_fr : tyName hp (frW r) = some "tuple" := rfl
@[simp] theorem itemsOf_fr : itemsOf hp (frW r) = some [.int r.num, .int r.den] := rfl
@[simp] theorem sub_int0 {w : W} : subF (.tup (w :: ws)) (.int 0) hp = some (w, hp) := by
  show (atI (w :: ws) 0).map _ = _
  rw [show atI (w :: ws) 0 = some w from atI_nat (j := 0) rfl]
  rfl
@[simp] theorem sub_int1 {w v : W} : subF (.tup (w :: v :: ws)) (.int 1) hp = some (v, hp) := by
  show (atI (w :: v :: ws) 1).map _ = _
  rw [show atI (w :: v :: ws) 1 = some v from atI_nat (j := 1) rfl]
  rfl
@[simp] theorem bf_abs : bfF .abs [.int i] hp = some (.int (i.natAbs : Int), hp) := by
  show some (W.int (if i < 0 then -i else i), hp) = _
  congr 3
  split <;> omega
@[simp] theorem bf_len_tup : bfF .len [.tup ws] hp = some (.int ws.length, hp) := rfl
@[simp] theorem bf_len_fr : bfF .len [frW r] hp = some (.int 2, hp) := rfl
theorem bf_len_ref {k : Nat} (h : hp[k]? = some (.lst ws)) : bfF .len [.ref k] hp = some (.int ws.length, hp) := by
  show (itemsOf hp (.ref k)).map _ = _
  unfold itemsOf
  simp only [h]
  rfl
theorem items_ref {k : Nat} (h : hp[k]? = some (.lst ws)) : itemsOf hp (.ref k) = some ws := by
  unfold itemsOf
  simp only [h]
theorem sub_ref {k : Nat} {i : Int} (h : hp[k]? = some (.lst ws)) : subF (.ref k) (.int i) hp = (atI ws i).map fun w => (w, hp) := by
  unfold subF
  simp only [h]
theorem sub_fref {k : Nat} {i : Int} (h : hp[k]? = some (.flst ws)) : subF (.ref k) (.int i) hp = (atI ws i).map fun w => (w, hp) := by
  unfold subF
  simp only [h]
theorem set_ref {k : Nat} {i : Int} {v : W} (h : hp[k]? = some (.lst ws)) : setF (.ref k) (.int i) v hp = (ixN ws.length i).map fun j => hp.set k (.lst (ws.set j v)) := by
  unfold setF
  simp only [h]
theorem all_ref {k : Nat} {bs : List Bool} (h : hp[k]? = some (.lst ws)) (h2 : boolsOf ws = some bs) : bfF .all [.ref k] hp = some (.bl (bs.all id), hp) := by
  unfold bfF
  simp only [h, h2]
  rfl
theorem bools_map {α : Type} (l : List α) (f : α → Bool) : boolsOf (l.map fun x => .bl (f x)) = some (l.map f) := by
  induction l with
  | nil => rfl
  | cons x l ih =>
    show (boolsOf (l.map fun x => .bl (f x))).map (f x :: ·) = _
    rw [ih]
    rfl
theorem bools_true : ∀ (l : List W), (∀ w ∈ l, w = .bl true) → ∃ bs, boolsOf l = some bs ∧ bs.all id = true
  | [], _ => ⟨[], rfl, rfl⟩
  | w :: l, h => by
    obtain ⟨bs, e, q⟩ := bools_true l fun w hw => h w (List.mem_cons_of_mem _ hw)
    obtain rfl := h w (List.mem_cons_self ..)
    refine ⟨true :: bs, ?_, by simpa using q⟩
    show (boolsOf l).map (true :: ·) = _
    rw [e]
    rfl
@[simp] theorem set_last {o p : IO} : (hp ++ [o]).set hp.length p = hp ++ [p] := by
  rw [List.set_append_right _ _ (Nat.le_refl _), Nat.sub_self]
  rfl
@[simp] theorem get_last {o : IO} : (hp ++ [o])[hp.length]? = some o := by
  rw [List.getElem?_append_right (Nat.le_refl _), Nat.sub_self]
  rfl
theorem bin_pow {e : Nat} (h1 : e ≤ 1000000) (h2 : i.natAbs < 2 ^ 64) : binF .Pow (.int i) (.int (e : Int)) hp = some (.int (i ^ e), hp) := by
  show (if 0 ≤ (e : Int) ∧ (e : Int) ≤ 1000000 ∧ i.natAbs < 2 ^ 64 then _ else none) = _
  rw [if_pos ⟨by omega, by omega, h2⟩]
  rfl
@[simp] theorem iterOf_tup : iterOf (.tup ws) hp = some (.tupR ws) := rfl
@[simp] theorem iterOf_fr : iterOf (frW r) hp = some (.tupR [.int r.num, .int r.den]) := rfl
theorem iterOf_ref {k : Nat} {o : IO} (h : hp[k]? = some o) : iterOf (.ref k) hp = some (.lstR k) := by
  unfold iterOf
  simp only [h]
@[simp] theorem cur_tup {k : Nat} : cur (.tupR ws) k hp = some ws[k]? := rfl
@[simp] theorem itLen_tup : itLen (.tupR ws) hp = ws.length := rfl
@[simp] theorem cur_rng {l : Int} {m k : Nat} : cur (.rng l m) k hp = some (if k < m then some (.int (l + k)) else none) := rfl
@[simp] theorem itLen_rng {l : Int} {m : Nat} : itLen (.rng l m) hp = m := rfl
theorem cur_lst {k i : Nat} (h : hp[k]? = some (.lst ws)) : cur (.lstR k) i hp = some ws[i]? := by
  unfold cur
  simp only [h]
theorem itLen_lst {k : Nat} (h : hp[k]? = some (.lst ws)) : itLen (.lstR k) hp = ws.length := by
  unfold itLen
  simp only [h]
@[simp] theorem bf_tInt : bfF .tInt [.int i] hp = some (.int i, hp) := rfl
@[simp] theorem bin_add : binF .Add (.int i) (.int j) hp = some (.int (i + j), hp) := rfl
@[simp] theorem bin_sub : binF .Sub (.int i) (.int j) hp = some (.int (i - j), hp) := rfl
theorem bin_mul (h : mulOk i j = true) : binF .Mult (.int i) (.int j) hp = some (.int (i * j), hp) := by
  show (if mulOk i j = true then _ else none) = _
  rw [if_pos h]
theorem bin_div (h : 0 < j) (h2 : Builtin.divisionGoesByPylong i j = false) : binF .FloorDiv (.int i) (.int j) hp = some (.int (i / j), hp) := by
  show (if 0 < j ∧ Builtin.divisionGoesByPylong i j = false then _ else none) = _
  rw [if_pos ⟨h, h2⟩]
theorem bin_mod (h : 0 < j) : binF .Mod (.int i) (.int j) hp = some (.int (i % j), hp) := by
  show (if 0 < j then _ else none) = _
  rw [if_pos h]
theorem bf_divmod (h : 0 < j) (h2 : Builtin.divisionGoesByPylong i j = false) : bfF .divmod [.int i, .int j] hp = some (.tup [.int (i / j), .int (i % j)], hp) := by
  show (if 0 < j ∧ Builtin.divisionGoesByPylong i j = false then _ else none) = _
  rw [if_pos ⟨h, h2⟩]
@[simp] theorem cmp_lt : cmpB .Lt (.int i) (.int j) hp = some (decide (i < j)) := rfl
@[simp] theorem cmp_le : cmpB .LtE (.int i) (.int j) hp = some (decide (i ≤ j)) := rfl
@[simp] theorem cmp_gt : cmpB .Gt (.int i) (.int j) hp = some (decide (j < i)) := rfl
@[simp] theorem cmp_ge : cmpB .GtE (.int i) (.int j) hp = some (decide (j ≤ i)) := rfl
@[simp] theorem cmp_eq {x y : W} : cmpB .Eq x y hp = eqF x y hp := rfl
@[simp] theorem cmp_ne {x y : W} : cmpB .NotEq x y hp = (eqF x y hp).map not := rfl
@[simp] theorem cmpF_eq {op : CmpOp} {x y : W} : cmpF op x y hp = (cmpB op x y hp).map fun c => (.bl c, hp) := rfl
@[simp] theorem bf_isi {w : W} {t : String} (h : okTy t = true) : bfF .isinstance [w, .ty t] hp = (tyName hp w).map fun u => (.bl (isTy u t), hp) := by
  show (if okTy t = true then _ else none) = _
  rw [if_pos h]
@[simp] theorem okTy_int : okTy "int" = true := by decide
@[simp] theorem okTy_bool : okTy "bool" = true := by decide
@[simp] theorem okTy_str : okTy "str" = true := by decide
@[simp] theorem okTy_tuple : okTy "tuple" = true := by decide
@[simp] theorem okTy_list : okTy "list" = true := by decide
@[simp] theorem small2 : 2 ≤ lineLen := by decide
@[simp] theorem small1 : 1 ≤ lineLen := by decide
@[simp] theorem small0 : 0 ≤ lineLen := by decide
@[simp] theorem small3 : 3 ≤ lineLen := by decide
@[simp] theorem small4 : 4 ≤ lineLen := by decide
@[simp] theorem small5 : 5 ≤ lineLen := by decide
end
theorem gcd_mod (a b : Int) : Int.gcd b (a % b) = Int.gcd a b := by rw [Int.emod_def, Int.gcd_sub_mul_left_right, Int.gcd_comm]
theorem gcd_abs (a b : Int) : Int.gcd (a.natAbs : Int) b = Int.gcd a b := by
  show Nat.gcd _ _ = Nat.gcd _ _
  rw [Int.natAbs_natCast]
theorem gcd_pos {a b : Int} (h : b ≠ 0) : 0 < (Int.gcd a b : Int) := by exact_mod_cast Int.gcd_pos_of_ne_zero_right a h
theorem B_gcd {k : Nat} {a b : Int} (h : B k b) (hb : b ≠ 0) : B k (Int.gcd a b : Int) := by
  refine h.abs ?_
  rw [Int.natAbs_natCast]
  exact Nat.le_of_dvd (by omega) (Nat.gcd_dvd_right _ _)
/-- what is made of a top and a bottom -/
theorem made_pos {t b : Int} (hb : 0 < b) : W.tup [.int (t / (Int.gcd t b : Int)), .int (b / (Int.gcd t b : Int))] = frW (Rat.divInt t b) := by
  have e : b ≠ 0 := by omega
  unfold frW
  rw [Rat.num_divInt, Rat.den_divInt, if_neg e, Int.sign_eq_one_of_pos hb, Int.one_mul, Int.gcd_comm b t]
  have q : (b.natAbs : Int) = b := Int.natAbs_of_nonneg (by omega)
  rw [Int.natCast_ediv, q]
theorem made_neg {t b : Int} (hb : b < 0) : W.tup [.int ((0 - t) / (Int.gcd (0 - t) (0 - b) : Int)), .int ((0 - b) / (Int.gcd (0 - t) (0 - b) : Int))] = frW (Rat.divInt t b) := by
  rw [made_pos (by omega)]
  congr 1
  rw [Int.zero_sub, Int.zero_sub, Rat.neg_divInt_neg]
/-- two by two the rest is halved -/
theorem euclid {α : Type} (Wl : Nat → Int → Int → α) (done : Int → α) (stop : ∀ n a, 0 ≤ a → Wl (n + 1) a 0 = done a) (step : ∀ n a b, 0 ≤ a → 0 < b → Wl (n + 1) a b = Wl n b (a % b)) :
    ∀ (k n : Nat) (a b : Int), 0 ≤ a → 0 ≤ b → B k b → 2 * k + 2 ≤ n → Wl n a b = done (Int.gcd a b) := by
  have stop' : ∀ (n : Nat) (a : Int), 0 ≤ a → 1 ≤ n → Wl n a 0 = done (Int.gcd a 0) := by
    intro n a ha hn
    obtain ⟨m, rfl⟩ : ∃ m, n = m + 1 := ⟨n - 1, by omega⟩
    have e : (a.natAbs : Int) = a := Int.natAbs_of_nonneg ha
    rw [stop m a ha, Int.gcd_zero_right, e]
  intro k
  induction k with
  | zero =>
    intro n a b ha hb hk hn
    obtain rfl : b = 0 := by
      have : b.natAbs < 1 := hk
      omega
    exact stop' n a ha (by omega)
  | succ k ih =>
    intro n a b ha hb hk hn
    by_cases h0 : b = 0
    · subst h0
      exact stop' n a ha (by omega)
    · have hb' : 0 < b := by omega
      obtain ⟨m, rfl⟩ : ∃ m, n = m + 1 + 1 := ⟨n - 2, by omega⟩
      rw [step (m + 1) a b ha hb']
      have h1 : 0 ≤ a % b := Int.emod_nonneg _ h0
      have h2 : a % b < b := Int.emod_lt_of_pos _ hb'
      have g1 : Int.gcd b (a % b) = Int.gcd a b := gcd_mod a b
      by_cases h3 : a % b = 0
      · rw [h3, stop' (m + 1) b hb (by omega)]
        rw [h3] at g1
        rw [g1]
      · have h4 : 0 < a % b := by omega
        rw [step m b (a % b) hb h4, ih m (a % b) (b % (a % b)) h1 (Int.emod_nonneg _ h3) ?_ (by omega)]
        · have g2 : Int.gcd (a % b) (b % (a % b)) = Int.gcd b (a % b) := gcd_mod b (a % b)
          rw [g2, g1]
        · have h5 : b % (a % b) < a % b := Int.emod_lt_of_pos _ h4
          have h6 : 0 ≤ b % (a % b) := Int.emod_nonneg _ h3
          have h7 : b % (a % b) + (a % b) * (b / (a % b)) = b := Int.emod_add_mul_ediv b (a % b)
          have h8 : 1 ≤ b / (a % b) := by
            refine (Int.le_ediv_iff_mul_le h4).mpr ?_
            omega
          have h9 : a % b ≤ (a % b) * (b / (a % b)) := by
            have := Int.mul_le_mul_of_nonneg_left h8 h1
            omega
          unfold B at *
          have : 2 ^ (k + 1) = 2 * 2 ^ k := by rw [Nat.pow_succ']
          omega
/-- a comprehension's turns, one by one -/
theorem comp_run {elt : IS → IH → Out W} {cond : IS → IH → Out Bool} {t : Tgt} {J : Iter} {D : Nat} {ρ : IS} (hc : ∀ ρ hp, cond ρ hp = .ok true hp) (P : Nat → IH → List W → Prop) (n : Nat) (hn : n < lineLen)
    (step : ∀ i hp acc, i < n → hp[D]? = some (.lst acc) → acc.length = i → P i hp acc → ∃ w ρ' y hp2, cur J i hp = some (some w) ∧ asgT t w ρ = some ρ' ∧ elt ρ' hp = .ok y hp2 ∧ hp2[D]? = some (.lst acc) ∧ P (i + 1) (hp2.set D (.lst (acc ++ [y]))) (acc ++ [y]))
    (stop : ∀ hp acc, P n hp acc → cur J n hp = some none) :
    ∀ (k i : Nat) (hp : IH) (acc : List W), i + k = n → hp[D]? = some (.lst acc) → acc.length = i → P i hp acc → ∃ hp' acc', compL elt cond t J D ρ k i hp = .ok (.ref D) hp' ∧ hp'[D]? = some (.lst acc') ∧ acc'.length = n ∧ P n hp' acc' := by
  intro k
  induction k with
  | zero =>
    intro i hp acc h1 h2 h3 h4
    obtain rfl : i = n := by omega
    refine ⟨hp, acc, ?_, h2, h3, h4⟩
    unfold compL
    rw [stop hp acc h4]
  | succ k ih =>
    intro i hp acc h1 h2 h3 h4
    obtain ⟨w, ρ', y, hp2, e1, e2, e3, e4, e5⟩ := step i hp acc (by omega) h2 h3 h4
    have hD : D < hp2.length := (List.getElem?_eq_some_iff.mp e4).1
    obtain ⟨hp', acc', q1, q2⟩ := ih (i + 1) _ _ (by omega) (List.getElem?_set_self hD) (by rw [List.length_append, h3]; rfl) e5
    refine ⟨hp', acc', ?_, q2⟩
    unfold compL
    rw [e1]
    simp only [e2, hc, e3, e4]
    rw [if_pos (by omega)]
    exact q1
theorem ev_comp {F : FEnv} {a : IE} {t : Tgt} {it : IIt} {c : Option IT} {own : List Nat} {ρ : IS} {hp hp1 : IH} {J : Iter} (h : evIt F it ρ hp = .ok J hp1) :
    ev F (.comp a t it c own) ρ hp = compL (ev F a) (tstO F c) t J hp1.length (wipeI ρ own) (itLen J hp1) 0 (hp1 ++ [.lst []]) := by
  simp only [ev, h, Out.bind_ok]
theorem rng_aux {n : Nat} {hp1 : IH} (c : -(2 ^ 62) ≤ (n : Int) ∧ (n : Int) < 2 ^ 62) : (if -(2 ^ 62) ≤ (n : Int) ∧ (n : Int) < 2 ^ 62 then Out.ok (Iter.rng 0 (n : Int).toNat) hp1 else .stuck) = .ok (.rng 0 n) hp1 := by
  rw [if_pos c, Int.toNat_natCast]
theorem evIt_rng {F : FEnv} {n : Nat} {e : IE} {ρ : IS} {hp hp1 : IH} (h : ev F e ρ hp = .ok (.int (n : Int)) hp1) (c : -(2 ^ 62) ≤ (n : Int) ∧ (n : Int) < 2 ^ 62) : evIt F (.rng e) ρ hp = .ok (.rng 0 n) hp1 := by
  have q : evIt F (.rng e) ρ hp = (ev F e ρ hp).bind fun w hp => match w with
    | .int j => if -(2 ^ 62) ≤ j ∧ j < 2 ^ 62 then .ok (.rng 0 j.toNat) hp else .stuck
    | _ => .stuck := by
    rw [evIt.eq_2]
    try congr 1
  rw [q, h, Out.bind_ok]
  exact rng_aux c
/-- a comprehension whose parts change nothing -/
theorem comp_pure {elt : IS → IH → Out W} {cond : IS → IH → Out Bool} {t : Tgt} {J : Iter} {ρ : IS} {hp : IH} (ws : List W) (f : W → W) (hc : ∀ ρ hp, cond ρ hp = .ok true hp) (hl : ws.length < lineLen)
    (hcur : ∀ acc i, cur J i (hp ++ [.lst acc]) = some ws[i]?) (hstep : ∀ w ∈ ws, ∀ acc, ∃ ρ', asgT t w ρ = some ρ' ∧ elt ρ' (hp ++ [.lst acc]) = .ok (f w) (hp ++ [.lst acc])) :
    compL elt cond t J hp.length ρ ws.length 0 (hp ++ [.lst []]) = .ok (.ref hp.length) (hp ++ [.lst (ws.map f)]) := by
  obtain ⟨hp', acc', q1, _, _, q2, q3⟩ := comp_run (elt := elt) (t := t) (J := J) (D := hp.length) (ρ := ρ) hc (fun i h acc => h = hp ++ [.lst acc] ∧ acc = (ws.take i).map f) ws.length hl
    (fun i h acc hi e1 e2 ⟨e3, e4⟩ => by
      obtain ⟨ρ', a1, a2⟩ := hstep ws[i] (List.getElem_mem hi) acc
      refine ⟨ws[i], ρ', f ws[i], h, ?_, a1, by rw [e3]; exact a2, e1, ?_, ?_⟩
      · rw [e3, hcur, List.getElem?_eq_getElem hi]
      · rw [e3, set_last]
      · rw [e4, List.take_add_one, List.getElem?_eq_getElem hi, List.map_append]
        rfl)
    (fun h acc ⟨e3, _⟩ => by rw [e3, hcur, List.getElem?_eq_none (Nat.le_refl _)]) ws.length 0 (hp ++ [.lst []]) [] (by omega) get_last rfl ⟨rfl, rfl⟩
  rw [q1, q2, q3, List.take_length]
theorem cur_old {hp : IH} {k i : Nat} {ws acc : List W} (h : hp[k]? = some (.lst ws)) : cur (.lstR k) i (hp ++ [.lst acc]) = some ws[i]? :=
  cur_lst (by rw [List.getElem?_append_left (List.getElem?_eq_some_iff.mp h).1]; exact h)
/-- a for's turns, one by one -/
theorem for_run {body : IS → IH → SOut} {t : Tgt} {J : Iter} (P : Nat → IS → IH → Prop) (n : Nat)
    (step : ∀ i ρ hp, i < n → P i ρ hp → ∃ w ρ' ρ2 hp2, cur J i hp = some (some w) ∧ asgT t w ρ = some ρ' ∧ (body ρ' hp = .nx ρ2 hp2 ∨ body ρ' hp = .ct ρ2 hp2) ∧ P (i + 1) ρ2 hp2)
    (stop : ∀ ρ hp, P n ρ hp → cur J n hp = some none) :
    ∀ (k i : Nat) (ρ : IS) (hp : IH), i + k = n → P i ρ hp → ∃ ρ' hp', forL body t J k i ρ hp = .nx ρ' hp' ∧ P n ρ' hp' := by
  intro k
  induction k with
  | zero =>
    intro i ρ hp h1 h4
    obtain rfl : i = n := by omega
    refine ⟨ρ, hp, ?_, h4⟩
    unfold forL
    rw [stop ρ hp h4]
  | succ k ih =>
    intro i ρ hp h1 h4
    obtain ⟨w, ρ', ρ2, hp2, e1, e2, e3, e5⟩ := step i ρ hp (by omega) h4
    obtain ⟨ρ3, hp3, q1, q2⟩ := ih (i + 1) ρ2 hp2 (by omega) e5
    refine ⟨ρ3, hp3, ?_, q2⟩
    unfold forL
    rw [e1]
    rcases e3 with e3 | e3
    · simp only [e2, e3]
      exact q1
    · simp only [e2, e3]
      exact q1
section
variable {F : FEnv} {ρ : IS} {hp h1 h2 : IH} {gas : Nat}
theorem ev_blt1 {f : BF} {c : IE} {w u : W} (h : ev F c ρ hp = .ok w h1) (q : bfF f [w] h1 = some (u, h2)) : ev F (.blt f [c]) ρ hp = .ok u h2 := by
  have e : ev F (.blt f [c]) ρ hp = (evs F [c] ρ hp).bind fun ws hp => .of (bfF f ws hp) := by simp only [ev]
  have e2 : evs F [c] ρ hp = .ok [w] h1 := by
    simp only [evs, h, Out.bind_ok]
  rw [e, e2, Out.bind_ok, q, Out.of_some]
theorem tst_tru {e : IE} {w : W} {b : Bool} (h : ev F e ρ hp = .ok w h1) (q : truth h1 w = some b) : tst F (.tru e) ρ hp = .ok b h1 := by
  have e1 : tst F (.tru e) ρ hp = (ev F e ρ hp).bind fun w hp => match truth hp w with
    | some c => .ok c hp
    | none => .stuck := by
    simp only [tst]
    try congr 1
  rw [e1, h, Out.bind_ok]
  simp only [q]
theorem tst_not {a : IT} {b : Bool} (h : tst F a ρ hp = .ok b h1) : tst F (.not a) ρ hp = .ok (!b) h1 := by
  have e1 : tst F (.not a) ρ hp = (tst F a ρ hp).bind fun c hp => .ok (!c) hp := by simp only [tst]
  rw [e1, h, Out.bind_ok]
theorem tst_or {a b : IT} {c : Bool} (h : tst F a ρ hp = .ok c h1) : tst F (.or a b) ρ hp = if c then .ok true h1 else tst F b ρ h1 := by
  have e1 : tst F (.or a b) ρ hp = (tst F a ρ hp).bind fun c hp => if c then .ok true hp else tst F b ρ hp := by simp only [tst]
  rw [e1, h, Out.bind_ok]
theorem tst_and {a b : IT} {c : Bool} (h : tst F a ρ hp = .ok c h1) : tst F (.and a b) ρ hp = if c then tst F b ρ h1 else .ok false h1 := by
  have e1 : tst F (.and a b) ρ hp = (tst F a ρ hp).bind fun c hp => if c then tst F b ρ hp else .ok false hp := by simp only [tst]
  rw [e1, h, Out.bind_ok]
theorem evS_ite {c : IT} {a b : List IStm} {k : Bool} (h : tst F c ρ hp = .ok k h1) : evS F gas (.ite c a b) ρ hp = if k then evSs F gas a ρ h1 else evSs F gas b ρ h1 := by
  have e1 : evS F gas (.ite c a b) ρ hp = (tst F c ρ hp).then ρ fun k hp => if k then evSs F gas a ρ hp else evSs F gas b ρ hp := by simp only [evS]
  rw [e1, h, Out.then_ok]
theorem evS_pass {c : IT} {a : List IStm} (h : tst F c ρ hp = .ok false h1) : evS F gas (.ite c a []) ρ hp = .nx ρ h1 := by
  rw [evS_ite h, if_neg Bool.false_ne_true]
  simp only [evSs]
theorem evSs_cons {s : IStm} {ss : List IStm} {ρ' : IS} (h : evS F gas s ρ hp = .nx ρ' h1) : evSs F gas (s :: ss) ρ hp = evSs F gas ss ρ' h1 := by
  have e1 : evSs F gas (s :: ss) ρ hp = (evS F gas s ρ hp).seq fun ρ hp => evSs F gas ss ρ hp := by simp only [evSs]
  rw [e1, h, SOut.seq_nx]
theorem evSs_ret {s : IStm} {ss : List IStm} {w : W} (h : evS F gas s ρ hp = .rt w h1) : evSs F gas (s :: ss) ρ hp = .rt w h1 := by
  have e1 : evSs F gas (s :: ss) ρ hp = (evS F gas s ρ hp).seq fun ρ hp => evSs F gas ss ρ hp := by simp only [evSs]
  rw [e1, h, SOut.seq_rt]
theorem evS_ret {e : IE} {w : W} (h : ev F e ρ hp = .ok w h1) : evS F gas (.ret e) ρ hp = .rt w h1 := by
  have e1 : evS F gas (.ret e) ρ hp = (ev F e ρ hp).then ρ fun w hp => .rt w hp := by simp only [evS]
  rw [e1, h, Out.then_ok]
theorem runB_rt {code : List IStm} {n : Nat} {ws : List W} {w : W} (h : evSs F gas code (ws.map some ++ List.replicate (n - ws.length) none) hp = .rt w h1) : runB F gas code n ws hp = .ok w h1 := by
  unfold runB
  rw [h]
end
theorem fin_new {hp hp' : IH} {w : W} (h : bndW hp.length w = false) : fin true hp (.ok w hp') = .ok w hp' := by
  unfold fin
  dsimp only
  split
  · rename_i c
    rw [c.2.1] at h
    cases h
  · rfl
theorem bndW_new {hp : IH} : bndW hp.length (.ref hp.length) = false := by
  unfold bndW
  simp
theorem bf_len_fref {hp : IH} {k : Nat} {ws : List W} (h : hp[k]? = some (.flst ws)) : bfF .len [.ref k] hp = some (.int ws.length, hp) := by
  show (itemsOf hp (.ref k)).map _ = _
  unfold itemsOf
  simp only [h]
  rfl
@[simp] theorem bf_max {hp : IH} {i j : Int} : bfF .max [.int i, .int j] hp = some (.int (if j > i then j else i), hp) := rfl
@[simp] theorem bf_min {hp : IH} {i j : Int} : bfF .min [.int i, .int j] hp = some (.int (if j < i then j else i), hp) := rfl
end Itp

set_option Elab.async false
set_option linter.all false
set_option autoImplicit false
set_option maxRecDepth 100000
set_option maxHeartbeats 4000000
/-! Itp, part P: pots that the laws draw from. -/
namespace Itp
open PySem PySem.Spec PyProof.Rows L2
/-- a pot: what is left of the cell's digits, and the mixed number -/
def Pot (hp : IH) (n : Nat) : Prop := ∃ p0 p1 : Int, hp[n]? = some (.lst [.int p0, .int p1]) ∧ 0 ≤ p0 ∧ 0 ≤ p1 ∧ p1 ≤ 2147483647
def PotS (hp : IH) (n : Nat) (hp' : IH) : Prop := ∃ q0 q1 : Int, hp' = hp.set n (.lst [.int q0, .int q1]) ∧ 0 ≤ q0 ∧ 0 ≤ q1 ∧ q1 ≤ 2147483647
theorem Pot.lt {hp : IH} {n : Nat} (h : Pot hp n) : n < hp.length := by
  obtain ⟨_, _, e, _⟩ := h
  exact (List.getElem?_eq_some_iff.mp e).1
theorem PotS.pot {hp hp' : IH} {n : Nat} (h : PotS hp n hp') (hn : n < hp.length) : Pot hp' n := by
  obtain ⟨q0, q1, rfl, z⟩ := h
  exact ⟨q0, q1, List.getElem?_set_self hn, z⟩
theorem PotS.trans {h1 h2 h3 : IH} {n : Nat} (a : PotS h1 n h2) (b : PotS h2 n h3) : PotS h1 n h3 := by
  obtain ⟨q0, q1, rfl, _⟩ := a
  obtain ⟨r0, r1, rfl, z⟩ := b
  exact ⟨r0, r1, by rw [List.set_set], z⟩
theorem PotS.len {hp hp' : IH} {n : Nat} (h : PotS hp n hp') : hp'.length = hp.length := by
  obtain ⟨_, _, rfl, _⟩ := h
  exact List.length_set ..
theorem PotS.get {hp hp' : IH} {n m : Nat} (h : PotS hp n hp') (hm : m ≠ n) : hp'[m]? = hp[m]? := by
  obtain ⟨_, _, rfl, _⟩ := h
  exact List.getElem?_set_ne (Ne.symm hm)
/-- behind a garbage end -/
theorem PotS.app {hp g hp' : IH} {n : Nat} (h : PotS (hp ++ g) n hp') (hn : n < hp.length) : ∃ hp2, PotS hp n hp2 ∧ hp' = hp2 ++ g := by
  obtain ⟨q0, q1, rfl, z⟩ := h
  exact ⟨_, ⟨q0, q1, rfl, z⟩, by rw [List.set_append_left _ _ hn]⟩
theorem Pot.app {hp g : IH} {n : Nat} (h : Pot hp n) : Pot (hp ++ g) n := by
  obtain ⟨q0, q1, e, z⟩ := h
  exact ⟨q0, q1, by rw [List.getElem?_append_left (List.getElem?_eq_some_iff.mp e).1]; exact e, z⟩
theorem fin_pot {hp hp' g : IH} {n : Nat} {w : W} (h : PotS hp n hp') (hw : bndW hp.length w = true) : fin true hp (.ok w (hp' ++ g)) = .ok w hp' := by
  obtain ⟨q0, q1, rfl, z⟩ := h
  exact fin_set hw (by simp)
theorem fin_pot0 {hp hp' : IH} {n : Nat} {w : W} (h : PotS hp n hp') (hw : bndW hp.length w = true) : fin true hp (.ok w hp') = .ok w hp' := by
  have q := fin_pot (g := []) h hw
  rwa [List.append_nil] at q
theorem PotS.refl {hp : IH} {n : Nat} (P : Pot hp n) : PotS hp n hp := by
  obtain ⟨p0, p1, e, z⟩ := P
  obtain ⟨h1, h2⟩ := (List.getElem?_eq_some_iff.mp e)
  refine ⟨p0, p1, ?_, z⟩
  rw [← h2, List.set_getElem_self]
end Itp

set_option Elab.async false
set_option linter.all false
set_option autoImplicit false
set_option maxRecDepth 100000
set_option maxHeartbeats 4000000
/-! Itp, part T: how operations on texts read; a text is told by the list of its signs. -/
namespace Itp
open PySem PySem.Spec PyProof.Rows L2
abbrev tx (l : List Nat) : W := .str (SX.S l)
section
variable {hp : IH} {a b : List Nat} {i j : Nat}
theorem tx_inj : tx a = tx b ↔ a = b := ⟨fun h => SX.S_inj (W.str.inj h), fun h => by rw [h]⟩
theorem tx_add (h : a.length + b.length ≤ lineLen) : binF .Add (tx a) (tx b) hp = some (tx (a ++ b), hp) := by
  show (if (SX.S a).length + (SX.S b).length ≤ lineLen then some (W.str (SX.S a ++ SX.S b), hp) else none) = _
  rw [SX.S_len, SX.S_len, if_pos h, SX.S_cat]
theorem tx_iadd (h : a.length + b.length ≤ lineLen) : ipF .Add (tx a) (tx b) hp = some (tx (a ++ b), hp) := by
  show (if (SX.S a).length + (SX.S b).length ≤ lineLen then some (W.str (SX.S a ++ SX.S b), hp) else none) = _
  rw [SX.S_len, SX.S_len, if_pos h, SX.S_cat]
theorem tx_len (h : a.length ≤ lineLen) : bfF .len [tx a] hp = some (.int a.length, hp) := by
  show (if (SX.S a).length ≤ lineLen then some (W.int ((SX.S a).length : Int), hp) else none) = _
  rw [SX.S_len, if_pos h]
theorem tx_eq : eqF (tx a) (tx b) hp = some (decide (a = b)) := by
  show some (decide (SX.S a = SX.S b)) = _
  congr 1
  exact decide_eq_decide.mpr ⟨SX.S_inj, fun h => by rw [h]⟩
theorem tx_in {c : Nat} : inF (tx [c]) (tx a) hp = some (decide (c ∈ a)) := by
  show some (!(Builtin.Str.occurrences (SX.S a) (SX.S [c]) 0 (SX.S a).length 1).isEmpty) = _
  congr 1
  have := StrLaws.found_one (SX.S a) c
  simpa using this
theorem tx_sub (h : a.length ≤ lineLen) {c : Nat} (e : a[i]? = some c) : subF (tx a) (.int (i : Int)) hp = some (tx [c], hp) := by
  show (if (SX.S a).length ≤ lineLen then (atI (SX.S a).cps.toList (i : Int)).map fun c => (W.str ⟨#[c]⟩, hp) else none) = _
  rw [SX.S_len, if_pos h]
  have q : atI (SX.S a).cps.toList (i : Int) = some c := atI_nat (by simpa using e)
  rw [q]
  rfl
theorem cut_nn (h : i ≤ j) : cutS (SX.S a) (some (i : Int)) (some (j : Int)) = SX.S ((a.drop i).take (j - i)) := by
  unfold cutS
  rw [HT.sIx_nat, HT.sIx_nat, SX.S_len]
  show (⟨_⟩ : Str) = ⟨_⟩
  congr 1
  congr 1
  show List.take _ (List.drop _ a) = _
  by_cases h1 : i ≤ a.length
  · rw [Nat.min_eq_left h1]
    by_cases h2 : j ≤ a.length
    · rw [Nat.min_eq_left h2]
    · rw [Nat.min_eq_right (by omega), List.take_of_length_le (by simp), List.take_of_length_le (by simp; omega)]
  · have e1 : min i a.length = a.length := by omega
    have e2 : min j a.length = a.length := by omega
    rw [e1, e2, List.drop_of_length_le (Nat.le_refl _), List.drop_of_length_le (show a.length ≤ i by omega)]
    simp
theorem tx_slc (h : a.length ≤ lineLen) (q : i ≤ j) : slcF (tx a) (some (i : Int)) (some (j : Int)) hp = some (tx ((a.drop i).take (j - i)), hp) := by
  show (if (SX.S a).length ≤ lineLen then some (W.str (cutS (SX.S a) (some (i : Int)) (some (j : Int))), hp) else none) = _
  rw [SX.S_len, if_pos h, cut_nn q]
theorem tx_to (h : a.length ≤ lineLen) : slcF (tx a) none (some (j : Int)) hp = some (tx (a.take j), hp) := by
  have e : cutS (SX.S a) none (some (j : Int)) = cutS (SX.S a) (some ((0 : Nat) : Int)) (some (j : Int)) := by
    unfold cutS
    rw [HT.sIx_none, HT.sIx_nat, HT.sIx_nat, Nat.min_eq_left (Nat.zero_le _)]
  show (if (SX.S a).length ≤ lineLen then some (W.str (cutS (SX.S a) none (some (j : Int))), hp) else none) = _
  rw [SX.S_len, if_pos h, e, cut_nn (Nat.zero_le _)]
  simp
theorem tx_from (h : a.length ≤ lineLen) : slcF (tx a) (some (i : Int)) none hp = some (tx (a.drop i), hp) := by
  show (if (SX.S a).length ≤ lineLen then some (W.str (cutS (SX.S a) (some (i : Int)) none), hp) else none) = _
  rw [SX.S_len, if_pos h]
  unfold cutS
  rw [HT.sIx_nat, HT.sIx_none, SX.S_len]
  congr 3
  show (⟨_⟩ : Str) = ⟨_⟩
  congr 1
  congr 1
  show List.take _ (List.drop _ a) = _
  by_cases h1 : i ≤ a.length
  · rw [Nat.min_eq_left h1, List.take_of_length_le (by simp)]
  · rw [Nat.min_eq_right (by omega), List.drop_of_length_le (Nat.le_refl _), List.drop_of_length_le (by omega)]
    simp
theorem tx_cur : cur (.strR (SX.S a)) i hp = some (a[i]?.map fun c => tx [c]) := by
  show some ((SX.S a).cps[i]?.map fun c => W.str ⟨#[c]⟩) = _
  congr 1
  simp
theorem tx_itLen : itLen (.strR (SX.S a)) hp = a.length := by
  show (SX.S a).cps.size = _
  simp
theorem tx_join {ys : List (List Nat)} {ws : List W} {w : W} (hi : itemsOf hp w = some ws) (hs : ws = ys.map tx) (h : (ys.map (·.length)).sum ≤ lineLen) : bmF .join (tx []) [w] hp = some (tx ys.flatten, hp) := by
  have e1 : strsOf ws = some (ys.map SX.S) := by
    rw [hs]
    clear hi hs h
    induction ys with
    | nil => rfl
    | cons y ys ih =>
      show (strsOf (ys.map tx)).map (SX.S y :: ·) = _
      rw [ih]
      rfl
  have e2 : (ys.map SX.S).map (fun x : Str => x.length) = ys.map (·.length) := SX.lens ys
  have e3 : ∀ zs : List (List Nat), TL.joinL [] zs = zs.flatten := by
    intro zs
    induction zs with
    | nil => rfl
    | cons z zs ih =>
      cases zs with
      | nil => simp [TL.joinL]
      | cons y zs =>
        rw [List.flatten_cons, ← ih]
        simp [TL.joinL]
  show (match itemsOf hp w with
    | some ws => match strsOf ws with
      | some ys => if (ys.map (fun x : Str => x.length)).sum + ys.length * (SX.S []).length ≤ lineLen then some (W.str (Txt.join (SX.S []) ys), hp) else none
      | none => none
    | none => none) = _
  rw [hi]
  dsimp only
  rw [e1]
  dsimp only
  have z : (SX.S []).length = 0 := rfl
  rw [e2, z, Nat.mul_zero, Nat.add_zero, if_pos h, SX.join_S, e3]
end
end Itp

set_option Elab.async false
set_option linter.all false
set_option autoImplicit false
set_option maxRecDepth 100000
set_option maxHeartbeats 4000000
/-! Itp, part W: runs that leave what was there as it was, but for a pot; new lists may be left behind. -/
namespace Itp
open PySem PySem.Spec PyProof.Rows L2
/-- all that was there stands as it was; at n (if any) a pot stays one -/
structure Rn (n : Option Nat) (h h' : IH) : Prop where
  le : h.length ≤ h'.length
  keep : ∀ k, k < h.length → n ≠ some k → h'[k]? = h[k]?
  pot : ∀ k, n = some k → Pot h k → Pot h' k
section
variable {n : Option Nat} {h h' h1 h2 h3 g : IH} {k m : Nat} {o p : IO} {w : W} {ws : List W}
theorem Rn.refl : Rn n h h := ⟨Nat.le_refl _, fun _ _ _ => rfl, fun _ _ p => p⟩
theorem Rn.trans (a : Rn n h1 h2) (b : Rn n h2 h3) : Rn n h1 h3 :=
  ⟨Nat.le_trans a.le b.le, fun k hk hn => (b.keep k (Nat.lt_of_lt_of_le hk a.le) hn).trans (a.keep k hk hn), fun k e p => b.pot k e (a.pot k e p)⟩
theorem Rn.app : Rn n h (h ++ g) := ⟨by rw [List.length_append]; omega, fun k hk _ => List.getElem?_append_left hk, fun _ _ p => p.app⟩
theorem Rn.get (r : Rn n h h') (e : h[k]? = some o) (hk : n ≠ some k) : h'[k]? = some o := by
  rw [r.keep k (List.getElem?_eq_some_iff.mp e).1 hk]
  exact e
/-- what is new may be changed -/
theorem Rn.set (r : Rn n h h') (hk : h.length ≤ k) (hn : n ≠ some k) : Rn n h (h'.set k o) := by
  refine ⟨by rw [List.length_set]; exact r.le, fun j hj hq => ?_, fun j e P => ?_⟩
  · rw [List.getElem?_set_ne (by omega)]
    exact r.keep j hj hq
  · obtain ⟨p0, p1, z, q⟩ := r.pot j e P
    refine ⟨p0, p1, ?_, q⟩
    rw [List.getElem?_set_ne (fun z => hn (by rw [z]; exact e))]
    exact z
theorem Rn.of_pots (hm : m < h.length) (s : PotS h m h') : Rn (some m) h h' :=
  ⟨by rw [s.len]; exact Nat.le_refl _, fun k _ hn => s.get fun z => hn (by rw [z]), fun k e _ => by cases e; exact s.pot hm⟩
theorem Rn.some (r : Rn none h h') : Rn n h h' := ⟨r.le, fun k hk _ => r.keep k hk (fun z => nomatch z), fun k _ P => by
  obtain ⟨p0, p1, e, z⟩ := P
  exact ⟨p0, p1, r.get e (fun z => nomatch z), z⟩⟩
theorem ne_new (P : ∀ k, n = some k → k < h.length) : n ≠ some h.length := fun e => absurd (P _ e) (Nat.lt_irrefl _)
/-! at a return -/
theorem fin_W (r : Rn n h h') : ∃ h2, fin true h (.ok w h') = .ok w h2 ∧ Rn n h h2 := by
  unfold fin
  dsimp only
  split
  · refine ⟨_, rfl, by rw [List.length_take]; have := r.le; omega, fun k hk hn => ?_, fun k e P => ?_⟩
    · rw [List.getElem?_take, if_pos hk]
      exact r.keep k hk hn
    · obtain ⟨p0, p1, z, q⟩ := r.pot k e P
      have hk := (List.getElem?_eq_some_iff.mp (r.pot k e P).choose_spec.choose_spec.1).1
      have hk2 : k < h.length := P.lt
      refine ⟨p0, p1, ?_, q⟩
      rw [List.getElem?_take, if_pos hk2]
      exact z
  · exact ⟨_, rfl, r⟩
theorem bnd_new (hk : h.length ≤ k) : bndW h.length (.ref k) = false := by
  unfold bndW
  exact decide_eq_false (by omega)
end
section
variable {n : Option Nat} {F : FEnv} {ρ : IS} {hp h1 h2 : IH} {gas : Nat}
/-- a comprehension's turns -/
theorem comp_inv {elt : IS → IH → Out W} {cond : IS → IH → Out Bool} {t : Tgt} {J : Iter} {D : Nat} {h0 : IH} (N : Nat) (I : Nat → List W → Prop) (hN : N < lineLen) (hD : h0.length ≤ D) (hn : n ≠ some D)
    (step : ∀ i h acc, i < N → Rn n h0 h → h[D]? = some (.lst acc) → I i acc → ∃ w ρ' b h1, cur J i h = some (some w) ∧ asgT t w ρ = some ρ' ∧ cond ρ' h = .ok b h1 ∧ Rn n h h1 ∧
      (b = true → ∃ y h2, elt ρ' h1 = .ok y h2 ∧ Rn n h1 h2 ∧ I (i + 1) (acc ++ [y])) ∧ (b = false → I (i + 1) acc))
    (stop : ∀ h, Rn n h0 h → cur J N h = some none) :
    ∀ (k i : Nat) (h : IH) (acc : List W), i + k = N → Rn n h0 h → h[D]? = some (.lst acc) → acc.length ≤ i → I i acc → ∃ h' acc', compL elt cond t J D ρ k i h = .ok (.ref D) h' ∧ Rn n h0 h' ∧ h'[D]? = some (.lst acc') ∧ acc'.length ≤ N ∧ I N acc' := by
  intro k
  induction k with
  | zero =>
    intro i h acc e1 r e2 e3 e4
    obtain rfl : i = N := by omega
    refine ⟨h, acc, ?_, r, e2, e3, e4⟩
    unfold compL
    rw [stop h r]
  | succ k ih =>
    intro i h acc e1 r e2 e3 e4
    obtain ⟨w, ρ', b, h1, c1, c2, c3, c4, c5, c6⟩ := step i h acc (by omega) r e2 e4
    unfold compL
    rw [c1]
    simp only [c2, c3]
    cases b with
    | true =>
      obtain ⟨y, h2, d1, d2, d3⟩ := c5 rfl
      have e5 := d2.get (c4.get e2 hn) hn
      simp only [d1, e5]
      rw [if_pos (by omega)]
      have hl := (List.getElem?_eq_some_iff.mp e5).1
      exact ih (i + 1) _ _ (by omega) (((r.trans c4).trans d2).set hD hn) (List.getElem?_set_self hl) (by simp; omega) d3
    | false =>
      simp only []
      exact ih (i + 1) _ _ (by omega) (r.trans c4) (c4.get e2 hn) (by omega) (c6 rfl)
theorem ev_comp_W {a : IE} {t : Tgt} {it : IIt} {c : Option IT} {own : List Nat} {J : Iter} (N : Nat) (I : Nat → List W → Prop) (hit : evIt F it ρ hp = .ok J h1) (r1 : Rn n hp h1) (hJ : itLen J h1 = N) (hN : N < lineLen) (hn : n ≠ some h1.length) (h0 : I 0 [])
    (step : ∀ i h acc, i < N → Rn n h1 h → h[h1.length]? = some (.lst acc) → I i acc → ∃ w ρ' b h2, cur J i h = some (some w) ∧ asgT t w (wipeI ρ own) = some ρ' ∧ tstO F c ρ' h = .ok b h2 ∧ Rn n h h2 ∧
      (b = true → ∃ y h3, ev F a ρ' h2 = .ok y h3 ∧ Rn n h2 h3 ∧ I (i + 1) (acc ++ [y])) ∧ (b = false → I (i + 1) acc))
    (stop : ∀ h, Rn n h1 h → cur J N h = some none) :
    ∃ h' ys, ev F (.comp a t it c own) ρ hp = .ok (.ref h1.length) h' ∧ Rn n hp h' ∧ h1.length < h'.length ∧ h'[h1.length]? = some (.lst ys) ∧ ys.length ≤ N ∧ I N ys := by
  rw [ev_comp hit, hJ]
  obtain ⟨h', ys, e1, r2, e2, e3, e4⟩ := comp_inv (n := n) (h0 := h1) (D := h1.length) (elt := ev F a) (cond := tstO F c) (t := t) (J := J) (ρ := wipeI ρ own) N I hN (Nat.le_refl _) hn step stop N 0 (h1 ++ [.lst []]) [] (by omega) Rn.app get_last (Nat.le_refl _) h0
  exact ⟨h', ys, e1, r1.trans r2, (List.getElem?_eq_some_iff.mp e2).1, e2, e3, e4⟩
theorem tstO_none {h : IH} : tstO F none ρ h = .ok true h := by simp only [tstO]
/-- a while's turns: M falls -/
theorem whl_run {c : IS → IH → Out Bool} {body : IS → IH → SOut} (P : Nat → IS → IH → Prop) (Z : SOut → Prop)
    (step : ∀ m ρ hp, P m ρ hp → ∃ b h1, c ρ hp = .ok b h1 ∧ (b = false → Z (.nx ρ h1)) ∧ (b = true → (∃ ρ2 h2 m2, (body ρ h1 = .nx ρ2 h2 ∨ body ρ h1 = .ct ρ2 h2) ∧ m2 < m ∧ P m2 ρ2 h2) ∨ (∃ w h2, body ρ h1 = .rt w h2 ∧ Z (.rt w h2)) ∨ (∃ ρ2 h2, body ρ h1 = .bk ρ2 h2 ∧ Z (.nx ρ2 h2)))) :
    ∀ (gas m : Nat) (ρ : IS) (hp : IH), m < gas → P m ρ hp → ∃ o, whlL c body gas ρ hp = o ∧ Z o := by
  intro gas
  induction gas with
  | zero => intro m ρ hp h; omega
  | succ gas ih =>
    intro m ρ hp h p
    obtain ⟨b, h1, e1, e2, e3⟩ := step m ρ hp p
    refine ⟨_, rfl, ?_⟩
    unfold whlL
    rw [e1, Out.then_ok]
    cases b with
    | false => exact e2 rfl
    | true =>
      rw [if_pos rfl]
      rcases e3 rfl with ⟨ρ2, h2, m2, q, lt, p2⟩ | ⟨w, h2, q, z⟩ | ⟨ρ2, h2, q, z⟩
      · obtain ⟨o, eo, z⟩ := ih m2 ρ2 h2 (by omega) p2
        rcases q with q | q
        · rw [q]; rw [← eo] at z; exact z
        · rw [q]; rw [← eo] at z; exact z
      · rw [q]; exact z
      · rw [q]; exact z
theorem evS_whl {c : IT} {body : List IStm} : evS F gas (.whl c body) ρ hp = whlL (tst F c) (evSs F gas body) gas ρ hp := by simp only [evS]
theorem evS_for {t : Tgt} {it : IIt} {body : List IStm} {J : Iter} (h : evIt F it ρ hp = .ok J h1) : evS F gas (.forS t it body) ρ hp = forL (evSs F gas body) t J (itLen J h1) 0 ρ h1 := by
  have e1 : evS F gas (.forS t it body) ρ hp = (evIt F it ρ hp).then ρ fun J hp => forL (evSs F gas body) t J (itLen J hp) 0 ρ hp := by simp only [evS]
  rw [e1, h, Out.then_ok]
theorem runB_nx {code : List IStm} {n : Nat} {ws : List W} {ρ' : IS} (h : evSs F gas code (ws.map some ++ List.replicate (n - ws.length) none) hp = .nx ρ' h1) : runB F gas code n ws hp = .ok .non h1 := by
  unfold runB
  rw [h]
theorem evSs_app : ∀ (a b : List IStm) (ρ : IS) (hp : IH), evSs F gas (a ++ b) ρ hp = (evSs F gas a ρ hp).seq fun ρ hp => evSs F gas b ρ hp
  | [], b, ρ, hp => by simp only [List.nil_append, evSs, SOut.seq_nx]
  | s :: a, b, ρ, hp => by
    rw [List.cons_append]
    simp only [evSs]
    generalize evS F gas s ρ hp = z
    cases z with
    | nx ρ1 h1 => simp only [SOut.seq_nx]; exact evSs_app a b ρ1 h1
    | rt w h1 => rfl
    | bk ρ1 h1 => rfl
    | ct ρ1 h1 => rfl
    | err c fs ρ1 h1 => rfl
    | stuck => rfl
end
end Itp

set_option Elab.async false
set_option linter.all false
set_option autoImplicit false
set_option maxRecDepth 100000
set_option maxHeartbeats 4000000
/-! Itp, part V: comprehensions over lists that are told by plain data; all, any of them. -/
namespace Itp
open PySem PySem.Spec PyProof.Rows L2
section
variable {α : Type} {F : FEnv} {ρ : IS} {hp h1 : IH}
/-- with an if -/
theorem comp_fil {elt : IS → IH → Out W} {cond : IS → IH → Out Bool} {t : Tgt} {J : Iter} (xs : List α) (inj : α → W) (p : α → Bool) (f : α → W) (hl : xs.length < lineLen)
    (hcur : ∀ acc i, cur J i (hp ++ [.lst acc]) = some (xs[i]?.map inj))
    (hstep : ∀ x ∈ xs, ∀ acc, ∃ ρ', asgT t (inj x) ρ = some ρ' ∧ cond ρ' (hp ++ [.lst acc]) = .ok (p x) (hp ++ [.lst acc]) ∧ (p x = true → elt ρ' (hp ++ [.lst acc]) = .ok (f x) (hp ++ [.lst acc]))) :
    compL elt cond t J hp.length ρ xs.length 0 (hp ++ [.lst []]) = .ok (.ref hp.length) (hp ++ [.lst ((xs.filter p).map f)]) := by
  have key : ∀ (k i : Nat) (acc : List W), i + k = xs.length → acc = ((xs.take i).filter p).map f → compL elt cond t J hp.length ρ k i (hp ++ [.lst acc]) = .ok (.ref hp.length) (hp ++ [.lst ((xs.filter p).map f)]) := by
    intro k
    induction k with
    | zero =>
      intro i acc e1 e2
      unfold compL
      rw [hcur, List.getElem?_eq_none (by omega), Option.map_none]
      rw [e2, List.take_of_length_le (by omega)]
    | succ k ih =>
      intro i acc e1 e2
      have hi : i < xs.length := by omega
      obtain ⟨ρ', a1, a2, a3⟩ := hstep xs[i] (List.getElem_mem hi) acc
      unfold compL
      rw [hcur, List.getElem?_eq_getElem hi, Option.map_some]
      simp only [a1, a2]
      have tk : xs.take (i + 1) = xs.take i ++ [xs[i]] := by rw [List.take_add_one, List.getElem?_eq_getElem hi]; rfl
      cases q : p xs[i] with
      | true =>
        simp only [a3 q, get_last]
        have : acc.length < lineLen := by
          rw [e2, List.length_map]
          have := List.length_filter_le p (xs.take i)
          rw [List.length_take] at this
          omega
        rw [if_pos this, set_last]
        refine ih (i + 1) _ (by omega) ?_
        rw [tk, List.filter_append, List.map_append, ← e2]
        simp [q]
      | false =>
        simp only []
        refine ih (i + 1) _ (by omega) ?_
        rw [tk, List.filter_append, List.map_append, ← e2]
        simp [q]
  exact key xs.length 0 [] (by omega) rfl
theorem comp_xs {elt : IS → IH → Out W} {t : Tgt} {J : Iter} (xs : List α) (inj : α → W) (f : α → W) (hl : xs.length < lineLen)
    (hcur : ∀ acc i, cur J i (hp ++ [.lst acc]) = some (xs[i]?.map inj))
    (hstep : ∀ x ∈ xs, ∀ acc, ∃ ρ', asgT t (inj x) ρ = some ρ' ∧ elt ρ' (hp ++ [.lst acc]) = .ok (f x) (hp ++ [.lst acc])) :
    compL elt (tstO F none) t J hp.length ρ xs.length 0 (hp ++ [.lst []]) = .ok (.ref hp.length) (hp ++ [.lst (xs.map f)]) := by
  have h := comp_fil (cond := tstO F none) (elt := elt) (t := t) (J := J) (ρ := ρ) (hp := hp) xs inj (fun _ => true) f hl hcur fun x hx acc => by
    obtain ⟨ρ', a, b⟩ := hstep x hx acc
    exact ⟨ρ', a, tstO_none, fun _ => b⟩
  rw [List.filter_eq_self.mpr (fun _ _ => rfl)] at h
  exact h
theorem bools_xs (xs : List α) (p : α → Bool) : boolsOf (xs.map fun x => .bl (p x)) = some (xs.map p) := bools_map xs p
theorem ev_comp_xs {e : IE} {t : Tgt} {it : IIt} {own : List Nat} {J : Iter} (xs : List α) (inj : α → W) (f : α → W) (hit : evIt F it ρ hp = .ok J h1) (hJ : itLen J h1 = xs.length) (hl : xs.length < lineLen)
    (hcur : ∀ acc i, cur J i (h1 ++ [.lst acc]) = some (xs[i]?.map inj))
    (hstep : ∀ x ∈ xs, ∀ acc, ∃ ρ', asgT t (inj x) (wipeI ρ own) = some ρ' ∧ ev F e ρ' (h1 ++ [.lst acc]) = .ok (f x) (h1 ++ [.lst acc])) :
    ev F (.comp e t it none own) ρ hp = .ok (.ref h1.length) (h1 ++ [.lst (xs.map f)]) := by
  rw [ev_comp hit, hJ]
  exact comp_xs xs inj f hl hcur hstep
theorem ev_comp_fil {e : IE} {t : Tgt} {it : IIt} {c : IT} {own : List Nat} {J : Iter} (xs : List α) (inj : α → W) (p : α → Bool) (f : α → W) (hit : evIt F it ρ hp = .ok J h1) (hJ : itLen J h1 = xs.length) (hl : xs.length < lineLen)
    (hcur : ∀ acc i, cur J i (h1 ++ [.lst acc]) = some (xs[i]?.map inj))
    (hstep : ∀ x ∈ xs, ∀ acc, ∃ ρ', asgT t (inj x) (wipeI ρ own) = some ρ' ∧ tst F c ρ' (h1 ++ [.lst acc]) = .ok (p x) (h1 ++ [.lst acc]) ∧ (p x = true → ev F e ρ' (h1 ++ [.lst acc]) = .ok (f x) (h1 ++ [.lst acc]))) :
    ev F (.comp e t it (some c) own) ρ hp = .ok (.ref h1.length) (h1 ++ [.lst ((xs.filter p).map f)]) := by
  rw [ev_comp hit, hJ]
  refine comp_fil xs inj p f hl hcur fun x hx acc => ?_
  obtain ⟨ρ', a, b, c⟩ := hstep x hx acc
  exact ⟨ρ', a, by simp only [tstO]; exact b, c⟩
/-- all([..]) -/
theorem ev_all_xs {e : IE} {t : Tgt} {it : IIt} {own : List Nat} {J : Iter} (xs : List α) (inj : α → W) (p : α → Bool) (hit : evIt F it ρ hp = .ok J h1) (hJ : itLen J h1 = xs.length) (hl : xs.length < lineLen)
    (hcur : ∀ acc i, cur J i (h1 ++ [.lst acc]) = some (xs[i]?.map inj))
    (hstep : ∀ x ∈ xs, ∀ acc, ∃ ρ', asgT t (inj x) (wipeI ρ own) = some ρ' ∧ ev F e ρ' (h1 ++ [.lst acc]) = .ok (.bl (p x)) (h1 ++ [.lst acc])) :
    ev F (.blt .all [.comp e t it none own]) ρ hp = .ok (.bl (xs.all p)) (h1 ++ [.lst (xs.map fun x => .bl (p x))]) := by
  have c := ev_comp_xs xs inj (fun x => .bl (p x)) hit hJ hl hcur hstep
  have b := all_ref (hp := h1 ++ [.lst (xs.map fun x => .bl (p x))]) (k := h1.length) get_last (bools_xs xs p)
  rw [List.all_map] at b
  exact ev_blt1 c b
/-- what a text is walked as -/
theorem it_text {v : Nat} {a : List Nat} (hρ : ρ[v]? = some (some (tx a))) : evIt F (.val (.var v)) ρ hp = .ok (.strR (SX.S a)) hp := by
  simp only [evIt, ev, hρ, Out.bind_ok]
  rfl
theorem cur_text {a : List Nat} {i : Nat} {h : IH} : cur (.strR (SX.S a)) i h = some (a[i]?.map fun c => tx [c]) := tx_cur
/-- all([.. for sign in text]) -/
theorem ev_all_text {e : IE} {v j : Nat} (a : List Nat) (p : Nat → Bool) (hρ : ρ[v]? = some (some (tx a))) (hl : a.length < lineLen) (he : ∀ c ∈ a, ∀ h, ev F e ((wipeI ρ [j]).set j (some (tx [c]))) h = .ok (.bl (p c)) h) :
    ev F (.blt .all [.comp e (.name j) (.val (.var v)) none [j]]) ρ hp = .ok (.bl (a.all p)) (hp ++ [.lst (a.map fun c => .bl (p c))]) :=
  ev_all_xs a (fun c => tx [c]) p (it_text hρ) tx_itLen hl (fun acc i => tx_cur) fun c hc acc => ⟨_, rfl, he c hc _⟩
/-- what is walked of a list -/
theorem it_list {v k : Nat} {ws : List W} (hρ : ρ[v]? = some (some (.ref k))) (hk : hp[k]? = some (.lst ws)) : evIt F (.val (.var v)) ρ hp = .ok (.lstR k) hp := by
  simp only [evIt, ev, hρ, Out.bind_ok, iterOf_ref hk]
theorem cur_list {k i : Nat} {xs : List α} {inj : α → W} {acc : List W} (hk : hp[k]? = some (.lst (xs.map inj))) : cur (.lstR k) i (hp ++ [.lst acc]) = some (xs[i]?.map inj) := by
  rw [cur_old hk, List.getElem?_map]
theorem it_enum {v k : Nat} {ws : List W} (hρ : ρ[v]? = some (some (.ref k))) (hk : hp[k]? = some (.lst ws)) : evIt F (.enum (.var v)) ρ hp = .ok (.enum (.lstR k)) hp := by
  simp only [evIt, ev, hρ, Out.bind_ok, iterE, hk]
theorem it_zip {v u k l : Nat} {ws us : List W} (hρ : ρ[v]? = some (some (.ref k))) (hk : hp[k]? = some (.lst ws)) (hρ2 : ρ[u]? = some (some (.ref l))) (hk2 : hp[l]? = some (.lst us)) : evIt F (.zip (.var v) (.var u)) ρ hp = .ok (.zip (.lstR k) (.lstR l)) hp := by
  simp only [evIt, ev, hρ, hρ2, Out.bind_ok, iterZ, hk, hk2]
end
end Itp

set_option Elab.async false
set_option linter.all false
set_option autoImplicit false
set_option maxRecDepth 100000
set_option maxHeartbeats 4000000
/-! Itp, part U: == of lists of numbers, of lists of texts; ends of texts. -/
namespace Itp
open PySem PySem.Spec PyProof.Rows L2
section
variable {hp : IH} {k m n : Nat}
theorem some_ints (n : Nat) : ∀ xs : List Int, allSome (dat hp (n + 1)) (xs.map .int) = some (xs.map .int)
  | [] => rfl
  | x :: xs => by rw [List.map_cons, allSome_cons, some_ints n xs]; rfl
theorem some_txts (n : Nat) : ∀ xs : List (List Nat), allSome (dat hp (n + 1)) (xs.map tx) = some (xs.map fun x => .str (SX.S x))
  | [] => rfl
  | x :: xs => by rw [List.map_cons, allSome_cons, some_txts n xs]; rfl
theorem eqv_ints : ∀ xs ys : List Int, PyData.eqvAll (xs.map .int) (ys.map .int) = decide (xs = ys)
  | [], [] => rfl
  | [], y :: ys => rfl
  | x :: xs, [] => rfl
  | x :: xs, y :: ys => by
    show (x == y && PyData.eqvAll (xs.map .int) (ys.map .int)) = _
    rw [eqv_ints xs ys, Bool.eq_iff_iff]
    simp
theorem eqv_txts : ∀ xs ys : List (List Nat), PyData.eqvAll (xs.map fun x => .str (SX.S x)) (ys.map fun x => .str (SX.S x)) = decide (xs = ys)
  | [], [] => rfl
  | [], y :: ys => rfl
  | x :: xs, [] => rfl
  | x :: xs, y :: ys => by
    show (SX.S x == SX.S y && PyData.eqvAll (xs.map fun x => .str (SX.S x)) (ys.map fun x => .str (SX.S x))) = _
    rw [eqv_txts xs ys, SX.S_beq, Bool.eq_iff_iff]
    simp
theorem shaped_ints (xs : List Int) : SeqAt.shaped (.list (xs.map .int)) = true := by
  have a : ∀ xs : List Int, PyData.canLayAll0 (xs.map .int) = true ∧ PyData.depthAll (xs.map .int) = 0 := by
    intro xs
    induction xs with
    | nil => exact ⟨rfl, rfl⟩
    | cons x xs ih =>
      refine ⟨?_, ?_⟩
      · show (true && PyData.canLayAll0 (xs.map .int)) = true
        rw [ih.1]; rfl
      · show max 0 (PyData.depthAll (xs.map .int)) = 0
        rw [ih.2]; rfl
  obtain ⟨h1, h2⟩ := a xs
  show (PyData.canLayAll0 (xs.map .int) && decide (PyData.depthAll (xs.map .int) + 1 ≤ 64)) = true
  rw [h1, h2]
  rfl
theorem shaped_txts (xs : List (List Nat)) (h : ∀ x ∈ xs, ∀ c ∈ x, c < 1114112) : SeqAt.shaped (.list (xs.map fun x => .str (SX.S x))) = true := by
  have a : ∀ xs : List (List Nat), (∀ x ∈ xs, ∀ c ∈ x, c < 1114112) → PyData.canLayAll0 (xs.map fun x => .str (SX.S x)) = true ∧ PyData.depthAll (xs.map fun x => .str (SX.S x)) = 0 := by
    intro xs
    induction xs with
    | nil => exact fun _ => ⟨rfl, rfl⟩
    | cons x xs ih =>
      intro h
      obtain ⟨i1, i2⟩ := ih fun y hy => h y (List.mem_cons_of_mem _ hy)
      refine ⟨?_, ?_⟩
      · show (PyData.strOk (SX.S x) && PyData.canLayAll0 (xs.map fun x => .str (SX.S x))) = true
        rw [i1, Bool.and_true]
        show (SX.S x).cps.all (· < 0x110000) = true
        rw [Array.all_eq_true']
        intro c hc
        exact decide_eq_true (h x (List.mem_cons_self ..) c (by simpa [SX.S] using hc))
      · show max 0 (PyData.depthAll (xs.map fun x => .str (SX.S x))) = 0
        rw [i2]; rfl
  obtain ⟨h1, h2⟩ := a xs h
  show (PyData.canLayAll0 (xs.map fun x => .str (SX.S x)) && decide (PyData.depthAll (xs.map fun x => .str (SX.S x)) + 1 ≤ 64)) = true
  rw [h1, h2]
  rfl
theorem eq_ints {xs ys : List Int} (e1 : hp[k]? = some (.lst (xs.map .int))) (e2 : hp[m]? = some (.lst (ys.map .int))) : eqF (.ref k) (.ref m) hp = some (decide (xs = ys)) := by
  have d1 : dat hp depthMax (.ref k) = some (.list (xs.map .int)) := by
    show dat hp (58 + 1 + 1) (.ref k) = _
    rw [dat_ref e1, some_ints]
    rfl
  have d2 : dat hp depthMax (.ref m) = some (.list (ys.map .int)) := by
    show dat hp (58 + 1 + 1) (.ref m) = _
    rw [dat_ref e2, some_ints]
    rfl
  show (match dat hp depthMax (.ref k), dat hp depthMax (.ref m) with
    | some d, some e => if SeqAt.shaped d = true ∧ SeqAt.shaped e = true then some (PyData.eqv d e) else none
    | _, _ => none) = _
  rw [d1, d2]
  simp only []
  rw [if_pos ⟨shaped_ints _, shaped_ints _⟩]
  show some (PyData.eqvAll _ _) = _
  rw [eqv_ints]
theorem eq_txts {xs ys : List (List Nat)} (e1 : hp[k]? = some (.lst (xs.map tx))) (e2 : hp[m]? = some (.lst (ys.map tx))) (h1 : ∀ x ∈ xs, ∀ c ∈ x, c < 1114112) (h2 : ∀ x ∈ ys, ∀ c ∈ x, c < 1114112) : eqF (.ref k) (.ref m) hp = some (decide (xs = ys)) := by
  have d1 : dat hp depthMax (.ref k) = some (.list (xs.map fun x => .str (SX.S x))) := by
    show dat hp (58 + 1 + 1) (.ref k) = _
    rw [dat_ref e1, some_txts]
    rfl
  have d2 : dat hp depthMax (.ref m) = some (.list (ys.map fun x => .str (SX.S x))) := by
    show dat hp (58 + 1 + 1) (.ref m) = _
    rw [dat_ref e2, some_txts]
    rfl
  show (match dat hp depthMax (.ref k), dat hp depthMax (.ref m) with
    | some d, some e => if SeqAt.shaped d = true ∧ SeqAt.shaped e = true then some (PyData.eqv d e) else none
    | _, _ => none) = _
  rw [d1, d2]
  simp only []
  rw [if_pos ⟨shaped_txts _ h1, shaped_txts _ h2⟩]
  show some (PyData.eqvAll _ _) = _
  rw [eqv_txts]
/-- text[-j:] -/
theorem tx_last {a : List Nat} {j : Nat} (h : a.length ≤ lineLen) (hj : 0 < j) (hl : j ≤ a.length) : slcF (tx a) (some (-(j : Int))) none hp = some (tx (a.drop (a.length - j)), hp) := by
  have e : cutS (SX.S a) (some (-(j : Int))) none = cutS (SX.S a) (some ((a.length - j : Nat) : Int)) none := by
    have s : HT.sIx (SX.S a).length 0 (some (-(j : Int))) = HT.sIx (SX.S a).length 0 (some ((a.length - j : Nat) : Int)) := by
      rw [HT.sIx_nat, SX.S_len, Nat.min_eq_left (by omega)]
      show (if -(j : Int) < 0 then (-(j : Int) + (a.length : Int)).toNat else _) = _
      rw [if_pos (by omega)]
      omega
    unfold cutS
    rw [s]
  have q := tx_from (hp := hp) (a := a) (i := a.length - j) h
  show (if (SX.S a).length ≤ lineLen then some (W.str (cutS (SX.S a) (some (-(j : Int))) none), hp) else none) = _
  rw [e]
  exact q
end
end Itp

set_option Elab.async false
set_option linter.all false
set_option autoImplicit false
set_option maxRecDepth 100000
set_option maxHeartbeats 4000000
/-! Itp, part R: how single expressions and statements run (from k77). -/
namespace Itp
open PySem PySem.Spec PyProof.Rows L2
section
variable {F : FEnv} {ρ : IS} {h h1 h2 : IH} {x y : IE} {u v : W} {c : Bool}
theorem tst_ne (e1 : ev F x ρ h = .ok u h1) (e2 : ev F y ρ h1 = .ok v h2) (q : eqF u v h2 = some c) : tst F (.cmp .NotEq x y) ρ h = .ok (!c) h2 := by
  have t : tst F (.cmp .NotEq x y) ρ h = (ev F x ρ h).bind fun u h => (ev F y ρ h).bind fun v h => match cmpB .NotEq u v h with
    | some c => .ok c h
    | none => .stuck := by
    simp only [tst]
    try congr 1
  rw [t, e1, Out.bind_ok, e2, Out.bind_ok, cmp_ne, q]
  rfl
theorem ev_eq (e1 : ev F x ρ h = .ok u h1) (e2 : ev F y ρ h1 = .ok v h2) (q : eqF u v h2 = some c) : ev F (.cmp .Eq x y) ρ h = .ok (.bl c) h2 := by
  have t : ev F (.cmp .Eq x y) ρ h = (ev F x ρ h).bind fun u h => (ev F y ρ h).bind fun v h => .of (cmpF .Eq u v h) := by simp only [ev]
  rw [t, e1, Out.bind_ok, e2, Out.bind_ok, cmpF_eq, cmp_eq, q]
  rfl
theorem ev_var {i : Nat} {w : W} (e : ρ[i]? = some (some w)) : ev F (.var i) ρ h = .ok w h := by simp only [ev, e]
theorem ev_call1 {f : Nat} (e1 : ev F x ρ h = .ok u h1) (e2 : F f [u] h1 = .ok v h2) : ev F (.call f [x]) ρ h = .ok v h2 := by
  have t : ev F (.call f [x]) ρ h = (evs F [x] ρ h).bind fun ws hp => F f ws hp := by simp only [ev]
  have t2 : evs F [x] ρ h = .ok [u] h1 := by simp only [evs, e1, Out.bind_ok]
  rw [t, t2, Out.bind_ok, e2]
theorem ev_callk1 {f : Nat} (e1 : ev F x ρ h = .ok u h1) (e2 : F f [u] h1 = .ok v h2) : ev F (.callk f [0] [] [x]) ρ h = .ok v h2 := by
  have t : ev F (.callk f [0] [] [x]) ρ h = (evs F [] ρ h).bind fun ws hp => (evs F [x] ρ hp).bind fun zs hp => if ws.length = ([] : List IE).length ∧ zs.length = [x].length then F f (pm [0] (ws ++ zs)) hp else .stuck := by simp only [ev]
  have t2 : evs F [x] ρ h = .ok [u] h1 := by simp only [evs, e1, Out.bind_ok]
  have t3 : evs F [] ρ h = .ok [] h := by simp only [evs]
  rw [t, t3, Out.bind_ok, t2, Out.bind_ok, if_pos ⟨rfl, rfl⟩]
  exact e2
theorem ev_sub (e1 : ev F x ρ h = .ok u h1) (e2 : subF u (.int 0) h1 = some (v, h2)) : ev F (.sub x (.cst (.int 0))) ρ h = .ok v h2 := by
  have t : ev F (.sub x (.cst (.int 0))) ρ h = (ev F x ρ h).bind fun u h => .of (subF u (.int 0) h) := by simp only [ev, Out.bind_ok]
  rw [t, e1, Out.bind_ok, e2]
  rfl
theorem ev_join (e1 : ev F x ρ h = .ok u h1) {ys : List (List Nat)} {ws : List W} (hi : itemsOf h1 u = some ws) (hs : ws = ys.map tx) (hl : (ys.map (·.length)).sum ≤ lineLen) : ev F (.meth .join (.cst (tx [])) [x]) ρ h = .ok (tx ys.flatten) h1 := by
  have rc : recOk .join (tx []) h = true := rfl
  have m : ev F (.meth .join (.cst (tx [])) [x]) ρ h = (ev F x ρ h).bind fun w hp => .of (bmF .join (tx []) [w] hp) := by
    simp only [ev, evs, Out.bind_ok, rc, if_true]
    cases ev F x ρ h <;> rfl
  rw [m, e1, Out.bind_ok, tx_join hi hs hl]
  rfl
theorem evS_asg {i : Nat} {gas : Nat} (e1 : ev F x ρ h = .ok u h1) : evS F gas (.asg (.name i) x) ρ h = .nx (ρ.set i (some u)) h1 := by
  have t : evS F gas (.asg (.name i) x) ρ h = (ev F x ρ h).then ρ fun w hp => sto F (.name i) w ρ hp := by simp only [evS]
  rw [t, e1, Out.then_ok]
  simp only [sto]
end
theorem ev_cst {F : FEnv} {ρ : IS} {h : IH} {w : W} : ev F (.cst w) ρ h = .ok w h := by simp only [ev]
section
variable {h : IH}
theorem get0 {ws : List W} {w : W} {m : Nat} (e : h[m]? = some (.lst (w :: ws))) : subF (.ref m) (.int 0) h = some (w, h) := by
  rw [sub_ref e, show atI (w :: ws) 0 = some w from atI_nat (j := 0) rfl]
  rfl
theorem cut_to {ws : List W} (i : Nat) : cutL ws none (some (i : Int)) = ws.take i := by
  unfold cutL
  rw [HT.sIx_none, HT.sIx_nat, List.drop_zero, Nat.sub_zero]
  by_cases h : i ≤ ws.length
  · rw [Nat.min_eq_left h]
  · rw [Nat.min_eq_right (by omega), List.take_of_length_le (Nat.le_refl _), List.take_of_length_le (by omega)]
theorem slc_list {m i : Nat} {ws : List W} (e : h[m]? = some (.lst ws)) : slcF (.ref m) none (some (i : Int)) h = some (.ref h.length, h ++ [.lst (ws.take i)]) := by
  show (match h[m]? with
    | some (.lst xs) => some (W.ref h.length, h ++ [IO.lst (cutL xs none (some (i : Int)))])
    | some (.flst xs) => some (W.ref h.length, h ++ [IO.lst (cutL xs none (some (i : Int)))])
    | none => none) = _
  rw [e]
  simp only [cut_to]
theorem ne_of_lt {n k : Nat} (P : Pot h n) (hk : h.length ≤ k) : some n ≠ some k := fun z => by
  have := P.lt
  have : n = k := Option.some.inj z
  omega
end
end Itp

set_option Elab.async false
set_option linter.all false
set_option autoImplicit false
set_option maxRecDepth 100000
set_option maxHeartbeats 8000000
namespace K11
open PySem PySem.Spec PyProof.Rows L2 Itp
def topS (i : Nat) : Stmt := PySem.Challenge.pw_paidinfull_k11_whole_tokens_and_what_is.main.body.getD i (.Pass ⟨0, 0, 0, 0⟩)
abbrev s_place_behind : Stmt := topS 14
abbrev s_signs_of : Stmt := topS 15
abbrev s_run_at : Stmt := topS 16
abbrev s_wrong_with : Stmt := topS 17
abbrev s_scanned : Stmt := topS 18
abbrev s_looked_over : Stmt := topS 19
abbrev s_check_text : Stmt := topS 20
abbrev s_tokens : Stmt := topS 21
abbrev s_token_fault : Stmt := topS 22
abbrev s_kind_of : Stmt := topS 31
abbrev s_row_for : Stmt := topS 32
abbrev s_opened : Stmt := topS 33
abbrev s_led_by : Stmt := topS 34
abbrev s_is_too_much : Stmt := topS 35
abbrev s_walked : Stmt := topS 36
abbrev s_fault_by : Stmt := topS 37
abbrev s_letter_fault : Stmt := topS 38
abbrev s__law_pot : Stmt := topS 40
abbrev s__law_draw : Stmt := topS 41
abbrev s__law_pick : Stmt := topS 42
abbrev s__law_kind_of : Stmt := topS 43
abbrev s__law_lex : Stmt := topS 44
abbrev s__law_place_at : Stmt := topS 45
abbrev s__law_lexed : Stmt := topS 46
abbrev s__law_piece : Stmt := topS 47
abbrev s__law_text : Stmt := topS 48
abbrev s_law : Stmt := topS 49
def glb : List (Str × W) := [("CLOSED", (.tup [(.str "house"), (.str "cash"), (.str "like"), (.str "debt"), (.str "owes"), (.str "times"), (.str "each"), (.str "day"), (.str "bound"), (.str "to")])), ("LETTERS", (.str "abcdefghijklmnopqrstuvwxyz")), ("MOST_LETTERS", (.int 8)), ("DIGITS", (.str "0123456789")), ("BLANKS", (.str " \n")), ("SIGN", (.str ";")), ("SIGNS", (.tup [(.str ";"), (.str "/")])), ("MOST_SIGNS", (.int 4000)), ("MOST_DIGITS", (.int 9)), ("END", (.str "END")), ("NAME", (.str "NAME")), ("NUMERAL", (.str "NUMERAL")), ("NOWHERE", (.str "nowhere")), ("MOST_ITEMS", (.int 60)), ("MOST_NAMES", (.int 9))]
def blt : List Str := ["abs", "dict", "divmod", "int", "isinstance", "len", "list", "max", "range", "repr", "sorted", "str"]
def fi_place_behind : FI := ⟨"place_behind", ["text"], [], 1⟩
def fi_signs_of : FI := ⟨"signs_of", ["sign"], [], 2⟩
def fi_run_at : FI := ⟨"run_at", ["text", "at"], [], 3⟩
def fi_wrong_with : FI := ⟨"wrong_with", ["token", "is_behind"], [], 4⟩
def fi_scanned : FI := ⟨"scanned", ["text"], [], 5⟩
def fi_looked_over : FI := ⟨"looked_over", ["text"], [], 6⟩
def fi_check_text : FI := ⟨"check_text", ["text"], [], 7⟩
def fi_tokens : FI := ⟨"tokens", ["text"], [(0, ["text"], [0])], 8⟩
def fi_token_fault : FI := ⟨"token_fault", ["text"], [(0, ["text"], [0])], 9⟩
def fi_kind_of : FI := ⟨"kind_of", ["token"], [], 10⟩
def fi_row_for : FI := ⟨"row_for", ["rule", "kind"], [], 11⟩
def fi_opened : FI := ⟨"opened", ["pile", "kind"], [], 12⟩
def fi_led_by : FI := ⟨"led_by", ["pile", "kind"], [], 13⟩
def fi_is_too_much : FI := ⟨"is_too_much", ["found", "token", "many"], [], 14⟩
def fi_walked : FI := ⟨"walked", ["text"], [], 15⟩
def fi_fault_by : FI := ⟨"fault_by", ["text"], [], 16⟩
def fi_letter_fault : FI := ⟨"letter_fault", ["text"], [(0, ["text"], [0])], 17⟩
def fi__law_pot : FI := ⟨"_law_pot", ["script", "k"], [], 18⟩
def fi__law_draw : FI := ⟨"_law_draw", ["pot", "many"], [], 19⟩
def fi__law_pick : FI := ⟨"_law_pick", ["pot", "some"], [], 20⟩
def fi__law_kind_of : FI := ⟨"_law_kind_of", ["sign"], [], 21⟩
def fi__law_lex : FI := ⟨"_law_lex", ["text"], [], 22⟩
def fi__law_place_at : FI := ⟨"_law_place_at", ["text", "at"], [], 23⟩
def fi__law_lexed : FI := ⟨"_law_lexed", ["text"], [], 24⟩
def fi__law_piece : FI := ⟨"_law_piece", ["pot"], [], 25⟩
def fi__law_text : FI := ⟨"_law_text", ["pot", "late"], [], 26⟩
def fi_law : FI := ⟨"law", ["script"], [], 27⟩
def fis : List FI := [fi_place_behind, fi_signs_of, fi_run_at, fi_wrong_with, fi_scanned, fi_looked_over, fi_check_text, fi_tokens, fi_token_fault, fi_kind_of, fi_row_for, fi_opened, fi_led_by, fi_is_too_much, fi_walked, fi_fault_by, fi_letter_fault, fi__law_pot, fi__law_draw, fi__law_pick, fi__law_kind_of, fi__law_lex, fi__law_place_at, fi__law_lexed, fi__law_piece, fi__law_text, fi_law]
def ctx (N : List Str) (i : Nat) (st : Stmt) : Itp.Ctx := ⟨N, defScope st, true, fis.take i, glb, blt⟩
def c_place_behind : Itp.Ctx := ctx ["text"] 0 s_place_behind
def c_signs_of : Itp.Ctx := ctx ["sign"] 1 s_signs_of
def c_run_at : Itp.Ctx := ctx ["text", "at", "some", "end"] 2 s_run_at
def c_wrong_with : Itp.Ctx := ctx ["token", "is_behind"] 3 s_wrong_with
def c_scanned : Itp.Ctx := ctx ["text", "found", "at", "is_behind", "token", "place", "word"] 4 s_scanned
def c_looked_over : Itp.Ctx := ctx ["text", "found", "fault", "place", "one"] 5 s_looked_over
def c_check_text : Itp.Ctx := ctx ["text"] 6 s_check_text
def c_tokens : Itp.Ctx := ctx ["text"] 7 s_tokens
def c_token_fault : Itp.Ctx := ctx ["text"] 8 s_token_fault
def c_kind_of : Itp.Ctx := ctx ["token"] 9 s_kind_of
def c_row_for : Itp.Ctx := ctx ["rule", "kind", "rows"] 10 s_row_for
def c_opened : Itp.Ctx := ctx ["pile", "kind", "found"] 11 s_opened
def c_led_by : Itp.Ctx := ctx ["pile", "kind", "found"] 12 s_led_by
def c_is_too_much : Itp.Ctx := ctx ["found", "token", "many", "here", "word", "place", "begin"] 13 s_is_too_much
def c_walked : Itp.Ctx := ctx ["text", "pile", "found", "many", "token", "place", "later"] 14 s_walked
def c_fault_by : Itp.Ctx := ctx ["text", "fault", "found", "pile", "place", "is_much"] 15 s_fault_by
def c_letter_fault : Itp.Ctx := ctx ["text"] 16 s_letter_fault
def c__law_pot : Itp.Ctx := ctx ["script", "k", "cell"] 17 s__law_pot
def c__law_draw : Itp.Ctx := ctx ["pot", "many", "digit"] 18 s__law_draw
def c__law_pick : Itp.Ctx := ctx ["pot", "some"] 19 s__law_pick
def c__law_kind_of : Itp.Ctx := ctx ["sign"] 20 s__law_kind_of
def c__law_lex : Itp.Ctx := ctx ["text", "found", "faults", "at", "line", "column", "kind", "end", "token", "beside"] 21 s__law_lex
def c__law_place_at : Itp.Ctx := ctx ["text", "at"] 22 s__law_place_at
def c__law_lexed : Itp.Ctx := ctx ["text", "found", "faults", "first", "one"] 23 s__law_lexed
def c__law_piece : Itp.Ctx := ctx ["pot", "kind"] 24 s__law_piece
def c__law_text : Itp.Ctx := ctx ["pot", "late", "text", "step", "way", "at"] 25 s__law_text
def c_law : Itp.Ctx := ctx ["script", "pot", "late", "step", "text", "found", "fault", "told", "more"] 26 s_law
def b_place_behind : List IStm :=
  [IStm.ret
        (IE.tup
          [IE.bin Operator.Add (IE.meth BM.count (IE.var 0) [IE.cst (W.str { cps := { toList := [10] } })])
              (IE.cst (W.int (Int.ofNat 1))),
            IE.bin Operator.Sub (IE.blt BF.len [IE.var 0])
              (IE.meth BM.rfind (IE.var 0) [IE.cst (W.str { cps := { toList := [10] } })])])]
def b_signs_of : List IStm :=
  [IStm.ite
        (IT.cmp CmpOp.In (IE.var 0)
          (IE.cst
            (W.str
              {
                cps :=
                  {
                    toList :=
                      [97, 98, 99, 100, 101, 102, 103, 104, 105, 106, 107, 108, 109, 110, 111, 112, 113, 114, 115, 116,
                        117, 118, 119, 120, 121, 122] } })))
        [IStm.ret
            (IE.cst
              (W.str
                {
                  cps :=
                    {
                      toList :=
                        [97, 98, 99, 100, 101, 102, 103, 104, 105, 106, 107, 108, 109, 110, 111, 112, 113, 114, 115,
                          116, 117, 118, 119, 120, 121, 122] } }))]
        [],
      IStm.ret
        (IE.ite
          (IT.cmp CmpOp.In (IE.var 0)
            (IE.cst (W.str { cps := { toList := [48, 49, 50, 51, 52, 53, 54, 55, 56, 57] } })))
          (IE.cst (W.str { cps := { toList := [48, 49, 50, 51, 52, 53, 54, 55, 56, 57] } }))
          (IE.cst (W.str { cps := { toList := [] } })))]
def b_run_at : List IStm :=
  [IStm.asg (STgt.tup [STgt.name 2, STgt.name 3])
        (IE.tup [IE.call 1 [(IE.var 0).sub (IE.var 1)], IE.bin Operator.Add (IE.var 1) (IE.cst (W.int (Int.ofNat 1)))]),
      IStm.whl
        ((IT.cmp CmpOp.NotEq (IE.var 2) (IE.cst (W.str { cps := { toList := [] } }))).and
          ((IT.cmp CmpOp.Lt (IE.var 3) (IE.blt BF.len [IE.var 0])).and
            (IT.cmp CmpOp.In ((IE.var 0).sub (IE.var 3)) (IE.var 2))))
        [IStm.asg (STgt.name 3) (IE.bin Operator.Add (IE.var 3) (IE.cst (W.int (Int.ofNat 1))))],
      IStm.ret ((IE.var 0).slc (some (IE.var 1)) (some (IE.var 3)))]
def b_wrong_with : List IStm :=
  [IStm.ite
        ((IT.cmp CmpOp.Eq (IE.call 1 [(IE.var 0).sub (IE.cst (W.int (Int.ofNat 0)))])
              (IE.cst (W.str { cps := { toList := [] } }))).and
          (IT.cmp CmpOp.NotIn (IE.var 0)
            (IE.cst (W.tup [W.str { cps := { toList := [59] } }, W.str { cps := { toList := [47] } }]))))
        [IStm.ret (IE.cst (W.str { cps := { toList := [115, 105, 103, 110] } }))] [],
      IStm.ite
        ((IT.cmp CmpOp.In ((IE.var 0).sub (IE.cst (W.int (Int.ofNat 0))))
              (IE.cst (W.str { cps := { toList := [48, 49, 50, 51, 52, 53, 54, 55, 56, 57] } }))).and
          ((IT.cmp CmpOp.Gt (IE.blt BF.len [IE.var 0]) (IE.cst (W.int (Int.ofNat 9)))).or
            ((IT.cmp CmpOp.Gt (IE.blt BF.len [IE.var 0]) (IE.cst (W.int (Int.ofNat 1)))).and
              (IT.cmp CmpOp.Eq ((IE.var 0).sub (IE.cst (W.int (Int.ofNat 0))))
                (IE.cst (W.str { cps := { toList := [48] } }))))))
        [IStm.ret (IE.cst (W.str { cps := { toList := [110, 117, 109, 101, 114, 97, 108] } }))] [],
      IStm.ite
        (((IT.cmp CmpOp.In ((IE.var 0).sub (IE.cst (W.int (Int.ofNat 0))))
                  (IE.cst
                    (W.str
                      {
                        cps :=
                          {
                            toList :=
                              [97, 98, 99, 100, 101, 102, 103, 104, 105, 106, 107, 108, 109, 110, 111, 112, 113, 114,
                                115, 116, 117, 118, 119, 120, 121, 122] } }))).and
              (IT.cmp CmpOp.Gt (IE.blt BF.len [IE.var 0]) (IE.cst (W.int (Int.ofNat 8))))).or
          ((IT.tru (IE.var 1)).and
            (IT.cmp CmpOp.NotIn (IE.var 0)
              (IE.cst (W.tup [W.str { cps := { toList := [59] } }, W.str { cps := { toList := [47] } }])))))
        [IStm.ret (IE.cst (W.str { cps := { toList := [119, 111, 114, 100] } }))] [],
      IStm.ret (IE.cst W.non)]
def b_scanned : List IStm :=
  [IStm.asg (STgt.tup [STgt.name 1, STgt.name 2, STgt.name 3])
        (IE.tup [IE.lst [], IE.cst (W.int (Int.ofNat 0)), IE.cst (W.bl false)]),
      IStm.whl (IT.cmp CmpOp.Lt (IE.var 2) (IE.blt BF.len [IE.var 0]))
        [IStm.ite (IT.cmp CmpOp.In ((IE.var 0).sub (IE.var 2)) (IE.cst (W.str { cps := { toList := [32, 10] } })))
            [IStm.asg (STgt.tup [STgt.name 2, STgt.name 3])
                (IE.tup [IE.bin Operator.Add (IE.var 2) (IE.cst (W.int (Int.ofNat 1))), IE.cst (W.bl false)]),
              IStm.cont]
            [],
          IStm.asg (STgt.tup [STgt.name 4, STgt.name 5])
            (IE.tup [IE.call 2 [IE.var 0, IE.var 2], IE.call 0 [(IE.var 0).slc none (some (IE.var 2))]]),
          IStm.asg (STgt.name 6) (IE.call 3 [IE.var 4, IE.var 3]),
          IStm.ite (IT.cmp CmpOp.IsNot (IE.var 6) (IE.cst W.non))
            [IStm.ret (IE.tup [IE.var 1, IE.bin Operator.Add (IE.tup [IE.var 6]) (IE.var 5)])] [],
          IStm.expr (IE.meth BM.append (IE.var 1) [IE.tup [IE.var 4, IE.var 5]]),
          IStm.asg (STgt.tup [STgt.name 2, STgt.name 3])
            (IE.tup
              [IE.bin Operator.Add (IE.var 2) (IE.blt BF.len [IE.var 4]),
                IE.cmp CmpOp.NotIn (IE.var 4)
                  (IE.cst (W.tup [W.str { cps := { toList := [59] } }, W.str { cps := { toList := [47] } }]))])],
      IStm.ret (IE.tup [IE.var 1, IE.cst W.non])]
def b_looked_over : List IStm :=
  [IStm.asg (STgt.tup [STgt.name 1, STgt.name 2]) (IE.call 4 [IE.var 0]),
      IStm.ite (IT.cmp CmpOp.Gt (IE.blt BF.len [IE.var 0]) (IE.cst (W.int (Int.ofNat 4000))))
        [IStm.asg (STgt.name 3) (IE.call 0 [(IE.var 0).slc none (some (IE.cst (W.int (Int.ofNat 4000))))]),
          IStm.ite
            ((IT.cmp CmpOp.Is (IE.var 2) (IE.cst W.non)).or
              (IT.cmp CmpOp.Lt (IE.var 3) ((IE.var 2).slc (some (IE.cst (W.int (Int.ofNat 1)))) none)))
            [IStm.ret
                (IE.tup
                  [(IE.var 4).comp (Tgt.name 4) (IIt.val (IE.var 1))
                      (some (IT.cmp CmpOp.Lt ((IE.var 4).sub (IE.cst (W.int (Int.ofNat 1)))) (IE.var 3))) [4],
                    IE.bin Operator.Add (IE.tup [IE.cst (W.str { cps := { toList := [108, 111, 110, 103] } })])
                      (IE.var 3)])]
            []]
        [],
      IStm.ret (IE.tup [IE.var 1, IE.var 2])]
def b_check_text : List IStm :=
  [IStm.ite (IT.tru (IE.blt BF.isinstance [IE.var 0, IE.cst (W.ty "str")])).not [IStm.nev] []]
def b_tokens : List IStm :=
  [IStm.expr (IE.call 6 [IE.var 0]), IStm.ret ((IE.call 5 [IE.var 0]).sub (IE.cst (W.int (Int.ofNat 0))))]
def b_token_fault : List IStm :=
  [IStm.expr (IE.call 6 [IE.var 0]), IStm.ret ((IE.call 5 [IE.var 0]).sub (IE.cst (W.int (Int.ofNat 1))))]
def b_kind_of : List IStm :=
  [IStm.ite
        ((IT.cmp CmpOp.In (IE.var 0)
              (IE.cst
                (W.tup
                  [W.str { cps := { toList := [104, 111, 117, 115, 101] } },
                    W.str { cps := { toList := [99, 97, 115, 104] } },
                    W.str { cps := { toList := [108, 105, 107, 101] } },
                    W.str { cps := { toList := [100, 101, 98, 116] } },
                    W.str { cps := { toList := [111, 119, 101, 115] } },
                    W.str { cps := { toList := [116, 105, 109, 101, 115] } },
                    W.str { cps := { toList := [101, 97, 99, 104] } }, W.str { cps := { toList := [100, 97, 121] } },
                    W.str { cps := { toList := [98, 111, 117, 110, 100] } },
                    W.str { cps := { toList := [116, 111] } }]))).or
          (IT.cmp CmpOp.In (IE.var 0)
            (IE.cst (W.tup [W.str { cps := { toList := [59] } }, W.str { cps := { toList := [47] } }]))))
        [IStm.ret (IE.var 0)] [],
      IStm.ret
        (IE.ite (IT.tru (IE.meth BM.isalpha ((IE.var 0).sub (IE.cst (W.int (Int.ofNat 0)))) []))
          (IE.cst (W.str { cps := { toList := [78, 65, 77, 69] } }))
          (IE.cst (W.str { cps := { toList := [78, 85, 77, 69, 82, 65, 76] } })))]
def b_row_for : List IStm :=
  [IStm.nev, IStm.nev]
def b_opened : List IStm :=
  [IStm.asg (STgt.name 2) (IE.blt BF.tList [IE.var 0]), IStm.nev, IStm.ret (IE.var 2)]
def b_led_by : List IStm :=
  [IStm.asg (STgt.name 2) (IE.call 11 [IE.var 0, IE.var 1]),
      IStm.ret
        (IE.ite
          ((IT.cmp CmpOp.NotEq (IE.var 2) (IE.lst [])).and
            (IT.cmp CmpOp.Eq ((IE.var 2).sub (IE.cst (W.int (Int.ofNat 1))).neg) (IE.var 1)))
          ((IE.var 2).slc none (some (IE.cst (W.int (Int.ofNat 1))).neg)) (IE.cst W.non))]
def b_is_too_much : List IStm :=
  [IStm.ite (IT.cmp CmpOp.Gt (IE.var 2) (IE.cst (W.int (Int.ofNat 60)))) [IStm.ret (IE.cst (W.bl true))] [],
      IStm.asg (STgt.name 3) ((IE.var 4).comp (Tgt.tup [Tgt.name 4, Tgt.name 5]) (IIt.val (IE.var 0)) none [4, 5]),
      IStm.nev,
      IStm.ite
        ((IT.cmp CmpOp.NotEq
              ((IE.var 3).slc (some (IE.var 6)) (some (IE.bin Operator.Add (IE.var 6) (IE.cst (W.int (Int.ofNat 1))))))
              (IE.lst [IE.cst (W.str { cps := { toList := [100, 101, 98, 116] } })])).or
          (IT.cmp CmpOp.NotIn ((IE.var 3).sub (IE.cst (W.int (Int.ofNat 1))).neg)
            (IE.tup
              [IE.cst (W.str { cps := { toList := [100, 101, 98, 116] } }),
                IE.cst (W.str { cps := { toList := [111, 119, 101, 115] } })])))
        [IStm.ret (IE.cst (W.bl false))] [],
      IStm.ret
        (IE.cmp CmpOp.GtE
          (IE.blt BF.len
            [(IE.var 4).comp (Tgt.name 4) (IIt.val ((IE.var 3).slc (some (IE.var 6)) none))
                (some (IT.cmp CmpOp.Eq (IE.var 4) (IE.cst (W.str { cps := { toList := [111, 119, 101, 115] } })))) [4]])
          (IE.cst (W.int (Int.ofNat 9))))]
def b_walked : List IStm :=
  [IStm.asg (STgt.tup [STgt.name 1, STgt.name 2, STgt.name 3])
        (IE.tup
          [IE.lst
              [IE.cst (W.str { cps := { toList := [69, 78, 68] } }),
                IE.cst (W.str { cps := { toList := [60, 105, 116, 101, 109, 115, 62] } })],
            IE.lst [], IE.cst (W.int (Int.ofNat 0))]),
      IStm.forS (Tgt.tup [Tgt.name 4, Tgt.name 5]) (IIt.val ((IE.call 5 [IE.var 0]).sub (IE.cst (W.int (Int.ofNat 0)))))
        [IStm.asg (STgt.name 3)
            (IE.bin Operator.Add (IE.var 3)
              (IE.ite
                (IT.cmp CmpOp.Eq (IE.var 1)
                  (IE.lst
                    [IE.cst (W.str { cps := { toList := [69, 78, 68] } }),
                      IE.cst (W.str { cps := { toList := [60, 105, 116, 101, 109, 115, 62] } })]))
                (IE.cst (W.int (Int.ofNat 1))) (IE.cst (W.int (Int.ofNat 0))))),
          IStm.asg (STgt.name 6) (IE.call 12 [IE.var 1, IE.call 9 [IE.var 4]]),
          IStm.ite ((IT.cmp CmpOp.Is (IE.var 6) (IE.cst W.non)).or (IT.tru (IE.call 13 [IE.var 2, IE.var 4, IE.var 3])))
            [IStm.ret (IE.tup [IE.var 2, IE.var 1, IE.var 5, IE.cmp CmpOp.IsNot (IE.var 6) (IE.cst W.non)])] [],
          IStm.expr (IE.meth BM.append (IE.var 2) [IE.tup [IE.var 4, IE.var 5]]), IStm.asg (STgt.name 1) (IE.var 6)],
      IStm.ret (IE.tup [IE.var 2, IE.var 1, IE.cst W.non, IE.cst (W.bl false)])]
def b_fault_by : List IStm :=
  [IStm.asg (STgt.name 1) ((IE.call 5 [IE.var 0]).sub (IE.cst (W.int (Int.ofNat 1)))),
      IStm.ite (IT.cmp CmpOp.IsNot (IE.var 1) (IE.cst W.non)) [IStm.ret (IE.var 1)] [],
      IStm.asg (STgt.tup [STgt.name 2, STgt.name 3, STgt.name 4, STgt.name 5]) (IE.call 14 [IE.var 0]),
      IStm.ite (IT.cmp CmpOp.IsNot (IE.var 4) (IE.cst W.non))
        [IStm.ret
            (IE.bin Operator.Add
              (IE.ite (IT.tru (IE.var 5)) (IE.tup [IE.cst (W.str { cps := { toList := [109, 117, 99, 104] } })])
                (IE.tup [IE.cst (W.str { cps := { toList := [115, 121, 110, 116, 97, 120] } })]))
              (IE.var 4))]
        [],
      IStm.ret
        (IE.ite
          (IT.cmp CmpOp.Eq (IE.var 3)
            (IE.lst
              [IE.cst (W.str { cps := { toList := [69, 78, 68] } }),
                IE.cst (W.str { cps := { toList := [60, 105, 116, 101, 109, 115, 62] } })]))
          (IE.cst W.non)
          (IE.bin Operator.Add (IE.tup [IE.cst (W.str { cps := { toList := [115, 121, 110, 116, 97, 120] } })])
            (IE.call 0 [IE.var 0])))]
def b_letter_fault : List IStm :=
  [IStm.expr (IE.call 6 [IE.var 0]), IStm.ret (IE.call 15 [IE.var 0])]
def b__law_pot : List IStm :=
  [IStm.asg (STgt.name 2)
        (IE.ite (IT.cmp CmpOp.Lt (IE.var 1) (IE.blt BF.len [IE.var 0])) (IE.blt BF.abs [(IE.var 0).sub (IE.var 1)])
          (IE.bin Operator.Add (IE.bin Operator.Mult (IE.cst (W.int (Int.ofNat 1951))) (IE.var 1))
            (IE.cst (W.int (Int.ofNat 1451))))),
      IStm.ret
        (IE.lst
          [IE.blt BF.max
              [IE.cst (W.int (Int.ofNat 0)),
                IE.bin Operator.Sub (IE.var 2)
                  (IE.bin Operator.Pow (IE.cst (W.int (Int.ofNat 10))) (IE.cst (W.int (Int.ofNat 18))))],
            IE.bin Operator.Add
              (IE.bin Operator.Mod
                (IE.blt BF.tInt
                  [IE.bin Operator.Add
                      (IE.bin Operator.Add
                        (IE.bin Operator.Mult
                          (IE.bin Operator.Mod (IE.blt BF.tInt [IE.var 2]) (IE.cst (W.int (Int.ofNat 2147483549))))
                          (IE.cst (W.int (Int.ofNat 40009))))
                        (IE.bin Operator.Mult (IE.cst (W.int (Int.ofNat 6271))) (IE.var 1)))
                      (IE.cst (W.int (Int.ofNat 1451)))])
                (IE.cst (W.int (Int.ofNat 2147483563))))
              (IE.cst (W.int (Int.ofNat 1)))])]
def b__law_draw : List IStm :=
  [IStm.ite (IT.cmp CmpOp.Gt ((IE.var 0).sub (IE.cst (W.int (Int.ofNat 0)))) (IE.cst (W.int (Int.ofNat 0))))
        [IStm.asg (STgt.tup [STgt.sub (IE.var 0) (IE.cst (W.int (Int.ofNat 0))), STgt.name 2])
            (IE.blt BF.divmod [(IE.var 0).sub (IE.cst (W.int (Int.ofNat 0))), IE.var 1]),
          IStm.ret (IE.var 2)]
        [],
      IStm.asg (STgt.sub (IE.var 0) (IE.cst (W.int (Int.ofNat 1))))
        (IE.bin Operator.Mod
          (IE.blt BF.tInt
            [IE.bin Operator.Add
                (IE.bin Operator.Mult ((IE.var 0).sub (IE.cst (W.int (Int.ofNat 1))))
                  (IE.cst (W.int (Int.ofNat 40692))))
                (IE.cst (W.int (Int.ofNat 6271)))])
          (IE.cst (W.int (Int.ofNat 2147483587)))),
      IStm.ret
        (IE.bin Operator.Mod
          (IE.blt BF.tInt
            [IE.bin Operator.FloorDiv
                (IE.bin Operator.Mod
                  (IE.blt BF.tInt
                    [IE.bin Operator.Mult ((IE.var 0).sub (IE.cst (W.int (Int.ofNat 1))))
                        ((IE.var 0).sub (IE.cst (W.int (Int.ofNat 1))))])
                  (IE.cst (W.int (Int.ofNat 2147483563))))
                (IE.cst (W.int (Int.ofNat 23)))])
          (IE.var 1))]
def b__law_pick : List IStm :=
  [IStm.ret ((IE.var 1).sub (IE.call 18 [IE.var 0, IE.blt BF.len [IE.var 1]]))]
def b__law_kind_of : List IStm :=
  [IStm.ret
        (IE.ite
          (IT.chn CmpOp.LtE CmpOp.LtE (IE.cst (W.str { cps := { toList := [97] } })) (IE.var 0)
            (IE.cst (W.str { cps := { toList := [122] } })))
          (IE.cst (W.str { cps := { toList := [119, 111, 114, 100] } }))
          (IE.ite
            (IT.chn CmpOp.LtE CmpOp.LtE (IE.cst (W.str { cps := { toList := [48] } })) (IE.var 0)
              (IE.cst (W.str { cps := { toList := [57] } })))
            (IE.cst (W.str { cps := { toList := [110, 117, 109, 101, 114, 97, 108] } }))
            (IE.cst (W.str { cps := { toList := [115, 105, 103, 110] } }))))]
def b__law_lex : List IStm :=
  [IStm.asg (STgt.tup [STgt.name 1, STgt.name 2, STgt.name 3, STgt.name 4, STgt.name 5])
        (IE.tup
          [IE.lst [], IE.lst [], IE.cst (W.int (Int.ofNat 0)), IE.cst (W.int (Int.ofNat 1)),
            IE.cst (W.int (Int.ofNat 1))]),
      IStm.whl (IT.cmp CmpOp.Lt (IE.var 3) (IE.blt BF.len [IE.var 0]))
        [IStm.ite (IT.cmp CmpOp.In ((IE.var 0).sub (IE.var 3)) (IE.cst (W.str { cps := { toList := [32, 10] } })))
            [IStm.asg (STgt.tup [STgt.name 4, STgt.name 5])
                (IE.ite (IT.cmp CmpOp.Eq ((IE.var 0).sub (IE.var 3)) (IE.cst (W.str { cps := { toList := [10] } })))
                  (IE.tup [IE.bin Operator.Add (IE.var 4) (IE.cst (W.int (Int.ofNat 1))), IE.cst (W.int (Int.ofNat 1))])
                  (IE.tup [IE.var 4, IE.bin Operator.Add (IE.var 5) (IE.cst (W.int (Int.ofNat 1)))])),
              IStm.asg (STgt.name 3) (IE.bin Operator.Add (IE.var 3) (IE.cst (W.int (Int.ofNat 1)))), IStm.cont]
            [],
          IStm.asg (STgt.tup [STgt.name 6, STgt.name 7])
            (IE.tup
              [IE.call 20 [(IE.var 0).sub (IE.var 3)], IE.bin Operator.Add (IE.var 3) (IE.cst (W.int (Int.ofNat 1)))]),
          IStm.whl
            ((IT.cmp CmpOp.NotEq (IE.var 6) (IE.cst (W.str { cps := { toList := [115, 105, 103, 110] } }))).and
              ((IT.cmp CmpOp.Lt (IE.var 7) (IE.blt BF.len [IE.var 0])).and
                (IT.cmp CmpOp.Eq (IE.call 20 [(IE.var 0).sub (IE.var 7)]) (IE.var 6))))
            [IStm.asg (STgt.name 7) (IE.bin Operator.Add (IE.var 7) (IE.cst (W.int (Int.ofNat 1))))],
          IStm.asg (STgt.name 8) ((IE.var 0).slc (some (IE.var 3)) (some (IE.var 7))),
          IStm.ite
            ((IT.cmp CmpOp.Eq (IE.var 6) (IE.cst (W.str { cps := { toList := [115, 105, 103, 110] } }))).and
              (IT.cmp CmpOp.NotIn (IE.var 8)
                (IE.tup [IE.cst (W.str { cps := { toList := [59] } }), IE.cst (W.str { cps := { toList := [47] } })])))
            [IStm.expr
                (IE.meth BM.append (IE.var 2)
                  [IE.tup
                      [IE.var 4, IE.var 5, IE.cst (W.int (Int.ofNat 0)),
                        IE.cst (W.str { cps := { toList := [115, 105, 103, 110] } })]])]
            [],
          IStm.ite
            ((IT.cmp CmpOp.Eq (IE.var 6)
                  (IE.cst (W.str { cps := { toList := [110, 117, 109, 101, 114, 97, 108] } }))).and
              ((IT.cmp CmpOp.Gt (IE.blt BF.len [IE.var 8]) (IE.cst (W.int (Int.ofNat 9)))).or
                ((IT.cmp CmpOp.Eq ((IE.var 8).sub (IE.cst (W.int (Int.ofNat 0))))
                      (IE.cst (W.str { cps := { toList := [48] } }))).and
                  (IT.cmp CmpOp.NotEq (IE.var 8) (IE.cst (W.str { cps := { toList := [48] } }))))))
            [IStm.expr
                (IE.meth BM.append (IE.var 2)
                  [IE.tup
                      [IE.var 4, IE.var 5, IE.cst (W.int (Int.ofNat 1)),
                        IE.cst (W.str { cps := { toList := [110, 117, 109, 101, 114, 97, 108] } })]])]
            [],
          IStm.asg (STgt.name 9)
            ((IE.cmp CmpOp.Gt (IE.var 3) (IE.cst (W.int (Int.ofNat 0)))).and
              ((IE.cmp CmpOp.NotEq (IE.var 6) (IE.cst (W.str { cps := { toList := [115, 105, 103, 110] } }))).and
                ((IE.cmp CmpOp.NotIn ((IE.var 0).sub (IE.bin Operator.Sub (IE.var 3) (IE.cst (W.int (Int.ofNat 1)))))
                      (IE.cst (W.str { cps := { toList := [32, 10] } }))).and
                  (IE.cmp CmpOp.NotIn
                    (IE.call 20 [(IE.var 0).sub (IE.bin Operator.Sub (IE.var 3) (IE.cst (W.int (Int.ofNat 1))))])
                    (IE.tup [IE.cst (W.str { cps := { toList := [115, 105, 103, 110] } }), IE.var 6]))))),
          IStm.ite
            (((IT.cmp CmpOp.Eq (IE.var 6) (IE.cst (W.str { cps := { toList := [119, 111, 114, 100] } }))).and
                  (IT.cmp CmpOp.Gt (IE.blt BF.len [IE.var 8]) (IE.cst (W.int (Int.ofNat 8))))).or
              (IT.tru (IE.var 9)))
            [IStm.expr
                (IE.meth BM.append (IE.var 2)
                  [IE.tup
                      [IE.var 4, IE.var 5, IE.cst (W.int (Int.ofNat 2)),
                        IE.cst (W.str { cps := { toList := [119, 111, 114, 100] } })]])]
            [],
          IStm.expr (IE.meth BM.append (IE.var 1) [IE.tup [IE.var 8, IE.tup [IE.var 4, IE.var 5]]]),
          IStm.asg (STgt.tup [STgt.name 3, STgt.name 5])
            (IE.tup [IE.var 7, IE.bin Operator.Sub (IE.bin Operator.Add (IE.var 5) (IE.var 7)) (IE.var 3)])],
      IStm.ret (IE.tup [IE.var 1, IE.var 2])]
def b__law_place_at : List IStm :=
  [IStm.ret
        (IE.tup
          [IE.bin Operator.Add
              (IE.meth BM.count ((IE.var 0).slc none (some (IE.var 1))) [IE.cst (W.str { cps := { toList := [10] } })])
              (IE.cst (W.int (Int.ofNat 1))),
            IE.bin Operator.Sub (IE.var 1)
              (IE.meth BM.rfind ((IE.var 0).slc none (some (IE.var 1)))
                [IE.cst (W.str { cps := { toList := [10] } })])])]
def b__law_lexed : List IStm :=
  [IStm.asg (STgt.tup [STgt.name 1, STgt.name 2]) (IE.call 21 [IE.var 0]),
      IStm.ite (IT.cmp CmpOp.Gt (IE.blt BF.len [IE.var 0]) (IE.cst (W.int (Int.ofNat 4000))))
        [IStm.expr
            (IE.meth BM.append (IE.var 2)
              [IE.bin Operator.Add (IE.call 22 [IE.var 0, IE.cst (W.int (Int.ofNat 4000))])
                  (IE.tup
                    [IE.cst (W.int (Int.ofNat 3)), IE.cst (W.str { cps := { toList := [108, 111, 110, 103] } })])])]
        [],
      IStm.ite (IT.cmp CmpOp.Eq (IE.var 2) (IE.lst [])) [IStm.ret (IE.tup [IE.var 1, IE.cst W.non])] [],
      IStm.asg (STgt.name 3) ((IE.blt BF.sorted [IE.var 2]).sub (IE.cst (W.int (Int.ofNat 0)))),
      IStm.ret
        (IE.tup
          [(IE.var 4).comp (Tgt.name 4) (IIt.val (IE.var 1))
              (some
                (IT.cmp CmpOp.Lt ((IE.var 4).sub (IE.cst (W.int (Int.ofNat 1))))
                  ((IE.var 3).slc none (some (IE.cst (W.int (Int.ofNat 2)))))))
              [4],
            IE.bin Operator.Add (IE.tup [(IE.var 3).sub (IE.cst (W.int (Int.ofNat 3)))])
              ((IE.var 3).slc none (some (IE.cst (W.int (Int.ofNat 2)))))])]
def b__law_piece : List IStm :=
  [IStm.asg (STgt.name 1) (IE.call 18 [IE.var 0, IE.cst (W.int (Int.ofNat 9))]),
      IStm.ite (IT.cmp CmpOp.Lt (IE.var 1) (IE.cst (W.int (Int.ofNat 3))))
        [IStm.ret
            (IE.call 19
              [IE.var 0,
                IE.lst
                  [IE.cst (W.str { cps := { toList := [97] } }),
                    IE.cst (W.str { cps := { toList := [104, 111, 117, 115, 101] } }),
                    IE.cst (W.str { cps := { toList := [100, 101, 98, 116] } }),
                    IE.cst (W.str { cps := { toList := [97, 98, 99, 100, 101, 102, 103, 104] } }),
                    IE.cst (W.str { cps := { toList := [97, 98, 99, 100, 101, 102, 103, 104, 105] } }),
                    IE.cst (W.str { cps := { toList := [116, 111] } }), IE.cst (W.str { cps := { toList := [120] } }),
                    IE.cst (W.str { cps := { toList := [111, 119, 101, 115] } }),
                    IE.cst (W.str { cps := { toList := [104, 111, 117, 115, 101, 99, 97, 115, 104] } })]])]
        [],
      IStm.ite (IT.cmp CmpOp.Lt (IE.var 1) (IE.cst (W.int (Int.ofNat 5))))
        [IStm.ret
            (IE.call 19
              [IE.var 0,
                IE.lst
                  [IE.cst (W.str { cps := { toList := [48] } }), IE.cst (W.str { cps := { toList := [55] } }),
                    IE.cst (W.str { cps := { toList := [52, 50] } }),
                    IE.cst (W.str { cps := { toList := [57, 57, 57, 57, 57, 57, 57, 57, 57] } }),
                    IE.cst (W.str { cps := { toList := [49, 48, 48, 48, 48, 48, 48, 48, 48, 48] } }),
                    IE.cst (W.str { cps := { toList := [48, 55] } }), IE.cst (W.str { cps := { toList := [48, 48] } }),
                    IE.cst (W.str { cps := { toList := [49, 48, 48] } })]])]
        [],
      IStm.ite (IT.cmp CmpOp.Lt (IE.var 1) (IE.cst (W.int (Int.ofNat 7))))
        [IStm.ret
            (IE.call 19
              [IE.var 0,
                IE.lst
                  [IE.cst (W.str { cps := { toList := [59] } }), IE.cst (W.str { cps := { toList := [47] } }),
                    IE.cst (W.str { cps := { toList := [32] } }), IE.cst (W.str { cps := { toList := [59, 59] } }),
                    IE.cst (W.str { cps := { toList := [47, 47] } })]])]
        [],
      IStm.ret
        (IE.ite (IT.cmp CmpOp.Eq (IE.var 1) (IE.cst (W.int (Int.ofNat 7))))
          (IE.call 19
            [IE.var 0,
              IE.lst
                [IE.cst (W.str { cps := { toList := [32] } }), IE.cst (W.str { cps := { toList := [10] } }),
                  IE.cst (W.str { cps := { toList := [32, 32] } }),
                  IE.cst (W.str { cps := { toList := [32, 10, 32] } }), IE.cst (W.str { cps := { toList := [63] } }),
                  IE.cst (W.str { cps := { toList := [65] } }), IE.cst (W.str { cps := { toList := [95] } }),
                  IE.cst (W.str { cps := { toList := [44] } }), IE.cst (W.str { cps := { toList := [46] } }),
                  IE.cst (W.str { cps := { toList := [126] } })]])
          (IE.cst (W.str { cps := { toList := [32] } })))]
def b__law_text : List IStm :=
  [IStm.asg (STgt.name 2)
        (IE.meth BM.join (IE.cst (W.str { cps := { toList := [] } }))
          [(IE.call 24 [IE.var 0]).comp (Tgt.name 3) (IIt.rng (IE.call 18 [IE.var 0, IE.cst (W.int (Int.ofNat 14))]))
              none [3]]),
      IStm.asg (STgt.name 4) (IE.call 18 [IE.var 1, IE.cst (W.int (Int.ofNat 5))]),
      IStm.asg (STgt.name 5)
        (IE.call 18 [IE.var 1, IE.bin Operator.Add (IE.blt BF.len [IE.var 2]) (IE.cst (W.int (Int.ofNat 1)))]),
      IStm.ite (IT.cmp CmpOp.Eq (IE.var 4) (IE.cst (W.int (Int.ofNat 0))))
        [IStm.ret
            (IE.bin Operator.Add
              (IE.bin Operator.Add ((IE.var 2).slc none (some (IE.var 5)))
                (IE.call 19
                  [IE.var 1,
                    IE.lst
                      [IE.cst (W.str { cps := { toList := [35] } }), IE.cst (W.str { cps := { toList := [48] } }),
                        IE.cst (W.str { cps := { toList := [57] } }), IE.cst (W.str { cps := { toList := [122] } }),
                        IE.cst (W.str { cps := { toList := [10] } }), IE.cst (W.str { cps := { toList := [90] } }),
                        IE.cst (W.str { cps := { toList := [59] } }), IE.cst (W.str { cps := { toList := [47] } })]]))
              ((IE.var 2).slc (some (IE.var 5)) none))]
        [],
      IStm.ite (IT.cmp CmpOp.Eq (IE.var 4) (IE.cst (W.int (Int.ofNat 1))))
        [IStm.ret
            (IE.bin Operator.Add ((IE.var 2).slc none (some (IE.var 5)))
              ((IE.var 2).slc (some (IE.bin Operator.Add (IE.var 5) (IE.cst (W.int (Int.ofNat 1))))) none))]
        [],
      IStm.ite
        ((IT.cmp CmpOp.Eq (IE.var 4) (IE.cst (W.int (Int.ofNat 2)))).and
          (IT.cmp CmpOp.Eq (IE.call 18 [IE.var 1, IE.cst (W.int (Int.ofNat 3))]) (IE.cst (W.int (Int.ofNat 0)))))
        [IStm.ret
            (IE.bin Operator.Add
              (IE.bin Operator.Mult
                (IE.call 19
                  [IE.var 1,
                    IE.lst
                      [IE.cst (W.str { cps := { toList := [32] } }), IE.cst (W.str { cps := { toList := [32] } }),
                        IE.cst (W.str { cps := { toList := [10] } })]])
                (IE.bin Operator.Sub (IE.cst (W.int (Int.ofNat 4000)))
                  (IE.call 18
                    [IE.var 1, IE.bin Operator.Add (IE.blt BF.len [IE.var 2]) (IE.cst (W.int (Int.ofNat 20)))])))
              (IE.var 2))]
        [],
      IStm.ret (IE.var 2)]
def b_law : List IStm :=
  [IStm.asg (STgt.tup [STgt.name 1, STgt.name 2])
        (IE.tup
          [IE.call 17 [IE.var 0, IE.cst (W.int (Int.ofNat 0))], IE.call 17 [IE.var 0, IE.cst (W.int (Int.ofNat 1))]]),
      IStm.forS (Tgt.name 3) (IIt.rng (IE.cst (W.int (Int.ofNat 10))))
        [IStm.asg (STgt.name 4) (IE.call 25 [IE.var 1, IE.var 2]),
          IStm.asg (STgt.tup [STgt.name 5, STgt.name 6]) (IE.call 23 [IE.var 4]),
          IStm.asg (STgt.name 7) (IE.call 7 [IE.var 4]),
          IStm.ite
            (IT.cmp CmpOp.NotEq
              (IE.blt BF.repr
                [IE.lst [IE.var 7, IE.callk 7 [0] [] [IE.var 4], IE.call 8 [IE.var 4], IE.callk 8 [0] [] [IE.var 4]]])
              (IE.blt BF.repr [IE.lst [IE.var 5, IE.var 5, IE.var 6, IE.var 6]]))
            [IStm.ret (IE.cst (W.bl false))] [],
          IStm.expr (IE.meth BM.append (IE.var 7) [IE.cst W.non]),
          IStm.ite
            ((IT.cmp CmpOp.NotEq (IE.blt BF.repr [IE.call 7 [IE.var 4]]) (IE.blt BF.repr [IE.var 5])).or
              ((IT.cmp CmpOp.IsNot (IE.var 6) (IE.cst W.non)).and
                (IT.cmp CmpOp.NotEq (IE.blt BF.repr [IE.lst [IE.call 16 [IE.var 4], IE.callk 16 [0] [] [IE.var 4]]])
                  (IE.blt BF.repr [IE.lst [IE.var 6, IE.var 6]]))))
            [IStm.ret (IE.cst (W.bl false))] [],
          IStm.asg (STgt.name 8)
            (IE.bin Operator.Add (IE.var 4)
              (IE.call 19
                [IE.var 2,
                  IE.lst
                    [IE.cst (W.str { cps := { toList := [32, 63] } }), IE.cst (W.str { cps := { toList := [32, 48] } }),
                      IE.cst (W.str { cps := { toList := [10, 59] } }),
                      IE.cst (W.str { cps := { toList := [32, 97, 98, 99] } })]])),
          IStm.ite
            ((IT.cmp CmpOp.IsNot (IE.var 6) (IE.cst W.non)).and
              ((IT.cmp CmpOp.Lt (IE.blt BF.len [IE.var 8]) (IE.cst (W.int (Int.ofNat 4000)))).and
                (IT.cmp CmpOp.NotEq (IE.blt BF.repr [IE.lst [IE.call 7 [IE.var 8], IE.call 8 [IE.var 8]]])
                  (IE.blt BF.repr [IE.lst [IE.var 5, IE.var 6]]))))
            [IStm.ret (IE.cst (W.bl false))] []],
      IStm.ret (IE.cst (W.bl true))]
def dcs : Nat → DC := fun i => match i with
  | 0 => ⟨b_place_behind, 1, 1, 100000, true⟩
  | 1 => ⟨b_signs_of, 1, 1, 100000, true⟩
  | 2 => ⟨b_run_at, 4, 2, 100000, true⟩
  | 3 => ⟨b_wrong_with, 2, 2, 100000, true⟩
  | 4 => ⟨b_scanned, 7, 1, 100000, true⟩
  | 5 => ⟨b_looked_over, 5, 1, 100000, true⟩
  | 6 => ⟨b_check_text, 1, 1, 100000, true⟩
  | 7 => ⟨b_tokens, 1, 1, 100000, true⟩
  | 8 => ⟨b_token_fault, 1, 1, 100000, true⟩
  | 9 => ⟨b_kind_of, 1, 1, 100000, true⟩
  | 10 => ⟨b_row_for, 3, 2, 100000, true⟩
  | 11 => ⟨b_opened, 3, 2, 100000, true⟩
  | 12 => ⟨b_led_by, 3, 2, 100000, true⟩
  | 13 => ⟨b_is_too_much, 7, 3, 100000, true⟩
  | 14 => ⟨b_walked, 7, 1, 100000, true⟩
  | 15 => ⟨b_fault_by, 6, 1, 100000, true⟩
  | 16 => ⟨b_letter_fault, 1, 1, 100000, true⟩
  | 17 => ⟨b__law_pot, 3, 2, 100000, true⟩
  | 18 => ⟨b__law_draw, 3, 2, 100000, true⟩
  | 19 => ⟨b__law_pick, 2, 2, 100000, true⟩
  | 20 => ⟨b__law_kind_of, 1, 1, 100000, true⟩
  | 21 => ⟨b__law_lex, 10, 1, 100000, true⟩
  | 22 => ⟨b__law_place_at, 2, 2, 100000, true⟩
  | 23 => ⟨b__law_lexed, 5, 1, 100000, true⟩
  | 24 => ⟨b__law_piece, 2, 1, 100000, true⟩
  | 25 => ⟨b__law_text, 6, 2, 100000, true⟩
  | 26 => ⟨b_law, 9, 1, 100000, true⟩
  | _ => ⟨[], 0, 0, 0, false⟩
theorem b_place_behind_eq : cSs 60 c_place_behind (defBody s_place_behind) = b_place_behind := by rfl
theorem sc_place_behind : FnScope c_place_behind.N fi_place_behind.ps (defScope s_place_behind) := ⟨rfl, rfl, rfl, by decide +kernel, rfl, by decide +kernel, by decide +kernel⟩
theorem g_place_behind {hp : IH} {ws : List W} (h : ws.length = 1) : G dcs 0 ws hp = fin true hp (runB (envTo dcs 0) 100000 b_place_behind 1 ws hp) := G_eq h
theorem b_signs_of_eq : cSs 60 c_signs_of (defBody s_signs_of) = b_signs_of := by rfl
theorem sc_signs_of : FnScope c_signs_of.N fi_signs_of.ps (defScope s_signs_of) := ⟨rfl, rfl, rfl, by decide +kernel, rfl, by decide +kernel, by decide +kernel⟩
theorem g_signs_of {hp : IH} {ws : List W} (h : ws.length = 1) : G dcs 1 ws hp = fin true hp (runB (envTo dcs 1) 100000 b_signs_of 1 ws hp) := G_eq h
theorem b_run_at_eq : cSs 60 c_run_at (defBody s_run_at) = b_run_at := by rfl
theorem sc_run_at : FnScope c_run_at.N fi_run_at.ps (defScope s_run_at) := ⟨rfl, rfl, rfl, by decide +kernel, rfl, by decide +kernel, by decide +kernel⟩
theorem g_run_at {hp : IH} {ws : List W} (h : ws.length = 2) : G dcs 2 ws hp = fin true hp (runB (envTo dcs 2) 100000 b_run_at 4 ws hp) := G_eq h
theorem b_wrong_with_eq : cSs 60 c_wrong_with (defBody s_wrong_with) = b_wrong_with := by rfl
theorem sc_wrong_with : FnScope c_wrong_with.N fi_wrong_with.ps (defScope s_wrong_with) := ⟨rfl, rfl, rfl, by decide +kernel, rfl, by decide +kernel, by decide +kernel⟩
theorem g_wrong_with {hp : IH} {ws : List W} (h : ws.length = 2) : G dcs 3 ws hp = fin true hp (runB (envTo dcs 3) 100000 b_wrong_with 2 ws hp) := G_eq h
theorem b_scanned_eq : cSs 60 c_scanned (defBody s_scanned) = b_scanned := by rfl
theorem sc_scanned : FnScope c_scanned.N fi_scanned.ps (defScope s_scanned) := ⟨rfl, rfl, rfl, by decide +kernel, rfl, by decide +kernel, by decide +kernel⟩
theorem g_scanned {hp : IH} {ws : List W} (h : ws.length = 1) : G dcs 4 ws hp = fin true hp (runB (envTo dcs 4) 100000 b_scanned 7 ws hp) := G_eq h
theorem b_looked_over_eq : cSs 60 c_looked_over (defBody s_looked_over) = b_looked_over := by rfl
theorem sc_looked_over : FnScope c_looked_over.N fi_looked_over.ps (defScope s_looked_over) := ⟨rfl, rfl, rfl, by decide +kernel, rfl, by decide +kernel, by decide +kernel⟩
theorem g_looked_over {hp : IH} {ws : List W} (h : ws.length = 1) : G dcs 5 ws hp = fin true hp (runB (envTo dcs 5) 100000 b_looked_over 5 ws hp) := G_eq h
theorem b_check_text_eq : cSs 60 c_check_text (defBody s_check_text) = b_check_text := by rfl
theorem sc_check_text : FnScope c_check_text.N fi_check_text.ps (defScope s_check_text) := ⟨rfl, rfl, rfl, by decide +kernel, rfl, by decide +kernel, by decide +kernel⟩
theorem g_check_text {hp : IH} {ws : List W} (h : ws.length = 1) : G dcs 6 ws hp = fin true hp (runB (envTo dcs 6) 100000 b_check_text 1 ws hp) := G_eq h
theorem b_tokens_eq : cSs 60 c_tokens (defBody s_tokens) = b_tokens := by rfl
theorem sc_tokens : FnScope c_tokens.N fi_tokens.ps (defScope s_tokens) := ⟨rfl, rfl, rfl, by decide +kernel, rfl, by decide +kernel, by decide +kernel⟩
theorem g_tokens {hp : IH} {ws : List W} (h : ws.length = 1) : G dcs 7 ws hp = fin true hp (runB (envTo dcs 7) 100000 b_tokens 1 ws hp) := G_eq h
theorem b_token_fault_eq : cSs 60 c_token_fault (defBody s_token_fault) = b_token_fault := by rfl
theorem sc_token_fault : FnScope c_token_fault.N fi_token_fault.ps (defScope s_token_fault) := ⟨rfl, rfl, rfl, by decide +kernel, rfl, by decide +kernel, by decide +kernel⟩
theorem g_token_fault {hp : IH} {ws : List W} (h : ws.length = 1) : G dcs 8 ws hp = fin true hp (runB (envTo dcs 8) 100000 b_token_fault 1 ws hp) := G_eq h
theorem b_kind_of_eq : cSs 60 c_kind_of (defBody s_kind_of) = b_kind_of := by rfl
theorem sc_kind_of : FnScope c_kind_of.N fi_kind_of.ps (defScope s_kind_of) := ⟨rfl, rfl, rfl, by decide +kernel, rfl, by decide +kernel, by decide +kernel⟩
theorem g_kind_of {hp : IH} {ws : List W} (h : ws.length = 1) : G dcs 9 ws hp = fin true hp (runB (envTo dcs 9) 100000 b_kind_of 1 ws hp) := G_eq h
theorem b_row_for_eq : cSs 60 c_row_for (defBody s_row_for) = b_row_for := by rfl
theorem sc_row_for : FnScope c_row_for.N fi_row_for.ps (defScope s_row_for) := ⟨rfl, rfl, rfl, by decide +kernel, rfl, by decide +kernel, by decide +kernel⟩
theorem g_row_for {hp : IH} {ws : List W} (h : ws.length = 2) : G dcs 10 ws hp = fin true hp (runB (envTo dcs 10) 100000 b_row_for 3 ws hp) := G_eq h
theorem b_opened_eq : cSs 60 c_opened (defBody s_opened) = b_opened := by rfl
theorem sc_opened : FnScope c_opened.N fi_opened.ps (defScope s_opened) := ⟨rfl, rfl, rfl, by decide +kernel, rfl, by decide +kernel, by decide +kernel⟩
theorem g_opened {hp : IH} {ws : List W} (h : ws.length = 2) : G dcs 11 ws hp = fin true hp (runB (envTo dcs 11) 100000 b_opened 3 ws hp) := G_eq h
theorem b_led_by_eq : cSs 60 c_led_by (defBody s_led_by) = b_led_by := by rfl
theorem sc_led_by : FnScope c_led_by.N fi_led_by.ps (defScope s_led_by) := ⟨rfl, rfl, rfl, by decide +kernel, rfl, by decide +kernel, by decide +kernel⟩
theorem g_led_by {hp : IH} {ws : List W} (h : ws.length = 2) : G dcs 12 ws hp = fin true hp (runB (envTo dcs 12) 100000 b_led_by 3 ws hp) := G_eq h
theorem b_is_too_much_eq : cSs 60 c_is_too_much (defBody s_is_too_much) = b_is_too_much := by rfl
theorem sc_is_too_much : FnScope c_is_too_much.N fi_is_too_much.ps (defScope s_is_too_much) := ⟨rfl, rfl, rfl, by decide +kernel, rfl, by decide +kernel, by decide +kernel⟩
theorem g_is_too_much {hp : IH} {ws : List W} (h : ws.length = 3) : G dcs 13 ws hp = fin true hp (runB (envTo dcs 13) 100000 b_is_too_much 7 ws hp) := G_eq h
theorem b_walked_eq : cSs 60 c_walked (defBody s_walked) = b_walked := by rfl
theorem sc_walked : FnScope c_walked.N fi_walked.ps (defScope s_walked) := ⟨rfl, rfl, rfl, by decide +kernel, rfl, by decide +kernel, by decide +kernel⟩
theorem g_walked {hp : IH} {ws : List W} (h : ws.length = 1) : G dcs 14 ws hp = fin true hp (runB (envTo dcs 14) 100000 b_walked 7 ws hp) := G_eq h
theorem b_fault_by_eq : cSs 60 c_fault_by (defBody s_fault_by) = b_fault_by := by rfl
theorem sc_fault_by : FnScope c_fault_by.N fi_fault_by.ps (defScope s_fault_by) := ⟨rfl, rfl, rfl, by decide +kernel, rfl, by decide +kernel, by decide +kernel⟩
theorem g_fault_by {hp : IH} {ws : List W} (h : ws.length = 1) : G dcs 15 ws hp = fin true hp (runB (envTo dcs 15) 100000 b_fault_by 6 ws hp) := G_eq h
theorem b_letter_fault_eq : cSs 60 c_letter_fault (defBody s_letter_fault) = b_letter_fault := by rfl
theorem sc_letter_fault : FnScope c_letter_fault.N fi_letter_fault.ps (defScope s_letter_fault) := ⟨rfl, rfl, rfl, by decide +kernel, rfl, by decide +kernel, by decide +kernel⟩
theorem g_letter_fault {hp : IH} {ws : List W} (h : ws.length = 1) : G dcs 16 ws hp = fin true hp (runB (envTo dcs 16) 100000 b_letter_fault 1 ws hp) := G_eq h
theorem b__law_pot_eq : cSs 60 c__law_pot (defBody s__law_pot) = b__law_pot := by rfl
theorem sc__law_pot : FnScope c__law_pot.N fi__law_pot.ps (defScope s__law_pot) := ⟨rfl, rfl, rfl, by decide +kernel, rfl, by decide +kernel, by decide +kernel⟩
theorem g__law_pot {hp : IH} {ws : List W} (h : ws.length = 2) : G dcs 17 ws hp = fin true hp (runB (envTo dcs 17) 100000 b__law_pot 3 ws hp) := G_eq h
theorem b__law_draw_eq : cSs 60 c__law_draw (defBody s__law_draw) = b__law_draw := by rfl
theorem sc__law_draw : FnScope c__law_draw.N fi__law_draw.ps (defScope s__law_draw) := ⟨rfl, rfl, rfl, by decide +kernel, rfl, by decide +kernel, by decide +kernel⟩
theorem g__law_draw {hp : IH} {ws : List W} (h : ws.length = 2) : G dcs 18 ws hp = fin true hp (runB (envTo dcs 18) 100000 b__law_draw 3 ws hp) := G_eq h
theorem b__law_pick_eq : cSs 60 c__law_pick (defBody s__law_pick) = b__law_pick := by rfl
theorem sc__law_pick : FnScope c__law_pick.N fi__law_pick.ps (defScope s__law_pick) := ⟨rfl, rfl, rfl, by decide +kernel, rfl, by decide +kernel, by decide +kernel⟩
theorem g__law_pick {hp : IH} {ws : List W} (h : ws.length = 2) : G dcs 19 ws hp = fin true hp (runB (envTo dcs 19) 100000 b__law_pick 2 ws hp) := G_eq h
theorem b__law_kind_of_eq : cSs 60 c__law_kind_of (defBody s__law_kind_of) = b__law_kind_of := by rfl
theorem sc__law_kind_of : FnScope c__law_kind_of.N fi__law_kind_of.ps (defScope s__law_kind_of) := ⟨rfl, rfl, rfl, by decide +kernel, rfl, by decide +kernel, by decide +kernel⟩
theorem g__law_kind_of {hp : IH} {ws : List W} (h : ws.length = 1) : G dcs 20 ws hp = fin true hp (runB (envTo dcs 20) 100000 b__law_kind_of 1 ws hp) := G_eq h
theorem b__law_lex_eq : cSs 60 c__law_lex (defBody s__law_lex) = b__law_lex := by rfl
theorem sc__law_lex : FnScope c__law_lex.N fi__law_lex.ps (defScope s__law_lex) := ⟨rfl, rfl, rfl, by decide +kernel, rfl, by decide +kernel, by decide +kernel⟩
theorem g__law_lex {hp : IH} {ws : List W} (h : ws.length = 1) : G dcs 21 ws hp = fin true hp (runB (envTo dcs 21) 100000 b__law_lex 10 ws hp) := G_eq h
theorem b__law_place_at_eq : cSs 60 c__law_place_at (defBody s__law_place_at) = b__law_place_at := by rfl
theorem sc__law_place_at : FnScope c__law_place_at.N fi__law_place_at.ps (defScope s__law_place_at) := ⟨rfl, rfl, rfl, by decide +kernel, rfl, by decide +kernel, by decide +kernel⟩
theorem g__law_place_at {hp : IH} {ws : List W} (h : ws.length = 2) : G dcs 22 ws hp = fin true hp (runB (envTo dcs 22) 100000 b__law_place_at 2 ws hp) := G_eq h
theorem b__law_lexed_eq : cSs 60 c__law_lexed (defBody s__law_lexed) = b__law_lexed := by rfl
theorem sc__law_lexed : FnScope c__law_lexed.N fi__law_lexed.ps (defScope s__law_lexed) := ⟨rfl, rfl, rfl, by decide +kernel, rfl, by decide +kernel, by decide +kernel⟩
theorem g__law_lexed {hp : IH} {ws : List W} (h : ws.length = 1) : G dcs 23 ws hp = fin true hp (runB (envTo dcs 23) 100000 b__law_lexed 5 ws hp) := G_eq h
theorem b__law_piece_eq : cSs 60 c__law_piece (defBody s__law_piece) = b__law_piece := by rfl
theorem sc__law_piece : FnScope c__law_piece.N fi__law_piece.ps (defScope s__law_piece) := ⟨rfl, rfl, rfl, by decide +kernel, rfl, by decide +kernel, by decide +kernel⟩
theorem g__law_piece {hp : IH} {ws : List W} (h : ws.length = 1) : G dcs 24 ws hp = fin true hp (runB (envTo dcs 24) 100000 b__law_piece 2 ws hp) := G_eq h
theorem b__law_text_eq : cSs 60 c__law_text (defBody s__law_text) = b__law_text := by rfl
theorem sc__law_text : FnScope c__law_text.N fi__law_text.ps (defScope s__law_text) := ⟨rfl, rfl, rfl, by decide +kernel, rfl, by decide +kernel, by decide +kernel⟩
theorem g__law_text {hp : IH} {ws : List W} (h : ws.length = 2) : G dcs 25 ws hp = fin true hp (runB (envTo dcs 25) 100000 b__law_text 6 ws hp) := G_eq h
theorem b_law_eq : cSs 60 c_law (defBody s_law) = b_law := by rfl
theorem sc_law : FnScope c_law.N fi_law.ps (defScope s_law) := ⟨rfl, rfl, rfl, by decide +kernel, rfl, by decide +kernel, by decide +kernel⟩
theorem g_law {hp : IH} {ws : List W} (h : ws.length = 1) : G dcs 26 ws hp = fin true hp (runB (envTo dcs 26) 100000 b_law 9 ws hp) := G_eq h
end K11

set_option Elab.async false
set_option linter.all false
set_option autoImplicit false
set_option maxRecDepth 100000
set_option maxHeartbeats 4000000
/-! k11, the plain law: two lexers. -/
namespace K11
def kd (c : Nat) : Nat := if 97 ≤ c ∧ c ≤ 122 then 0 else if 48 ≤ c ∧ c ≤ 57 then 1 else 2
def blk (c : Nat) : Bool := decide (c = 32 ∨ c = 10)
def tok : List Nat → List Nat
  | [] => []
  | c :: r => if kd c = 2 then [c] else c :: r.takeWhile fun d => decide (kd d = kd c)
def kdT (t : List Nat) : Nat := kd (t.headD 0)
def isS (t : List Nat) : Bool := decide (t = [59] ∨ t = [47])
/-- what is wrong with a token, by its rank -/
def wrL (t : List Nat) (b : Bool) : List Nat :=
  (if kdT t = 2 ∧ isS t = false then [0] else []) ++ (if kdT t = 1 ∧ (9 < t.length ∨ (t.headD 0 = 48 ∧ t ≠ [48])) then [1] else []) ++ (if (kdT t = 0 ∧ 8 < t.length) ∨ b = true then [2] else [])
def wrP (t : List Nat) (b : Bool) : Option Nat :=
  if kdT t = 2 ∧ isS t = false then some 0 else if kdT t = 1 ∧ (9 < t.length ∨ (1 < t.length ∧ t.headD 0 = 48)) then some 1 else if (kdT t = 0 ∧ 8 < t.length) ∨ (b = true ∧ isS t = false) then some 2 else none
abbrev TK := List Nat × Nat
def scanF : Nat → List Nat → Nat → Bool → List TK × Option (Nat × Nat)
  | 0, _, _, _ => ([], none)
  | f + 1, s, p, b => match s.drop p with
    | [] => ([], none)
    | c :: r => if blk c = true then scanF f s (p + 1) false else
      match wrP (tok (c :: r)) b with
      | some w => ([], some (w, p))
      | none => ((tok (c :: r), p) :: (scanF f s (p + (tok (c :: r)).length) (!isS (tok (c :: r)))).1, (scanF f s (p + (tok (c :: r)).length) (!isS (tok (c :: r)))).2)
/-- whether a token stands directly behind one of the other kind -/
def bes (s : List Nat) (p : Nat) : Bool := decide (0 < p) && (decide (kd (s.getD p 0) ≠ 2) && (!blk (s.getD (p - 1) 0) && (!decide (kd (s.getD (p - 1) 0) = 2) && !decide (kd (s.getD (p - 1) 0) = kd (s.getD p 0)))))
def lexF : Nat → List Nat → Nat → List TK × List (Nat × Nat)
  | 0, _, _ => ([], [])
  | f + 1, s, p => match s.drop p with
    | [] => ([], [])
    | c :: r => if blk c = true then lexF f s (p + 1) else
      ((tok (c :: r), p) :: (lexF f s (p + (tok (c :: r)).length)).1, (wrL (tok (c :: r)) (bes s p)).map (fun w => (w, p)) ++ (lexF f s (p + (tok (c :: r)).length)).2)
theorem tok_cons (c : Nat) (r : List Nat) : tok (c :: r) = if kd c = 2 then [c] else c :: r.takeWhile fun d => decide (kd d = kd c) := rfl
theorem tok_pos (c : Nat) (r : List Nat) : 1 ≤ (tok (c :: r)).length := by
  rw [tok_cons]
  split
  · exact Nat.le_refl 1
  · rw [List.length_cons]
    omega
theorem tok_pre (c : Nat) (r : List Nat) : ∃ m, m ≤ r.length ∧ tok (c :: r) = c :: r.take m ∧ (∀ d ∈ r.take m, kd d = kd c) ∧ (kd c = 2 → m = 0) ∧ (kd c ≠ 2 → ∀ d, r[m]? = some d → kd d ≠ kd c) := by
  rw [tok_cons]
  by_cases h : kd c = 2
  · rw [if_pos h]
    exact ⟨0, Nat.zero_le _, rfl, fun d hd => by simp at hd, fun _ => rfl, fun z => absurd h z⟩
  · rw [if_neg h]
    have key : ∀ r : List Nat, ∃ m, m ≤ r.length ∧ r.takeWhile (fun d => decide (kd d = kd c)) = r.take m ∧ (∀ d ∈ r.take m, kd d = kd c) ∧ ∀ d, r[m]? = some d → kd d ≠ kd c := by
      intro r
      induction r with
      | nil => exact ⟨0, Nat.le_refl _, rfl, fun d hd => by simp at hd, fun d hd => by simp at hd⟩
      | cons x r ih =>
        obtain ⟨m, h1, h2, h3, h4⟩ := ih
        by_cases q : kd x = kd c
        · refine ⟨m + 1, by simp; exact h1, by rw [List.takeWhile_cons_of_pos (by simpa using q), h2]; rfl, fun d hd => ?_, fun d hd => h4 d (by simpa using hd)⟩
          rw [List.take_succ_cons] at hd
          rcases List.mem_cons.mp hd with e | hd
          · rw [e]; exact q
          · exact h3 d hd
        · refine ⟨0, Nat.zero_le _, by rw [List.takeWhile_cons_of_neg (by simpa using q)]; rfl, fun d hd => by simp at hd, fun d hd => ?_⟩
          simp at hd
          rw [← hd]
          exact q
    obtain ⟨m, h1, h2, h3, h4⟩ := key r
    exact ⟨m, h1, by rw [h2], h3, fun z => absurd z h, fun _ => h4⟩
/-- a token in its text -/
theorem tok_at {s : List Nat} {p c : Nat} {r : List Nat} (e : s.drop p = c :: r) : ∃ m, 1 ≤ m ∧ p + m ≤ s.length ∧ tok (c :: r) = (s.drop p).take m ∧ (tok (c :: r)).length = m ∧ (∀ i, i < m → kd (s.getD (p + i) 0) = kd c) ∧ (kd c = 2 → m = 1) ∧ (kd c ≠ 2 → p + m < s.length → kd (s.getD (p + m) 0) ≠ kd c) := by
  obtain ⟨m, h1, h2, h3, h4, h5⟩ := tok_pre c r
  have hl : (s.drop p).length = r.length + 1 := by rw [e]; rfl
  rw [List.length_drop] at hl
  have g : ∀ i, s[p + i]? = (c :: r)[i]? := fun i => by rw [← e, List.getElem?_drop]
  refine ⟨m + 1, by omega, by omega, by rw [h2, e]; rfl, by rw [h2]; simp; omega, fun i hi => ?_, fun z => by rw [h4 z], fun z lt => ?_⟩
  · rw [List.getD_eq_getElem?_getD, g]
    cases i with
    | zero => rfl
    | succ i =>
      have hi' : i < r.length := by omega
      have : r[i] ∈ r.take m := by
        rw [List.mem_take_iff_getElem]
        exact ⟨i, by omega, rfl⟩
      rw [List.getElem?_cons_succ, List.getElem?_eq_getElem hi']
      exact h3 _ this
  · have hm : m < r.length := by omega
    rw [List.getD_eq_getElem?_getD, g, List.getElem?_cons_succ, List.getElem?_eq_getElem hm]
    exact h5 z _ (List.getElem?_eq_getElem hm)
theorem kd_blk {c : Nat} (h : blk c = true) : kd c = 2 := by
  unfold blk at h
  simp at h
  unfold kd
  rw [if_neg (by omega), if_neg (by omega)]
theorem kd_le (c : Nat) : kd c ≤ 2 := by
  unfold kd
  split
  · omega
  · split <;> omega
theorem kdT_cons (c : Nat) (r : List Nat) : kdT (tok (c :: r)) = kd c := by
  obtain ⟨m, _, h, _⟩ := tok_pre c r
  rw [h]
  rfl
theorem isS_kd {t : List Nat} (h : isS t = true) : kdT t = 2 := by
  unfold isS at h
  simp at h
  rcases h with h | h <;> rw [h] <;> decide
/-- what the two say of one token -/
theorem wr_eq {t : List Nat} {b b' : Bool} (ht : t ≠ []) (h : b' = (b && !decide (kdT t = 2))) : (wrL t b').head? = wrP t b := by
  unfold wrL wrP
  by_cases h1 : kdT t = 2 ∧ isS t = false
  · rw [if_pos h1, if_pos h1]
    rfl
  rw [if_neg h1, if_neg h1, List.nil_append]
  have e48 : (t.headD 0 = 48 ∧ t ≠ [48]) ↔ (1 < t.length ∧ t.headD 0 = 48) := by
    cases t with
    | nil => exact absurd rfl ht
    | cons x r =>
      cases r with
      | nil => simp
      | cons y r => simp
  by_cases h2 : kdT t = 1 ∧ (9 < t.length ∨ (t.headD 0 = 48 ∧ t ≠ [48]))
  · have h2' : kdT t = 1 ∧ (9 < t.length ∨ (1 < t.length ∧ t.headD 0 = 48)) := ⟨h2.1, h2.2.imp_right e48.mp⟩
    rw [if_pos h2, if_pos h2']
    rfl
  have h2' : ¬ (kdT t = 1 ∧ (9 < t.length ∨ (1 < t.length ∧ t.headD 0 = 48))) := fun z => h2 ⟨z.1, z.2.imp_right e48.mpr⟩
  rw [if_neg h2, if_neg h2', List.nil_append]
  have e3 : ((kdT t = 0 ∧ 8 < t.length) ∨ b' = true) ↔ ((kdT t = 0 ∧ 8 < t.length) ∨ (b = true ∧ isS t = false)) := by
    rw [h]
    cases q : isS t with
    | true =>
      have := isS_kd q
      simp [this]
    | false =>
      have : kdT t ≠ 2 := fun z => h1 ⟨z, q⟩
      simp [this]
  by_cases h3 : (kdT t = 0 ∧ 8 < t.length) ∨ b' = true
  · rw [if_pos h3, if_pos (e3.mp h3)]
    rfl
  · rw [if_neg h3, if_neg fun z => h3 (e3.mpr z)]
    rfl
def Lnk (s : List Nat) (p : Nat) (b : Bool) : Prop := p < s.length → (b && !decide (kd (s.getD p 0) = 2)) = bes s p
theorem lnk0 (s : List Nat) (b : Bool) (h : b = false) : Lnk s 0 b := fun _ => by
  rw [h]
  rfl
theorem lnk_blank {s : List Nat} {p : Nat} (h : blk (s.getD p 0) = true) : Lnk s (p + 1) false := fun _ => by
  unfold bes
  rw [show p + 1 - 1 = p by omega, h]
  simp
theorem lnk_tok {s : List Nat} {p c : Nat} {r : List Nat} (e : s.drop p = c :: r) (nb : blk c = false) (w : wrP (tok (c :: r)) true = none ∨ ∃ b, wrP (tok (c :: r)) b = none) : Lnk s (p + (tok (c :: r)).length) (!isS (tok (c :: r))) := by
  obtain ⟨m, m1, m2, m3, m4, m5, m6, m7⟩ := tok_at e
  rw [m4]
  intro lt
  have last := m5 (m - 1) (by omega)
  rw [show p + (m - 1) = p + m - 1 by omega] at last
  unfold bes
  by_cases k2 : kd c = 2
  · have ns : isS (tok (c :: r)) = true := by
      cases q : isS (tok (c :: r)) with
      | true => rfl
      | false =>
        exfalso
        have z : ∀ b, wrP (tok (c :: r)) b ≠ none := fun b => by
          unfold wrP
          rw [if_pos ⟨by rw [kdT_cons]; exact k2, q⟩]
          simp
        rcases w with w | ⟨b, w⟩
        · exact z _ w
        · exact z _ w
    rw [ns, last, k2]
    simp
  · have ns : isS (tok (c :: r)) = false := by
      cases q : isS (tok (c :: r)) with
      | false => rfl
      | true =>
        have := isS_kd q
        rw [kdT_cons] at this
        exact absurd this k2
    have nbl : blk (s.getD (p + m - 1) 0) = false := by
      cases q : blk (s.getD (p + m - 1) 0) with
      | false => rfl
      | true =>
        have := kd_blk q
        rw [last] at this
        exact absurd this k2
    have ne := m7 k2 lt
    rw [ns, last, nbl, decide_eq_true (show 0 < p + m by omega), decide_eq_false k2, decide_eq_false (fun z : kd c = kd (s.getD (p + m) 0) => ne z.symm)]
    simp
theorem drop_lt {s : List Nat} {p c : Nat} {r : List Nat} (e : s.drop p = c :: r) : p < s.length ∧ s.getD p 0 = c := by
  have hl : (s.drop p).length = r.length + 1 := by rw [e]; rfl
  rw [List.length_drop] at hl
  refine ⟨by omega, ?_⟩
  have : s[p + 0]? = some c := by rw [← List.getElem?_drop, e]; rfl
  rw [List.getD_eq_getElem?_getD, show s[p]? = some c from this]
  rfl
theorem lex_ge : ∀ (f : Nat) (s : List Nat) (p : Nat), (∀ t ∈ (lexF f s p).1, p ≤ t.2 ∧ t.2 < s.length) ∧ ∀ t ∈ (lexF f s p).2, p ≤ t.2 ∧ t.2 < s.length ∧ t.1 ≤ 2
  | 0, s, p => ⟨fun t h => by simp [lexF] at h, fun t h => by simp [lexF] at h⟩
  | f + 1, s, p => by
    unfold lexF
    cases e : s.drop p with
    | nil => exact ⟨fun t h => by simp at h, fun t h => by simp at h⟩
    | cons c r =>
      dsimp only
      have lt := (drop_lt e).1
      split
      · obtain ⟨h1, h2⟩ := lex_ge f s (p + 1)
        exact ⟨fun t h => by have := h1 t h; omega, fun t h => by have := h2 t h; omega⟩
      · obtain ⟨h1, h2⟩ := lex_ge f s (p + (tok (c :: r)).length)
        refine ⟨fun t h => ?_, fun t h => ?_⟩
        · rcases List.mem_cons.mp h with h | h
          · rw [h]
            exact ⟨Nat.le_refl _, lt⟩
          · have := h1 t h
            omega
        · rcases List.mem_append.mp h with h | h
          · obtain ⟨w, hw, rfl⟩ := List.mem_map.mp h
            refine ⟨Nat.le_refl _, lt, ?_⟩
            unfold wrL at hw
            simp only [List.mem_append] at hw
            rcases hw with (hw | hw) | hw
            · split at hw <;> simp at hw
              omega
            · split at hw <;> simp at hw
              omega
            · split at hw <;> simp at hw
              omega
          · have := h2 t h
            omega
def lex2 (x y : Nat × Nat) : Prop := x.2 < y.2 ∨ (x.2 = y.2 ∧ x.1 < y.1)
theorem wrL_inc (t : List Nat) (b : Bool) : (wrL t b).Pairwise (· < ·) := by
  unfold wrL
  split <;> split <;> split <;> decide
theorem lex_inc : ∀ (f : Nat) (s : List Nat) (p : Nat), (lexF f s p).2.Pairwise lex2
  | 0, s, p => List.Pairwise.nil
  | f + 1, s, p => by
    unfold lexF
    cases e : s.drop p with
    | nil => exact List.Pairwise.nil
    | cons c r =>
      dsimp only
      split
      · exact lex_inc f s (p + 1)
      · refine List.pairwise_append.mpr ⟨List.pairwise_map.mpr ((wrL_inc _ _).imp fun h => .inr ⟨rfl, h⟩), lex_inc f s _, fun x hx y hy => ?_⟩
        obtain ⟨w, _, rfl⟩ := List.mem_map.mp hx
        have := (lex_ge f s (p + (tok (c :: r)).length)).2 y hy
        have := tok_pos c r
        exact .inl (by show p < y.2; omega)
/-- the two lexers -/
theorem scan_lex : ∀ (f : Nat) (s : List Nat) (p : Nat) (b : Bool), Lnk s p b → scanF f s p b = match (lexF f s p).2 with
    | [] => ((lexF f s p).1, none)
    | x :: _ => ((lexF f s p).1.filter fun t => decide (t.2 < x.2), some x)
  | 0, s, p, b, _ => rfl
  | f + 1, s, p, b, hb => by
    unfold scanF lexF
    cases e : s.drop p with
    | nil => rfl
    | cons c r =>
      dsimp only
      obtain ⟨lt, ec⟩ := drop_lt e
      by_cases hk : blk c = true
      · rw [if_pos hk, if_pos hk]
        exact scan_lex f s (p + 1) false (lnk_blank (by rw [ec]; exact hk))
      · rw [if_neg hk, if_neg hk]
        have hk' : blk c = false := by simpa using hk
        have w := wr_eq (t := tok (c :: r)) (b := b) (b' := bes s p) (fun z => by
          have := tok_pos c r
          rw [z] at this
          simp at this) (by
          rw [← hb lt, kdT_cons, ec])
        have ge := (lex_ge f s (p + (tok (c :: r)).length))
        have tp := tok_pos c r
        cases q : wrL (tok (c :: r)) (bes s p) with
        | nil =>
          rw [q] at w
          have w' : wrP (tok (c :: r)) b = none := w.symm
          rw [w']
          have ih := scan_lex f s (p + (tok (c :: r)).length) (!isS (tok (c :: r))) (lnk_tok e hk' (.inr ⟨b, w'⟩))
          rw [ih]
          cases q2 : (lexF f s (p + (tok (c :: r)).length)).2 with
          | nil => rfl
          | cons x l =>
            have : p < x.2 := by
              have := ge.2 x (by rw [q2]; exact List.mem_cons_self)
              omega
            simp only [List.map_nil, List.nil_append]
            rw [List.filter_cons_of_pos (by simpa using this)]
        | cons x l =>
          rw [q] at w
          have w' : wrP (tok (c :: r)) b = some x := w.symm
          rw [w']
          simp only [List.map_cons, List.cons_append]
          rw [List.filter_eq_nil_iff.mpr]
          intro t ht
          rcases List.mem_cons.mp ht with h | h
          · rw [h]
            simp
          · have := ge.1 t h
            simp
            omega
/-! what is told in the end -/
abbrev FS := Option (Nat × Nat)
def full (s : List Nat) : List TK × FS := scanF (s.length + 1) s 0 false
def late : FS → Bool
  | none => true
  | some x => decide (4000 < x.2)
def looked (s : List Nat) : List TK × FS :=
  if 4000 < s.length ∧ late (full s).2 = true then ((full s).1.filter fun t => decide (t.2 < 4000), some (3, 4000)) else full s
def faults (s : List Nat) : List (Nat × Nat) := (lexF (s.length + 1) s 0).2 ++ (if 4000 < s.length then [(3, 4000)] else [])
/-- the first of what is wrong -/
theorem first_of (s : List Nat) : match faults s with
    | [] => looked s = ((lexF (s.length + 1) s 0).1, none)
    | _ => ∃ M ∈ faults s, (∀ y ∈ faults s, y = M ∨ lex2 M y) ∧ looked s = ((lexF (s.length + 1) s 0).1.filter fun t => decide (t.2 < M.2), some M) := by
  have e := scan_lex (s.length + 1) s 0 false (lnk0 s false rfl)
  have inc := lex_inc (s.length + 1) s 0
  have ge := (lex_ge (s.length + 1) s 0).2
  unfold looked full faults
  rw [e]
  generalize lexF (s.length + 1) s 0 = L at inc ge
  obtain ⟨ts, fs⟩ := L
  dsimp only at inc ge ⊢
  by_cases hl : 4000 < s.length
  · rw [if_pos hl]
    cases fs with
    | nil =>
      dsimp only [List.nil_append]
      refine ⟨(3, 4000), List.mem_cons_self, fun y hy => .inl (List.mem_singleton.mp hy), ?_⟩
      rw [if_pos ⟨hl, rfl⟩]
    | cons x l =>
      have hp := List.pairwise_cons.mp inc
      have x2 := ge x List.mem_cons_self
      dsimp only [List.cons_append]
      by_cases h4 : 4000 < x.2
      · refine ⟨(3, 4000), by simp, fun y hy => ?_, ?_⟩
        · rcases List.mem_cons.mp hy with h | h
          · rw [h]
            exact .inr (.inl h4)
          · rcases List.mem_append.mp h with h | h
            · have := hp.1 y h
              refine .inr (.inl ?_)
              unfold lex2 at this
              show 4000 < y.2
              omega
            · exact .inl (List.mem_singleton.mp h)
        · rw [if_pos ⟨hl, decide_eq_true h4⟩, List.filter_filter]
          congr 1
          refine List.filter_congr fun t ht => ?_
          rw [Bool.eq_iff_iff]
          simp
          omega
      · refine ⟨x, List.mem_cons_self, fun y hy => ?_, ?_⟩
        · rcases List.mem_cons.mp hy with h | h
          · exact .inl h
          · rcases List.mem_append.mp h with h | h
            · exact .inr (hp.1 y h)
            · refine .inr ?_
              rw [List.mem_singleton.mp h]
              unfold lex2
              show x.2 < 4000 ∨ x.2 = 4000 ∧ x.1 < 3
              omega
        · rw [if_neg fun z => h4 (of_decide_eq_true z.2)]
  · rw [if_neg hl, List.append_nil]
    cases fs with
    | nil =>
      rw [if_neg fun z => hl z.1]
    | cons x l =>
      have hp := List.pairwise_cons.mp inc
      refine ⟨x, List.mem_cons_self, fun y hy => ?_, ?_⟩
      · rcases List.mem_cons.mp hy with h | h
        · exact .inl h
        · exact .inr (hp.1 y h)
      · rw [if_neg fun z => hl z.1]
end K11

set_option Elab.async false
set_option linter.all false
set_option autoImplicit false
set_option maxRecDepth 100000
set_option maxHeartbeats 4000000
namespace K11
open PySem PySem.Spec PyProof.Rows L2 Itp
theorem s_draw {n : Nat} {m : Int} {k : Nat} (hp : IH) (P : Pot hp n) (hm : 0 < m) (Bm : B k m) (hk : k < 9000) : ∃ (d : Int) (hp' : IH), G dcs 18 [.ref n, .int m] hp = .ok (.int d) hp' ∧ 0 ≤ d ∧ d < m ∧ PotS hp n hp' := by
  obtain ⟨p0, p1, e, h0, h1, h2⟩ := P
  have hn := (List.getElem?_eq_some_iff.mp e).1
  rw [g__law_draw rfl]
  have g0 : subF (.ref n) (.int 0) hp = some (.int p0, hp) := by rw [sub_ref e, show atI [W.int p0, W.int p1] 0 = some (.int p0) from rfl]; rfl
  have g1 : subF (.ref n) (.int 1) hp = some (.int p1, hp) := by rw [sub_ref e, show atI [W.int p0, W.int p1] 1 = some (.int p1) from rfl]; rfl
  by_cases hp0 : 0 < p0
  · have dm := bf_divmod (i := p0) (hp := hp) hm (noPy (x := p0) Bm hk)
    have st : ∀ v, setF (.ref n) (.int 0) v hp = some (hp.set n (.lst [v, .int p1])) := fun v => by rw [set_ref e]; rfl
    have S : PotS hp n (hp.set n (.lst [.int (p0 / m), .int p1])) := ⟨_, _, rfl, Int.ediv_nonneg h0 (by omega), h1, h2⟩
    refine ⟨p0 % m, hp.set n (.lst [.int (p0 / m), .int p1]), ?_, Int.emod_nonneg _ (by omega), Int.emod_lt_of_pos _ hm, S⟩
    simp [b__law_draw, runB, evSs, evS, ev, evs, evO, evIt, tst, tstO, sto, stos, unpk, asgT, asgTs, Out.bind_ok, Out.bind_err, Out.bind_stuck, Out.of_some, Out.of_none, Out.then_ok, Out.then_err, Out.then_stuck, SOut.seq_nx, SOut.seq_rt, SOut.seq_bk, SOut.seq_ct, SOut.seq_err, SOut.seq_stuck, List.map_cons, List.map_nil, List.length_cons, List.length_nil, List.replicate, List.cons_append, List.nil_append, List.getElem?_cons_zero, List.getElem?_cons_succ, List.set_cons_zero, List.set_cons_succ, Nat.reduceSub, Nat.reduceAdd, Nat.reduceLT, Nat.reduceLeDiff, Int.ofNat_eq_natCast, if_true, if_false, Bool.false_eq_true, Bool.not_true, Bool.not_false, g0, hp0, dm, st, fin_pot0 S]
  · have B1 : B 32 p1 := by
      unfold B
      omega
    have m1 := bin_mul (hp := hp) (i := p1) (j := 40692) (mulOk_of B1 (B.small (k := 20) (by decide)) (by decide))
    have m2 := bin_mod (hp := hp) (i := p1 * 40692 + 6271) (j := 2147483587) (by decide)
    obtain ⟨q, hq⟩ : ∃ q, q = (p1 * 40692 + 6271) % 2147483587 := ⟨_, rfl⟩
    have q0 : 0 ≤ q := by rw [hq]; exact Int.emod_nonneg _ (by decide)
    have q1 : q < 2147483587 := by rw [hq]; exact Int.emod_lt_of_pos _ (by decide)
    have Bq : B 32 q := by
      unfold B
      omega
    rw [← hq] at m2
    have st : ∀ v, setF (.ref n) (.int 1) v hp = some (hp.set n (.lst [.int p0, v])) := fun v => by rw [set_ref e]; rfl
    have S : PotS hp n (hp.set n (.lst [.int p0, .int q])) := ⟨_, _, rfl, h0, q0, by omega⟩
    obtain ⟨h', eh⟩ : ∃ h', h' = hp.set n (.lst [.int p0, .int q]) := ⟨_, rfl⟩
    have e2 : h'[n]? = some (.lst [.int p0, .int q]) := by rw [eh]; exact List.getElem?_set_self hn
    have g2 : subF (.ref n) (.int 1) h' = some (.int q, h') := by rw [sub_ref e2, show atI [W.int p0, W.int q] 1 = some (.int q) from rfl]; rfl
    have m3 := bin_mul (hp := h') (i := q) (j := q) (mulOk_of Bq Bq (by decide))
    have m4 := bin_mod (hp := h') (i := q * q) (j := 2147483563) (by decide)
    have m5 := bin_div (hp := h') (i := q * q % 2147483563) (j := 23) (by decide) (noPy (k := 8) (B.small (by decide)) (by decide))
    have m6 := bin_mod (hp := h') (i := q * q % 2147483563 / 23) (j := m) hm
    rw [← eh] at S
    refine ⟨q * q % 2147483563 / 23 % m, h', ?_, Int.emod_nonneg _ (by omega), Int.emod_lt_of_pos _ hm, S⟩
    simp [b__law_draw, runB, evSs, evS, ev, evs, evO, evIt, tst, tstO, sto, stos, unpk, asgT, asgTs, Out.bind_ok, Out.bind_err, Out.bind_stuck, Out.of_some, Out.of_none, Out.then_ok, Out.then_err, Out.then_stuck, SOut.seq_nx, SOut.seq_rt, SOut.seq_bk, SOut.seq_ct, SOut.seq_err, SOut.seq_stuck, List.map_cons, List.map_nil, List.length_cons, List.length_nil, List.replicate, List.cons_append, List.nil_append, List.getElem?_cons_zero, List.getElem?_cons_succ, List.set_cons_zero, List.set_cons_succ, Nat.reduceSub, Nat.reduceAdd, Nat.reduceLT, Nat.reduceLeDiff, Int.ofNat_eq_natCast, if_true, if_false, Bool.false_eq_true, Bool.not_true, Bool.not_false, g0, g1, hp0, m1, m2, st, ← eh, g2, m3, m4, m5, m6, fin_pot0 S]
/-- a list's item -/
theorem s_pick {n l : Nat} {xs : List W} (hp : IH) (P : Pot hp n) (hl : l ≠ n) (e : hp[l]? = some (.lst xs)) (h0 : xs ≠ []) (h1 : xs.length < 1000) (hb : ∀ x ∈ xs, bndW hp.length x = true) : ∃ x ∈ xs, ∃ hp', G dcs 19 [.ref n, .ref l] hp = .ok x hp' ∧ PotS hp n hp' := by
  have hpos : 0 < xs.length := List.length_pos_iff.mpr h0
  obtain ⟨d, hp', e1, d0, d1, S⟩ := s_draw (m := (xs.length : Int)) (k := 10) hp P (by omega) (by unfold B; omega) (by decide)
  have e2 : hp'[l]? = some (.lst xs) := by rw [S.get hl]; exact e
  have hd : d.toNat < xs.length := by omega
  refine ⟨xs[d.toNat], List.getElem_mem hd, hp', ?_, S⟩
  have g2 : subF (.ref l) (.int d) hp' = some (xs[d.toNat], hp') := by
    rw [sub_ref e2, show atI xs d = some xs[d.toNat] from by
      have := atI_nat (xs := xs) (j := d.toNat) (v := xs[d.toNat]) (List.getElem?_eq_getElem hd)
      rwa [Int.toNat_of_nonneg d0] at this]
    rfl
  rw [g__law_pick rfl]
  simp [b__law_pick, runB, evSs, evS, ev, evs, evO, evIt, tst, tstO, sto, stos, unpk, asgT, asgTs, Out.bind_ok, Out.bind_err, Out.bind_stuck, Out.of_some, Out.of_none, Out.then_ok, Out.then_err, Out.then_stuck, SOut.seq_nx, SOut.seq_rt, SOut.seq_bk, SOut.seq_ct, SOut.seq_err, SOut.seq_stuck, List.map_cons, List.map_nil, List.length_cons, List.length_nil, List.replicate, List.cons_append, List.nil_append, List.getElem?_cons_zero, List.getElem?_cons_succ, List.set_cons_zero, List.set_cons_succ, Nat.reduceSub, Nat.reduceAdd, Nat.reduceLT, Nat.reduceLeDiff, Int.ofNat_eq_natCast, if_true, if_false, Bool.false_eq_true, Bool.not_true, Bool.not_false, env_lt, bf_len_ref e, e1, g2, fin_pot0 S, hb]
def P0 : IStm := IStm.asg (STgt.name 2)
        (IE.ite (IT.cmp CmpOp.Lt (IE.var 1) (IE.blt BF.len [IE.var 0])) (IE.blt BF.abs [(IE.var 0).sub (IE.var 1)])
          (IE.bin Operator.Add (IE.bin Operator.Mult (IE.cst (W.int (Int.ofNat 1951))) (IE.var 1))
            (IE.cst (W.int (Int.ofNat 1451)))))
def P1 : IStm := IStm.ret
        (IE.lst
          [IE.blt BF.max
              [IE.cst (W.int (Int.ofNat 0)),
                IE.bin Operator.Sub (IE.var 2)
                  (IE.bin Operator.Pow (IE.cst (W.int (Int.ofNat 10))) (IE.cst (W.int (Int.ofNat 18))))],
            IE.bin Operator.Add
              (IE.bin Operator.Mod
                (IE.blt BF.tInt
                  [IE.bin Operator.Add
                      (IE.bin Operator.Add
                        (IE.bin Operator.Mult
                          (IE.bin Operator.Mod (IE.blt BF.tInt [IE.var 2]) (IE.cst (W.int (Int.ofNat 2147483549))))
                          (IE.cst (W.int (Int.ofNat 40009))))
                        (IE.bin Operator.Mult (IE.cst (W.int (Int.ofNat 6271))) (IE.var 1)))
                      (IE.cst (W.int (Int.ofNat 1451)))])
                (IE.cst (W.int (Int.ofNat 2147483563))))
              (IE.cst (W.int (Int.ofNat 1)))])
theorem s_pot {s k : Nat} {ns : List Int} {h : IH} (e : h[s]? = some (.flst (ns.map .int))) (hk : k < 100) : ∃ p0 p1 : Int, G dcs 17 [.ref s, .int (k : Int)] h = .ok (.ref h.length) (h ++ [.lst [.int p0, .int p1]]) ∧ 0 ≤ p0 ∧ 0 ≤ p1 ∧ p1 ≤ 2147483647 := by
  have rest : ∀ c : Int, ∃ p0 p1 : Int, evSs (envTo dcs 17) 100000 [P1] [some (.ref s), some (.int k), some (.int c)] h = .rt (.ref h.length) (h ++ [.lst [.int p0, .int p1]]) ∧ 0 ≤ p0 ∧ 0 ≤ p1 ∧ p1 ≤ 2147483647 := by
    intro c
    obtain ⟨q, hq⟩ : ∃ q, q = c % 2147483549 := ⟨_, rfl⟩
    have q0 : 0 ≤ q := by rw [hq]; exact Int.emod_nonneg _ (by decide)
    have q1 : q < 2147483549 := by rw [hq]; exact Int.emod_lt_of_pos _ (by decide)
    have Bq : B 32 q := by
      unfold B
      omega
    have pw : binF .Pow (.int 10) (.int 18) h = some (.int 1000000000000000000, h) := bin_pow (e := 18) (by decide) (by decide)
    have m1 := bin_mod (hp := h) (i := c) (j := 2147483549) (by decide)
    rw [← hq] at m1
    have m2 := bin_mul (hp := h) (i := q) (j := 40009) (mulOk_of Bq (B.small (k := 20) (by decide)) (by decide))
    have m3 := bin_mul (hp := h) (i := 6271) (j := (k : Int)) (mulOk_of (k := 16) (l := 7) (B.small (by decide)) (by unfold B; omega) (by decide))
    have m4 := bin_mod (hp := h) (i := q * 40009 + 6271 * k + 1451) (j := 2147483563) (by decide)
    have z0 := Int.emod_nonneg (q * 40009 + 6271 * k + 1451) (show (2147483563 : Int) ≠ 0 by decide)
    have z1 := Int.emod_lt_of_pos (q * 40009 + 6271 * k + 1451) (show (0 : Int) < 2147483563 by decide)
    refine ⟨if c - 1000000000000000000 > 0 then c - 1000000000000000000 else 0, (q * 40009 + 6271 * k + 1451) % 2147483563 + 1, ?_, ?_, by omega, by omega⟩
    · simp [P1, runB, evSs, evS, ev, evs, evO, evIt, tst, tstO, sto, stos, unpk, asgT, asgTs, Out.bind_ok, Out.bind_err, Out.bind_stuck, Out.of_some, Out.of_none, Out.then_ok, Out.then_err, Out.then_stuck, SOut.seq_nx, SOut.seq_rt, SOut.seq_bk, SOut.seq_ct, SOut.seq_err, SOut.seq_stuck, List.map_cons, List.map_nil, List.length_cons, List.length_nil, List.replicate, List.cons_append, List.nil_append, List.getElem?_cons_zero, List.getElem?_cons_succ, List.set_cons_zero, List.set_cons_succ, Nat.reduceSub, Nat.reduceAdd, Nat.reduceLT, Nat.reduceLeDiff, Int.ofNat_eq_natCast, if_true, if_false, Bool.false_eq_true, Bool.not_true, Bool.not_false, pw, m1, m2, m3, m4]
    · split <;> omega
  rw [g__law_pot rfl]
  have a0 : evS (envTo dcs 17) 100000 P0 [some (.ref s), some (.int k), none] h = .nx [some (.ref s), some (.int k), some (.int (if h : k < ns.length then (ns[k].natAbs : Int) else 1951 * k + 1451))] h := by
    by_cases hl : k < ns.length
    · have g : subF (.ref s) (.int (k : Int)) h = some (.int ns[k], h) := by
        rw [sub_fref e, atI_nat (v := .int ns[k]) (by rw [List.getElem?_map, List.getElem?_eq_getElem hl]; rfl)]
        rfl
      simp [P0, runB, evSs, evS, ev, evs, evO, evIt, tst, tstO, sto, stos, unpk, asgT, asgTs, Out.bind_ok, Out.bind_err, Out.bind_stuck, Out.of_some, Out.of_none, Out.then_ok, Out.then_err, Out.then_stuck, SOut.seq_nx, SOut.seq_rt, SOut.seq_bk, SOut.seq_ct, SOut.seq_err, SOut.seq_stuck, List.map_cons, List.map_nil, List.length_cons, List.length_nil, List.replicate, List.cons_append, List.nil_append, List.getElem?_cons_zero, List.getElem?_cons_succ, List.set_cons_zero, List.set_cons_succ, Nat.reduceSub, Nat.reduceAdd, Nat.reduceLT, Nat.reduceLeDiff, Int.ofNat_eq_natCast, if_true, if_false, Bool.false_eq_true, Bool.not_true, Bool.not_false, bf_len_fref e, g, hl]
    · have m3 := bin_mul (hp := h) (i := 1951) (j := (k : Int)) (mulOk_of (k := 16) (l := 7) (B.small (by decide)) (by unfold B; omega) (by decide))
      simp [P0, runB, evSs, evS, ev, evs, evO, evIt, tst, tstO, sto, stos, unpk, asgT, asgTs, Out.bind_ok, Out.bind_err, Out.bind_stuck, Out.of_some, Out.of_none, Out.then_ok, Out.then_err, Out.then_stuck, SOut.seq_nx, SOut.seq_rt, SOut.seq_bk, SOut.seq_ct, SOut.seq_err, SOut.seq_stuck, List.map_cons, List.map_nil, List.length_cons, List.length_nil, List.replicate, List.cons_append, List.nil_append, List.getElem?_cons_zero, List.getElem?_cons_succ, List.set_cons_zero, List.set_cons_succ, Nat.reduceSub, Nat.reduceAdd, Nat.reduceLT, Nat.reduceLeDiff, Int.ofNat_eq_natCast, if_true, if_false, Bool.false_eq_true, Bool.not_true, Bool.not_false, bf_len_fref e, hl, m3]
  obtain ⟨p0, p1, e1, z⟩ := rest (if h : k < ns.length then (ns[k].natAbs : Int) else 1951 * k + 1451)
  refine ⟨p0, p1, ?_, z⟩
  rw [← fin_new (hp := h) bndW_new]
  congr 1
  refine runB_rt ?_
  show evSs (envTo dcs 17) 100000 [P0, P1] [some (.ref s), some (.int k), none] h = _
  rw [evSs_cons a0, e1]
section
variable {n : Nat} {h : IH}
theorem d_draw {m : Int} (P : Pot h n) (hm : 0 < m) (Bm : m ≤ 1000000) : ∃ (d : Nat) (h' : IH), G dcs 18 [.ref n, .int m] h = .ok (.int (d : Int)) h' ∧ (d : Int) < m ∧ Rn (some n) h h' ∧ Pot h' n := by
  obtain ⟨d, h', e, d0, d1, S⟩ := s_draw (k := 20) h P hm (by unfold B; omega) (by decide)
  refine ⟨d.toNat, h', ?_, by omega, Rn.of_pots P.lt S, S.pot P.lt⟩
  rw [Int.toNat_of_nonneg d0]
  exact e
theorem d_pick {l : Nat} {xs : List W} (P : Pot h n) (hl : l ≠ n) (e : h[l]? = some (.lst xs)) (h0 : xs ≠ []) (h1 : xs.length < 1000) (hb : ∀ x ∈ xs, bndW h.length x = true) : ∃ x ∈ xs, ∃ h', G dcs 19 [.ref n, .ref l] h = .ok x h' ∧ Rn (some n) h h' ∧ Pot h' n := by
  obtain ⟨x, hx, h', e1, S⟩ := s_pick h P hl e h0 h1 hb
  exact ⟨x, hx, h', e1, Rn.of_pots P.lt S, S.pot P.lt⟩
theorem mul_tx {c m : Nat} (hm : m ≤ 5000) : binF .Mult (tx [c]) (.int (m : Int)) h = some (tx (List.replicate m c), h) := by
  have e : Txt.mul (SX.S [c]) (m : Int) = SX.S (List.replicate m c) := by
    have q : (Txt.mul (SX.S [c]) (m : Int)).cps.toList = List.replicate m c := by
      have := PyProof.Rows.mul_one_list c (m : Int)
      rw [Int.toNat_natCast] at this
      exact this
    exact (SX.S_tl _).symm.trans (by rw [q])
  show (if 0 ≤ (m : Int) ∧ (m : Int) ≤ 1000000 ∧ (SX.S [c]).length ≤ lineLen ∧ (SX.S [c]).length * (m : Int).toNat ≤ lineLen then some (W.str (Txt.mul (SX.S [c]) (m : Int)), h) else none) = _
  rw [if_pos ⟨by omega, by omega, by rw [SX.S_len]; exact (show 1 ≤ lineLen by decide), by rw [SX.S_len, Int.toNat_natCast]; exact Nat.le_trans (show [c].length * m ≤ 5000 by simp; exact hm) (by decide)⟩, e]
end
end K11

set_option Elab.async false
set_option linter.all false
set_option autoImplicit false
set_option maxRecDepth 100000
set_option maxHeartbeats 4000000
namespace K11
open PySem PySem.Spec PyProof.Rows L2 Itp
/-! ### places -/
def stp (q : Nat × Nat) (x : Nat) : Nat × Nat := if x = 10 then (q.1 + 1, 1) else (q.1, q.2 + 1)
def pl (u : List Nat) : Nat × Nat := u.foldl stp (1, 1)
def at_ (s : List Nat) (p : Nat) : Nat × Nat := pl (s.take p)
theorem pl_snoc (u : List Nat) (x : Nat) : pl (u ++ [x]) = stp (pl u) x := by
  unfold pl
  rw [List.foldl_append]
  rfl
theorem at_succ {s : List Nat} {p : Nat} (h : p < s.length) : at_ s (p + 1) = stp (at_ s p) (s.getD p 0) := by
  unfold at_
  rw [List.take_add_one, List.getElem?_eq_getElem h, List.getD_eq_getElem?_getD, List.getElem?_eq_getElem h]
  exact pl_snoc _ _
/-- along a token -/
theorem at_add {s : List Nat} {p : Nat} : ∀ m : Nat, p + m ≤ s.length → (∀ i, i < m → s.getD (p + i) 0 ≠ 10) → at_ s (p + m) = ((at_ s p).1, (at_ s p).2 + m)
  | 0, _, _ => rfl
  | m + 1, h, q => by
    rw [show p + (m + 1) = p + m + 1 by omega, at_succ (by omega), at_add m (by omega) fun i hi => q i (by omega)]
    unfold stp
    rw [if_neg (q m (by omega))]
    rfl
def plt (x y : Nat × Nat) : Prop := x.1 < y.1 ∨ (x.1 = y.1 ∧ x.2 < y.2)
instance (x y : Nat × Nat) : Decidable (plt x y) := by
  unfold plt
  infer_instance
theorem snoc_ind {P : List Nat → Prop} (h0 : P []) (h1 : ∀ u x, P u → P (u ++ [x])) (u : List Nat) : P u := by
  have key : ∀ v : List Nat, P v.reverse := by
    intro v
    induction v with
    | nil => exact h0
    | cons x v ih =>
      rw [List.reverse_cons]
      exact h1 _ _ ih
  have := key u.reverse
  rwa [List.reverse_reverse] at this
theorem plt_trans {x y z : Nat × Nat} (a : plt x y) (b : plt y z) : plt x z := by
  unfold plt at *
  omega
theorem plt_stp (q : Nat × Nat) (x : Nat) : plt q (stp q x) := by
  unfold stp plt
  split
  · exact .inl (Nat.lt_succ_self _)
  · exact .inr ⟨rfl, Nat.lt_succ_self _⟩
theorem at_mono {s : List Nat} {a : Nat} : ∀ k : Nat, a + k + 1 ≤ s.length → plt (at_ s a) (at_ s (a + k + 1))
  | 0, h => by
    rw [at_succ (by omega)]
    exact plt_stp _ _
  | k + 1, h => by
    have := at_mono (s := s) (a := a) k (by omega)
    refine plt_trans this ?_
    rw [show a + (k + 1) + 1 = (a + k + 1) + 1 by omega, at_succ (p := a + k + 1) (by omega)]
    exact plt_stp _ _
theorem at_lt {s : List Nat} {a b : Nat} (ha : a ≤ s.length) (hb : b ≤ s.length) : plt (at_ s a) (at_ s b) ↔ a < b := by
  have nn : ∀ x : Nat × Nat, ¬ plt x x := fun x => by unfold plt; omega
  constructor
  · intro h
    refine Decidable.byContradiction fun z => ?_
    rcases Nat.lt_or_eq_of_le (Nat.le_of_not_lt z) with q | q
    · have := at_mono (s := s) (a := b) (a - b - 1) (by omega)
      rw [show b + (a - b - 1) + 1 = a by omega] at this
      exact nn _ (plt_trans h this)
    · rw [q] at h
      exact nn _ h
  · intro h
    have := at_mono (s := s) (a := a) (b - a - 1) (by omega)
    rwa [show a + (b - a - 1) + 1 = b by omega] at this
theorem at_eq {s : List Nat} {a b : Nat} (ha : a ≤ s.length) (hb : b ≤ s.length) (h : at_ s a = at_ s b) : a = b := by
  have nn : ∀ x : Nat × Nat, ¬ plt x x := fun x => by unfold plt; omega
  rcases Nat.lt_trichotomy a b with q | q | q
  · have := (at_lt ha hb).mpr q
    rw [h] at this
    exact absurd this (nn _)
  · exact q
  · have := (at_lt hb ha).mpr q
    rw [h] at this
    exact absurd this (nn _)
theorem pl_one : ∀ u : List Nat, 1 ≤ (pl u).1 ∧ 1 ≤ (pl u).2 ∧ (pl u).1 ≤ u.length + 1 ∧ (pl u).2 ≤ u.length + 1 := by
  intro u
  induction u using snoc_ind with
  | h0 => exact ⟨Nat.le_refl _, Nat.le_refl _, Nat.le_refl _, Nat.le_refl _⟩
  | h1 u x ih =>
    rw [pl_snoc, List.length_append, List.length_singleton]
    unfold stp
    split
    · dsimp only
      omega
    · dsimp only
      omega
theorem lex_two (a b c d : Nat) : HT.lexLt [(a : Int), (b : Int)] [(c : Int), (d : Int)] = decide (plt (a, b) (c, d)) := by
  unfold plt
  rw [HT.lexLt_cons, HT.lexLt_cons, HT.lexLt_nil_nil]
  by_cases h : a = c
  · rw [if_pos (by omega)]
    by_cases q : b = d
    · rw [if_pos (by omega)]
      symm
      refine decide_eq_false ?_
      dsimp only
      omega
    · rw [if_neg (by omega)]
      refine decide_eq_decide.mpr ?_
      dsimp only
      omega
  · rw [if_neg (by omega)]
    refine decide_eq_decide.mpr ?_
    dsimp only
    omega
/-! ### what the program's counting says -/
theorem pl_cnt (u : List Nat) : ((pl u).1 : Int) = cnt 10 u + 1 := by
  induction u using snoc_ind with
  | h0 => rfl
  | h1 u x ih =>
    rw [pl_snoc, cnt_append, cnt_cons, cnt_nil]
    unfold stp
    by_cases h : x = 10
    · rw [if_pos h, if_pos h]
      dsimp only
      omega
    · rw [if_neg h, if_neg h]
      dsimp only
      omega
theorem pl_last (u : List Nat) : ((∀ i : Nat, u[i]? ≠ some 10) ∧ (pl u).2 = u.length + 1) ∨ ∃ i : Nat, u[i]? = some 10 ∧ (∀ k : Nat, i < k → u[k]? ≠ some 10) ∧ (pl u).2 + i = u.length := by
  induction u using snoc_ind with
  | h0 => exact .inl ⟨fun i => by simp, rfl⟩
  | h1 u x ih =>
    rw [pl_snoc, List.length_append, List.length_singleton]
    unfold stp
    by_cases h : x = 10
    · rw [if_pos h, h]
      refine .inr ⟨u.length, by rw [List.getElem?_append_right (Nat.le_refl _), Nat.sub_self]; rfl, fun k hk => ?_, by dsimp only; omega⟩
      rw [List.getElem?_eq_none (by simp; omega)]
      simp
    · rw [if_neg h]
      have g : ∀ i : Nat, (u ++ [x])[i]? = some 10 → u[i]? = some 10 := fun i e => by
        rcases Nat.lt_trichotomy i u.length with q | q | q
        · rwa [List.getElem?_append_left q] at e
        · rw [q, List.getElem?_append_right (Nat.le_refl _), Nat.sub_self] at e
          exact absurd (Option.some.inj e) h
        · rw [List.getElem?_eq_none (by simp; omega)] at e
          cases e
      rcases ih with ⟨a, b⟩ | ⟨i, a, b, c⟩
      · exact .inl ⟨fun i e => a i (g i e), by dsimp only; omega⟩
      · have hi := (List.getElem?_eq_some_iff.mp a).1
        exact .inr ⟨i, by rw [List.getElem?_append_left hi]; exact a, fun k hk e => b k hk (g k e), by dsimp only; omega⟩
theorem m_count (u : List Nat) {h : IH} : bmF .count (tx u) [tx [10]] h = some (.int (cnt 10 u), h) := by
  show some (W.int (Txt.count (SX.S u) ⟨#[10]⟩), h) = _
  rw [count_cnt]
theorem m_rfind (u : List Nat) {h : IH} : bmF .rfind (tx u) [tx [10]] h = some (.int ((u.length : Int) - (pl u).2), h) := by
  show some (W.int (Txt.rfind (SX.S u) ⟨#[10]⟩), h) = _
  have one : ∀ i, StrLaws.At (SX.S u) ⟨#[10]⟩ (SX.S u).length i ↔ u[i]? = some 10 := fun i => StrLaws.subAt_one (SX.S u) 10 i
  rcases rfind_whole (SX.S u) ⟨#[10]⟩ with ⟨e, q⟩ | ⟨i, e, q1, q2⟩
  · rw [e]
    rcases pl_last u with ⟨_, b⟩ | ⟨j, a, _⟩
    · rw [show ((u.length : Int) - (pl u).2) = -1 by omega]
    · exact absurd ((one j).mpr a) (q j)
  · rw [e]
    have q1 := (one i).mp q1
    rcases pl_last u with ⟨a, _⟩ | ⟨j, a, b, c⟩
    · exact absurd q1 (a i)
    · have : i = j := by
        rcases Nat.lt_trichotomy i j with z | z | z
        · exact absurd ((one j).mpr a) (q2 j z)
        · exact z
        · exact absurd q1 (b i z)
      rw [show ((u.length : Int) - (pl u).2) = (i : Int) by omega]
def plW (q : Nat × Nat) : W := .tup [.int (q.1 : Int), .int (q.2 : Int)]
section
variable {h : IH}
theorem fin_sc {w : W} (hw : bndW h.length w = true) : fin true h (.ok w h) = .ok w h := fin_same0 hw
theorem bnd_pl (q : Nat × Nat) : bndW h.length (plW q) = true := by unfold plW; simp
theorem sp0 {u : List Nat} (hu : u.length ≤ lineLen) : G dcs 0 [tx u] h = .ok (plW (pl u)) h := by
  rw [g_place_behind rfl, ← fin_sc (bnd_pl (pl u))]
  congr 1
  have e0 : b_place_behind = [.ret (.tup [.bin .Add (.meth .count (.var 0) [.cst (tx [10])]) (.cst (.int 1)), .bin .Sub (.blt .len [.var 0]) (.meth .rfind (.var 0) [.cst (tx [10])])])] := rfl
  have r1 : ∀ m : BM, m = .count ∨ m = .rfind → recOk m (tx u) h = true := fun m hm => by rcases hm with rfl | rfl <;> rfl
  have e1 : (u.length : Int) - ((u.length : Int) - (pl u).2) = ((pl u).2 : Int) := by omega
  rw [e0]
  simp [runB, evSs, evS, ev, evs, evO, evIt, tst, tstO, sto, stos, unpk, asgT, asgTs, Out.bind_ok, Out.bind_err, Out.bind_stuck, Out.of_some, Out.of_none, Out.then_ok, Out.then_err, Out.then_stuck, SOut.seq_nx, SOut.seq_rt, SOut.seq_bk, SOut.seq_ct, SOut.seq_err, SOut.seq_stuck, List.map_cons, List.map_nil, List.length_cons, List.length_nil, List.replicate, List.cons_append, List.nil_append, List.getElem?_cons_zero, List.getElem?_cons_succ, List.set_cons_zero, List.set_cons_succ, Nat.reduceSub, Nat.reduceAdd, Nat.reduceLT, Nat.reduceLeDiff, Int.ofNat_eq_natCast, if_true, if_false, Bool.false_eq_true, Bool.not_true, Bool.not_false, m_count, m_rfind, tx_len hu, r1, ← pl_cnt, e1, plW]
theorem sp22 {s : List Nat} {p : Nat} (hs : s.length ≤ lineLen) (hp : p ≤ s.length) : G dcs 22 [tx s, .int (p : Int)] h = .ok (plW (at_ s p)) h := by
  rw [g__law_place_at rfl, ← fin_sc (bnd_pl (at_ s p))]
  congr 1
  have e0 : b__law_place_at = [.ret (.tup [.bin .Add (.meth .count (.slc (.var 0) none (some (.var 1))) [.cst (tx [10])]) (.cst (.int 1)), .bin .Sub (.var 1) (.meth .rfind (.slc (.var 0) none (some (.var 1))) [.cst (tx [10])])])] := rfl
  have r1 : ∀ m : BM, m = .count ∨ m = .rfind → recOk m (tx (s.take p)) h = true := fun m hm => by rcases hm with rfl | rfl <;> rfl
  have e2 : (s.take p).length = p := by rw [List.length_take]; omega
  have e1 : (p : Int) - ((p : Int) - (pl (s.take p)).2) = ((at_ s p).2 : Int) := by unfold at_; omega
  have e3 : cnt 10 (s.take p) + 1 = ((at_ s p).1 : Int) := (pl_cnt _).symm
  rw [e0]
  simp [runB, evSs, evS, ev, evs, evO, evIt, tst, tstO, sto, stos, unpk, asgT, asgTs, Out.bind_ok, Out.bind_err, Out.bind_stuck, Out.of_some, Out.of_none, Out.then_ok, Out.then_err, Out.then_stuck, SOut.seq_nx, SOut.seq_rt, SOut.seq_bk, SOut.seq_ct, SOut.seq_err, SOut.seq_stuck, List.map_cons, List.map_nil, List.length_cons, List.length_nil, List.replicate, List.cons_append, List.nil_append, List.getElem?_cons_zero, List.getElem?_cons_succ, List.set_cons_zero, List.set_cons_succ, Nat.reduceSub, Nat.reduceAdd, Nat.reduceLT, Nat.reduceLeDiff, Int.ofNat_eq_natCast, if_true, if_false, Bool.false_eq_true, Bool.not_true, Bool.not_false, m_count, m_rfind, tx_to hs, r1, e2, e1, e3, plW]
/-! ### kinds -/
def az : List Nat := [97, 98, 99, 100, 101, 102, 103, 104, 105, 106, 107, 108, 109, 110, 111, 112, 113, 114, 115, 116, 117, 118, 119, 120, 121, 122]
def dg : List Nat := [48, 49, 50, 51, 52, 53, 54, 55, 56, 57]
theorem in_az (c : Nat) : (c ∈ az) ↔ kd c = 0 := by
  unfold kd az
  simp only [List.mem_cons, List.not_mem_nil, or_false]
  split
  · simp
    omega
  · split
    · simp
      omega
    · simp
      omega
theorem in_dg (c : Nat) : (c ∈ dg) ↔ kd c = 1 := by
  unfold kd dg
  simp only [List.mem_cons, List.not_mem_nil, or_false]
  split
  · simp
    omega
  · split
    · simp
      omega
    · simp
      omega
def sg (k : Nat) : List Nat := if k = 0 then az else if k = 1 then dg else []
theorem cmp_in {a b : W} : cmpB .In a b h = inF a b h := rfl
theorem cmp_nin {a b : W} : cmpB .NotIn a b h = (inF a b h).map not := rfl
theorem sp1 {c : Nat} : G dcs 1 [tx [c]] h = .ok (tx (sg (kd c))) h := by
  rw [g_signs_of rfl, ← fin_sc (h := h) (w := tx (sg (kd c))) (by simp)]
  congr 1
  have e0 : b_signs_of = [.ite (.cmp .In (.var 0) (.cst (tx az))) [.ret (.cst (tx az))] [], .ret (.ite (.cmp .In (.var 0) (.cst (tx dg))) (.cst (tx dg)) (.cst (tx [])))] := rfl
  rw [e0]
  by_cases h0 : kd c = 0
  · simp [runB, evSs, evS, ev, evs, evO, evIt, tst, tstO, sto, stos, unpk, asgT, asgTs, Out.bind_ok, Out.bind_err, Out.bind_stuck, Out.of_some, Out.of_none, Out.then_ok, Out.then_err, Out.then_stuck, SOut.seq_nx, SOut.seq_rt, SOut.seq_bk, SOut.seq_ct, SOut.seq_err, SOut.seq_stuck, List.map_cons, List.map_nil, List.length_cons, List.length_nil, List.replicate, List.cons_append, List.nil_append, List.getElem?_cons_zero, List.getElem?_cons_succ, List.set_cons_zero, List.set_cons_succ, Nat.reduceSub, Nat.reduceAdd, Nat.reduceLT, Nat.reduceLeDiff, Int.ofNat_eq_natCast, if_true, if_false, Bool.false_eq_true, Bool.not_true, Bool.not_false, cmp_in, tx_in, in_az, h0, sg]
  · by_cases h1 : kd c = 1
    · simp [runB, evSs, evS, ev, evs, evO, evIt, tst, tstO, sto, stos, unpk, asgT, asgTs, Out.bind_ok, Out.bind_err, Out.bind_stuck, Out.of_some, Out.of_none, Out.then_ok, Out.then_err, Out.then_stuck, SOut.seq_nx, SOut.seq_rt, SOut.seq_bk, SOut.seq_ct, SOut.seq_err, SOut.seq_stuck, List.map_cons, List.map_nil, List.length_cons, List.length_nil, List.replicate, List.cons_append, List.nil_append, List.getElem?_cons_zero, List.getElem?_cons_succ, List.set_cons_zero, List.set_cons_succ, Nat.reduceSub, Nat.reduceAdd, Nat.reduceLT, Nat.reduceLeDiff, Int.ofNat_eq_natCast, if_true, if_false, Bool.false_eq_true, Bool.not_true, Bool.not_false, cmp_in, tx_in, in_az, in_dg, h0, h1, sg]
    · simp [runB, evSs, evS, ev, evs, evO, evIt, tst, tstO, sto, stos, unpk, asgT, asgTs, Out.bind_ok, Out.bind_err, Out.bind_stuck, Out.of_some, Out.of_none, Out.then_ok, Out.then_err, Out.then_stuck, SOut.seq_nx, SOut.seq_rt, SOut.seq_bk, SOut.seq_ct, SOut.seq_err, SOut.seq_stuck, List.map_cons, List.map_nil, List.length_cons, List.length_nil, List.replicate, List.cons_append, List.nil_append, List.getElem?_cons_zero, List.getElem?_cons_succ, List.set_cons_zero, List.set_cons_succ, Nat.reduceSub, Nat.reduceAdd, Nat.reduceLT, Nat.reduceLeDiff, Int.ofNat_eq_natCast, if_true, if_false, Bool.false_eq_true, Bool.not_true, Bool.not_false, cmp_in, tx_in, in_az, in_dg, h0, h1, sg]
def kn (k : Nat) : List Nat := if k = 0 then [119, 111, 114, 100] else if k = 1 then [110, 117, 109, 101, 114, 97, 108] else [115, 105, 103, 110]
theorem lt_one (a b : Nat) : strLt (SX.S [a]) (SX.S [b]) = decide (a < b) := by
  unfold strLt
  refine decide_eq_decide.mpr ?_
  show [a] < [b] ↔ _
  rw [List.cons_lt_cons_iff]
  simp
theorem le_one (a b : Nat) : cmpB .LtE (tx [a]) (tx [b]) h = some (decide (a ≤ b)) := by
  show some (!strLt (SX.S [b]) (SX.S [a])) = _
  rw [lt_one]
  congr 1
  rw [Bool.eq_iff_iff]
  simp
theorem sp20 {c : Nat} : G dcs 20 [tx [c]] h = .ok (tx (kn (kd c))) h := by
  rw [g__law_kind_of rfl, ← fin_sc (h := h) (w := tx (kn (kd c))) (by simp)]
  congr 1
  have e0 : b__law_kind_of = [.ret (.ite (.chn .LtE .LtE (.cst (tx [97])) (.var 0) (.cst (tx [122]))) (.cst (tx (kn 0))) (.ite (.chn .LtE .LtE (.cst (tx [48])) (.var 0) (.cst (tx [57]))) (.cst (tx (kn 1))) (.cst (tx (kn 2)))))] := rfl
  rw [e0]
  have ch : ∀ a b : Nat, tst (envTo dcs 20) (.chn .LtE .LtE (.cst (tx [a])) (.var 0) (.cst (tx [b]))) [some (tx [c])] h = .ok (decide (a ≤ c ∧ c ≤ b)) h := fun a b => by
    simp only [runB, evSs, evS, ev, evs, evO, evIt, tst, tstO, sto, stos, unpk, asgT, asgTs, Out.bind_ok, Out.bind_err, Out.bind_stuck, Out.of_some, Out.of_none, Out.then_ok, Out.then_err, Out.then_stuck, SOut.seq_nx, SOut.seq_rt, SOut.seq_bk, SOut.seq_ct, SOut.seq_err, SOut.seq_stuck, List.map_cons, List.map_nil, List.length_cons, List.length_nil, List.replicate, List.cons_append, List.nil_append, List.getElem?_cons_zero, List.getElem?_cons_succ, List.set_cons_zero, List.set_cons_succ, Nat.reduceSub, Nat.reduceAdd, Nat.reduceLT, Nat.reduceLeDiff, Int.ofNat_eq_natCast, if_true, if_false, Bool.false_eq_true, Bool.not_true, Bool.not_false, le_one]
    by_cases h1 : a ≤ c
    · by_cases h2 : c ≤ b
      · simp [h1, h2]
      · simp [h1, h2]
    · simp [h1]
  unfold kd
  by_cases h0 : 97 ≤ c ∧ c ≤ 122
  · simp [runB, evSs, evS, ev, evs, evO, evIt, tst, tstO, sto, stos, unpk, asgT, asgTs, Out.bind_ok, Out.bind_err, Out.bind_stuck, Out.of_some, Out.of_none, Out.then_ok, Out.then_err, Out.then_stuck, SOut.seq_nx, SOut.seq_rt, SOut.seq_bk, SOut.seq_ct, SOut.seq_err, SOut.seq_stuck, List.map_cons, List.map_nil, List.length_cons, List.length_nil, List.replicate, List.cons_append, List.nil_append, List.getElem?_cons_zero, List.getElem?_cons_succ, List.set_cons_zero, List.set_cons_succ, Nat.reduceSub, Nat.reduceAdd, Nat.reduceLT, Nat.reduceLeDiff, Int.ofNat_eq_natCast, if_true, if_false, Bool.false_eq_true, Bool.not_true, Bool.not_false, le_one, h0]
  · by_cases h1 : 48 ≤ c ∧ c ≤ 57
    · have e1 := ch 97 122
      have e2 := ch 48 57
      rw [decide_eq_false h0] at e1
      rw [decide_eq_true h1] at e2
      rw [if_neg h0, if_pos h1]
      refine runB_rt (evSs_ret (evS_ret ?_))
      show ev _ _ [some (tx [c])] h = _
      simp only [ev, e1, e2, Out.bind_ok, Bool.false_eq_true, if_false, if_true]
    · have e1 := ch 97 122
      have e2 := ch 48 57
      rw [decide_eq_false h0] at e1
      rw [decide_eq_false h1] at e2
      rw [if_neg h0, if_neg h1]
      refine runB_rt (evSs_ret (evS_ret ?_))
      show ev _ _ [some (tx [c])] h = _
      simp only [ev, e1, e2, Out.bind_ok, Bool.false_eq_true, if_false, if_true]
end
end K11

set_option Elab.async false
set_option linter.all false
set_option autoImplicit false
set_option maxRecDepth 100000
set_option maxHeartbeats 4000000
namespace K11
open PySem PySem.Spec PyProof.Rows L2 Itp
section
variable {h : IH} {F : FEnv} {gas : Nat}
/-- a loop that goes along a token -/
theorem run_loop {s : List Nat} {p c : Nat} {r : List Nat} {b : IT} {body : List IStm} (R : Nat → IS) (e : s.drop p = c :: r)
    (hc : ∀ q, p < q → q ≤ s.length → tst F b (R q) h = .ok (decide (kd c ≠ 2 ∧ q < s.length ∧ kd (s.getD q 0) = kd c)) h)
    (hb : ∀ q, p < q → q < s.length → evSs F gas body (R q) h = .nx (R (q + 1)) h) (hg : s.length < gas) :
    evS F gas (.whl b body) (R (p + 1)) h = .nx (R (p + (tok (c :: r)).length)) h := by
  obtain ⟨m, m1, m2, m3, m4, m5, m6, m7⟩ := tok_at e
  rw [evS_whl, m4]
  obtain ⟨o, eo, z⟩ := whl_run (c := tst F b) (body := evSs F gas body) (fun k ρ hp => ∃ q, ρ = R q ∧ hp = h ∧ p < q ∧ q ≤ p + m ∧ k = s.length - q) (fun o => o = .nx (R (p + m)) h) (fun k ρ hp ⟨q, e1, e2, e3, e4, e5⟩ => by
    subst e1 e2
    refine ⟨_, _, hc q e3 (by omega), fun hf => ?_, fun ht => .inl ?_⟩
    · have hf := of_decide_eq_false hf
      have : q = p + m := by
        refine Decidable.byContradiction fun z => hf ⟨fun k2 => ?_, by omega, ?_⟩
        · have := m6 k2
          omega
        · have := m5 (q - p) (by omega)
          rwa [show p + (q - p) = q by omega] at this
      rw [this]
    · obtain ⟨h1, h2, h3⟩ := of_decide_eq_true ht
      refine ⟨_, _, s.length - (q + 1), .inl (hb q e3 h2), by omega, q + 1, rfl, rfl, by omega, ?_, rfl⟩
      refine Decidable.byContradiction fun z => ?_
      have : q = p + m := by omega
      subst this
      exact m7 h1 h2 h3) gas (s.length - (p + 1)) (R (p + 1)) h (by omega) ⟨p + 1, rfl, rfl, by omega, by omega, rfl⟩
  rw [eo, z]
theorem sg_nil {k : Nat} (hk : k ≤ 2) : sg k = [] ↔ k = 2 := by
  have : k = 0 ∨ k = 1 ∨ k = 2 := by omega
  rcases this with rfl | rfl | rfl <;> decide
theorem in_sg {k d : Nat} (hk : k < 2) : d ∈ sg k ↔ kd d = k := by
  have : k = 0 ∨ k = 1 := by omega
  rcases this with rfl | rfl
  · exact in_az d
  · exact in_dg d
theorem getS {s : List Nat} {q : Nat} (hs : s.length ≤ lineLen) (hq : q < s.length) : subF (tx s) (.int (q : Int)) h = some (tx [s.getD q 0], h) := by
  rw [tx_sub hs (List.getElem?_eq_getElem hq), List.getD_eq_getElem?_getD, List.getElem?_eq_getElem hq]
  rfl
theorem sp2 {s : List Nat} {p c : Nat} {r : List Nat} (hs : s.length ≤ 99000) (e : s.drop p = c :: r) : G dcs 2 [tx s, .int (p : Int)] h = .ok (tx (tok (c :: r))) h := by
  have big : s.length ≤ lineLen := Nat.le_trans hs (by decide)
  obtain ⟨lt, ec⟩ := drop_lt e
  rw [g_run_at rfl, ← fin_sc (h := h) (w := tx (tok (c :: r))) (by simp)]
  congr 1
  have e0 : b_run_at = [.asg (.tup [.name 2, .name 3]) (.tup [.call 1 [.sub (.var 0) (.var 1)], .bin .Add (.var 1) (.cst (.int 1))]), .whl (.and (.cmp .NotEq (.var 2) (.cst (tx []))) (.and (.cmp .Lt (.var 3) (.blt .len [.var 0])) (.cmp .In (.sub (.var 0) (.var 3)) (.var 2)))) [.asg (.name 3) (.bin .Add (.var 3) (.cst (.int 1)))], .ret (.slc (.var 0) (some (.var 1)) (some (.var 3)))] := rfl
  rw [e0]
  have s0 : evS (envTo dcs 2) 100000 (.asg (.tup [.name 2, .name 3]) (.tup [.call 1 [.sub (.var 0) (.var 1)], .bin .Add (.var 1) (.cst (.int 1))])) [some (tx s), some (.int (p : Int)), none, none] h = .nx [some (tx s), some (.int (p : Int)), some (tx (sg (kd c))), some (.int ((p + 1 : Nat) : Int))] h := by
    have g := getS (h := h) big lt
    rw [ec] at g
    have q : (p : Int) + 1 = ((p + 1 : Nat) : Int) := by omega
    simp only [runB, evSs, evS, ev, evs, evO, evIt, tst, tstO, sto, stos, unpk, asgT, asgTs, Out.bind_ok, Out.bind_err, Out.bind_stuck, Out.of_some, Out.of_none, Out.then_ok, Out.then_err, Out.then_stuck, SOut.seq_nx, SOut.seq_rt, SOut.seq_bk, SOut.seq_ct, SOut.seq_err, SOut.seq_stuck, List.map_cons, List.map_nil, List.length_cons, List.length_nil, List.replicate, List.cons_append, List.nil_append, List.getElem?_cons_zero, List.getElem?_cons_succ, List.set_cons_zero, List.set_cons_succ, Nat.reduceSub, Nat.reduceAdd, Nat.reduceLT, Nat.reduceLeDiff, Int.ofNat_eq_natCast, if_true, if_false, Bool.false_eq_true, Bool.not_true, Bool.not_false, g, env_lt (show 1 < 2 by decide), sp1, bin_add, q, small2, itemsOf_tup]
  have s1 := run_loop (F := envTo dcs 2) (gas := 100000) (h := h) (b := .and (.cmp .NotEq (.var 2) (.cst (tx []))) (.and (.cmp .Lt (.var 3) (.blt .len [.var 0])) (.cmp .In (.sub (.var 0) (.var 3)) (.var 2)))) (body := [.asg (.name 3) (.bin .Add (.var 3) (.cst (.int 1)))]) (fun q => [some (tx s), some (.int (p : Int)), some (tx (sg (kd c))), some (.int (q : Int))]) e (fun q q1 q2 => by
    have hk := kd_le c
    by_cases k2 : kd c = 2
    · simp only [runB, evSs, evS, ev, evs, evO, evIt, tst, tstO, sto, stos, unpk, asgT, asgTs, Out.bind_ok, Out.bind_err, Out.bind_stuck, Out.of_some, Out.of_none, Out.then_ok, Out.then_err, Out.then_stuck, SOut.seq_nx, SOut.seq_rt, SOut.seq_bk, SOut.seq_ct, SOut.seq_err, SOut.seq_stuck, List.map_cons, List.map_nil, List.length_cons, List.length_nil, List.replicate, List.cons_append, List.nil_append, List.getElem?_cons_zero, List.getElem?_cons_succ, List.set_cons_zero, List.set_cons_succ, Nat.reduceSub, Nat.reduceAdd, Nat.reduceLT, Nat.reduceLeDiff, Int.ofNat_eq_natCast, if_true, if_false, Bool.false_eq_true, Bool.not_true, Bool.not_false, cmp_ne, tx_eq, sg_nil hk, k2, decide_true, Option.map_some]
      congr 1
    · have a : ¬ sg (kd c) = [] := fun z => k2 ((sg_nil hk).mp z)
      by_cases lq : q < s.length
      · have g := getS (h := h) big lq
        have lt2 : (q : Int) < (s.length : Int) := by omega
        simp only [runB, evSs, evS, ev, evs, evO, evIt, tst, tstO, sto, stos, unpk, asgT, asgTs, Out.bind_ok, Out.bind_err, Out.bind_stuck, Out.of_some, Out.of_none, Out.then_ok, Out.then_err, Out.then_stuck, SOut.seq_nx, SOut.seq_rt, SOut.seq_bk, SOut.seq_ct, SOut.seq_err, SOut.seq_stuck, List.map_cons, List.map_nil, List.length_cons, List.length_nil, List.replicate, List.cons_append, List.nil_append, List.getElem?_cons_zero, List.getElem?_cons_succ, List.set_cons_zero, List.set_cons_succ, Nat.reduceSub, Nat.reduceAdd, Nat.reduceLT, Nat.reduceLeDiff, Int.ofNat_eq_natCast, if_true, if_false, Bool.false_eq_true, Bool.not_true, Bool.not_false, cmp_ne, tx_eq, a, k2, decide_false, Option.map_some, tx_len big, cmp_lt, lt2, decide_true, g, cmp_in, tx_in, in_sg (show kd c < 2 by omega)]
        congr 1
        refine decide_eq_decide.mpr ?_
        exact ⟨fun z => ⟨k2, lq, z⟩, fun z => z.2.2⟩
      · have lt2 : ¬ (q : Int) < (s.length : Int) := by omega
        simp only [runB, evSs, evS, ev, evs, evO, evIt, tst, tstO, sto, stos, unpk, asgT, asgTs, Out.bind_ok, Out.bind_err, Out.bind_stuck, Out.of_some, Out.of_none, Out.then_ok, Out.then_err, Out.then_stuck, SOut.seq_nx, SOut.seq_rt, SOut.seq_bk, SOut.seq_ct, SOut.seq_err, SOut.seq_stuck, List.map_cons, List.map_nil, List.length_cons, List.length_nil, List.replicate, List.cons_append, List.nil_append, List.getElem?_cons_zero, List.getElem?_cons_succ, List.set_cons_zero, List.set_cons_succ, Nat.reduceSub, Nat.reduceAdd, Nat.reduceLT, Nat.reduceLeDiff, Int.ofNat_eq_natCast, if_true, if_false, Bool.false_eq_true, Bool.not_true, Bool.not_false, cmp_ne, tx_eq, a, k2, decide_false, Option.map_some, tx_len big, cmp_lt, lt2]
        congr 1
        symm
        exact decide_eq_false fun z => lq z.2.1) (fun q q1 q2 => by
    have z : (q : Int) + 1 = ((q + 1 : Nat) : Int) := by omega
    simp only [runB, evSs, evS, ev, evs, evO, evIt, tst, tstO, sto, stos, unpk, asgT, asgTs, Out.bind_ok, Out.bind_err, Out.bind_stuck, Out.of_some, Out.of_none, Out.then_ok, Out.then_err, Out.then_stuck, SOut.seq_nx, SOut.seq_rt, SOut.seq_bk, SOut.seq_ct, SOut.seq_err, SOut.seq_stuck, List.map_cons, List.map_nil, List.length_cons, List.length_nil, List.replicate, List.cons_append, List.nil_append, List.getElem?_cons_zero, List.getElem?_cons_succ, List.set_cons_zero, List.set_cons_succ, Nat.reduceSub, Nat.reduceAdd, Nat.reduceLT, Nat.reduceLeDiff, Int.ofNat_eq_natCast, if_true, if_false, Bool.false_eq_true, Bool.not_true, Bool.not_false, bin_add, z]) (by omega)
  obtain ⟨m, m1, m2, m3, m4, _⟩ := tok_at e
  rw [m4] at s1
  refine runB_rt ?_
  show evSs _ _ _ [some (tx s), some (.int (p : Int)), none, none] h = _
  rw [evSs_cons s0, evSs_cons s1]
  refine evSs_ret (evS_ret ?_)
  have sl := tx_slc (hp := h) (a := s) (i := p) (j := p + m) big (by omega)
  rw [show p + m - p = m by omega, ← m3] at sl
  simp only [runB, evSs, evS, ev, evs, evO, evIt, tst, tstO, sto, stos, unpk, asgT, asgTs, Out.bind_ok, Out.bind_err, Out.bind_stuck, Out.of_some, Out.of_none, Out.then_ok, Out.then_err, Out.then_stuck, SOut.seq_nx, SOut.seq_rt, SOut.seq_bk, SOut.seq_ct, SOut.seq_err, SOut.seq_stuck, List.map_cons, List.map_nil, List.length_cons, List.length_nil, List.replicate, List.cons_append, List.nil_append, List.getElem?_cons_zero, List.getElem?_cons_succ, List.set_cons_zero, List.set_cons_succ, Nat.reduceSub, Nat.reduceAdd, Nat.reduceLT, Nat.reduceLeDiff, Int.ofNat_eq_natCast, if_true, if_false, Bool.false_eq_true, Bool.not_true, Bool.not_false, sl]
def rn (r : Nat) : List Nat := if r = 3 then [108, 111, 110, 103] else kn (2 - r)
def SG : W := .tup [tx [59], tx [47]]
theorem in_SG {t : List Nat} (ht : ∀ c ∈ t, c < 1114112) : inF (tx t) SG h = some (isS t) := by
  have d1 : dat h depthMax (tx t) = some (.str (SX.S t)) := rfl
  have d2 : dat h depthMax SG = some (.tuple [.str (SX.S [59]), .str (SX.S [47])]) := rfl
  have sh : SeqAt.shaped (.str (SX.S t)) = true := by
    show (PyData.strOk (SX.S t) && decide (0 ≤ 64)) = true
    rw [Bool.and_eq_true]
    refine ⟨?_, rfl⟩
    show (SX.S t).cps.all (· < 0x110000) = true
    rw [Array.all_eq_true']
    intro c hc
    exact decide_eq_true (ht c (by simpa [SX.S] using hc))
  show (match dat h depthMax (tx t), dat h depthMax SG with
    | some d, some (.list ds) => if SeqAt.shaped d = true ∧ SeqAt.shaped (.list ds) = true then some (ds.any fun z => PyData.eqv z d) else none
    | some d, some (.tuple ds) => if SeqAt.shaped d = true ∧ SeqAt.shaped (.tuple ds) = true then some (ds.any fun z => PyData.eqv z d) else none
    | _, _ => none) = _
  rw [d1, d2]
  dsimp only
  rw [if_pos ⟨sh, by decide +kernel⟩]
  congr 1
  show (SX.S [59] == SX.S t || (SX.S [47] == SX.S t || false)) = isS t
  unfold isS
  have q : ∀ a : List Nat, (SX.S a == SX.S t) = decide (t = a) := fun a => by
    rw [Bool.eq_iff_iff]
    simp only [beq_iff_eq, decide_eq_true_eq]
    exact ⟨fun z => (SX.S_inj z).symm, fun z => by rw [z]⟩
  rw [q, q, Bool.or_false, Bool.eq_iff_iff]
  simp
def faW : Option Nat → W
  | none => .non
  | some r => tx (rn r)
theorem sp3 {t : List Nat} {b : Bool} (h0 : t ≠ []) (hl : t.length ≤ lineLen) (ht : ∀ c ∈ t, c < 1114112) : G dcs 3 [tx t, .bl b] h = .ok (faW (wrP t b)) h := by
  obtain ⟨c, r, et⟩ : ∃ c r, t = c :: r := by
    cases t with
    | nil => exact absurd rfl h0
    | cons c r => exact ⟨c, r, rfl⟩
  rw [g_wrong_with rfl, ← fin_sc (h := h) (w := faW (wrP t b)) (by cases wrP t b <;> simp [faW])]
  congr 1
  have e0 : b_wrong_with = [.ite (.and (.cmp .Eq (.call 1 [.sub (.var 0) (.cst (.int 0))]) (.cst (tx []))) (.cmp .NotIn (.var 0) (.cst SG))) [.ret (.cst (tx (rn 0)))] [],
    .ite (.and (.cmp .In (.sub (.var 0) (.cst (.int 0))) (.cst (tx dg))) (.or (.cmp .Gt (.blt .len [.var 0]) (.cst (.int 9))) (.and (.cmp .Gt (.blt .len [.var 0]) (.cst (.int 1))) (.cmp .Eq (.sub (.var 0) (.cst (.int 0))) (.cst (tx [48])))))) [.ret (.cst (tx (rn 1)))] [],
    .ite (.or (.and (.cmp .In (.sub (.var 0) (.cst (.int 0))) (.cst (tx az))) (.cmp .Gt (.blt .len [.var 0]) (.cst (.int 8)))) (.and (.tru (.var 1)) (.cmp .NotIn (.var 0) (.cst SG)))) [.ret (.cst (tx (rn 2)))] [], .ret (.cst .non)] := rfl
  have kt : kdT t = kd c := by rw [et]; rfl
  have hd : t.headD 0 = c := by rw [et]; rfl
  have g : subF (tx t) (.int 0) h = some (tx [c], h) := tx_sub (i := 0) hl (by rw [et]; rfl)
  have hk := kd_le c
  obtain ⟨ρ, hρ⟩ : ∃ ρ : IS, ρ = [some (tx t), some (.bl b)] := ⟨_, rfl⟩
  have v0 : ρ[0]? = some (some (tx t)) := by rw [hρ]; rfl
  have v1 : ρ[1]? = some (some (.bl b)) := by rw [hρ]; rfl
  have a1 : tst (envTo dcs 3) (.cmp .Eq (.call 1 [.sub (.var 0) (.cst (.int 0))]) (.cst (tx []))) ρ h = .ok (decide (kdT t = 2)) h := by
    simp only [runB, evSs, evS, ev, evs, evO, evIt, tst, tstO, sto, stos, unpk, asgT, asgTs, Out.bind_ok, Out.bind_err, Out.bind_stuck, Out.of_some, Out.of_none, Out.then_ok, Out.then_err, Out.then_stuck, SOut.seq_nx, SOut.seq_rt, SOut.seq_bk, SOut.seq_ct, SOut.seq_err, SOut.seq_stuck, List.map_cons, List.map_nil, List.length_cons, List.length_nil, List.replicate, List.cons_append, List.nil_append, List.getElem?_cons_zero, List.getElem?_cons_succ, List.set_cons_zero, List.set_cons_succ, Nat.reduceSub, Nat.reduceAdd, Nat.reduceLT, Nat.reduceLeDiff, Int.ofNat_eq_natCast, if_true, if_false, Bool.false_eq_true, Bool.not_true, Bool.not_false, v0, g, env_lt (show 1 < 3 by decide), sp1, cmp_eq, tx_eq, sg_nil hk, kt]
  have a2 : tst (envTo dcs 3) (.cmp .NotIn (.var 0) (.cst SG)) ρ h = .ok (!isS t) h := by
    simp only [runB, evSs, evS, ev, evs, evO, evIt, tst, tstO, sto, stos, unpk, asgT, asgTs, Out.bind_ok, Out.bind_err, Out.bind_stuck, Out.of_some, Out.of_none, Out.then_ok, Out.then_err, Out.then_stuck, SOut.seq_nx, SOut.seq_rt, SOut.seq_bk, SOut.seq_ct, SOut.seq_err, SOut.seq_stuck, List.map_cons, List.map_nil, List.length_cons, List.length_nil, List.replicate, List.cons_append, List.nil_append, List.getElem?_cons_zero, List.getElem?_cons_succ, List.set_cons_zero, List.set_cons_succ, Nat.reduceSub, Nat.reduceAdd, Nat.reduceLT, Nat.reduceLeDiff, Int.ofNat_eq_natCast, if_true, if_false, Bool.false_eq_true, Bool.not_true, Bool.not_false, v0, cmp_nin, in_SG ht, Option.map_some]
  have a3 : tst (envTo dcs 3) (.cmp .In (.sub (.var 0) (.cst (.int 0))) (.cst (tx dg))) ρ h = .ok (decide (kdT t = 1)) h := by
    simp only [runB, evSs, evS, ev, evs, evO, evIt, tst, tstO, sto, stos, unpk, asgT, asgTs, Out.bind_ok, Out.bind_err, Out.bind_stuck, Out.of_some, Out.of_none, Out.then_ok, Out.then_err, Out.then_stuck, SOut.seq_nx, SOut.seq_rt, SOut.seq_bk, SOut.seq_ct, SOut.seq_err, SOut.seq_stuck, List.map_cons, List.map_nil, List.length_cons, List.length_nil, List.replicate, List.cons_append, List.nil_append, List.getElem?_cons_zero, List.getElem?_cons_succ, List.set_cons_zero, List.set_cons_succ, Nat.reduceSub, Nat.reduceAdd, Nat.reduceLT, Nat.reduceLeDiff, Int.ofNat_eq_natCast, if_true, if_false, Bool.false_eq_true, Bool.not_true, Bool.not_false, v0, g, cmp_in, tx_in, in_dg, kt]
  have a4 : ∀ k : Nat, tst (envTo dcs 3) (.cmp .Gt (.blt .len [.var 0]) (.cst (.int (k : Int)))) ρ h = .ok (decide (k < t.length)) h := fun k => by
    have : decide ((k : Int) < (t.length : Int)) = decide (k < t.length) := decide_eq_decide.mpr ⟨fun z => by omega, fun z => by omega⟩
    simp only [runB, evSs, evS, ev, evs, evO, evIt, tst, tstO, sto, stos, unpk, asgT, asgTs, Out.bind_ok, Out.bind_err, Out.bind_stuck, Out.of_some, Out.of_none, Out.then_ok, Out.then_err, Out.then_stuck, SOut.seq_nx, SOut.seq_rt, SOut.seq_bk, SOut.seq_ct, SOut.seq_err, SOut.seq_stuck, List.map_cons, List.map_nil, List.length_cons, List.length_nil, List.replicate, List.cons_append, List.nil_append, List.getElem?_cons_zero, List.getElem?_cons_succ, List.set_cons_zero, List.set_cons_succ, Nat.reduceSub, Nat.reduceAdd, Nat.reduceLT, Nat.reduceLeDiff, Int.ofNat_eq_natCast, if_true, if_false, Bool.false_eq_true, Bool.not_true, Bool.not_false, v0, tx_len hl, cmp_gt, this]
  have a5 : tst (envTo dcs 3) (.cmp .Eq (.sub (.var 0) (.cst (.int 0))) (.cst (tx [48]))) ρ h = .ok (decide (t.headD 0 = 48)) h := by
    simp only [runB, evSs, evS, ev, evs, evO, evIt, tst, tstO, sto, stos, unpk, asgT, asgTs, Out.bind_ok, Out.bind_err, Out.bind_stuck, Out.of_some, Out.of_none, Out.then_ok, Out.then_err, Out.then_stuck, SOut.seq_nx, SOut.seq_rt, SOut.seq_bk, SOut.seq_ct, SOut.seq_err, SOut.seq_stuck, List.map_cons, List.map_nil, List.length_cons, List.length_nil, List.replicate, List.cons_append, List.nil_append, List.getElem?_cons_zero, List.getElem?_cons_succ, List.set_cons_zero, List.set_cons_succ, Nat.reduceSub, Nat.reduceAdd, Nat.reduceLT, Nat.reduceLeDiff, Int.ofNat_eq_natCast, if_true, if_false, Bool.false_eq_true, Bool.not_true, Bool.not_false, v0, g, cmp_eq, tx_eq, hd]
    congr 1
    refine decide_eq_decide.mpr ?_
    simp
  have a6 : tst (envTo dcs 3) (.cmp .In (.sub (.var 0) (.cst (.int 0))) (.cst (tx az))) ρ h = .ok (decide (kdT t = 0)) h := by
    simp only [runB, evSs, evS, ev, evs, evO, evIt, tst, tstO, sto, stos, unpk, asgT, asgTs, Out.bind_ok, Out.bind_err, Out.bind_stuck, Out.of_some, Out.of_none, Out.then_ok, Out.then_err, Out.then_stuck, SOut.seq_nx, SOut.seq_rt, SOut.seq_bk, SOut.seq_ct, SOut.seq_err, SOut.seq_stuck, List.map_cons, List.map_nil, List.length_cons, List.length_nil, List.replicate, List.cons_append, List.nil_append, List.getElem?_cons_zero, List.getElem?_cons_succ, List.set_cons_zero, List.set_cons_succ, Nat.reduceSub, Nat.reduceAdd, Nat.reduceLT, Nat.reduceLeDiff, Int.ofNat_eq_natCast, if_true, if_false, Bool.false_eq_true, Bool.not_true, Bool.not_false, v0, g, cmp_in, tx_in, in_az, kt]
  have a7 : tst (envTo dcs 3) (.tru (.var 1)) ρ h = .ok b h := tst_tru (ev_var v1) rfl
  have c1 := tst_and (b := .cmp .NotIn (.var 0) (.cst SG)) a1
  rw [a2] at c1
  have c2 := tst_and (b := .or (.cmp .Gt (.blt .len [.var 0]) (.cst (.int 9))) (.and (.cmp .Gt (.blt .len [.var 0]) (.cst (.int 1))) (.cmp .Eq (.sub (.var 0) (.cst (.int 0))) (.cst (tx [48]))))) a3
  have a49 : tst (envTo dcs 3) (.cmp .Gt (.blt .len [.var 0]) (.cst (.int 9))) ρ h = .ok (decide (9 < t.length)) h := a4 9
  have a41 : tst (envTo dcs 3) (.cmp .Gt (.blt .len [.var 0]) (.cst (.int 1))) ρ h = .ok (decide (1 < t.length)) h := a4 1
  rw [tst_or a49, tst_and a41, a5] at c2
  rw [e0]
  have iteO : ∀ {x : Bool} {y z : Out Bool}, (if x = true then y else z) = if x then y else z := fun {x y z} => rfl
  have d1 : tst (envTo dcs 3) (.and (.cmp .Eq (.call 1 [.sub (.var 0) (.cst (.int 0))]) (.cst (tx []))) (.cmp .NotIn (.var 0) (.cst SG))) ρ h = .ok (decide (kdT t = 2 ∧ isS t = false)) h := by
    rw [c1]
    by_cases q : kdT t = 2
    · simp [q]
    · simp [q]
  have d2 : tst (envTo dcs 3) (.and (.cmp .In (.sub (.var 0) (.cst (.int 0))) (.cst (tx dg))) (.or (.cmp .Gt (.blt .len [.var 0]) (.cst (.int 9))) (.and (.cmp .Gt (.blt .len [.var 0]) (.cst (.int 1))) (.cmp .Eq (.sub (.var 0) (.cst (.int 0))) (.cst (tx [48])))))) ρ h = .ok (decide (kdT t = 1 ∧ (9 < t.length ∨ (1 < t.length ∧ t.headD 0 = 48)))) h := by
    refine Eq.trans c2 ?_
    by_cases q : kdT t = 1
    · by_cases q2 : 9 < t.length
      · simp only [q, q2, decide_true, if_true, true_or, and_self]
      · by_cases q3 : 1 < t.length
        · simp only [q, q2, q3, decide_true, decide_false, if_true, Bool.false_eq_true, if_false, false_or, true_and]
        · simp only [q, q2, q3, decide_true, decide_false, if_true, Bool.false_eq_true, if_false, false_or, true_and, false_and]
    · simp only [q, decide_false, Bool.false_eq_true, if_false, false_and]
  have d3 : tst (envTo dcs 3) (.or (.and (.cmp .In (.sub (.var 0) (.cst (.int 0))) (.cst (tx az))) (.cmp .Gt (.blt .len [.var 0]) (.cst (.int 8)))) (.and (.tru (.var 1)) (.cmp .NotIn (.var 0) (.cst SG)))) ρ h = .ok (decide ((kdT t = 0 ∧ 8 < t.length) ∨ (b = true ∧ isS t = false))) h := by
    have x : tst (envTo dcs 3) (.and (.cmp .In (.sub (.var 0) (.cst (.int 0))) (.cst (tx az))) (.cmp .Gt (.blt .len [.var 0]) (.cst (.int 8)))) ρ h = .ok (decide (kdT t = 0 ∧ 8 < t.length)) h := by
      rw [tst_and a6]
      by_cases q : kdT t = 0
      · have := a4 8
        simp only [q, decide_true, if_true, true_and]
        exact this
      · simp only [q, decide_false, Bool.false_eq_true, if_false, false_and]
    have y : tst (envTo dcs 3) (.and (.tru (.var 1)) (.cmp .NotIn (.var 0) (.cst SG))) ρ h = .ok (decide (b = true ∧ isS t = false)) h := by
      rw [tst_and a7, a2]
      cases b <;> cases isS t <;> rfl
    rw [tst_or x, y]
    by_cases q : kdT t = 0 ∧ 8 < t.length
    · rw [decide_eq_true q, if_pos rfl, decide_eq_true (.inl q)]
    · rw [decide_eq_false q, if_neg Bool.false_ne_true]
      congr 1
      exact decide_eq_decide.mpr ⟨fun z => .inr z, fun z => z.resolve_left q⟩
  refine runB_rt ?_
  show evSs _ _ _ [some (tx t), some (.bl b)] h = _
  rw [← hρ]
  unfold wrP
  by_cases q1 : kdT t = 2 ∧ isS t = false
  · rw [decide_eq_true q1] at d1
    rw [if_pos q1]
    refine evSs_ret ?_
    rw [evS_ite d1, if_pos rfl]
    exact evSs_ret (evS_ret ev_cst)
  rw [decide_eq_false q1] at d1
  rw [if_neg q1, evSs_cons (evS_pass d1)]
  by_cases q2 : kdT t = 1 ∧ (9 < t.length ∨ (1 < t.length ∧ t.headD 0 = 48))
  · rw [decide_eq_true q2] at d2
    rw [if_pos q2]
    refine evSs_ret ?_
    rw [evS_ite d2, if_pos rfl]
    exact evSs_ret (evS_ret ev_cst)
  rw [decide_eq_false q2] at d2
  rw [if_neg q2, evSs_cons (evS_pass d2)]
  by_cases q3 : (kdT t = 0 ∧ 8 < t.length) ∨ (b = true ∧ isS t = false)
  · rw [decide_eq_true q3] at d3
    rw [if_pos q3]
    refine evSs_ret ?_
    rw [evS_ite d3, if_pos rfl]
    exact evSs_ret (evS_ret ev_cst)
  rw [decide_eq_false q3] at d3
  rw [if_neg q3, evSs_cons (evS_pass d3)]
  exact evSs_ret (evS_ret ev_cst)
end
end K11

set_option Elab.async false
set_option linter.all false
set_option autoImplicit false
set_option maxRecDepth 100000
set_option maxHeartbeats 4000000
namespace K11
open PySem PySem.Spec PyProof.Rows L2 Itp
theorem evS_app1 {F : FEnv} {gas v D : Nat} {e : IE} {ρ : IS} {h h1 : IH} {ws : List W} {w : W} (hv : ρ[v]? = some (some (.ref D))) (hD : h[D]? = some (.lst ws)) (he : ev F e ρ h = .ok w h) (hl : ws.length < lineLen) :
    evS F gas (.expr (.meth .append (.var v) [e])) ρ h = .nx ρ (h.set D (.lst (ws ++ [w]))) := by
  have rc : recOk .append (.ref D) h = true := by
    show (match h[D]? with | some (.lst _) => true | _ => false) = true
    rw [hD]
  have b : bmF .append (.ref D) [w] h = some (.non, h.set D (.lst (ws ++ [w]))) := by
    show (match h[D]? with
      | some (.lst xs) => if xs.length < lineLen then some (W.non, h.set D (.lst (xs ++ [w]))) else none
      | _ => none) = _
    rw [hD]
    dsimp only
    rw [if_pos hl]
  simp only [evS, ev, evs, hv, Out.bind_ok, rc, if_true, he, b, Out.of_some, Out.then_ok]
def wtok (s : List Nat) (t : TK) : W := .tup [tx t.1, plW (at_ s t.2)]
def faultW (s : List Nat) (x : Nat × Nat) : W := .tup [tx (rn x.1), .int ((at_ s x.2).1 : Int), .int ((at_ s x.2).2 : Int)]
def fsW (s : List Nat) : FS → W
  | none => .non
  | some x => faultW s x
section
variable {s : List Nat} {f p : Nat} {b : Bool} {c : Nat} {r : List Nat}
theorem scan_nil (e : s.drop p = []) : scanF (f + 1) s p b = ([], none) := by
  unfold scanF
  rw [e]
theorem scan_blank (e : s.drop p = c :: r) (k : blk c = true) : scanF (f + 1) s p b = scanF f s (p + 1) false := by
  conv => lhs; unfold scanF
  rw [e]
  dsimp only
  rw [if_pos k]
theorem scan_bad (e : s.drop p = c :: r) (k : blk c = false) {w : Nat} (q : wrP (tok (c :: r)) b = some w) : scanF (f + 1) s p b = ([], some (w, p)) := by
  conv => lhs; unfold scanF
  rw [e]
  dsimp only
  rw [if_neg (by rw [k]; decide), q]
theorem scan_good (e : s.drop p = c :: r) (k : blk c = false) (q : wrP (tok (c :: r)) b = none) : scanF (f + 1) s p b = ((tok (c :: r), p) :: (scanF f s (p + (tok (c :: r)).length) (!isS (tok (c :: r)))).1, (scanF f s (p + (tok (c :: r)).length) (!isS (tok (c :: r)))).2) := by
  conv => lhs; unfold scanF
  rw [e]
  dsimp only
  rw [if_neg (by rw [k]; decide), q]
end
theorem tok_ne (c : Nat) (r : List Nat) : tok (c :: r) ≠ [] := fun z => by
  have := tok_pos c r
  rw [z] at this
  simp at this
theorem tok_mem {s : List Nat} {p c : Nat} {r : List Nat} (e : s.drop p = c :: r) : ∀ x ∈ tok (c :: r), x ∈ s := fun x hx => by
  obtain ⟨m, _, _, h, _⟩ := tok_at e
  rw [h] at hx
  exact List.mem_of_mem_drop (List.mem_of_mem_take hx)
theorem in_bl {c : Nat} {h : IH} : inF (tx [c]) (tx [32, 10]) h = some (blk c) := by
  rw [tx_in]
  congr 1
  unfold blk
  refine decide_eq_decide.mpr ?_
  simp
def SB0 : IStm := .ite (.cmp .In (.sub (.var 0) (.var 2)) (.cst (tx [32, 10]))) [.asg (.tup [.name 2, .name 3]) (.tup [.bin .Add (.var 2) (.cst (.int 1)), .cst (.bl false)]), .cont] []
def SB1 : IStm := .asg (.tup [.name 4, .name 5]) (.tup [.call 2 [.var 0, .var 2], .call 0 [.slc (.var 0) none (some (.var 2))]])
def SB2 : IStm := .asg (.name 6) (.call 3 [.var 4, .var 3])
def SB3 : IStm := .ite (.cmp .IsNot (.var 6) (.cst .non)) [.ret (.tup [.var 1, .bin .Add (.tup [.var 6]) (.var 5)])] []
def SB4 : IStm := .expr (.meth .append (.var 1) [.tup [.var 4, .var 5]])
def SB5 : IStm := .asg (.tup [.name 2, .name 3]) (.tup [.bin .Add (.var 2) (.blt .len [.var 4]), .cmp .NotIn (.var 4) (.cst SG)])
def SBB : List IStm := [SB0, SB1, SB2, SB3, SB4, SB5]
def SA : IStm := .asg (.tup [.name 1, .name 2, .name 3]) (.tup [.lst [], .cst (.int 0), .cst (.bl false)])
def SW : IStm := .whl (.cmp .Lt (.var 2) (.blt .len [.var 0])) SBB
theorem scanned_eq : b_scanned = [SA, SW, .ret (.tup [.var 1, .cst .non])] := rfl
noncomputable abbrev E4 : FEnv := envTo dcs 4
theorem e4 {i : Nat} (hi : i < 4) : E4 i = G dcs i := env_lt hi
def Txt (s : List Nat) : Prop := s.length ≤ 99000 ∧ ∀ c ∈ s, c < 1114112
theorem Txt.big {s : List Nat} (T : Txt s) : s.length ≤ lineLen := Nat.le_trans T.1 (by decide)
section
variable {h h0 : IH} {s : List Nat} {D p : Nat} {b : Bool} {x4 x5 x6 : Option W} {ws : List W}
theorem sb_blank (T : Txt s) (lt : p < s.length) (k : blk (s.getD p 0) = true) : evSs E4 100000 SBB [some (tx s), some (.ref D), some (.int (p : Int)), some (.bl b), x4, x5, x6] h = .ct [some (tx s), some (.ref D), some (.int ((p + 1 : Nat) : Int)), some (.bl false), x4, x5, x6] h := by
  have g := getS (h := h) T.big lt
  have q : (p : Int) + 1 = ((p + 1 : Nat) : Int) := by omega
  simp only [SBB, SB0, runB, evSs, evS, ev, evs, evO, evIt, tst, tstO, sto, stos, unpk, asgT, asgTs, Out.bind_ok, Out.bind_err, Out.bind_stuck, Out.of_some, Out.of_none, Out.then_ok, Out.then_err, Out.then_stuck, SOut.seq_nx, SOut.seq_rt, SOut.seq_bk, SOut.seq_ct, SOut.seq_err, SOut.seq_stuck, List.map_cons, List.map_nil, List.length_cons, List.length_nil, List.replicate, List.cons_append, List.nil_append, List.getElem?_cons_zero, List.getElem?_cons_succ, List.set_cons_zero, List.set_cons_succ, Nat.reduceSub, Nat.reduceAdd, Nat.reduceLT, Nat.reduceLeDiff, Int.ofNat_eq_natCast, if_true, if_false, Bool.false_eq_true, Bool.not_true, Bool.not_false, g, cmp_in, in_bl, k, bin_add, q, small2, itemsOf_tup]
theorem sb0 (T : Txt s) (lt : p < s.length) (k : blk (s.getD p 0) = false) : evS E4 100000 SB0 [some (tx s), some (.ref D), some (.int (p : Int)), some (.bl b), x4, x5, x6] h = .nx [some (tx s), some (.ref D), some (.int (p : Int)), some (.bl b), x4, x5, x6] h := by
  have g := getS (h := h) T.big lt
  simp only [SB0, runB, evSs, evS, ev, evs, evO, evIt, tst, tstO, sto, stos, unpk, asgT, asgTs, Out.bind_ok, Out.bind_err, Out.bind_stuck, Out.of_some, Out.of_none, Out.then_ok, Out.then_err, Out.then_stuck, SOut.seq_nx, SOut.seq_rt, SOut.seq_bk, SOut.seq_ct, SOut.seq_err, SOut.seq_stuck, List.map_cons, List.map_nil, List.length_cons, List.length_nil, List.replicate, List.cons_append, List.nil_append, List.getElem?_cons_zero, List.getElem?_cons_succ, List.set_cons_zero, List.set_cons_succ, Nat.reduceSub, Nat.reduceAdd, Nat.reduceLT, Nat.reduceLeDiff, Int.ofNat_eq_natCast, if_true, if_false, Bool.false_eq_true, Bool.not_true, Bool.not_false, g, cmp_in, in_bl, k]
theorem sb12 {c : Nat} {r : List Nat} (T : Txt s) (e : s.drop p = c :: r) (ss : List IStm) : evSs E4 100000 (SB1 :: SB2 :: ss) [some (tx s), some (.ref D), some (.int (p : Int)), some (.bl b), x4, x5, x6] h = evSs E4 100000 ss [some (tx s), some (.ref D), some (.int (p : Int)), some (.bl b), some (tx (tok (c :: r))), some (plW (at_ s p)), some (faW (wrP (tok (c :: r)) b))] h := by
  have tl : (tok (c :: r)).length ≤ lineLen := by
    obtain ⟨m, _, h2, _, h4, _⟩ := tok_at e
    have := T.1
    exact Nat.le_trans (show (tok (c :: r)).length ≤ 99000 by omega) (by decide)
  have s1 : evS E4 100000 SB1 [some (tx s), some (.ref D), some (.int (p : Int)), some (.bl b), x4, x5, x6] h = .nx [some (tx s), some (.ref D), some (.int (p : Int)), some (.bl b), some (tx (tok (c :: r))), some (plW (at_ s p)), x6] h := by
    have z := sp0 (h := h) (u := s.take p) (by rw [List.length_take]; have := T.big; omega)
    simp only [SB1, runB, evSs, evS, ev, evs, evO, evIt, tst, tstO, sto, stos, unpk, asgT, asgTs, Out.bind_ok, Out.bind_err, Out.bind_stuck, Out.of_some, Out.of_none, Out.then_ok, Out.then_err, Out.then_stuck, SOut.seq_nx, SOut.seq_rt, SOut.seq_bk, SOut.seq_ct, SOut.seq_err, SOut.seq_stuck, List.map_cons, List.map_nil, List.length_cons, List.length_nil, List.replicate, List.cons_append, List.nil_append, List.getElem?_cons_zero, List.getElem?_cons_succ, List.set_cons_zero, List.set_cons_succ, Nat.reduceSub, Nat.reduceAdd, Nat.reduceLT, Nat.reduceLeDiff, Int.ofNat_eq_natCast, if_true, if_false, Bool.false_eq_true, Bool.not_true, Bool.not_false, e4 (show 2 < 4 by decide), e4 (show 0 < 4 by decide), sp2 T.1 e, tx_to T.big, z, small2, itemsOf_tup]
    rfl
  have s2 : evS E4 100000 SB2 [some (tx s), some (.ref D), some (.int (p : Int)), some (.bl b), some (tx (tok (c :: r))), some (plW (at_ s p)), x6] h = .nx [some (tx s), some (.ref D), some (.int (p : Int)), some (.bl b), some (tx (tok (c :: r))), some (plW (at_ s p)), some (faW (wrP (tok (c :: r)) b))] h := by
    have z := sp3 (h := h) (b := b) (tok_ne c r) tl fun x hx => T.2 x (tok_mem e x hx)
    simp only [SB2, runB, evSs, evS, ev, evs, evO, evIt, tst, tstO, sto, stos, unpk, asgT, asgTs, Out.bind_ok, Out.bind_err, Out.bind_stuck, Out.of_some, Out.of_none, Out.then_ok, Out.then_err, Out.then_stuck, SOut.seq_nx, SOut.seq_rt, SOut.seq_bk, SOut.seq_ct, SOut.seq_err, SOut.seq_stuck, List.map_cons, List.map_nil, List.length_cons, List.length_nil, List.replicate, List.cons_append, List.nil_append, List.getElem?_cons_zero, List.getElem?_cons_succ, List.set_cons_zero, List.set_cons_succ, Nat.reduceSub, Nat.reduceAdd, Nat.reduceLT, Nat.reduceLeDiff, Int.ofNat_eq_natCast, if_true, if_false, Bool.false_eq_true, Bool.not_true, Bool.not_false, e4 (show 3 < 4 by decide), z]
  rw [evSs_cons s1, evSs_cons s2]
theorem sb_bad {t : List Nat} {w : Nat} (ss : List IStm) : evSs E4 100000 (SB3 :: ss) [some (tx s), some (.ref D), some (.int (p : Int)), some (.bl b), some (tx t), some (plW (at_ s p)), some (faW (some w))] h = .rt (.tup [.ref D, faultW s (w, p)]) h := by
  have q : cmpB .IsNot (faW (some w)) .non h = some true := rfl
  have a : binF .Add (.tup [faW (some w)]) (plW (at_ s p)) h = some (faultW s (w, p), h) := rfl
  simp only [SB3, runB, evSs, evS, ev, evs, evO, evIt, tst, tstO, sto, stos, unpk, asgT, asgTs, Out.bind_ok, Out.bind_err, Out.bind_stuck, Out.of_some, Out.of_none, Out.then_ok, Out.then_err, Out.then_stuck, SOut.seq_nx, SOut.seq_rt, SOut.seq_bk, SOut.seq_ct, SOut.seq_err, SOut.seq_stuck, List.map_cons, List.map_nil, List.length_cons, List.length_nil, List.replicate, List.cons_append, List.nil_append, List.getElem?_cons_zero, List.getElem?_cons_succ, List.set_cons_zero, List.set_cons_succ, Nat.reduceSub, Nat.reduceAdd, Nat.reduceLT, Nat.reduceLeDiff, Int.ofNat_eq_natCast, if_true, if_false, Bool.false_eq_true, Bool.not_true, Bool.not_false, q, a, small1, small2]
theorem sb_good {t : List Nat} (T : Txt s) (ht : ∀ x ∈ t, x < 1114112) (tl : t.length ≤ lineLen) (eD : h[D]? = some (.lst ws)) (wl : ws.length < lineLen) : evSs E4 100000 [SB3, SB4, SB5] [some (tx s), some (.ref D), some (.int (p : Int)), some (.bl b), some (tx t), some (plW (at_ s p)), some (faW none)] h =
    .nx [some (tx s), some (.ref D), some (.int ((p + t.length : Nat) : Int)), some (.bl (!isS t)), some (tx t), some (plW (at_ s p)), some .non] (h.set D (.lst (ws ++ [wtok s (t, p)]))) := by
  have q : cmpB .IsNot (faW none) .non h = some false := rfl
  have s3 : evS E4 100000 SB3 [some (tx s), some (.ref D), some (.int (p : Int)), some (.bl b), some (tx t), some (plW (at_ s p)), some (faW none)] h = .nx [some (tx s), some (.ref D), some (.int (p : Int)), some (.bl b), some (tx t), some (plW (at_ s p)), some (faW none)] h := by
    simp only [SB3, runB, evSs, evS, ev, evs, evO, evIt, tst, tstO, sto, stos, unpk, asgT, asgTs, Out.bind_ok, Out.bind_err, Out.bind_stuck, Out.of_some, Out.of_none, Out.then_ok, Out.then_err, Out.then_stuck, SOut.seq_nx, SOut.seq_rt, SOut.seq_bk, SOut.seq_ct, SOut.seq_err, SOut.seq_stuck, List.map_cons, List.map_nil, List.length_cons, List.length_nil, List.replicate, List.cons_append, List.nil_append, List.getElem?_cons_zero, List.getElem?_cons_succ, List.set_cons_zero, List.set_cons_succ, Nat.reduceSub, Nat.reduceAdd, Nat.reduceLT, Nat.reduceLeDiff, Int.ofNat_eq_natCast, if_true, if_false, Bool.false_eq_true, Bool.not_true, Bool.not_false, q]
  have s4 := evS_app1 (F := E4) (gas := 100000) (v := 1) (e := .tup [.var 4, .var 5]) (ρ := [some (tx s), some (.ref D), some (.int (p : Int)), some (.bl b), some (tx t), some (plW (at_ s p)), some (faW none)]) (h := h) (h1 := h) (w := wtok s (t, p)) rfl eD (by
    simp only [runB, evSs, evS, ev, evs, evO, evIt, tst, tstO, sto, stos, unpk, asgT, asgTs, Out.bind_ok, Out.bind_err, Out.bind_stuck, Out.of_some, Out.of_none, Out.then_ok, Out.then_err, Out.then_stuck, SOut.seq_nx, SOut.seq_rt, SOut.seq_bk, SOut.seq_ct, SOut.seq_err, SOut.seq_stuck, List.map_cons, List.map_nil, List.length_cons, List.length_nil, List.replicate, List.cons_append, List.nil_append, List.getElem?_cons_zero, List.getElem?_cons_succ, List.set_cons_zero, List.set_cons_succ, Nat.reduceSub, Nat.reduceAdd, Nat.reduceLT, Nat.reduceLeDiff, Int.ofNat_eq_natCast, if_true, if_false, Bool.false_eq_true, Bool.not_true, Bool.not_false, small2]
    rfl) wl
  have z : (p : Int) + (t.length : Int) = ((p + t.length : Nat) : Int) := by omega
  have s5 : ∀ h : IH, evS E4 100000 SB5 [some (tx s), some (.ref D), some (.int (p : Int)), some (.bl b), some (tx t), some (plW (at_ s p)), some (faW none)] h = .nx [some (tx s), some (.ref D), some (.int ((p + t.length : Nat) : Int)), some (.bl (!isS t)), some (tx t), some (plW (at_ s p)), some (faW none)] h := fun h => by
    simp only [SB5, runB, evSs, evS, ev, evs, evO, evIt, tst, tstO, sto, stos, unpk, asgT, asgTs, Out.bind_ok, Out.bind_err, Out.bind_stuck, Out.of_some, Out.of_none, Out.then_ok, Out.then_err, Out.then_stuck, SOut.seq_nx, SOut.seq_rt, SOut.seq_bk, SOut.seq_ct, SOut.seq_err, SOut.seq_stuck, List.map_cons, List.map_nil, List.length_cons, List.length_nil, List.replicate, List.cons_append, List.nil_append, List.getElem?_cons_zero, List.getElem?_cons_succ, List.set_cons_zero, List.set_cons_succ, Nat.reduceSub, Nat.reduceAdd, Nat.reduceLT, Nat.reduceLeDiff, Int.ofNat_eq_natCast, if_true, if_false, Bool.false_eq_true, Bool.not_true, Bool.not_false, tx_len tl, bin_add, z, cmpF_eq, cmp_nin, in_SG ht, Option.map_some, small2, itemsOf_tup]
  rw [evSs_cons s3, show SB4 = .expr (.meth .append (.var 1) [.tup [.var 4, .var 5]]) from rfl, evSs_cons s4, evSs_cons (s5 _)]
  simp only [evSs]
  rfl
theorem scan_walk (T : Txt s) : ∃ h' o, evS E4 100000 SW [some (tx s), some (.ref h.length), some (.int 0), some (.bl false), none, none, none] (h ++ [.lst []]) = o ∧ Rn none h h' ∧ h'[h.length]? = some (.lst ((full s).1.map (wtok s))) ∧
    (match (full s).2 with
      | none => ∃ ρ' : IS, o = .nx ρ' h' ∧ ρ'[1]? = some (some (.ref h.length))
      | some x => o = .rt (.tup [.ref h.length, faultW s x]) h') := by
  rw [SW, evS_whl]
  obtain ⟨o, eo, h', z1, z2, z3⟩ := whl_run (c := tst E4 (.cmp .Lt (.var 2) (.blt .len [.var 0]))) (body := evSs E4 100000 SBB)
    (fun m ρ hp => ∃ (f p : Nat) (b : Bool) (L : List TK) (x4 x5 x6 : Option W), ρ = [some (tx s), some (.ref h.length), some (.int (p : Int)), some (.bl b), x4, x5, x6] ∧ Rn none h hp ∧ hp[h.length]? = some (.lst (L.map (wtok s))) ∧ L.length ≤ p ∧ p ≤ s.length ∧ m = s.length - p ∧ m < f ∧ full s = (L ++ (scanF f s p b).1, (scanF f s p b).2))
    (fun o => ∃ h', Rn none h h' ∧ h'[h.length]? = some (.lst ((full s).1.map (wtok s))) ∧ (match (full s).2 with
      | none => ∃ ρ' : IS, o = .nx ρ' h' ∧ ρ'[1]? = some (some (.ref h.length))
      | some x => o = .rt (.tup [.ref h.length, faultW s x]) h')) (fun m ρ hp ⟨f, p, b, L, x4, x5, x6, e1, r1, e2, l1, l2, em, lf, ef⟩ => by
    subst e1
    have lq : decide ((p : Int) < (s.length : Int)) = decide (p < s.length) := decide_eq_decide.mpr ⟨fun z => by omega, fun z => by omega⟩
    refine ⟨decide (p < s.length), hp, by simp only [runB, evSs, evS, ev, evs, evO, evIt, tst, tstO, sto, stos, unpk, asgT, asgTs, Out.bind_ok, Out.bind_err, Out.bind_stuck, Out.of_some, Out.of_none, Out.then_ok, Out.then_err, Out.then_stuck, SOut.seq_nx, SOut.seq_rt, SOut.seq_bk, SOut.seq_ct, SOut.seq_err, SOut.seq_stuck, List.map_cons, List.map_nil, List.length_cons, List.length_nil, List.replicate, List.cons_append, List.nil_append, List.getElem?_cons_zero, List.getElem?_cons_succ, List.set_cons_zero, List.set_cons_succ, Nat.reduceSub, Nat.reduceAdd, Nat.reduceLT, Nat.reduceLeDiff, Int.ofNat_eq_natCast, if_true, if_false, Bool.false_eq_true, Bool.not_true, Bool.not_false, tx_len T.big, cmp_lt, lq], fun hf => ?_, fun ht => ?_⟩
    · have hf := of_decide_eq_false hf
      obtain ⟨f', rfl⟩ : ∃ f', f = f' + 1 := ⟨f - 1, by omega⟩
      rw [scan_nil (List.drop_of_length_le (by omega)), List.append_nil] at ef
      rw [ef]
      exact ⟨hp, r1, e2, _, rfl, rfl⟩
    · have lt := of_decide_eq_true ht
      obtain ⟨f', rfl⟩ : ∃ f', f = f' + 1 := ⟨f - 1, by omega⟩
      have ed := List.drop_eq_getElem_cons lt
      obtain ⟨c, r, e⟩ : ∃ c r, s.drop p = c :: r := ⟨_, _, ed⟩
      obtain ⟨_, ec⟩ := drop_lt e
      cases k : blk c with
      | true =>
        rw [scan_blank e k] at ef
        exact .inl ⟨_, _, s.length - (p + 1), .inr (sb_blank T lt (by rw [ec]; exact k)), by omega, f', p + 1, false, L, x4, x5, x6, rfl, r1, e2, by omega, by omega, rfl, by omega, ef⟩
      | false =>
        obtain ⟨mm, m1, m2, m3, m4, _⟩ := tok_at e
        have b0 := sb0 (h := hp) (D := h.length) (b := b) (x4 := x4) (x5 := x5) (x6 := x6) T lt (by rw [ec]; exact k)
        have b12 := sb12 (h := hp) (D := h.length) (b := b) (x4 := x4) (x5 := x5) (x6 := x6) T e [SB3, SB4, SB5]
        have bb : evSs E4 100000 SBB [some (tx s), some (.ref h.length), some (.int (p : Int)), some (.bl b), x4, x5, x6] hp = _ := (evSs_cons b0).trans b12
        cases q : wrP (tok (c :: r)) b with
        | some w =>
          rw [scan_bad e k q, List.append_nil] at ef
          rw [q, sb_bad] at bb
          refine .inr (.inl ⟨_, _, bb, hp, r1, ?_⟩)
          rw [ef]
          exact ⟨e2, rfl⟩
        | none =>
          rw [scan_good e k q] at ef
          have tl : (tok (c :: r)).length ≤ lineLen := by
            have := T.1
            exact Nat.le_trans (show (tok (c :: r)).length ≤ 99000 by omega) (by decide)
          rw [q, sb_good T (fun x hx => T.2 x (tok_mem e x hx)) tl e2 (by
            rw [List.length_map]
            have := T.1
            exact Nat.lt_of_le_of_lt (show L.length ≤ 99000 by omega) (by decide))] at bb
          have hl := (List.getElem?_eq_some_iff.mp e2).1
          refine .inl ⟨_, _, s.length - (p + (tok (c :: r)).length), .inl bb, by omega, f', p + (tok (c :: r)).length, !isS (tok (c :: r)), L ++ [(tok (c :: r), p)], _, _, _, rfl, r1.set (Nat.le_refl _) (fun z => nomatch z), ?_, by simp; omega, by omega, rfl, by omega, ?_⟩
          · rw [List.getElem?_set_self hl, List.map_append]
            rfl
          · rw [ef, List.append_assoc]
            rfl)
    100000 (s.length - 0) [some (tx s), some (.ref h.length), some (.int 0), some (.bl false), none, none, none] (h ++ [.lst []]) (by have := T.1; omega) ⟨s.length + 1, 0, false, [], none, none, none, rfl, Rn.app, get_last, Nat.le_refl _, Nat.zero_le _, rfl, by omega, rfl⟩
  exact ⟨h', o, eo, z1, z2, z3⟩
theorem sp4 (T : Txt s) : ∃ k h', G dcs 4 [tx s] h = .ok (.tup [.ref k, fsW s (full s).2]) h' ∧ Rn none h h' ∧ h'[k]? = some (.lst ((full s).1.map (wtok s))) ∧ h.length ≤ k := by
  obtain ⟨h', o, eo, z1, z2, z3⟩ := scan_walk (h := h) T
  have l0 : ([] : List W).length ≤ lineLen := Nat.zero_le _
  have sa : evS E4 100000 SA [some (tx s), none, none, none, none, none, none] h = .nx [some (tx s), some (.ref h.length), some (.int 0), some (.bl false), none, none, none] (h ++ [.lst []]) := by
    simp only [SA, runB, evSs, evS, ev, evs, evO, evIt, tst, tstO, sto, stos, unpk, asgT, asgTs, Out.bind_ok, Out.bind_err, Out.bind_stuck, Out.of_some, Out.of_none, Out.then_ok, Out.then_err, Out.then_stuck, SOut.seq_nx, SOut.seq_rt, SOut.seq_bk, SOut.seq_ct, SOut.seq_err, SOut.seq_stuck, List.map_cons, List.map_nil, List.length_cons, List.length_nil, List.replicate, List.cons_append, List.nil_append, List.getElem?_cons_zero, List.getElem?_cons_succ, List.set_cons_zero, List.set_cons_succ, Nat.reduceSub, Nat.reduceAdd, Nat.reduceLT, Nat.reduceLeDiff, Int.ofNat_eq_natCast, if_true, if_false, Bool.false_eq_true, Bool.not_true, Bool.not_false, small3, small0, itemsOf_tup]
  have main : runB E4 100000 b_scanned 7 [tx s] h = .ok (.tup [.ref h.length, fsW s (full s).2]) h' := by
    rw [scanned_eq]
    refine runB_rt ?_
    show evSs _ _ _ [some (tx s), none, none, none, none, none, none] h = _
    rw [evSs_cons sa]
    cases q : (full s).2 with
    | none =>
      rw [q] at z3
      obtain ⟨ρ', e1, e2⟩ := z3
      rw [e1] at eo
      rw [evSs_cons eo]
      refine evSs_ret (evS_ret ?_)
      simp only [runB, evSs, evS, ev, evs, evO, evIt, tst, tstO, sto, stos, unpk, asgT, asgTs, Out.bind_ok, Out.bind_err, Out.bind_stuck, Out.of_some, Out.of_none, Out.then_ok, Out.then_err, Out.then_stuck, SOut.seq_nx, SOut.seq_rt, SOut.seq_bk, SOut.seq_ct, SOut.seq_err, SOut.seq_stuck, List.map_cons, List.map_nil, List.length_cons, List.length_nil, List.replicate, List.cons_append, List.nil_append, List.getElem?_cons_zero, List.getElem?_cons_succ, List.set_cons_zero, List.set_cons_succ, Nat.reduceSub, Nat.reduceAdd, Nat.reduceLT, Nat.reduceLeDiff, Int.ofNat_eq_natCast, if_true, if_false, Bool.false_eq_true, Bool.not_true, Bool.not_false, e2, small2]
      rfl
    | some x =>
      rw [q] at z3
      rw [z3] at eo
      exact evSs_ret eo
  have nb : bndW h.length (.tup [.ref h.length, fsW s (full s).2]) = false := by
    rw [bndW_tup, bndWs_cons, bndW_new]
    rfl
  exact ⟨h.length, h', by rw [g_scanned rfl, main, fin_new nb], z1, z2, Nat.le_refl _⟩
end
end K11

set_option Elab.async false
set_option linter.all false
set_option autoImplicit false
set_option maxRecDepth 100000
set_option maxHeartbeats 4000000
namespace K11
open PySem PySem.Spec PyProof.Rows L2 Itp
theorem full_lex (s : List Nat) : full s = match (lexF (s.length + 1) s 0).2 with
    | [] => ((lexF (s.length + 1) s 0).1, none)
    | x :: _ => ((lexF (s.length + 1) s 0).1.filter fun t => decide (t.2 < x.2), some x) := scan_lex (s.length + 1) s 0 false (lnk0 s false rfl)
theorem full_pos (s : List Nat) : (∀ t ∈ (full s).1, t.2 < s.length) ∧ ∀ x, (full s).2 = some x → x.2 < s.length ∧ x.1 ≤ 2 := by
  have ge := lex_ge (s.length + 1) s 0
  rw [full_lex]
  cases e : (lexF (s.length + 1) s 0).2 with
  | nil =>
    exact ⟨fun t h => (ge.1 t h).2, fun x h => nomatch h⟩
  | cons y l =>
    refine ⟨fun t h => (ge.1 t (List.mem_filter.mp h).1).2, fun x h => ?_⟩
    cases h
    have := ge.2 y (by rw [e]; exact List.mem_cons_self)
    omega
theorem looked_pos (s : List Nat) : (∀ t ∈ (looked s).1, t.2 < s.length) ∧ ∀ x, (looked s).2 = some x → x.2 < s.length ∧ x.1 ≤ 3 := by
  obtain ⟨h1, h2⟩ := full_pos s
  unfold looked
  split
  · rename_i h
    exact ⟨fun t ht => h1 t (List.mem_filter.mp ht).1, fun x hx => by cases hx; exact ⟨h.1, Nat.le_refl _⟩⟩
  · exact ⟨h1, fun x hx => by have := h2 x hx; omega⟩
theorem lt_pl {h : IH} (a b : Nat × Nat) : cmpB .Lt (plW a) (plW b) h = some (decide (plt a b)) := by
  show some (HT.lexLt [(a.1 : Int), (a.2 : Int)] [(b.1 : Int), (b.2 : Int)]) = _
  rw [lex_two]
/-- the tokens ahead of a place -/
theorem ev_ahead {F : FEnv} {ρ : IS} {h : IH} {s : List Nat} {k q : Nat} {L : List TK} {PL : IE} (h1 : ρ[1]? = some (some (.ref k))) (hk : h[k]? = some (.lst (L.map (wtok s)))) (hL : ∀ t ∈ L, t.2 ≤ s.length) (hq : q ≤ s.length) (hl : L.length ≤ 99000) (h4 : 4 < ρ.length)
    (hp : ∀ x h', ev F PL ((wipeI ρ [4]).set 4 (some x)) h' = .ok (plW (at_ s q)) h') :
    ev F (.comp (.var 4) (.name 4) (.val (.var 1)) (some (.cmp .Lt (.sub (.var 4) (.cst (.int 1))) PL)) [4]) ρ h = .ok (.ref h.length) (h ++ [.lst ((L.filter fun t => decide (t.2 < q)).map (wtok s))]) := by
  refine ev_comp_fil L (wtok s) (fun t => decide (t.2 < q)) (wtok s) (it_list h1 hk) ((itLen_lst hk).trans (by simp)) (Nat.lt_of_le_of_lt hl (by decide)) (fun acc i => cur_list hk) fun t ht acc => ?_
  have v4 : ((wipeI ρ [4]).set 4 (some (wtok s t)))[4]? = some (some (wtok s t)) := List.getElem?_set_self (by simp [wipeI]; omega)
  refine ⟨_, rfl, ?_, fun _ => ev_var v4⟩
  have e : tst F (.cmp .Lt (.sub (.var 4) (.cst (.int 1))) PL) ((wipeI ρ [4]).set 4 (some (wtok s t))) (h ++ [.lst acc]) = (ev F PL ((wipeI ρ [4]).set 4 (some (wtok s t))) (h ++ [.lst acc])).bind fun v h' => match cmpB .Lt (plW (at_ s t.2)) v h' with
      | some c => .ok c h'
      | none => .stuck := by
    have z : subF (wtok s t) (.int 1) (h ++ [.lst acc]) = some (plW (at_ s t.2), h ++ [.lst acc]) := sub_int1
    simp only [tst, ev, v4, Out.bind_ok, z, Out.of_some]
    try congr 1
  rw [e, hp, Out.bind_ok, lt_pl]
  dsimp only
  congr 1
  exact decide_eq_decide.mpr (at_lt (hL t ht) hq)
def LO0 : IStm := .asg (.tup [.name 1, .name 2]) (.call 4 [.var 0])
def LOc : IT := .or (.cmp .Is (.var 2) (.cst .non)) (.cmp .Lt (.var 3) (.slc (.var 2) (some (.cst (.int 1))) none))
def LOk : IE := .comp (.var 4) (.name 4) (.val (.var 1)) (some (.cmp .Lt (.sub (.var 4) (.cst (.int 1))) (.var 3))) [4]
def LO1b : List IStm := [.asg (.name 3) (.call 0 [.slc (.var 0) none (some (.cst (.int 4000)))]), .ite LOc [.ret (.tup [LOk, .bin .Add (.tup [.cst (tx (rn 3))]) (.var 3)])] []]
def LO1 : IStm := .ite (.cmp .Gt (.blt .len [.var 0]) (.cst (.int 4000))) LO1b []
theorem looked_eq : b_looked_over = [LO0, LO1, .ret (.tup [.var 1, .var 2])] := rfl
noncomputable abbrev E5 : FEnv := envTo dcs 5
theorem e5 {i : Nat} (hi : i < 5) : E5 i = G dcs i := env_lt hi
theorem full_len (s : List Nat) : ∀ f p b, ((scanF f s p b).1.length) ≤ s.length - p := by
  intro f
  induction f with
  | zero => intro p b; exact Nat.zero_le _
  | succ f ih =>
    intro p b
    cases e : s.drop p with
    | nil =>
      rw [scan_nil e]
      exact Nat.zero_le _
    | cons c r =>
      obtain ⟨m, m1, m2, _, m4, _⟩ := tok_at e
      cases k : blk c with
      | true =>
        rw [scan_blank e k]
        have := ih (p + 1) false
        omega
      | false =>
        cases q : wrP (tok (c :: r)) b with
        | some w =>
          rw [scan_bad e k q]
          exact Nat.zero_le _
        | none =>
          rw [scan_good e k q]
          have := ih (p + (tok (c :: r)).length) (!isS (tok (c :: r)))
          rw [List.length_cons]
          omega
section
variable {h : IH} {s : List Nat}
theorem lo_c (T : Txt s) (h1 : IH) {x1 x4 : Option W} (e : FS) (he : e = (full s).2) (hl : 4000 < s.length) : tst E5 LOc [some (tx s), x1, some (fsW s e), some (plW (at_ s 4000)), x4] h1 = .ok (late e) h1 := by
  cases e with
  | none =>
    have q : cmpB .Is (fsW s none) .non h1 = some true := rfl
    simp only [LOc, runB, evSs, evS, ev, evs, evO, evIt, tst, tstO, sto, stos, unpk, asgT, asgTs, Out.bind_ok, Out.bind_err, Out.bind_stuck, Out.of_some, Out.of_none, Out.then_ok, Out.then_err, Out.then_stuck, SOut.seq_nx, SOut.seq_rt, SOut.seq_bk, SOut.seq_ct, SOut.seq_err, SOut.seq_stuck, List.map_cons, List.map_nil, List.length_cons, List.length_nil, List.replicate, List.cons_append, List.nil_append, List.getElem?_cons_zero, List.getElem?_cons_succ, List.set_cons_zero, List.set_cons_succ, Nat.reduceSub, Nat.reduceAdd, Nat.reduceLT, Nat.reduceLeDiff, Int.ofNat_eq_natCast, if_true, if_false, Bool.false_eq_true, Bool.not_true, Bool.not_false, q]
    rfl
  | some x =>
    have q : cmpB .Is (fsW s (some x)) .non h1 = some false := rfl
    have q2 : slcF (fsW s (some x)) (some 1) none h1 = some (plW (at_ s x.2), h1) := rfl
    have px := (full_pos s).2 x he.symm
    have z : decide (plt (at_ s 4000) (at_ s x.2)) = decide (4000 < x.2) := decide_eq_decide.mpr (at_lt (by omega) (by omega))
    simp only [LOc, runB, evSs, evS, ev, evs, evO, evIt, tst, tstO, sto, stos, unpk, asgT, asgTs, Out.bind_ok, Out.bind_err, Out.bind_stuck, Out.of_some, Out.of_none, Out.then_ok, Out.then_err, Out.then_stuck, SOut.seq_nx, SOut.seq_rt, SOut.seq_bk, SOut.seq_ct, SOut.seq_err, SOut.seq_stuck, List.map_cons, List.map_nil, List.length_cons, List.length_nil, List.replicate, List.cons_append, List.nil_append, List.getElem?_cons_zero, List.getElem?_cons_succ, List.set_cons_zero, List.set_cons_succ, Nat.reduceSub, Nat.reduceAdd, Nat.reduceLT, Nat.reduceLeDiff, Int.ofNat_eq_natCast, if_true, if_false, Bool.false_eq_true, Bool.not_true, Bool.not_false, q, q2, lt_pl, z]
    rfl
theorem sp5 (T : Txt s) : ∃ k h', G dcs 5 [tx s] h = .ok (.tup [.ref k, fsW s (looked s).2]) h' ∧ Rn none h h' ∧ h'[k]? = some (.lst ((looked s).1.map (wtok s))) ∧ h.length ≤ k := by
  obtain ⟨k, h1, e1, r1, f1, l1⟩ := sp4 (h := h) T
  have s0 : evS E5 100000 LO0 [some (tx s), none, none, none, none] h = .nx [some (tx s), some (.ref k), some (fsW s (full s).2), none, none] h1 := by
    simp only [LO0, runB, evSs, evS, ev, evs, evO, evIt, tst, tstO, sto, stos, unpk, asgT, asgTs, Out.bind_ok, Out.bind_err, Out.bind_stuck, Out.of_some, Out.of_none, Out.then_ok, Out.then_err, Out.then_stuck, SOut.seq_nx, SOut.seq_rt, SOut.seq_bk, SOut.seq_ct, SOut.seq_err, SOut.seq_stuck, List.map_cons, List.map_nil, List.length_cons, List.length_nil, List.replicate, List.cons_append, List.nil_append, List.getElem?_cons_zero, List.getElem?_cons_succ, List.set_cons_zero, List.set_cons_succ, Nat.reduceSub, Nat.reduceAdd, Nat.reduceLT, Nat.reduceLeDiff, Int.ofNat_eq_natCast, if_true, if_false, Bool.false_eq_true, Bool.not_true, Bool.not_false, e5 (show 4 < 5 by decide), e1, itemsOf_tup]
  have fl : (full s).1.length ≤ 99000 := by
    have := full_len s (s.length + 1) 0 false
    have := T.1
    unfold full
    omega
  have ret : ∀ ρ : IS, ∀ e : FS, ρ[1]? = some (some (.ref k)) → ρ[2]? = some (some (fsW s e)) → evSs E5 100000 [.ret (.tup [.var 1, .var 2])] ρ h1 = .rt (.tup [.ref k, fsW s e]) h1 := fun ρ e q1 q2 => by
    refine evSs_ret (evS_ret ?_)
    simp only [runB, evSs, evS, ev, evs, evO, evIt, tst, tstO, sto, stos, unpk, asgT, asgTs, Out.bind_ok, Out.bind_err, Out.bind_stuck, Out.of_some, Out.of_none, Out.then_ok, Out.then_err, Out.then_stuck, SOut.seq_nx, SOut.seq_rt, SOut.seq_bk, SOut.seq_ct, SOut.seq_err, SOut.seq_stuck, List.map_cons, List.map_nil, List.length_cons, List.length_nil, List.replicate, List.cons_append, List.nil_append, List.getElem?_cons_zero, List.getElem?_cons_succ, List.set_cons_zero, List.set_cons_succ, Nat.reduceSub, Nat.reduceAdd, Nat.reduceLT, Nat.reduceLeDiff, Int.ofNat_eq_natCast, if_true, if_false, Bool.false_eq_true, Bool.not_true, Bool.not_false, q1, q2, small2]
  have main : ∃ m h', runB E5 100000 b_looked_over 5 [tx s] h = .ok (.tup [.ref m, fsW s (looked s).2]) h' ∧ Rn none h h' ∧ h'[m]? = some (.lst ((looked s).1.map (wtok s))) ∧ h.length ≤ m := by
    rw [looked_eq]
    have start : evSs E5 100000 [LO0, LO1, .ret (.tup [.var 1, .var 2])] [some (tx s), none, none, none, none] h = evSs E5 100000 [LO1, .ret (.tup [.var 1, .var 2])] [some (tx s), some (.ref k), some (fsW s (full s).2), none, none] h1 := evSs_cons s0
    have tc : tst E5 (.cmp .Gt (.blt .len [.var 0]) (.cst (.int 4000))) [some (tx s), some (.ref k), some (fsW s (full s).2), none, none] h1 = .ok (decide (4000 < s.length)) h1 := by
      have : decide ((4000 : Int) < (s.length : Int)) = decide (4000 < s.length) := decide_eq_decide.mpr ⟨fun z => by omega, fun z => by omega⟩
      simp only [runB, evSs, evS, ev, evs, evO, evIt, tst, tstO, sto, stos, unpk, asgT, asgTs, Out.bind_ok, Out.bind_err, Out.bind_stuck, Out.of_some, Out.of_none, Out.then_ok, Out.then_err, Out.then_stuck, SOut.seq_nx, SOut.seq_rt, SOut.seq_bk, SOut.seq_ct, SOut.seq_err, SOut.seq_stuck, List.map_cons, List.map_nil, List.length_cons, List.length_nil, List.replicate, List.cons_append, List.nil_append, List.getElem?_cons_zero, List.getElem?_cons_succ, List.set_cons_zero, List.set_cons_succ, Nat.reduceSub, Nat.reduceAdd, Nat.reduceLT, Nat.reduceLeDiff, Int.ofNat_eq_natCast, if_true, if_false, Bool.false_eq_true, Bool.not_true, Bool.not_false, tx_len T.big, cmp_gt, this]
    by_cases hl : 4000 < s.length
    · rw [decide_eq_true hl] at tc
      have z := sp0 (h := h1) (u := s.take 4000) (by rw [List.length_take]; have := T.big; omega)
      have to := tx_to (hp := h1) (a := s) (j := 4000) T.big
      have sA : evS E5 100000 (.asg (.name 3) (.call 0 [.slc (.var 0) none (some (.cst (.int 4000)))])) [some (tx s), some (.ref k), some (fsW s (full s).2), none, none] h1 = .nx [some (tx s), some (.ref k), some (fsW s (full s).2), some (plW (at_ s 4000)), none] h1 := by
        have to' : slcF (tx s) none (some 4000) h1 = some (tx (s.take 4000), h1) := to
        simp only [runB, evSs, evS, ev, evs, evO, evIt, tst, tstO, sto, stos, unpk, asgT, asgTs, Out.bind_ok, Out.bind_err, Out.bind_stuck, Out.of_some, Out.of_none, Out.then_ok, Out.then_err, Out.then_stuck, SOut.seq_nx, SOut.seq_rt, SOut.seq_bk, SOut.seq_ct, SOut.seq_err, SOut.seq_stuck, List.map_cons, List.map_nil, List.length_cons, List.length_nil, List.replicate, List.cons_append, List.nil_append, List.getElem?_cons_zero, List.getElem?_cons_succ, List.set_cons_zero, List.set_cons_succ, Nat.reduceSub, Nat.reduceAdd, Nat.reduceLT, Nat.reduceLeDiff, Int.ofNat_eq_natCast, if_true, if_false, Bool.false_eq_true, Bool.not_true, Bool.not_false, e5 (show 0 < 5 by decide), to', z]
        rfl
      have sc := lo_c (x1 := some (.ref k)) (x4 := none) T h1 (full s).2 rfl hl
      by_cases lt : late (full s).2 = true
      · have lk : looked s = ((full s).1.filter fun t => decide (t.2 < 4000), some (3, 4000)) := by
          unfold looked
          rw [if_pos ⟨hl, lt⟩]
        rw [lk]
        rw [lt] at sc
        have ck := ev_ahead (F := E5) (ρ := [some (tx s), some (.ref k), some (fsW s (full s).2), some (plW (at_ s 4000)), none]) (h := h1) (s := s) (k := k) (q := 4000) (L := (full s).1) (PL := .var 3) rfl f1 (fun t ht => Nat.le_of_lt ((full_pos s).1 t ht)) (by omega) fl (by simp) (fun x h' => ev_var (by simp [wipeI]))
        obtain ⟨h2, eh2⟩ : ∃ h2, h2 = h1 ++ [IO.lst (((full s).1.filter fun t => decide (t.2 < 4000)).map (wtok s))] := ⟨_, rfl⟩
        rw [← eh2] at ck
        refine ⟨h1.length, h2, ?_, by rw [eh2]; exact r1.trans Rn.app, by rw [eh2]; exact get_last, r1.le⟩
        refine runB_rt ?_
        refine start.trans (evSs_ret ?_)
        rw [LO1, evS_ite tc, if_pos rfl, LO1b, evSs_cons sA]
        refine evSs_ret ?_
        rw [evS_ite sc, if_pos rfl]
        refine evSs_ret (evS_ret ?_)
        have a : binF .Add (.tup [tx (rn 3)]) (plW (at_ s 4000)) h2 = some (faultW s (3, 4000), h2) := rfl
        have ck' : ev E5 LOk [some (tx s), some (.ref k), some (fsW s (full s).2), some (plW (at_ s 4000)), none] h1 = _ := ck
        simp only [ev, evs, ck', Out.bind_ok, List.length_cons, List.length_nil, Nat.reduceAdd, small1, small2, if_true, List.getElem?_cons_zero, List.getElem?_cons_succ, a, Out.of_some]
        rfl
      · have lk : looked s = full s := by
          unfold looked
          rw [if_neg fun z => lt z.2]
        rw [lk]
        have lt' : late (full s).2 = false := by simpa using lt
        rw [lt'] at sc
        refine ⟨k, h1, ?_, r1, f1, l1⟩
        refine runB_rt ?_
        refine start.trans ?_
        have s1 : evS E5 100000 LO1 [some (tx s), some (.ref k), some (fsW s (full s).2), none, none] h1 = .nx [some (tx s), some (.ref k), some (fsW s (full s).2), some (plW (at_ s 4000)), none] h1 := by
          rw [LO1, evS_ite tc, if_pos rfl, LO1b, evSs_cons sA, evSs_cons (evS_pass sc)]
          simp only [evSs]
        rw [evSs_cons s1]
        exact ret _ _ rfl rfl
    · have lk : looked s = full s := by
        unfold looked
        rw [if_neg fun z => hl z.1]
      rw [lk]
      rw [decide_eq_false hl] at tc
      refine ⟨k, h1, ?_, r1, f1, l1⟩
      refine runB_rt ?_
      refine start.trans ?_
      rw [LO1, evSs_cons (evS_pass tc)]
      exact ret _ _ rfl rfl
  obtain ⟨m, h', e, r, q, l⟩ := main
  have nb : bndW h.length (.tup [.ref m, fsW s (looked s).2]) = false := by
    rw [bndW_tup, bndWs_cons, bnd_new l]
    rfl
  exact ⟨m, h', by rw [g_looked_over rfl, e, fin_new nb], r, q, l⟩
theorem sp6 : G dcs 6 [tx s] h = .ok .non h := by
  rw [g_check_text rfl, ← fin_sc (h := h) (w := .non) rfl]
  congr 1
theorem sp7 (T : Txt s) : ∃ k h', G dcs 7 [tx s] h = .ok (.ref k) h' ∧ Rn none h h' ∧ h'[k]? = some (.lst ((looked s).1.map (wtok s))) ∧ h.length ≤ k := by
  obtain ⟨k, h1, e1, r1, f1, l1⟩ := sp5 (h := h) T
  refine ⟨k, h1, ?_, r1, f1, l1⟩
  rw [g_tokens rfl, ← fin_new (hp := h) (hp' := h1) (bnd_new l1)]
  congr 1
  have e0 : b_tokens = [.expr (.call 6 [.var 0]), .ret (.sub (.call 5 [.var 0]) (.cst (.int 0)))] := rfl
  rw [e0]
  simp only [runB, evSs, evS, ev, evs, evO, evIt, tst, tstO, sto, stos, unpk, asgT, asgTs, Out.bind_ok, Out.bind_err, Out.bind_stuck, Out.of_some, Out.of_none, Out.then_ok, Out.then_err, Out.then_stuck, SOut.seq_nx, SOut.seq_rt, SOut.seq_bk, SOut.seq_ct, SOut.seq_err, SOut.seq_stuck, List.map_cons, List.map_nil, List.length_cons, List.length_nil, List.replicate, List.cons_append, List.nil_append, List.getElem?_cons_zero, List.getElem?_cons_succ, List.set_cons_zero, List.set_cons_succ, Nat.reduceSub, Nat.reduceAdd, Nat.reduceLT, Nat.reduceLeDiff, Int.ofNat_eq_natCast, if_true, if_false, Bool.false_eq_true, Bool.not_true, Bool.not_false, env_lt (show 6 < 7 by decide), env_lt (show 5 < 7 by decide), sp6, e1, sub_int0]
theorem sp8 (T : Txt s) : ∃ h', G dcs 8 [tx s] h = .ok (fsW s (looked s).2) h' ∧ Rn none h h' := by
  obtain ⟨k, h1, e1, r1, f1, l1⟩ := sp5 (h := h) T
  obtain ⟨h2, e2, r2⟩ := fin_W (w := fsW s (looked s).2) r1
  refine ⟨h2, ?_, r2⟩
  rw [g_token_fault rfl, ← e2]
  congr 1
  have e0 : b_token_fault = [.expr (.call 6 [.var 0]), .ret (.sub (.call 5 [.var 0]) (.cst (.int 1)))] := rfl
  rw [e0]
  simp only [runB, evSs, evS, ev, evs, evO, evIt, tst, tstO, sto, stos, unpk, asgT, asgTs, Out.bind_ok, Out.bind_err, Out.bind_stuck, Out.of_some, Out.of_none, Out.then_ok, Out.then_err, Out.then_stuck, SOut.seq_nx, SOut.seq_rt, SOut.seq_bk, SOut.seq_ct, SOut.seq_err, SOut.seq_stuck, List.map_cons, List.map_nil, List.length_cons, List.length_nil, List.replicate, List.cons_append, List.nil_append, List.getElem?_cons_zero, List.getElem?_cons_succ, List.set_cons_zero, List.set_cons_succ, Nat.reduceSub, Nat.reduceAdd, Nat.reduceLT, Nat.reduceLeDiff, Int.ofNat_eq_natCast, if_true, if_false, Bool.false_eq_true, Bool.not_true, Bool.not_false, env_lt (show 6 < 8 by decide), env_lt (show 5 < 8 by decide), sp6, e1, sub_int1]
theorem sp15 (T : Txt s) {x : Nat × Nat} (hx : (looked s).2 = some x) : ∃ h', G dcs 15 [tx s] h = .ok (faultW s x) h' ∧ Rn none h h' := by
  obtain ⟨k, h1, e1, r1, f1, l1⟩ := sp5 (h := h) T
  rw [hx] at e1
  obtain ⟨h2, e2, r2⟩ := fin_W (w := faultW s x) r1
  refine ⟨h2, ?_, r2⟩
  rw [g_fault_by rfl, ← e2]
  congr 1
  obtain ⟨ss, e0⟩ : ∃ ss, b_fault_by = .asg (.name 1) (.sub (.call 5 [.var 0]) (.cst (.int 1))) :: .ite (.cmp .IsNot (.var 1) (.cst .non)) [.ret (.var 1)] [] :: ss := ⟨_, rfl⟩
  rw [e0]
  refine runB_rt ?_
  have s0 : evS (envTo dcs 15) 100000 (.asg (.name 1) (.sub (.call 5 [.var 0]) (.cst (.int 1)))) [some (tx s), none, none, none, none, none] h = .nx [some (tx s), some (faultW s x), none, none, none, none] h1 := by
    simp only [runB, evSs, evS, ev, evs, evO, evIt, tst, tstO, sto, stos, unpk, asgT, asgTs, Out.bind_ok, Out.bind_err, Out.bind_stuck, Out.of_some, Out.of_none, Out.then_ok, Out.then_err, Out.then_stuck, SOut.seq_nx, SOut.seq_rt, SOut.seq_bk, SOut.seq_ct, SOut.seq_err, SOut.seq_stuck, List.map_cons, List.map_nil, List.length_cons, List.length_nil, List.replicate, List.cons_append, List.nil_append, List.getElem?_cons_zero, List.getElem?_cons_succ, List.set_cons_zero, List.set_cons_succ, Nat.reduceSub, Nat.reduceAdd, Nat.reduceLT, Nat.reduceLeDiff, Int.ofNat_eq_natCast, if_true, if_false, Bool.false_eq_true, Bool.not_true, Bool.not_false, env_lt (show 5 < 15 by decide), e1, sub_int1]
    rfl
  show evSs _ _ _ [some (tx s), none, none, none, none, none] h = _
  rw [evSs_cons s0]
  refine evSs_ret ?_
  have q : cmpB .IsNot (faultW s x) .non h1 = some true := rfl
  simp only [runB, evSs, evS, ev, evs, evO, evIt, tst, tstO, sto, stos, unpk, asgT, asgTs, Out.bind_ok, Out.bind_err, Out.bind_stuck, Out.of_some, Out.of_none, Out.then_ok, Out.then_err, Out.then_stuck, SOut.seq_nx, SOut.seq_rt, SOut.seq_bk, SOut.seq_ct, SOut.seq_err, SOut.seq_stuck, List.map_cons, List.map_nil, List.length_cons, List.length_nil, List.replicate, List.cons_append, List.nil_append, List.getElem?_cons_zero, List.getElem?_cons_succ, List.set_cons_zero, List.set_cons_succ, Nat.reduceSub, Nat.reduceAdd, Nat.reduceLT, Nat.reduceLeDiff, Int.ofNat_eq_natCast, if_true, if_false, Bool.false_eq_true, Bool.not_true, Bool.not_false, q]
theorem sp16 (T : Txt s) {x : Nat × Nat} (hx : (looked s).2 = some x) : ∃ h', G dcs 16 [tx s] h = .ok (faultW s x) h' ∧ Rn none h h' := by
  obtain ⟨h1, e1, r1⟩ := sp15 (h := h) T hx
  obtain ⟨h2, e2, r2⟩ := fin_W (w := faultW s x) r1
  refine ⟨h2, ?_, r2⟩
  rw [g_letter_fault rfl, ← e2]
  congr 1
  have e0 : b_letter_fault = [.expr (.call 6 [.var 0]), .ret (.call 15 [.var 0])] := rfl
  rw [e0]
  simp only [runB, evSs, evS, ev, evs, evO, evIt, tst, tstO, sto, stos, unpk, asgT, asgTs, Out.bind_ok, Out.bind_err, Out.bind_stuck, Out.of_some, Out.of_none, Out.then_ok, Out.then_err, Out.then_stuck, SOut.seq_nx, SOut.seq_rt, SOut.seq_bk, SOut.seq_ct, SOut.seq_err, SOut.seq_stuck, List.map_cons, List.map_nil, List.length_cons, List.length_nil, List.replicate, List.cons_append, List.nil_append, List.getElem?_cons_zero, List.getElem?_cons_succ, List.set_cons_zero, List.set_cons_succ, Nat.reduceSub, Nat.reduceAdd, Nat.reduceLT, Nat.reduceLeDiff, Int.ofNat_eq_natCast, if_true, if_false, Bool.false_eq_true, Bool.not_true, Bool.not_false, env_lt (show 6 < 16 by decide), env_lt (show 15 < 16 by decide), sp6, e1]
end
end K11

set_option Elab.async false
set_option linter.all false
set_option autoImplicit false
set_option maxRecDepth 100000
set_option maxHeartbeats 4000000
namespace K11
open PySem PySem.Spec PyProof.Rows L2 Itp
theorem sh_str {t : List Nat} (ht : ∀ c ∈ t, c < 1114112) : PyData.strOk (SX.S t) = true := by
  show (SX.S t).cps.all (· < 0x110000) = true
  rw [Array.all_eq_true']
  intro c hc
  exact decide_eq_true (ht c (by simpa [SX.S] using hc))
theorem in_two {t a b : List Nat} {h : IH} (ht : ∀ c ∈ t, c < 1114112) (ha : ∀ c ∈ a, c < 1114112) (hb : ∀ c ∈ b, c < 1114112) : inF (tx t) (.tup [tx a, tx b]) h = some (decide (t = a ∨ t = b)) := by
  have d1 : dat h depthMax (tx t) = some (.str (SX.S t)) := rfl
  have d2 : dat h depthMax (.tup [tx a, tx b]) = some (.tuple [.str (SX.S a), .str (SX.S b)]) := rfl
  have s1 : SeqAt.shaped (.str (SX.S t)) = true := by
    show (PyData.strOk (SX.S t) && decide (0 ≤ 64)) = true
    rw [sh_str ht]
    rfl
  have s2 : SeqAt.shaped (.tuple [.str (SX.S a), .str (SX.S b)]) = true := by
    show ((PyData.strOk (SX.S a) && (PyData.strOk (SX.S b) && true)) && decide (max 0 (max 0 0) + 1 ≤ 64)) = true
    rw [sh_str ha, sh_str hb]
    rfl
  show (match dat h depthMax (tx t), dat h depthMax (.tup [tx a, tx b]) with
    | some d, some (.list ds) => if SeqAt.shaped d = true ∧ SeqAt.shaped (.list ds) = true then some (ds.any fun z => PyData.eqv z d) else none
    | some d, some (.tuple ds) => if SeqAt.shaped d = true ∧ SeqAt.shaped (.tuple ds) = true then some (ds.any fun z => PyData.eqv z d) else none
    | _, _ => none) = _
  rw [d1, d2]
  dsimp only
  rw [if_pos ⟨s1, s2⟩]
  congr 1
  show (SX.S a == SX.S t || (SX.S b == SX.S t || false)) = _
  have q : ∀ a : List Nat, (SX.S a == SX.S t) = decide (t = a) := fun a => by
    rw [Bool.eq_iff_iff]
    simp only [beq_iff_eq, decide_eq_true_eq]
    exact ⟨fun z => (SX.S_inj z).symm, fun z => by rw [z]⟩
  rw [q, q, Bool.or_false, Bool.eq_iff_iff]
  simp
theorem kn_inj {j k : Nat} (hj : j ≤ 2) (hk : k ≤ 2) : kn j = kn k ↔ j = k := by
  have a : j = 0 ∨ j = 1 ∨ j = 2 := by omega
  have b : k = 0 ∨ k = 1 ∨ k = 2 := by omega
  rcases a with rfl | rfl | rfl <;> rcases b with rfl | rfl | rfl <;> decide
theorem kn_lt (k : Nat) : ∀ c ∈ kn k, c < 1114112 := by
  unfold kn
  split
  · decide
  · split <;> decide
theorem set_self {h : IH} {D : Nat} {o : IO} (e : h[D]? = some o) : h.set D o = h := by
  have hl := (List.getElem?_eq_some_iff.mp e)
  obtain ⟨q, rfl⟩ := hl
  exact List.set_getElem_self q
theorem evS_if_app {F : FEnv} {gas v D : Nat} {c : IT} {b : Bool} {e : IE} {ρ : IS} {h : IH} {ws : List W} {w : W} (hc : tst F c ρ h = .ok b h) (hv : ρ[v]? = some (some (.ref D))) (hD : h[D]? = some (.lst ws)) (he : ev F e ρ h = .ok w h) (hl : ws.length < lineLen) :
    evS F gas (.ite c [.expr (.meth .append (.var v) [e])] []) ρ h = .nx ρ (h.set D (.lst (ws ++ if b then [w] else []))) := by
  cases b with
  | true =>
    rw [evS_ite hc, if_pos rfl, evSs_cons (evS_app1 (h1 := h) hv hD he hl)]
    simp only [evSs]
    rfl
  | false =>
    rw [evS_pass hc]
    rw [if_neg Bool.false_ne_true, List.append_nil, set_self hD]
def f4 (s : List Nat) (x : Nat × Nat) : W := .tup [.int ((at_ s x.2).1 : Int), .int ((at_ s x.2).2 : Int), .int (x.1 : Int), tx (rn x.1)]
def LB0 : IStm := .ite (.cmp .In (.sub (.var 0) (.var 3)) (.cst (tx [32, 10]))) [.asg (.tup [.name 4, .name 5]) (.ite (.cmp .Eq (.sub (.var 0) (.var 3)) (.cst (tx [10]))) (.tup [.bin .Add (.var 4) (.cst (.int 1)), .cst (.int 1)]) (.tup [.var 4, .bin .Add (.var 5) (.cst (.int 1))])), .asg (.name 3) (.bin .Add (.var 3) (.cst (.int 1))), .cont] []
def LB1 : IStm := .asg (.tup [.name 6, .name 7]) (.tup [.call 20 [.sub (.var 0) (.var 3)], .bin .Add (.var 3) (.cst (.int 1))])
def LB2c : IT := .and (.cmp .NotEq (.var 6) (.cst (tx (kn 2)))) (.and (.cmp .Lt (.var 7) (.blt .len [.var 0])) (.cmp .Eq (.call 20 [.sub (.var 0) (.var 7)]) (.var 6)))
def LB2 : IStm := .whl LB2c [.asg (.name 7) (.bin .Add (.var 7) (.cst (.int 1)))]
def LB3 : IStm := .asg (.name 8) (.slc (.var 0) (some (.var 3)) (some (.var 7)))
def TU (r : Nat) : IE := .tup [.var 4, .var 5, .cst (.int (r : Int)), .cst (tx (rn r))]
def AP (r : Nat) : List IStm := [.expr (.meth .append (.var 2) [TU r])]
def C4 : IT := .and (.cmp .Eq (.var 6) (.cst (tx (kn 2)))) (.cmp .NotIn (.var 8) (.tup [.cst (tx [59]), .cst (tx [47])]))
def C5 : IT := .and (.cmp .Eq (.var 6) (.cst (tx (kn 1)))) (.or (.cmp .Gt (.blt .len [.var 8]) (.cst (.int 9))) (.and (.cmp .Eq (.sub (.var 8) (.cst (.int 0))) (.cst (tx [48]))) (.cmp .NotEq (.var 8) (.cst (tx [48])))))
def LB6 : IStm := .asg (.name 9) (.and (.cmp .Gt (.var 3) (.cst (.int 0))) (.and (.cmp .NotEq (.var 6) (.cst (tx (kn 2)))) (.and (.cmp .NotIn (.sub (.var 0) (.bin .Sub (.var 3) (.cst (.int 1)))) (.cst (tx [32, 10]))) (.cmp .NotIn (.call 20 [.sub (.var 0) (.bin .Sub (.var 3) (.cst (.int 1)))]) (.tup [.cst (tx (kn 2)), .var 6])))))
def C7 : IT := .or (.and (.cmp .Eq (.var 6) (.cst (tx (kn 0)))) (.cmp .Gt (.blt .len [.var 8]) (.cst (.int 8)))) (.tru (.var 9))
def LB8 : IStm := .expr (.meth .append (.var 1) [.tup [.var 8, .tup [.var 4, .var 5]]])
def LB9 : IStm := .asg (.tup [.name 3, .name 5]) (.tup [.var 7, .bin .Sub (.bin .Add (.var 5) (.var 7)) (.var 3)])
def LBB : List IStm := [LB0, LB1, LB2, LB3, .ite C4 (AP 0) [], .ite C5 (AP 1) [], LB6, .ite C7 (AP 2) [], LB8, LB9]
def LA : IStm := .asg (.tup [.name 1, .name 2, .name 3, .name 4, .name 5]) (.tup [.lst [], .lst [], .cst (.int 0), .cst (.int 1), .cst (.int 1)])
def LW : IStm := .whl (.cmp .Lt (.var 3) (.blt .len [.var 0])) LBB
theorem lex_eq : b__law_lex = [LA, LW, .ret (.tup [.var 1, .var 2])] := rfl
noncomputable abbrev E21 : FEnv := envTo dcs 21
theorem e20 : E21 20 = G dcs 20 := env_lt (by decide)
section
variable {h : IH} {s : List Nat} {D D2 p l cl : Nat} {x6 x7 x8 x9 : Option W} {ws : List W}
/-- the state within a turn -/
def lst_ (s : List Nat) (D D2 p : Nat) (x6 x7 x8 x9 : Option W) : IS := [some (tx s), some (.ref D), some (.ref D2), some (.int (p : Int)), some (.int ((at_ s p).1 : Int)), some (.int ((at_ s p).2 : Int)), x6, x7, x8, x9]
theorem lb_blank (T : Txt s) (lt : p < s.length) (k : blk (s.getD p 0) = true) : evSs E21 100000 LBB (lst_ s D D2 p x6 x7 x8 x9) h = .ct (lst_ s D D2 (p + 1) x6 x7 x8 x9) h := by
  have g := getS (h := h) T.big lt
  have q : (p : Int) + 1 = ((p + 1 : Nat) : Int) := by omega
  have sc := at_succ lt
  unfold lst_
  rw [sc]
  unfold stp
  by_cases n : s.getD p 0 = 10
  · have e : decide ([s.getD p 0] = [10]) = true := by rw [n]; rfl
    have z : ((at_ s p).1 : Int) + 1 = (((at_ s p).1 + 1 : Nat) : Int) := by omega
    rw [if_pos n]
    simp only [LBB, LB0, runB, evSs, evS, ev, evs, evO, evIt, tst, tstO, sto, stos, unpk, asgT, asgTs, Out.bind_ok, Out.bind_err, Out.bind_stuck, Out.of_some, Out.of_none, Out.then_ok, Out.then_err, Out.then_stuck, SOut.seq_nx, SOut.seq_rt, SOut.seq_bk, SOut.seq_ct, SOut.seq_err, SOut.seq_stuck, List.map_cons, List.map_nil, List.length_cons, List.length_nil, List.replicate, List.cons_append, List.nil_append, List.getElem?_cons_zero, List.getElem?_cons_succ, List.set_cons_zero, List.set_cons_succ, Nat.reduceSub, Nat.reduceAdd, Nat.reduceLT, Nat.reduceLeDiff, Int.ofNat_eq_natCast, if_true, if_false, Bool.false_eq_true, Bool.not_true, Bool.not_false, g, cmp_in, in_bl, k, bin_add, q, small2, itemsOf_tup, cmp_eq, tx_eq, e, z]
    rfl
  · have e : decide ([s.getD p 0] = [10]) = false := decide_eq_false fun z => n (List.cons.inj z).1
    have z : ((at_ s p).2 : Int) + 1 = (((at_ s p).2 + 1 : Nat) : Int) := by omega
    rw [if_neg n]
    simp only [LBB, LB0, runB, evSs, evS, ev, evs, evO, evIt, tst, tstO, sto, stos, unpk, asgT, asgTs, Out.bind_ok, Out.bind_err, Out.bind_stuck, Out.of_some, Out.of_none, Out.then_ok, Out.then_err, Out.then_stuck, SOut.seq_nx, SOut.seq_rt, SOut.seq_bk, SOut.seq_ct, SOut.seq_err, SOut.seq_stuck, List.map_cons, List.map_nil, List.length_cons, List.length_nil, List.replicate, List.cons_append, List.nil_append, List.getElem?_cons_zero, List.getElem?_cons_succ, List.set_cons_zero, List.set_cons_succ, Nat.reduceSub, Nat.reduceAdd, Nat.reduceLT, Nat.reduceLeDiff, Int.ofNat_eq_natCast, if_true, if_false, Bool.false_eq_true, Bool.not_true, Bool.not_false, g, cmp_in, in_bl, k, bin_add, q, small2, itemsOf_tup, cmp_eq, tx_eq, e, z]
theorem lb0 (T : Txt s) (lt : p < s.length) (k : blk (s.getD p 0) = false) : evS E21 100000 LB0 (lst_ s D D2 p x6 x7 x8 x9) h = .nx (lst_ s D D2 p x6 x7 x8 x9) h := by
  have g := getS (h := h) T.big lt
  unfold lst_
  simp only [LB0, runB, evSs, evS, ev, evs, evO, evIt, tst, tstO, sto, stos, unpk, asgT, asgTs, Out.bind_ok, Out.bind_err, Out.bind_stuck, Out.of_some, Out.of_none, Out.then_ok, Out.then_err, Out.then_stuck, SOut.seq_nx, SOut.seq_rt, SOut.seq_bk, SOut.seq_ct, SOut.seq_err, SOut.seq_stuck, List.map_cons, List.map_nil, List.length_cons, List.length_nil, List.replicate, List.cons_append, List.nil_append, List.getElem?_cons_zero, List.getElem?_cons_succ, List.set_cons_zero, List.set_cons_succ, Nat.reduceSub, Nat.reduceAdd, Nat.reduceLT, Nat.reduceLeDiff, Int.ofNat_eq_natCast, if_true, if_false, Bool.false_eq_true, Bool.not_true, Bool.not_false, g, cmp_in, in_bl, k]
theorem lb123 {c : Nat} {r : List Nat} (T : Txt s) (e : s.drop p = c :: r) (ss : List IStm) : evSs E21 100000 (LB1 :: LB2 :: LB3 :: ss) (lst_ s D D2 p x6 x7 x8 x9) h = evSs E21 100000 ss (lst_ s D D2 p (some (tx (kn (kd c)))) (some (.int ((p + (tok (c :: r)).length : Nat) : Int))) (some (tx (tok (c :: r)))) x9) h := by
  obtain ⟨lt, ec⟩ := drop_lt e
  have g := getS (h := h) T.big lt
  rw [ec] at g
  have q : (p : Int) + 1 = ((p + 1 : Nat) : Int) := by omega
  have s1 : evS E21 100000 LB1 (lst_ s D D2 p x6 x7 x8 x9) h = .nx (lst_ s D D2 p (some (tx (kn (kd c)))) (some (.int ((p + 1 : Nat) : Int))) x8 x9) h := by
    unfold lst_
    simp only [LB1, runB, evSs, evS, ev, evs, evO, evIt, tst, tstO, sto, stos, unpk, asgT, asgTs, Out.bind_ok, Out.bind_err, Out.bind_stuck, Out.of_some, Out.of_none, Out.then_ok, Out.then_err, Out.then_stuck, SOut.seq_nx, SOut.seq_rt, SOut.seq_bk, SOut.seq_ct, SOut.seq_err, SOut.seq_stuck, List.map_cons, List.map_nil, List.length_cons, List.length_nil, List.replicate, List.cons_append, List.nil_append, List.getElem?_cons_zero, List.getElem?_cons_succ, List.set_cons_zero, List.set_cons_succ, Nat.reduceSub, Nat.reduceAdd, Nat.reduceLT, Nat.reduceLeDiff, Int.ofNat_eq_natCast, if_true, if_false, Bool.false_eq_true, Bool.not_true, Bool.not_false, g, e20, sp20, bin_add, q, small2, itemsOf_tup]
  have s2 := run_loop (F := E21) (gas := 100000) (h := h) (b := LB2c) (body := [.asg (.name 7) (.bin .Add (.var 7) (.cst (.int 1)))]) (fun q => lst_ s D D2 p (some (tx (kn (kd c)))) (some (.int (q : Int))) x8 x9) e (fun q q1 q2 => by
    have hk := kd_le c
    unfold lst_ LB2c
    by_cases k2 : kd c = 2
    · simp only [runB, evSs, evS, ev, evs, evO, evIt, tst, tstO, sto, stos, unpk, asgT, asgTs, Out.bind_ok, Out.bind_err, Out.bind_stuck, Out.of_some, Out.of_none, Out.then_ok, Out.then_err, Out.then_stuck, SOut.seq_nx, SOut.seq_rt, SOut.seq_bk, SOut.seq_ct, SOut.seq_err, SOut.seq_stuck, List.map_cons, List.map_nil, List.length_cons, List.length_nil, List.replicate, List.cons_append, List.nil_append, List.getElem?_cons_zero, List.getElem?_cons_succ, List.set_cons_zero, List.set_cons_succ, Nat.reduceSub, Nat.reduceAdd, Nat.reduceLT, Nat.reduceLeDiff, Int.ofNat_eq_natCast, if_true, if_false, Bool.false_eq_true, Bool.not_true, Bool.not_false, cmp_ne, tx_eq, k2, decide_true, Option.map_some]
      congr 1
    · have a : ¬ kn (kd c) = kn 2 := fun z => k2 ((kn_inj hk (Nat.le_refl _)).mp z)
      by_cases lq : q < s.length
      · have g := getS (h := h) T.big lq
        have lt2 : (q : Int) < (s.length : Int) := by omega
        simp only [runB, evSs, evS, ev, evs, evO, evIt, tst, tstO, sto, stos, unpk, asgT, asgTs, Out.bind_ok, Out.bind_err, Out.bind_stuck, Out.of_some, Out.of_none, Out.then_ok, Out.then_err, Out.then_stuck, SOut.seq_nx, SOut.seq_rt, SOut.seq_bk, SOut.seq_ct, SOut.seq_err, SOut.seq_stuck, List.map_cons, List.map_nil, List.length_cons, List.length_nil, List.replicate, List.cons_append, List.nil_append, List.getElem?_cons_zero, List.getElem?_cons_succ, List.set_cons_zero, List.set_cons_succ, Nat.reduceSub, Nat.reduceAdd, Nat.reduceLT, Nat.reduceLeDiff, Int.ofNat_eq_natCast, if_true, if_false, Bool.false_eq_true, Bool.not_true, Bool.not_false, cmp_ne, tx_eq, a, k2, decide_false, Option.map_some, tx_len T.big, cmp_lt, lt2, decide_true, g, e20, sp20, cmp_eq, kn_inj (kd_le (s.getD q 0)) hk]
        congr 1
        refine decide_eq_decide.mpr ?_
        exact ⟨fun z => ⟨k2, lq, z⟩, fun z => z.2.2⟩
      · have lt2 : ¬ (q : Int) < (s.length : Int) := by omega
        simp only [runB, evSs, evS, ev, evs, evO, evIt, tst, tstO, sto, stos, unpk, asgT, asgTs, Out.bind_ok, Out.bind_err, Out.bind_stuck, Out.of_some, Out.of_none, Out.then_ok, Out.then_err, Out.then_stuck, SOut.seq_nx, SOut.seq_rt, SOut.seq_bk, SOut.seq_ct, SOut.seq_err, SOut.seq_stuck, List.map_cons, List.map_nil, List.length_cons, List.length_nil, List.replicate, List.cons_append, List.nil_append, List.getElem?_cons_zero, List.getElem?_cons_succ, List.set_cons_zero, List.set_cons_succ, Nat.reduceSub, Nat.reduceAdd, Nat.reduceLT, Nat.reduceLeDiff, Int.ofNat_eq_natCast, if_true, if_false, Bool.false_eq_true, Bool.not_true, Bool.not_false, cmp_ne, tx_eq, a, k2, decide_false, Option.map_some, tx_len T.big, cmp_lt, lt2]
        congr 1
        symm
        exact decide_eq_false fun z => lq z.2.1) (fun q q1 q2 => by
    have z : (q : Int) + 1 = ((q + 1 : Nat) : Int) := by omega
    unfold lst_
    simp only [runB, evSs, evS, ev, evs, evO, evIt, tst, tstO, sto, stos, unpk, asgT, asgTs, Out.bind_ok, Out.bind_err, Out.bind_stuck, Out.of_some, Out.of_none, Out.then_ok, Out.then_err, Out.then_stuck, SOut.seq_nx, SOut.seq_rt, SOut.seq_bk, SOut.seq_ct, SOut.seq_err, SOut.seq_stuck, List.map_cons, List.map_nil, List.length_cons, List.length_nil, List.replicate, List.cons_append, List.nil_append, List.getElem?_cons_zero, List.getElem?_cons_succ, List.set_cons_zero, List.set_cons_succ, Nat.reduceSub, Nat.reduceAdd, Nat.reduceLT, Nat.reduceLeDiff, Int.ofNat_eq_natCast, if_true, if_false, Bool.false_eq_true, Bool.not_true, Bool.not_false, bin_add, z]) (by have := T.1; omega)
  obtain ⟨m, m1, m2, m3, m4, _⟩ := tok_at e
  have s3 : evS E21 100000 LB3 (lst_ s D D2 p (some (tx (kn (kd c)))) (some (.int ((p + (tok (c :: r)).length : Nat) : Int))) x8 x9) h = .nx (lst_ s D D2 p (some (tx (kn (kd c)))) (some (.int ((p + (tok (c :: r)).length : Nat) : Int))) (some (tx (tok (c :: r)))) x9) h := by
    have sl := tx_slc (hp := h) (a := s) (i := p) (j := p + m) T.big (by omega)
    rw [show p + m - p = m by omega, ← m3] at sl
    rw [m4]
    unfold lst_
    simp only [LB3, runB, evSs, evS, ev, evs, evO, evIt, tst, tstO, sto, stos, unpk, asgT, asgTs, Out.bind_ok, Out.bind_err, Out.bind_stuck, Out.of_some, Out.of_none, Out.then_ok, Out.then_err, Out.then_stuck, SOut.seq_nx, SOut.seq_rt, SOut.seq_bk, SOut.seq_ct, SOut.seq_err, SOut.seq_stuck, List.map_cons, List.map_nil, List.length_cons, List.length_nil, List.replicate, List.cons_append, List.nil_append, List.getElem?_cons_zero, List.getElem?_cons_succ, List.set_cons_zero, List.set_cons_succ, Nat.reduceSub, Nat.reduceAdd, Nat.reduceLT, Nat.reduceLeDiff, Int.ofNat_eq_natCast, if_true, if_false, Bool.false_eq_true, Bool.not_true, Bool.not_false, sl]
  rw [evSs_cons s1, LB2, evSs_cons s2, evSs_cons s3]
theorem c4 {c : Nat} {r : List Nat} (hr : ∀ x ∈ tok (c :: r), x < 1114112) : tst E21 C4 (lst_ s D D2 p (some (tx (kn (kd c)))) x7 (some (tx (tok (c :: r)))) x9) h = .ok (decide (kdT (tok (c :: r)) = 2 ∧ isS (tok (c :: r)) = false)) h := by
  have i2 : inF (tx (tok (c :: r))) (.tup [tx [59], tx [47]]) h = some (isS (tok (c :: r))) := in_SG hr
  rw [kdT_cons]
  unfold lst_ C4
  by_cases k2 : kd c = 2
  · have a : decide (kn (kd c) = kn 2) = true := by rw [k2]; exact decide_eq_true rfl
    simp only [runB, evSs, evS, ev, evs, evO, evIt, tst, tstO, sto, stos, unpk, asgT, asgTs, Out.bind_ok, Out.bind_err, Out.bind_stuck, Out.of_some, Out.of_none, Out.then_ok, Out.then_err, Out.then_stuck, SOut.seq_nx, SOut.seq_rt, SOut.seq_bk, SOut.seq_ct, SOut.seq_err, SOut.seq_stuck, List.map_cons, List.map_nil, List.length_cons, List.length_nil, List.replicate, List.cons_append, List.nil_append, List.getElem?_cons_zero, List.getElem?_cons_succ, List.set_cons_zero, List.set_cons_succ, Nat.reduceSub, Nat.reduceAdd, Nat.reduceLT, Nat.reduceLeDiff, Int.ofNat_eq_natCast, if_true, if_false, Bool.false_eq_true, Bool.not_true, Bool.not_false, cmp_eq, tx_eq, a, cmp_nin, i2, small2, Option.map_some]
    rw [k2]
    cases isS (tok (c :: r)) <;> rfl
  · have a : decide (kn (kd c) = kn 2) = false := decide_eq_false fun z => k2 ((kn_inj (kd_le c) (Nat.le_refl _)).mp z)
    simp only [runB, evSs, evS, ev, evs, evO, evIt, tst, tstO, sto, stos, unpk, asgT, asgTs, Out.bind_ok, Out.bind_err, Out.bind_stuck, Out.of_some, Out.of_none, Out.then_ok, Out.then_err, Out.then_stuck, SOut.seq_nx, SOut.seq_rt, SOut.seq_bk, SOut.seq_ct, SOut.seq_err, SOut.seq_stuck, List.map_cons, List.map_nil, List.length_cons, List.length_nil, List.replicate, List.cons_append, List.nil_append, List.getElem?_cons_zero, List.getElem?_cons_succ, List.set_cons_zero, List.set_cons_succ, Nat.reduceSub, Nat.reduceAdd, Nat.reduceLT, Nat.reduceLeDiff, Int.ofNat_eq_natCast, if_true, if_false, Bool.false_eq_true, Bool.not_true, Bool.not_false, cmp_eq, tx_eq, a]
    congr 1
    symm
    exact decide_eq_false fun z => k2 z.1
theorem c5 {c : Nat} {r : List Nat} (tl : (tok (c :: r)).length ≤ lineLen) : tst E21 C5 (lst_ s D D2 p (some (tx (kn (kd c)))) x7 (some (tx (tok (c :: r)))) x9) h = .ok (decide (kdT (tok (c :: r)) = 1 ∧ (9 < (tok (c :: r)).length ∨ ((tok (c :: r)).headD 0 = 48 ∧ tok (c :: r) ≠ [48])))) h := by
  have tc : ∃ r', tok (c :: r) = c :: r' := by
    obtain ⟨m, _, q, _⟩ := tok_pre c r
    exact ⟨_, q⟩
  obtain ⟨r', er⟩ := tc
  rw [kdT_cons]
  rw [er] at tl ⊢
  have g : subF (tx (c :: r')) (.int 0) h = some (tx [c], h) := tx_sub (i := 0) tl rfl
  unfold lst_ C5
  by_cases k2 : kd c = 1
  · have a : decide (kn (kd c) = kn 1) = true := by rw [k2]; exact decide_eq_true rfl
    have l9 : decide ((9 : Int) < ((c :: r').length : Int)) = decide (9 < (c :: r').length) := decide_eq_decide.mpr ⟨fun z => by omega, fun z => by omega⟩
    simp only [ev, evs, tst, cmp_eq, cmp_ne, tx_eq, a, tx_len tl, cmp_gt, l9, g, Out.bind_ok, Out.of_some, List.getElem?_cons_zero, List.getElem?_cons_succ, if_true]
    by_cases q9 : 9 < (c :: r').length
    · rw [decide_eq_true q9]
      simp only [if_true, k2, true_and, q9, true_or, decide_true]
    · rw [decide_eq_false q9]
      by_cases q48 : c = 48
      · have e : decide ([c] = [48]) = true := decide_eq_true (by rw [q48])
        have r : decide (kd c = 1 ∧ (9 < (c :: r').length ∨ ((c :: r').headD 0 = 48 ∧ c :: r' ≠ [48]))) = !decide (c :: r' = [48]) := by
          rw [Bool.eq_iff_iff, Bool.not_eq_true', decide_eq_true_iff, decide_eq_false_iff_not]
          exact ⟨fun z => (z.2.resolve_left q9).2, fun z => ⟨k2, .inr ⟨q48, z⟩⟩⟩
        rw [r]
        simp only [Bool.false_eq_true, if_false, e, if_true, Option.map_some]
      · have e : decide ([c] = [48]) = false := decide_eq_false fun z => q48 (List.cons.inj z).1
        simp only [Bool.false_eq_true, if_false, e, if_true, k2, true_and, q9, false_or, List.headD_cons, q48, false_and, decide_false]
  · have a : decide (kn (kd c) = kn 1) = false := decide_eq_false fun z => k2 ((kn_inj (kd_le c) (by decide)).mp z)
    simp only [runB, evSs, evS, ev, evs, evO, evIt, tst, tstO, sto, stos, unpk, asgT, asgTs, Out.bind_ok, Out.bind_err, Out.bind_stuck, Out.of_some, Out.of_none, Out.then_ok, Out.then_err, Out.then_stuck, SOut.seq_nx, SOut.seq_rt, SOut.seq_bk, SOut.seq_ct, SOut.seq_err, SOut.seq_stuck, List.map_cons, List.map_nil, List.length_cons, List.length_nil, List.replicate, List.cons_append, List.nil_append, List.getElem?_cons_zero, List.getElem?_cons_succ, List.set_cons_zero, List.set_cons_succ, Nat.reduceSub, Nat.reduceAdd, Nat.reduceLT, Nat.reduceLeDiff, Int.ofNat_eq_natCast, if_true, if_false, Bool.false_eq_true, Bool.not_true, Bool.not_false, cmp_eq, tx_eq, a]
    congr 1
    symm
    exact decide_eq_false fun z => k2 z.1
theorem c7 {c : Nat} {r : List Nat} {b : Bool} (tl : (tok (c :: r)).length ≤ lineLen) : tst E21 C7 (lst_ s D D2 p (some (tx (kn (kd c)))) x7 (some (tx (tok (c :: r)))) (some (.bl b))) h = .ok (decide ((kdT (tok (c :: r)) = 0 ∧ 8 < (tok (c :: r)).length) ∨ b = true)) h := by
  rw [kdT_cons]
  generalize tok (c :: r) = t at tl
  unfold lst_ C7
  have l8 : decide ((8 : Int) < (t.length : Int)) = decide (8 < t.length) := decide_eq_decide.mpr ⟨fun z => by omega, fun z => by omega⟩
  by_cases k2 : kd c = 0
  · have a : decide (kn (kd c) = kn 0) = true := by rw [k2]; exact decide_eq_true rfl
    simp only [ev, evs, tst, cmp_eq, tx_eq, a, tx_len tl, cmp_gt, l8, Out.bind_ok, Out.of_some, List.getElem?_cons_zero, List.getElem?_cons_succ, if_true, truth_bl]
    by_cases q8 : 8 < t.length
    · rw [decide_eq_true q8]
      simp only [if_true, k2, true_and, q8, true_or, decide_true]
    · rw [decide_eq_false q8]
      simp only [Bool.false_eq_true, if_false, k2, true_and, q8, false_or, Bool.decide_eq_true]
  · have a : decide (kn (kd c) = kn 0) = false := decide_eq_false fun z => k2 ((kn_inj (kd_le c) (by decide)).mp z)
    simp only [runB, evSs, evS, ev, evs, evO, evIt, tst, tstO, sto, stos, unpk, asgT, asgTs, Out.bind_ok, Out.bind_err, Out.bind_stuck, Out.of_some, Out.of_none, Out.then_ok, Out.then_err, Out.then_stuck, SOut.seq_nx, SOut.seq_rt, SOut.seq_bk, SOut.seq_ct, SOut.seq_err, SOut.seq_stuck, List.map_cons, List.map_nil, List.length_cons, List.length_nil, List.replicate, List.cons_append, List.nil_append, List.getElem?_cons_zero, List.getElem?_cons_succ, List.set_cons_zero, List.set_cons_succ, Nat.reduceSub, Nat.reduceAdd, Nat.reduceLT, Nat.reduceLeDiff, Int.ofNat_eq_natCast, if_true, if_false, Bool.false_eq_true, Bool.not_true, Bool.not_false, cmp_eq, tx_eq, a, k2, false_and, false_or, Bool.decide_eq_true, truth_bl]
theorem lb6 {c : Nat} {r : List Nat} (T : Txt s) (e : s.drop p = c :: r) : evS E21 100000 LB6 (lst_ s D D2 p (some (tx (kn (kd c)))) x7 x8 x9) h = .nx (lst_ s D D2 p (some (tx (kn (kd c)))) x7 x8 (some (.bl (bes s p)))) h := by
  obtain ⟨lt, ec⟩ := drop_lt e
  have hk := kd_le c
  unfold lst_ LB6 bes
  rw [ec]
  by_cases p0 : 0 < p
  · have pi : decide ((0 : Int) < (p : Int)) = true := decide_eq_true (by omega)
    have g : subF (tx s) (.int ((p : Int) - 1)) h = some (tx [s.getD (p - 1) 0], h) := by
      rw [show (p : Int) - 1 = ((p - 1 : Nat) : Int) by omega]
      exact getS T.big (by omega)
    by_cases k2 : kd c = 2
    · have a : decide (kn (kd c) = kn 2) = true := by rw [k2]; exact decide_eq_true rfl
      simp only [runB, evSs, evS, ev, evs, evO, evIt, tst, tstO, sto, stos, unpk, asgT, asgTs, Out.bind_ok, Out.bind_err, Out.bind_stuck, Out.of_some, Out.of_none, Out.then_ok, Out.then_err, Out.then_stuck, SOut.seq_nx, SOut.seq_rt, SOut.seq_bk, SOut.seq_ct, SOut.seq_err, SOut.seq_stuck, List.map_cons, List.map_nil, List.length_cons, List.length_nil, List.replicate, List.cons_append, List.nil_append, List.getElem?_cons_zero, List.getElem?_cons_succ, List.set_cons_zero, List.set_cons_succ, Nat.reduceSub, Nat.reduceAdd, Nat.reduceLT, Nat.reduceLeDiff, Int.ofNat_eq_natCast, if_true, if_false, Bool.false_eq_true, Bool.not_true, Bool.not_false, cmp_gt, pi, cmpF_eq, Option.map_some, truth_bl, cmp_ne, tx_eq, a]
      rw [k2]
      simp
    · have a : decide (kn (kd c) = kn 2) = false := decide_eq_false fun z => k2 ((kn_inj hk (Nat.le_refl _)).mp z)
      cases kb : blk (s.getD (p - 1) 0) with
      | true =>
        simp only [runB, evSs, evS, ev, evs, evO, evIt, tst, tstO, sto, stos, unpk, asgT, asgTs, Out.bind_ok, Out.bind_err, Out.bind_stuck, Out.of_some, Out.of_none, Out.then_ok, Out.then_err, Out.then_stuck, SOut.seq_nx, SOut.seq_rt, SOut.seq_bk, SOut.seq_ct, SOut.seq_err, SOut.seq_stuck, List.map_cons, List.map_nil, List.length_cons, List.length_nil, List.replicate, List.cons_append, List.nil_append, List.getElem?_cons_zero, List.getElem?_cons_succ, List.set_cons_zero, List.set_cons_succ, Nat.reduceSub, Nat.reduceAdd, Nat.reduceLT, Nat.reduceLeDiff, Int.ofNat_eq_natCast, if_true, if_false, Bool.false_eq_true, Bool.not_true, Bool.not_false, cmp_gt, pi, cmpF_eq, Option.map_some, truth_bl, cmp_ne, tx_eq, a, bin_sub, g, cmp_nin, in_bl, kb]
        simp
      | false =>
        have i2 := in_two (h := h) (t := kn (kd (s.getD (p - 1) 0))) (a := kn 2) (b := kn (kd c)) (kn_lt _) (kn_lt _) (kn_lt _)
        simp only [runB, evSs, evS, ev, evs, evO, evIt, tst, tstO, sto, stos, unpk, asgT, asgTs, Out.bind_ok, Out.bind_err, Out.bind_stuck, Out.of_some, Out.of_none, Out.then_ok, Out.then_err, Out.then_stuck, SOut.seq_nx, SOut.seq_rt, SOut.seq_bk, SOut.seq_ct, SOut.seq_err, SOut.seq_stuck, List.map_cons, List.map_nil, List.length_cons, List.length_nil, List.replicate, List.cons_append, List.nil_append, List.getElem?_cons_zero, List.getElem?_cons_succ, List.set_cons_zero, List.set_cons_succ, Nat.reduceSub, Nat.reduceAdd, Nat.reduceLT, Nat.reduceLeDiff, Int.ofNat_eq_natCast, if_true, if_false, Bool.false_eq_true, Bool.not_true, Bool.not_false, cmp_gt, pi, cmpF_eq, Option.map_some, truth_bl, cmp_ne, tx_eq, a, bin_sub, g, cmp_nin, in_bl, kb, e20, sp20, small2, i2, kn_inj (kd_le (s.getD (p - 1) 0)) (Nat.le_refl 2), kn_inj (kd_le (s.getD (p - 1) 0)) hk]
        have z : decide (0 < p) = true := decide_eq_true p0
        rw [z]
        simp [k2]
  · have pi : decide ((0 : Int) < (p : Int)) = false := decide_eq_false (by omega)
    simp only [runB, evSs, evS, ev, evs, evO, evIt, tst, tstO, sto, stos, unpk, asgT, asgTs, Out.bind_ok, Out.bind_err, Out.bind_stuck, Out.of_some, Out.of_none, Out.then_ok, Out.then_err, Out.then_stuck, SOut.seq_nx, SOut.seq_rt, SOut.seq_bk, SOut.seq_ct, SOut.seq_err, SOut.seq_stuck, List.map_cons, List.map_nil, List.length_cons, List.length_nil, List.replicate, List.cons_append, List.nil_append, List.getElem?_cons_zero, List.getElem?_cons_succ, List.set_cons_zero, List.set_cons_succ, Nat.reduceSub, Nat.reduceAdd, Nat.reduceLT, Nat.reduceLeDiff, Int.ofNat_eq_natCast, if_true, if_false, Bool.false_eq_true, Bool.not_true, Bool.not_false, cmp_gt, pi, cmpF_eq, Option.map_some, truth_bl]
    have z : decide (0 < p) = false := decide_eq_false p0
    rw [z]
    simp
end
end K11

set_option Elab.async false
set_option linter.all false
set_option autoImplicit false
set_option maxRecDepth 100000
set_option maxHeartbeats 4000000
namespace K11
open PySem PySem.Spec PyProof.Rows L2 Itp
theorem wrL_map {α : Type} (t : List Nat) (b : Bool) (g : Nat → α) : (wrL t b).map g = (if decide (kdT t = 2 ∧ isS t = false) = true then [g 0] else []) ++ (if decide (kdT t = 1 ∧ (9 < t.length ∨ (t.headD 0 = 48 ∧ t ≠ [48]))) = true then [g 1] else []) ++ (if decide ((kdT t = 0 ∧ 8 < t.length) ∨ b = true) = true then [g 2] else []) := by
  have q : ∀ (P : Prop) [Decidable P] (x : Nat), (if P then [x] else []).map g = if decide P = true then [g x] else [] := fun P _ x => by
    by_cases h : P
    · rw [if_pos h, if_pos (decide_eq_true h)]
      rfl
    · rw [if_neg h, if_neg (by rw [decide_eq_false h]; decide)]
      rfl
  unfold wrL
  rw [List.map_append, List.map_append, q, q, q]
theorem tok_no10 {s : List Nat} {p c : Nat} {r : List Nat} (e : s.drop p = c :: r) (nb : blk c = false) : at_ s (p + (tok (c :: r)).length) = ((at_ s p).1, (at_ s p).2 + (tok (c :: r)).length) := by
  obtain ⟨m, m1, m2, m3, m4, m5, m6, m7⟩ := tok_at e
  rw [m4]
  refine at_add m m2 fun i hi z => ?_
  have q := m5 i hi
  rw [z] at q
  have k2 : kd c = 2 := q.symm
  have := m6 k2
  have : i = 0 := by omega
  subst this
  have ec := (drop_lt e).2
  rw [Nat.add_zero, ec] at z
  rw [z] at nb
  exact absurd nb (by decide)
section
variable {h : IH} {s : List Nat} {D D2 p : Nat} {x6 x7 x8 x9 : Option W} {ws us : List W}
theorem tu_ev (r : Nat) : ev E21 (TU r) (lst_ s D D2 p x6 x7 x8 x9) h = .ok (f4 s (r, p)) h := by
  have l4 : 4 ≤ lineLen := by decide
  unfold lst_ TU
  simp only [runB, evSs, evS, ev, evs, evO, evIt, tst, tstO, sto, stos, unpk, asgT, asgTs, Out.bind_ok, Out.bind_err, Out.bind_stuck, Out.of_some, Out.of_none, Out.then_ok, Out.then_err, Out.then_stuck, SOut.seq_nx, SOut.seq_rt, SOut.seq_bk, SOut.seq_ct, SOut.seq_err, SOut.seq_stuck, List.map_cons, List.map_nil, List.length_cons, List.length_nil, List.replicate, List.cons_append, List.nil_append, List.getElem?_cons_zero, List.getElem?_cons_succ, List.set_cons_zero, List.set_cons_succ, Nat.reduceSub, Nat.reduceAdd, Nat.reduceLT, Nat.reduceLeDiff, Int.ofNat_eq_natCast, if_true, if_false, Bool.false_eq_true, Bool.not_true, Bool.not_false, l4]
  rfl
theorem lb_turn {c : Nat} {r : List Nat} (T : Txt s) (e : s.drop p = c :: r) (nb : blk c = false) (hD : h[D]? = some (.lst ws)) (hD2 : h[D2]? = some (.lst us)) (ne : D ≠ D2) (wl : ws.length ≤ 99000) (ul : us.length ≤ 300000) :
    ∃ x6' x7' x8' x9', evSs E21 100000 LBB (lst_ s D D2 p x6 x7 x8 x9) h = .nx (lst_ s D D2 (p + (tok (c :: r)).length) x6' x7' x8' x9') ((h.set D2 (.lst (us ++ (wrL (tok (c :: r)) (bes s p)).map fun w => f4 s (w, p)))).set D (.lst (ws ++ [wtok s (tok (c :: r), p)]))) := by
  obtain ⟨lt, ec⟩ := drop_lt e
  have tl : (tok (c :: r)).length ≤ lineLen := by
    obtain ⟨m, _, h2, _, h4, _⟩ := tok_at e
    have := T.1
    exact Nat.le_trans (show (tok (c :: r)).length ≤ 99000 by omega) (by decide)
  have hr : ∀ x ∈ tok (c :: r), x < 1114112 := fun x hx => T.2 x (tok_mem e x hx)
  have hl2 := (List.getElem?_eq_some_iff.mp hD2).1
  rw [wrL_map]
  obtain ⟨b1, hb1⟩ : ∃ b, b = decide (kdT (tok (c :: r)) = 2 ∧ isS (tok (c :: r)) = false) := ⟨_, rfl⟩
  obtain ⟨b2, hb2⟩ : ∃ b, b = decide (kdT (tok (c :: r)) = 1 ∧ (9 < (tok (c :: r)).length ∨ ((tok (c :: r)).headD 0 = 48 ∧ tok (c :: r) ≠ [48]))) := ⟨_, rfl⟩
  obtain ⟨b3, hb3⟩ : ∃ b, b = decide ((kdT (tok (c :: r)) = 0 ∧ 8 < (tok (c :: r)).length) ∨ bes s p = true) := ⟨_, rfl⟩
  rw [← hb1, ← hb2, ← hb3]
  have lin : ∀ n : Nat, n ≤ 300010 → n < lineLen := fun n hn => Nat.lt_of_le_of_lt hn (by decide)
  have s0 := lb0 (h := h) (D := D) (D2 := D2) (x6 := x6) (x7 := x7) (x8 := x8) (x9 := x9) T lt (by rw [ec]; exact nb)
  have s123 := lb123 (h := h) (D := D) (D2 := D2) (x6 := x6) (x7 := x7) (x8 := x8) (x9 := x9) T e [.ite C4 (AP 0) [], .ite C5 (AP 1) [], LB6, .ite C7 (AP 2) [], LB8, LB9]
  have s4 := evS_if_app (F := E21) (gas := 100000) (v := 2) (D := D2) (ws := us) (e := TU 0) (c4 (h := h) (s := s) (D := D) (D2 := D2) (p := p) (x7 := some (.int ((p + (tok (c :: r)).length : Nat) : Int))) (x9 := x9) hr) rfl hD2 (tu_ev 0) (lin _ (by omega))
  rw [← hb1] at s4
  obtain ⟨u1, hu1⟩ : ∃ u, u = us ++ (if b1 = true then [f4 s (0, p)] else []) := ⟨_, rfl⟩
  have l1 : u1.length ≤ us.length + 1 := by
    rw [hu1, List.length_append]
    cases b1 <;> simp
  have g1 : (h.set D2 (.lst u1))[D2]? = some (.lst u1) := List.getElem?_set_self hl2
  have s5 := evS_if_app (F := E21) (gas := 100000) (v := 2) (D := D2) (ws := u1) (e := TU 1) (c5 (h := h.set D2 (.lst u1)) (s := s) (D := D) (D2 := D2) (p := p) (x7 := some (.int ((p + (tok (c :: r)).length : Nat) : Int))) (x9 := x9) tl) rfl g1 (tu_ev 1) (lin _ (by omega))
  rw [← hb2, List.set_set] at s5
  obtain ⟨u2, hu2⟩ : ∃ u, u = u1 ++ (if b2 = true then [f4 s (1, p)] else []) := ⟨_, rfl⟩
  have l2 : u2.length ≤ u1.length + 1 := by
    rw [hu2, List.length_append]
    cases b2 <;> simp
  have s6 := lb6 (h := h.set D2 (.lst u2)) (D := D) (D2 := D2) (x7 := some (.int ((p + (tok (c :: r)).length : Nat) : Int))) (x8 := some (tx (tok (c :: r)))) (x9 := x9) T e
  have g2 : (h.set D2 (.lst u2))[D2]? = some (.lst u2) := List.getElem?_set_self hl2
  have s7 := evS_if_app (F := E21) (gas := 100000) (v := 2) (D := D2) (ws := u2) (e := TU 2) (c7 (h := h.set D2 (.lst u2)) (s := s) (D := D) (D2 := D2) (p := p) (x7 := some (.int ((p + (tok (c :: r)).length : Nat) : Int))) (b := bes s p) tl) rfl g2 (tu_ev 2) (lin _ (by omega))
  rw [← hb3, List.set_set] at s7
  obtain ⟨u3, hu3⟩ : ∃ u, u = u2 ++ (if b3 = true then [f4 s (2, p)] else []) := ⟨_, rfl⟩
  rw [← hu1] at s4
  rw [← hu2] at s5
  rw [← hu3] at s7
  have g3 : (h.set D2 (.lst u3))[D]? = some (.lst ws) := by
    rw [List.getElem?_set_ne (fun z => ne z.symm)]
    exact hD
  have s8 := evS_app1 (F := E21) (gas := 100000) (v := 1) (e := .tup [.var 8, .tup [.var 4, .var 5]]) (ρ := lst_ s D D2 p (some (tx (kn (kd c)))) (some (.int ((p + (tok (c :: r)).length : Nat) : Int))) (some (tx (tok (c :: r)))) (some (.bl (bes s p)))) (h := h.set D2 (.lst u3)) (h1 := h) (w := wtok s (tok (c :: r), p)) rfl g3 (by
    unfold lst_
    simp only [runB, evSs, evS, ev, evs, evO, evIt, tst, tstO, sto, stos, unpk, asgT, asgTs, Out.bind_ok, Out.bind_err, Out.bind_stuck, Out.of_some, Out.of_none, Out.then_ok, Out.then_err, Out.then_stuck, SOut.seq_nx, SOut.seq_rt, SOut.seq_bk, SOut.seq_ct, SOut.seq_err, SOut.seq_stuck, List.map_cons, List.map_nil, List.length_cons, List.length_nil, List.replicate, List.cons_append, List.nil_append, List.getElem?_cons_zero, List.getElem?_cons_succ, List.set_cons_zero, List.set_cons_succ, Nat.reduceSub, Nat.reduceAdd, Nat.reduceLT, Nat.reduceLeDiff, Int.ofNat_eq_natCast, if_true, if_false, Bool.false_eq_true, Bool.not_true, Bool.not_false, small2]
    rfl) (lin _ (by omega))
  have s9 : ∀ h : IH, evS E21 100000 LB9 (lst_ s D D2 p (some (tx (kn (kd c)))) (some (.int ((p + (tok (c :: r)).length : Nat) : Int))) (some (tx (tok (c :: r)))) (some (.bl (bes s p)))) h = .nx (lst_ s D D2 (p + (tok (c :: r)).length) (some (tx (kn (kd c)))) (some (.int ((p + (tok (c :: r)).length : Nat) : Int))) (some (tx (tok (c :: r)))) (some (.bl (bes s p)))) h := fun h => by
    unfold lst_
    rw [tok_no10 e nb]
    have z : ((at_ s p).2 : Int) + ((p + (tok (c :: r)).length : Nat) : Int) - (p : Int) = (((at_ s p).2 + (tok (c :: r)).length : Nat) : Int) := by omega
    simp only [LB9, runB, evSs, evS, ev, evs, evO, evIt, tst, tstO, sto, stos, unpk, asgT, asgTs, Out.bind_ok, Out.bind_err, Out.bind_stuck, Out.of_some, Out.of_none, Out.then_ok, Out.then_err, Out.then_stuck, SOut.seq_nx, SOut.seq_rt, SOut.seq_bk, SOut.seq_ct, SOut.seq_err, SOut.seq_stuck, List.map_cons, List.map_nil, List.length_cons, List.length_nil, List.replicate, List.cons_append, List.nil_append, List.getElem?_cons_zero, List.getElem?_cons_succ, List.set_cons_zero, List.set_cons_succ, Nat.reduceSub, Nat.reduceAdd, Nat.reduceLT, Nat.reduceLeDiff, Int.ofNat_eq_natCast, if_true, if_false, Bool.false_eq_true, Bool.not_true, Bool.not_false, bin_add, bin_sub, z, small2, itemsOf_tup]
  refine ⟨some (tx (kn (kd c))), some (.int ((p + (tok (c :: r)).length : Nat) : Int)), some (tx (tok (c :: r))), some (.bl (bes s p)), ?_⟩
  refine (evSs_cons s0).trans (s123.trans ?_)
  rw [AP, evSs_cons s4, AP, evSs_cons s5, evSs_cons s6, AP, evSs_cons s7, show LB8 = .expr (.meth .append (.var 1) [.tup [.var 8, .tup [.var 4, .var 5]]]) from rfl, evSs_cons s8, evSs_cons (s9 _)]
  simp only [evSs]
  rw [hu3, hu2, hu1, List.append_assoc, List.append_assoc, List.append_assoc]
end
section
variable {s : List Nat} {f p c : Nat} {r : List Nat}
theorem lexF_nil (e : s.drop p = []) : lexF (f + 1) s p = ([], []) := by
  unfold lexF
  rw [e]
theorem lexF_blank (e : s.drop p = c :: r) (k : blk c = true) : lexF (f + 1) s p = lexF f s (p + 1) := by
  conv => lhs; unfold lexF
  rw [e]
  dsimp only
  rw [if_pos k]
theorem lexF_tok (e : s.drop p = c :: r) (k : blk c = false) : lexF (f + 1) s p = ((tok (c :: r), p) :: (lexF f s (p + (tok (c :: r)).length)).1, (wrL (tok (c :: r)) (bes s p)).map (fun w => (w, p)) ++ (lexF f s (p + (tok (c :: r)).length)).2) := by
  conv => lhs; unfold lexF
  rw [e]
  dsimp only
  rw [if_neg (by rw [k]; decide)]
end
abbrev lexed (s : List Nat) := lexF (s.length + 1) s 0
theorem wrL_len (t : List Nat) (b : Bool) : (wrL t b).length ≤ 3 := by
  unfold wrL
  split <;> split <;> split <;> decide
section
variable {h : IH} {s : List Nat}
theorem lex_walk (T : Txt s) : ∃ h' ρ', evS E21 100000 LW (lst_ s h.length (h.length + 1) 0 none none none none) (h ++ [.lst [], .lst []]) = .nx ρ' h' ∧ ρ'[1]? = some (some (.ref h.length)) ∧ ρ'[2]? = some (some (.ref (h.length + 1))) ∧ Rn none h h' ∧ h'[h.length]? = some (.lst ((lexed s).1.map (wtok s))) ∧ h'[h.length + 1]? = some (.lst ((lexed s).2.map (f4 s))) := by
  rw [LW, evS_whl]
  obtain ⟨o, eo, h', z⟩ := whl_run (c := tst E21 (.cmp .Lt (.var 3) (.blt .len [.var 0]))) (body := evSs E21 100000 LBB)
    (fun m ρ hp => ∃ (f p : Nat) (L : List TK) (U : List (Nat × Nat)) (x6 x7 x8 x9 : Option W), ρ = lst_ s h.length (h.length + 1) p x6 x7 x8 x9 ∧ Rn none h hp ∧ hp[h.length]? = some (.lst (L.map (wtok s))) ∧ hp[h.length + 1]? = some (.lst (U.map (f4 s))) ∧ L.length ≤ p ∧ U.length ≤ 3 * p ∧ p ≤ s.length ∧ m = s.length - p ∧ m < f ∧ lexed s = (L ++ (lexF f s p).1, U ++ (lexF f s p).2))
    (fun o => ∃ h', ∃ ρ', o = .nx ρ' h' ∧ ρ'[1]? = some (some (.ref h.length)) ∧ ρ'[2]? = some (some (.ref (h.length + 1))) ∧ Rn none h h' ∧ h'[h.length]? = some (.lst ((lexed s).1.map (wtok s))) ∧ h'[h.length + 1]? = some (.lst ((lexed s).2.map (f4 s)))) (fun m ρ hp ⟨f, p, L, U, x6, x7, x8, x9, e1, r1, e2, e3, l1, l2, l3, em, lf, ef⟩ => by
    subst e1
    have lq : decide ((p : Int) < (s.length : Int)) = decide (p < s.length) := decide_eq_decide.mpr ⟨fun z => by omega, fun z => by omega⟩
    have big := T.1
    refine ⟨decide (p < s.length), hp, by unfold lst_; simp only [runB, evSs, evS, ev, evs, evO, evIt, tst, tstO, sto, stos, unpk, asgT, asgTs, Out.bind_ok, Out.bind_err, Out.bind_stuck, Out.of_some, Out.of_none, Out.then_ok, Out.then_err, Out.then_stuck, SOut.seq_nx, SOut.seq_rt, SOut.seq_bk, SOut.seq_ct, SOut.seq_err, SOut.seq_stuck, List.map_cons, List.map_nil, List.length_cons, List.length_nil, List.replicate, List.cons_append, List.nil_append, List.getElem?_cons_zero, List.getElem?_cons_succ, List.set_cons_zero, List.set_cons_succ, Nat.reduceSub, Nat.reduceAdd, Nat.reduceLT, Nat.reduceLeDiff, Int.ofNat_eq_natCast, if_true, if_false, Bool.false_eq_true, Bool.not_true, Bool.not_false, tx_len T.big, cmp_lt, lq], fun hf => ?_, fun ht => ?_⟩
    · have hf := of_decide_eq_false hf
      obtain ⟨f', rfl⟩ : ∃ f', f = f' + 1 := ⟨f - 1, by omega⟩
      rw [lexF_nil (List.drop_of_length_le (by omega)), List.append_nil, List.append_nil] at ef
      rw [ef]
      exact ⟨hp, _, rfl, rfl, rfl, r1, e2, e3⟩
    · have lt := of_decide_eq_true ht
      obtain ⟨f', rfl⟩ : ∃ f', f = f' + 1 := ⟨f - 1, by omega⟩
      obtain ⟨c, r, e⟩ : ∃ c r, s.drop p = c :: r := ⟨_, _, List.drop_eq_getElem_cons lt⟩
      obtain ⟨_, ec⟩ := drop_lt e
      cases k : blk c with
      | true =>
        rw [lexF_blank e k] at ef
        exact .inl ⟨_, _, s.length - (p + 1), .inr (lb_blank T lt (by rw [ec]; exact k)), by omega, f', p + 1, L, U, x6, x7, x8, x9, rfl, r1, e2, e3, by omega, by omega, by omega, rfl, by omega, ef⟩
      | false =>
        rw [lexF_tok e k] at ef
        obtain ⟨mm, m1, m2, m3, m4, _⟩ := tok_at e
        obtain ⟨y6, y7, y8, y9, bb⟩ := lb_turn (x6 := x6) (x7 := x7) (x8 := x8) (x9 := x9) T e k e2 e3 (by omega) (by rw [List.length_map]; omega) (by rw [List.length_map]; omega)
        have hl := (List.getElem?_eq_some_iff.mp e2).1
        have hl2 := (List.getElem?_eq_some_iff.mp e3).1
        have wl := wrL_len (tok (c :: r)) (bes s p)
        refine .inl ⟨_, _, s.length - (p + (tok (c :: r)).length), .inl bb, by omega, f', p + (tok (c :: r)).length, L ++ [(tok (c :: r), p)], U ++ (wrL (tok (c :: r)) (bes s p)).map (fun w => (w, p)), y6, y7, y8, y9, rfl, (r1.set (Nat.le_succ _) (fun z => nomatch z)).set (Nat.le_refl _) (fun z => nomatch z), ?_, ?_, by simp; omega, by simp; omega, by omega, rfl, by omega, ?_⟩
        · rw [List.getElem?_set_self (by rw [List.length_set]; exact hl), List.map_append]
          rfl
        · rw [List.getElem?_set_ne (by omega), List.getElem?_set_self hl2, List.map_append, List.map_map]
          rfl
        · rw [ef, List.append_assoc, List.append_assoc]
          rfl)
    100000 (s.length - 0) (lst_ s h.length (h.length + 1) 0 none none none none) (h ++ [.lst [], .lst []]) (by have := T.1; omega) ⟨s.length + 1, 0, [], [], none, none, none, none, rfl, Rn.app, by rw [List.getElem?_append_right (Nat.le_refl _), Nat.sub_self]; rfl, by rw [List.getElem?_append_right (by omega), show h.length + 1 - h.length = 1 by omega]; rfl, Nat.le_refl _, Nat.zero_le _, Nat.zero_le _, rfl, by omega, rfl⟩
  obtain ⟨ρ', q, z⟩ := z
  exact ⟨h', ρ', eo.trans q, z⟩
theorem sp21 (T : Txt s) : ∃ k m h', G dcs 21 [tx s] h = .ok (.tup [.ref k, .ref m]) h' ∧ Rn none h h' ∧ h'[k]? = some (.lst ((lexed s).1.map (wtok s))) ∧ h'[m]? = some (.lst ((lexed s).2.map (f4 s))) ∧ h.length ≤ k ∧ h.length ≤ m ∧ k ≠ m := by
  obtain ⟨h', ρ', e, v1, v2, r, z1, z2⟩ := lex_walk (h := h) T
  have l0 : ([] : List W).length ≤ lineLen := Nat.zero_le _
  have l5 : 5 ≤ lineLen := by decide
  have sa : evS E21 100000 LA [some (tx s), none, none, none, none, none, none, none, none, none] h = .nx (lst_ s h.length (h.length + 1) 0 none none none none) (h ++ [.lst [], .lst []]) := by
    simp only [LA, runB, evSs, evS, ev, evs, evO, evIt, tst, tstO, sto, stos, unpk, asgT, asgTs, Out.bind_ok, Out.bind_err, Out.bind_stuck, Out.of_some, Out.of_none, Out.then_ok, Out.then_err, Out.then_stuck, SOut.seq_nx, SOut.seq_rt, SOut.seq_bk, SOut.seq_ct, SOut.seq_err, SOut.seq_stuck, List.map_cons, List.map_nil, List.length_cons, List.length_nil, List.replicate, List.cons_append, List.nil_append, List.getElem?_cons_zero, List.getElem?_cons_succ, List.set_cons_zero, List.set_cons_succ, Nat.reduceSub, Nat.reduceAdd, Nat.reduceLT, Nat.reduceLeDiff, Int.ofNat_eq_natCast, if_true, if_false, Bool.false_eq_true, Bool.not_true, Bool.not_false, l5, small0, itemsOf_tup, List.length_append, List.append_assoc]
    rfl
  have main : runB E21 100000 b__law_lex 10 [tx s] h = .ok (.tup [.ref h.length, .ref (h.length + 1)]) h' := by
    rw [lex_eq]
    refine runB_rt ?_
    show evSs _ _ _ [some (tx s), none, none, none, none, none, none, none, none, none] h = _
    rw [evSs_cons sa, evSs_cons e]
    refine evSs_ret (evS_ret ?_)
    simp only [runB, evSs, evS, ev, evs, evO, evIt, tst, tstO, sto, stos, unpk, asgT, asgTs, Out.bind_ok, Out.bind_err, Out.bind_stuck, Out.of_some, Out.of_none, Out.then_ok, Out.then_err, Out.then_stuck, SOut.seq_nx, SOut.seq_rt, SOut.seq_bk, SOut.seq_ct, SOut.seq_err, SOut.seq_stuck, List.map_cons, List.map_nil, List.length_cons, List.length_nil, List.replicate, List.cons_append, List.nil_append, List.getElem?_cons_zero, List.getElem?_cons_succ, List.set_cons_zero, List.set_cons_succ, Nat.reduceSub, Nat.reduceAdd, Nat.reduceLT, Nat.reduceLeDiff, Int.ofNat_eq_natCast, if_true, if_false, Bool.false_eq_true, Bool.not_true, Bool.not_false, v1, v2, small2]
  have nb : bndW h.length (.tup [.ref h.length, .ref (h.length + 1)]) = false := by
    rw [bndW_tup, bndWs_cons, bndW_new]
    rfl
  exact ⟨h.length, h.length + 1, h', by rw [g__law_lex rfl, main, fin_new nb], r, z1, z2, Nat.le_refl _, Nat.le_succ _, by omega⟩
end
end K11

set_option Elab.async false
set_option linter.all false
set_option autoImplicit false
set_option maxRecDepth 100000
set_option maxHeartbeats 4000000
namespace K11
open PySem PySem.Spec PyProof.Rows L2 Itp
theorem lex_len (s : List Nat) : ∀ f p, (lexF f s p).1.length ≤ s.length - p ∧ (lexF f s p).2.length ≤ 3 * (s.length - p) := by
  intro f
  induction f with
  | zero => intro p; exact ⟨Nat.zero_le _, Nat.zero_le _⟩
  | succ f ih =>
    intro p
    cases e : s.drop p with
    | nil =>
      rw [lexF_nil e]
      exact ⟨Nat.zero_le _, Nat.zero_le _⟩
    | cons c r =>
      obtain ⟨m, m1, m2, _, m4, _⟩ := tok_at e
      cases k : blk c with
      | true =>
        rw [lexF_blank e k]
        have := ih (p + 1)
        omega
      | false =>
        rw [lexF_tok e k]
        have := ih (p + (tok (c :: r)).length)
        have := wrL_len (tok (c :: r)) (bes s p)
        rw [List.length_cons, List.length_append, List.length_map]
        omega
/-! ### sorted -/
def key4 (s : List Nat) (x : Nat × Nat) : List (Int ⊕ List Nat) := [.inl ((at_ s x.2).1 : Int), .inl ((at_ s x.2).2 : Int), .inl (x.1 : Int), .inr (SX.S (rn x.1)).cps.toList]
theorem keys4 (s : List Nat) : ∀ fs : List (Nat × Nat), allSome tupA (fs.map (f4 s)) = some (fs.map (key4 s))
  | [] => rfl
  | x :: fs => by
    rw [List.map_cons, allSome_cons, keys4 s fs]
    rfl
def lt4 (s : List Nat) (x y : Nat × Nat) : Bool := ltL (key4 s x) (key4 s y)
theorem lt4_of {s : List Nat} {x y : Nat × Nat} (hx : x.2 ≤ s.length) (hy : y.2 ≤ s.length) (h : lex2 x y) : lt4 s x y = true := by
  have i : ∀ a b : Nat, itemOrd.blt (.inl (a : Int)) (.inl (b : Int)) = decide (a < b) := fun a b => decide_eq_decide.mpr ⟨fun z => by omega, fun z => by omega⟩
  unfold lt4 ltL key4
  rw [lex_true, i, i, lex_true, i, i, lex_true, i, i]
  simp only [decide_eq_true_eq, decide_eq_false_iff_not]
  rcases h with h | ⟨h, h2⟩
  · have := (at_lt hx hy).mpr h
    unfold plt at this
    omega
  · rw [h]
    omega
theorem sort4 {s : List Nat} {fs : List (Nat × Nat)} {M : Nat × Nat} (hM : M ∈ fs) (hp : ∀ y ∈ fs, y.2 ≤ s.length) (h : ∀ y ∈ fs, y = M ∨ lex2 M y) : ∃ ys, sortW (fs.map (f4 s)) = some (f4 s M :: ys) ∧ ys.length + 1 = fs.length := by
  obtain ⟨x, fs', rfl⟩ : ∃ x fs', fs = x :: fs' := by
    cases fs with
    | nil => cases hM
    | cons x fs' => exact ⟨x, fs', rfl⟩
  have O : SrtO.Swo (lt4 s) := ⟨fun x y => swo_ltL.asym _ _, fun x y z => swo_ltL.tr _ _ _⟩
  have e : sortW ((x :: fs').map (f4 s)) = some ((sortK (lt4 s) (x :: fs')).map (f4 s)) := by
    have a : intsOf ((x :: fs').map (f4 s)) = none := rfl
    have b : allSome tupA ((x :: fs').map (f4 s)) = some (key4 s x :: fs'.map (key4 s)) := keys4 s (x :: fs')
    unfold sortW
    rw [a, b]
    dsimp only
    rw [if_pos ⟨by simp [key4], fun l hl => by
      obtain ⟨y, _, rfl⟩ := List.mem_map.mp hl
      rfl⟩]
    congr 1
    have z := zip_maps (key4 s) (f4 s) (x :: fs')
    rw [List.map_cons (f := key4 s)] at z
    rw [z]
    have q := sortK_map (fun (a b : List (Int ⊕ List Nat) × W) => ltL a.1 b.1) (fun y : Nat × Nat => (key4 s y, f4 s y)) (x :: fs')
    rw [← q, List.map_map]
    rfl
  have pm := sortK_perm (lt4 s) (x :: fs')
  have so := sortK_sorted O (x :: fs')
  rw [e]
  generalize sortK (lt4 s) (x :: fs') = zs at pm so
  cases zs with
  | nil =>
    have := pm.length_eq
    simp at this
  | cons z zs =>
    have hz : z ∈ x :: fs' := pm.mem_iff.mp List.mem_cons_self
    have ez : z = M := by
      rcases h z hz with q | q
      · exact q
      · exfalso
        have t := lt4_of (hp M hM) (hp z hz) q
        rcases List.mem_cons.mp (pm.mem_iff.mpr hM) with w | w
        · rw [w] at q
          unfold lex2 at q
          omega
        · have := (List.pairwise_cons.mp so).1 M w
          rw [t] at this
          cases this
    subst ez
    exact ⟨zs.map (f4 s), rfl, by
      have := pm.length_eq
      simp only [List.length_cons] at this
      simp only [List.length_map, List.length_cons]
      omega⟩
/-! ### whether anything is wrong -/
def d4 (s : List Nat) (x : Nat × Nat) : PyData := .tuple [.int ((at_ s x.2).1 : Int), .int ((at_ s x.2).2 : Int), .int (x.1 : Int), .str (SX.S (rn x.1))]
theorem rn_lt (r : Nat) : ∀ c ∈ rn r, c < 1114112 := by
  unfold rn
  split
  · decide
  · exact kn_lt _
theorem some4 {s : List Nat} {h : IH} (n : Nat) : ∀ fs : List (Nat × Nat), allSome (dat h (n + 2)) (fs.map (f4 s)) = some (fs.map (d4 s))
  | [] => rfl
  | x :: fs => by
    rw [List.map_cons, allSome_cons, some4 n fs]
    rfl
theorem shaped4 (s : List Nat) (fs : List (Nat × Nat)) : SeqAt.shaped (.list (fs.map (d4 s))) = true := by
  have a : PyData.canLayAll0 (fs.map (d4 s)) = true ∧ PyData.depthAll (fs.map (d4 s)) ≤ 1 := by
    induction fs with
    | nil => exact ⟨rfl, Nat.zero_le _⟩
    | cons x xs ih =>
      refine ⟨?_, ?_⟩
      · show ((true && (true && (true && (PyData.strOk (SX.S (rn x.1)) && true)))) && PyData.canLayAll0 (xs.map (d4 s))) = true
        rw [sh_str (rn_lt _), ih.1]
        rfl
      · show max (max 0 (max 0 (max 0 (max 0 0))) + 1) (PyData.depthAll (xs.map (d4 s))) ≤ 1
        have := ih.2
        omega
  show (PyData.canLayAll0 (fs.map (d4 s)) && decide (PyData.depthAll (fs.map (d4 s)) + 1 ≤ 64)) = true
  rw [a.1, decide_eq_true (by have := a.2; omega)]
  rfl
theorem eq4 {s : List Nat} {h : IH} {k m : Nat} {fs : List (Nat × Nat)} (e1 : h[k]? = some (.lst (fs.map (f4 s)))) (e2 : h[m]? = some (.lst [])) : eqF (.ref k) (.ref m) h = some fs.isEmpty := by
  have d1 : dat h depthMax (.ref k) = some (.list (fs.map (d4 s))) := by
    show dat h (57 + 2 + 1) (.ref k) = _
    rw [dat_ref e1, some4 57 fs]
    rfl
  have d2 : dat h depthMax (.ref m) = some (.list []) := by
    show dat h (58 + 1 + 1) (.ref m) = _
    rw [dat_ref e2]
    rfl
  show (match dat h depthMax (.ref k), dat h depthMax (.ref m) with
    | some d, some e => if SeqAt.shaped d = true ∧ SeqAt.shaped e = true then some (PyData.eqv d e) else none
    | _, _ => none) = _
  rw [d1, d2]
  dsimp only
  rw [if_pos ⟨shaped4 s fs, by decide +kernel⟩]
  cases fs <;> rfl
def Q0 : IStm := .asg (.tup [.name 1, .name 2]) (.call 21 [.var 0])
def Q1e : IE := .bin .Add (.call 22 [.var 0, .cst (.int 4000)]) (.tup [.cst (.int 3), .cst (tx (rn 3))])
def Q1 : IStm := .ite (.cmp .Gt (.blt .len [.var 0]) (.cst (.int 4000))) [.expr (.meth .append (.var 2) [Q1e])] []
def Q2 : IStm := .ite (.cmp .Eq (.var 2) (.lst [])) [.ret (.tup [.var 1, .cst .non])] []
def Q3 : IStm := .asg (.name 3) (.sub (.blt .sorted [.var 2]) (.cst (.int 0)))
def Q4p : IE := .slc (.var 3) none (some (.cst (.int 2)))
def Q4c : IE := .comp (.var 4) (.name 4) (.val (.var 1)) (some (.cmp .Lt (.sub (.var 4) (.cst (.int 1))) Q4p)) [4]
def Q4 : IStm := .ret (.tup [Q4c, .bin .Add (.tup [.sub (.var 3) (.cst (.int 3))]) Q4p])
theorem lexed_eq : b__law_lexed = [Q0, Q1, Q2, Q3, Q4] := rfl
noncomputable abbrev E23 : FEnv := envTo dcs 23
section
variable {h : IH} {s : List Nat}
theorem sp23 (T : Txt s) : ∃ k h', G dcs 23 [tx s] h = .ok (.tup [.ref k, fsW s (looked s).2]) h' ∧ Rn none h h' ∧ h'[k]? = some (.lst ((looked s).1.map (wtok s))) ∧ h.length ≤ k := by
  obtain ⟨k, m, h1, e1, r1, f1, f2, l1, l2, ne⟩ := sp21 (h := h) T
  have ll : (lexed s).1.length ≤ s.length - 0 ∧ (lexed s).2.length ≤ 3 * (s.length - 0) := lex_len s (s.length + 1) 0
  have big := T.1
  have s0 : evS E23 100000 Q0 [some (tx s), none, none, none, none] h = .nx [some (tx s), some (.ref k), some (.ref m), none, none] h1 := by
    simp only [Q0, runB, evSs, evS, ev, evs, evO, evIt, tst, tstO, sto, stos, unpk, asgT, asgTs, Out.bind_ok, Out.bind_err, Out.bind_stuck, Out.of_some, Out.of_none, Out.then_ok, Out.then_err, Out.then_stuck, SOut.seq_nx, SOut.seq_rt, SOut.seq_bk, SOut.seq_ct, SOut.seq_err, SOut.seq_stuck, List.map_cons, List.map_nil, List.length_cons, List.length_nil, List.replicate, List.cons_append, List.nil_append, List.getElem?_cons_zero, List.getElem?_cons_succ, List.set_cons_zero, List.set_cons_succ, Nat.reduceSub, Nat.reduceAdd, Nat.reduceLT, Nat.reduceLeDiff, Int.ofNat_eq_natCast, if_true, if_false, Bool.false_eq_true, Bool.not_true, Bool.not_false, env_lt (show 21 < 23 by decide), e1, itemsOf_tup]
  have tc : tst E23 (.cmp .Gt (.blt .len [.var 0]) (.cst (.int 4000))) [some (tx s), some (.ref k), some (.ref m), none, none] h1 = .ok (decide (4000 < s.length)) h1 := by
    have : decide ((4000 : Int) < (s.length : Int)) = decide (4000 < s.length) := decide_eq_decide.mpr ⟨fun z => by omega, fun z => by omega⟩
    simp only [runB, evSs, evS, ev, evs, evO, evIt, tst, tstO, sto, stos, unpk, asgT, asgTs, Out.bind_ok, Out.bind_err, Out.bind_stuck, Out.of_some, Out.of_none, Out.then_ok, Out.then_err, Out.then_stuck, SOut.seq_nx, SOut.seq_rt, SOut.seq_bk, SOut.seq_ct, SOut.seq_err, SOut.seq_stuck, List.map_cons, List.map_nil, List.length_cons, List.length_nil, List.replicate, List.cons_append, List.nil_append, List.getElem?_cons_zero, List.getElem?_cons_succ, List.set_cons_zero, List.set_cons_succ, Nat.reduceSub, Nat.reduceAdd, Nat.reduceLT, Nat.reduceLeDiff, Int.ofNat_eq_natCast, if_true, if_false, Bool.false_eq_true, Bool.not_true, Bool.not_false, tx_len T.big, cmp_gt, this]
  have s1 : ∃ h2, evS E23 100000 Q1 [some (tx s), some (.ref k), some (.ref m), none, none] h1 = .nx [some (tx s), some (.ref k), some (.ref m), none, none] h2 ∧ Rn none h h2 ∧ h2[k]? = some (.lst ((lexed s).1.map (wtok s))) ∧ h2[m]? = some (.lst ((faults s).map (f4 s))) := by
    by_cases hl : 4000 < s.length
    · have ex : ev E23 Q1e [some (tx s), some (.ref k), some (.ref m), none, none] h1 = .ok (f4 s (3, 4000)) h1 := by
        have z : G dcs 22 [tx s, .int 4000] h1 = .ok (plW (at_ s 4000)) h1 := sp22 (p := 4000) T.big (by omega)
        have a : binF .Add (plW (at_ s 4000)) (.tup [.int 3, tx (rn 3)]) h1 = some (f4 s (3, 4000), h1) := rfl
        simp only [Q1e, runB, evSs, evS, ev, evs, evO, evIt, tst, tstO, sto, stos, unpk, asgT, asgTs, Out.bind_ok, Out.bind_err, Out.bind_stuck, Out.of_some, Out.of_none, Out.then_ok, Out.then_err, Out.then_stuck, SOut.seq_nx, SOut.seq_rt, SOut.seq_bk, SOut.seq_ct, SOut.seq_err, SOut.seq_stuck, List.map_cons, List.map_nil, List.length_cons, List.length_nil, List.replicate, List.cons_append, List.nil_append, List.getElem?_cons_zero, List.getElem?_cons_succ, List.set_cons_zero, List.set_cons_succ, Nat.reduceSub, Nat.reduceAdd, Nat.reduceLT, Nat.reduceLeDiff, Int.ofNat_eq_natCast, if_true, if_false, Bool.false_eq_true, Bool.not_true, Bool.not_false, env_lt (show 22 < 23 by decide), z, small2, a]
      have q := evS_if_app (F := E23) (gas := 100000) (v := 2) (D := m) tc rfl f2 ex (Nat.lt_of_le_of_lt (show ((lexed s).2.map (f4 s)).length ≤ 300000 by rw [List.length_map]; omega) (by decide))
      refine ⟨_, q, r1.set l2 (fun z => nomatch z), ?_, ?_⟩
      · rw [List.getElem?_set_ne (fun z => ne z.symm)]
        exact f1
      · rw [List.getElem?_set_self (List.getElem?_eq_some_iff.mp f2).1, decide_eq_true hl, if_pos rfl]
        unfold faults
        rw [if_pos hl, List.map_append]
        rfl
    · rw [decide_eq_false hl] at tc
      refine ⟨h1, evS_pass tc, r1, f1, ?_⟩
      unfold faults
      rw [if_neg hl, List.append_nil]
      exact f2
  obtain ⟨h2, s1, r2, g1, g2⟩ := s1
  have l0 : ([] : List W).length ≤ lineLen := Nat.zero_le _
  obtain ⟨h3, eh3⟩ : ∃ h3, h3 = h2 ++ [IO.lst []] := ⟨_, rfl⟩
  have a1 : h3[k]? = some (.lst ((lexed s).1.map (wtok s))) := by rw [eh3, List.getElem?_append_left (List.getElem?_eq_some_iff.mp g1).1]; exact g1
  have a2 : h3[m]? = some (.lst ((faults s).map (f4 s))) := by rw [eh3, List.getElem?_append_left (List.getElem?_eq_some_iff.mp g2).1]; exact g2
  have a3 : h3[h2.length]? = some (.lst []) := by rw [eh3]; exact get_last
  have r3 : Rn none h h3 := by rw [eh3]; exact r2.trans Rn.app
  have t2 : tst E23 (.cmp .Eq (.var 2) (.lst [])) [some (tx s), some (.ref k), some (.ref m), none, none] h2 = .ok (faults s).isEmpty h3 := by
    have q := eq4 a2 a3
    simp only [runB, evSs, evS, ev, evs, evO, evIt, tst, tstO, sto, stos, unpk, asgT, asgTs, Out.bind_ok, Out.bind_err, Out.bind_stuck, Out.of_some, Out.of_none, Out.then_ok, Out.then_err, Out.then_stuck, SOut.seq_nx, SOut.seq_rt, SOut.seq_bk, SOut.seq_ct, SOut.seq_err, SOut.seq_stuck, List.map_cons, List.map_nil, List.length_cons, List.length_nil, List.replicate, List.cons_append, List.nil_append, List.getElem?_cons_zero, List.getElem?_cons_succ, List.set_cons_zero, List.set_cons_succ, Nat.reduceSub, Nat.reduceAdd, Nat.reduceLT, Nat.reduceLeDiff, Int.ofNat_eq_natCast, if_true, if_false, Bool.false_eq_true, Bool.not_true, Bool.not_false, small0, ← eh3, cmp_eq, q]
  have fp : ∀ y ∈ faults s, y.2 ≤ s.length := fun y hy => by
    unfold faults at hy
    rcases List.mem_append.mp hy with z | z
    · have := (lex_ge (s.length + 1) s 0).2 y z
      omega
    · split at z
      · rw [List.mem_singleton.mp z]
        show 4000 ≤ s.length
        omega
      · cases z
  have fo := first_of s
  have main : ∃ k' h', runB E23 100000 b__law_lexed 5 [tx s] h = .ok (.tup [.ref k', fsW s (looked s).2]) h' ∧ Rn none h h' ∧ h'[k']? = some (.lst ((looked s).1.map (wtok s))) ∧ h.length ≤ k' := by
    rw [lexed_eq]
    cases ef : faults s with
    | nil =>
      rw [ef] at fo t2
      dsimp only at fo
      rw [fo]
      refine ⟨k, h3, ?_, r3, a1, l1⟩
      refine runB_rt ?_
      refine (evSs_cons s0).trans ((evSs_cons s1).trans (evSs_ret ?_))
      rw [Q2, evS_ite t2]
      rw [if_pos (by rfl)]
      refine evSs_ret (evS_ret ?_)
      simp only [runB, evSs, evS, ev, evs, evO, evIt, tst, tstO, sto, stos, unpk, asgT, asgTs, Out.bind_ok, Out.bind_err, Out.bind_stuck, Out.of_some, Out.of_none, Out.then_ok, Out.then_err, Out.then_stuck, SOut.seq_nx, SOut.seq_rt, SOut.seq_bk, SOut.seq_ct, SOut.seq_err, SOut.seq_stuck, List.map_cons, List.map_nil, List.length_cons, List.length_nil, List.replicate, List.cons_append, List.nil_append, List.getElem?_cons_zero, List.getElem?_cons_succ, List.set_cons_zero, List.set_cons_succ, Nat.reduceSub, Nat.reduceAdd, Nat.reduceLT, Nat.reduceLeDiff, Int.ofNat_eq_natCast, if_true, if_false, Bool.false_eq_true, Bool.not_true, Bool.not_false, small2]
      rfl
    | cons x fs =>
      rw [ef] at fo t2
      dsimp only at fo
      obtain ⟨M, hM, hmin, hl⟩ := fo
      rw [← ef] at hM hmin
      obtain ⟨ys, ey, ly⟩ := sort4 hM fp hmin
      have fl : (faults s).length ≤ 300001 := by
        have ll2 := (lex_len s (s.length + 1) 0).2
        unfold faults
        rw [List.length_append]
        split <;> simp <;> omega
      have bs : bfF .sorted [.ref m] h3 = some (.ref h3.length, h3 ++ [.lst (f4 s M :: ys)]) := by
        show (match itemsOf h3 (.ref m) with
          | some xs => match sortW xs with
            | some ys => if ys.length ≤ lineLen then some (W.ref h3.length, h3 ++ [IO.lst ys]) else none
            | none => none
          | none => none) = _
        rw [items_ref a2]
        dsimp only
        rw [ey]
        dsimp only
        rw [if_pos (Nat.le_trans (show (f4 s M :: ys).length ≤ 300001 by rw [List.length_cons]; omega) (by decide))]
      obtain ⟨h4, eh4⟩ : ∃ h4, h4 = h3 ++ [IO.lst (f4 s M :: ys)] := ⟨_, rfl⟩
      rw [← eh4] at bs
      have b1 : h4[k]? = some (.lst ((lexed s).1.map (wtok s))) := by rw [eh4, List.getElem?_append_left (List.getElem?_eq_some_iff.mp a1).1]; exact a1
      have r4 : Rn none h h4 := by rw [eh4]; exact r3.trans Rn.app
      have s3 : evS E23 100000 Q3 [some (tx s), some (.ref k), some (.ref m), none, none] h3 = .nx [some (tx s), some (.ref k), some (.ref m), some (f4 s M), none] h4 := by
        have q := get0 (h := h4) (m := h3.length) (w := f4 s M) (ws := ys) (by rw [eh4]; exact get_last)
        exact evS_asg (ev_sub (ev_blt1 (ev_var rfl) bs) q)
      have pM : M.2 ≤ s.length := fp M hM
      have ck := ev_ahead (F := E23) (ρ := [some (tx s), some (.ref k), some (.ref m), some (f4 s M), none]) (h := h4) (s := s) (k := k) (q := M.2) (L := (lexed s).1) (PL := Q4p) rfl b1 (fun t ht => Nat.le_of_lt ((lex_ge (s.length + 1) s 0).1 t ht).2) pM (by omega) (by simp) (fun x h' => by
        have q : slcF (f4 s M) none (some 2) h' = some (plW (at_ s M.2), h') := rfl
        simp only [Q4p, ev, evO, wipeI, List.set_cons_succ, List.set_cons_zero, List.getElem?_cons_zero, List.getElem?_cons_succ, Out.bind_ok, q, Out.of_some])
      obtain ⟨h5, eh5⟩ : ∃ h5, h5 = h4 ++ [IO.lst (((lexed s).1.filter fun t => decide (t.2 < M.2)).map (wtok s))] := ⟨_, rfl⟩
      rw [← eh5] at ck
      have ck' : ev E23 Q4c [some (tx s), some (.ref k), some (.ref m), some (f4 s M), none] h4 = _ := ck
      rw [hl]
      refine ⟨h4.length, h5, ?_, by rw [eh5]; exact r4.trans Rn.app, by rw [eh5]; exact get_last, r4.le⟩
      refine runB_rt ?_
      refine (evSs_cons s0).trans ((evSs_cons s1).trans ?_)
      rw [Q2, evSs_cons (evS_pass t2), evSs_cons s3]
      refine evSs_ret (evS_ret ?_)
      have g3 : subF (f4 s M) (.int 3) h5 = some (tx (rn M.1), h5) := rfl
      have q : slcF (f4 s M) none (some 2) h5 = some (plW (at_ s M.2), h5) := rfl
      have a : binF .Add (.tup [tx (rn M.1)]) (plW (at_ s M.2)) h5 = some (faultW s M, h5) := rfl
      simp only [Q4p, ev, evs, evO, ck', Out.bind_ok, List.length_cons, List.length_nil, Nat.reduceAdd, small1, small2, if_true, List.getElem?_cons_zero, List.getElem?_cons_succ, g3, q, a, Out.of_some]
      rfl
  obtain ⟨k', h', e, r, q, l⟩ := main
  have nb : bndW h.length (.tup [.ref k', fsW s (looked s).2]) = false := by
    rw [bndW_tup, bndWs_cons, bnd_new l]
    rfl
  exact ⟨k', h', by rw [g__law_lexed rfl, e, fin_new nb], r, q, l⟩
end
end K11

set_option Elab.async false
set_option linter.all false
set_option autoImplicit false
set_option maxRecDepth 100000
set_option maxHeartbeats 4000000
namespace K11
open PySem PySem.Spec PyProof.Rows L2 Itp
def nbl (s : List Nat) : Nat := (s.filter fun c => !blk c).length
def tot (L : List TK) : Nat := (L.map fun t => t.1.length).sum
theorem tot_cons (t : TK) (L : List TK) : tot (t :: L) = t.1.length + tot L := by
  unfold tot
  rw [List.map_cons, List.sum_cons]
theorem nbl_app (a b : List Nat) : nbl (a ++ b) = nbl a + nbl b := by
  unfold nbl
  rw [List.filter_append, List.length_append]
theorem nbl_le (a : List Nat) : nbl a ≤ a.length := List.length_filter_le ..
theorem tok_nbl {s : List Nat} {p c : Nat} {r : List Nat} (e : s.drop p = c :: r) (k : blk c = false) : nbl (s.drop p) = (tok (c :: r)).length + nbl (s.drop (p + (tok (c :: r)).length)) := by
  obtain ⟨m, m1, m2, m3, m4, m5, m6, m7⟩ := tok_at e
  have e1 : s.drop p = tok (c :: r) ++ s.drop (p + m) := by
    rw [m3, ← List.drop_drop, List.take_append_drop]
  rw [m4]
  conv => lhs; rw [e1, nbl_app]
  congr 1
  unfold nbl
  rw [List.filter_eq_self.mpr, m4]
  intro x hx
  rw [m3] at hx
  obtain ⟨i, hi, ex⟩ := List.getElem_of_mem hx
  rw [List.length_take, List.length_drop] at hi
  rw [List.getElem_take, List.getElem_drop] at ex
  have q := m5 i (by omega)
  rw [List.getD_eq_getElem?_getD, List.getElem?_eq_getElem (by omega), Option.getD_some, ex] at q
  cases z : blk x with
  | false => rfl
  | true =>
    exfalso
    have k2 := kd_blk z
    rw [q] at k2
    have i0 : i = 0 := by have := m6 k2; omega
    subst i0
    have ec := (drop_lt e).2
    rw [List.getD_eq_getElem?_getD, List.getElem?_eq_getElem (by omega), Option.getD_some] at ec
    have : x = c := by rw [← ex, ← ec]; rfl
    rw [this, k] at z
    cases z
theorem scan_tot (s : List Nat) : ∀ f p b, tot (scanF f s p b).1 ≤ nbl (s.drop p) ∧ ∀ t ∈ (scanF f s p b).1, 1 ≤ t.1.length ∧ ∀ x ∈ t.1, x ∈ s := by
  intro f
  induction f with
  | zero => intro p b; exact ⟨Nat.zero_le _, fun t h => by simp [scanF] at h⟩
  | succ f ih =>
    intro p b
    cases e : s.drop p with
    | nil =>
      rw [scan_nil e]
      exact ⟨Nat.zero_le _, fun t h => by simp at h⟩
    | cons c r =>
      cases k : blk c with
      | true =>
        rw [scan_blank e k]
        have e2 : s.drop (p + 1) = r := by rw [← List.drop_drop, e]; rfl
        obtain ⟨h1, h2⟩ := ih (p + 1) false
        rw [e2] at h1
        refine ⟨Nat.le_trans h1 ?_, h2⟩
        show nbl r ≤ nbl ([c] ++ r)
        rw [nbl_app]
        omega
      | false =>
        cases q : wrP (tok (c :: r)) b with
        | some w =>
          rw [scan_bad e k q]
          exact ⟨Nat.zero_le _, fun t h => by simp at h⟩
        | none =>
          rw [scan_good e k q]
          obtain ⟨h1, h2⟩ := ih (p + (tok (c :: r)).length) (!isS (tok (c :: r)))
          have z := tok_nbl e k
          rw [e] at z
          refine ⟨?_, fun t h => ?_⟩
          · rw [tot_cons]
            dsimp only
            omega
          · rcases List.mem_cons.mp h with h | h
            · rw [h]
              exact ⟨tok_pos c r, tok_mem e⟩
            · exact h2 t h
theorem tot_filter (L : List TK) (p : TK → Bool) : tot (L.filter p) ≤ tot L := by
  induction L with
  | nil => exact Nat.le_refl _
  | cons t L ih =>
    rw [tot_cons]
    cases q : p t with
    | true =>
      rw [List.filter_cons_of_pos q, tot_cons]
      omega
    | false =>
      rw [List.filter_cons_of_neg (by rw [q]; decide)]
      omega
theorem looked_tot (s : List Nat) : tot (looked s).1 ≤ nbl s ∧ ∀ t ∈ (looked s).1, 1 ≤ t.1.length ∧ ∀ x ∈ t.1, x ∈ s := by
  obtain ⟨h1, h2⟩ := scan_tot s (s.length + 1) 0 false
  rw [List.drop_zero] at h1
  unfold looked
  split
  · exact ⟨Nat.le_trans (tot_filter _ _) h1, fun t h => h2 t (List.mem_filter.mp h).1⟩
  · exact ⟨h1, h2⟩
/-! ### data -/
def dtok (s : List Nat) (t : TK) : PyData := .tuple [.str (SX.S t.1), .tuple [.int ((at_ s t.2).1 : Int), .int ((at_ s t.2).2 : Int)]]
def dfs (s : List Nat) : FS → PyData
  | none => .none
  | some x => .tuple [.str (SX.S (rn x.1)), .int ((at_ s x.2).1 : Int), .int ((at_ s x.2).2 : Int)]
structure Nice (k w : Nat) (d : PyData) : Prop where
  sh : d.showable = true
  nd : d.hasDict = false
  dp : d.depth ≤ k
  lf : d.leavesShort 13 = true
  wt : d.weight ≤ w
structure NiceA (k w : Nat) (ds : List PyData) : Prop where
  sh : PyData.showableAll ds = true
  nd : PyData.hasDictAll ds = false
  dp : PyData.depthAll ds ≤ k
  lf : PyData.leavesShortAll 13 ds = true
  wt : PyData.weightAll ds ≤ w
theorem NiceA.nil {k w : Nat} : NiceA k w [] := ⟨by simp only [PyData.showableAll], by simp only [PyData.hasDictAll], by simp only [PyData.depthAll]; omega, by simp only [PyData.leavesShortAll], by simp only [PyData.weightAll]; omega⟩
theorem NiceA.cons {k w v : Nat} {d : PyData} {ds : List PyData} (a : Nice k w d) (b : NiceA k v ds) : NiceA k (w + 1 + v) (d :: ds) := by
  refine ⟨?_, ?_, ?_, ?_, ?_⟩
  · simp only [PyData.showableAll, a.sh, b.sh, Bool.and_self]
  · simp only [PyData.hasDictAll, a.nd, b.nd, Bool.or_self]
  · simp only [PyData.depthAll]
    have := a.dp
    have := b.dp
    omega
  · simp only [PyData.leavesShortAll, a.lf, b.lf, Bool.and_self]
  · simp only [PyData.weightAll]
    have := a.wt
    have := b.wt
    omega
theorem NiceA.lst {k w : Nat} {ds : List PyData} (b : NiceA k w ds) : Nice (k + 1) w (.list ds) := by
  refine ⟨?_, ?_, ?_, ?_, ?_⟩
  · simp only [PyData.showable, b.sh]
  · simp only [PyData.hasDict, b.nd]
  · simp only [PyData.depth]
    have := b.dp
    omega
  · simp only [PyData.leavesShort, b.lf]
  · simp only [PyData.weight]
    exact b.wt
theorem NiceA.tup {k w : Nat} {ds : List PyData} (b : NiceA k w ds) : Nice (k + 1) w (.tuple ds) := by
  refine ⟨?_, ?_, ?_, ?_, ?_⟩
  · simp only [PyData.showable, b.sh]
  · simp only [PyData.hasDict, b.nd]
  · simp only [PyData.depth]
    have := b.dp
    omega
  · simp only [PyData.leavesShort, b.lf]
  · simp only [PyData.weight]
    exact b.wt
theorem Nice.mono {k l w v : Nat} {d : PyData} (a : Nice k w d) (h : k ≤ l) (q : w ≤ v) : Nice l v d := ⟨a.sh, a.nd, Nat.le_trans a.dp h, a.lf, Nat.le_trans a.wt q⟩
theorem nice_int {i : Nat} (h : i < 65536) : Nice 0 16 (.int (i : Int)) := by
  have l : i.log2 ≤ 15 := by
    by_cases z : i = 0
    · rw [z]
      decide
    · have := (Nat.log2_lt z).mpr (show i < 2 ^ 16 by omega)
      omega
  refine ⟨?_, ?_, ?_, ?_, ?_⟩
  · simp only [PyData.showable, Int.natAbs_natCast, decide_eq_true_eq]
    omega
  · simp only [PyData.hasDict]
  · simp only [PyData.depth]
    omega
  · simp only [PyData.leavesShort]
    exact decide_eq_true (PyData.shown_int_le (by rw [Int.natAbs_natCast]; omega))
  · simp only [PyData.weight, Int.natAbs_natCast]
    split <;> omega
theorem nice_str {t : List Nat} (h : ∀ c ∈ t, c < 1114112) : Nice 0 t.length (.str (SX.S t)) := by
  refine ⟨?_, ?_, ?_, ?_, ?_⟩
  · simp only [PyData.showable]
  · simp only [PyData.hasDict]
  · simp only [PyData.depth]
    omega
  · simp only [PyData.leavesShort, List.all_eq_true]
    intro c hc
    have := h c (by simpa [SX.S] using hc)
    exact decide_eq_true (Nat.lt_of_lt_of_le this (by decide))
  · simp only [PyData.weight]
    exact Nat.le_of_eq (by simp [SX.S])
theorem nice_none : Nice 0 0 .none := ⟨by simp only [PyData.showable], by simp only [PyData.hasDict], by simp only [PyData.depth]; omega, by simp only [PyData.leavesShort], by simp only [PyData.weight]; omega⟩
/-- texts that the law draws -/
structure TT (s : List Nat) : Prop where
  len : s.length ≤ 4300
  chr : ∀ c ∈ s, c < 128
  nb : nbl s ≤ 140
theorem TT.txt {s : List Nat} (T : TT s) : Txt s := ⟨by have := T.len; omega, fun c hc => by have := T.chr c hc; omega⟩
theorem at_small {s : List Nat} (T : TT s) (p : Nat) : (at_ s p).1 < 65536 ∧ (at_ s p).2 < 65536 := by
  have := pl_one (s.take p)
  have := T.len
  have : (s.take p).length ≤ s.length := by rw [List.length_take]; omega
  unfold at_
  omega
theorem nice_tok {s : List Nat} (T : TT s) {t : TK} (h : ∀ x ∈ t.1, x ∈ s) : Nice 2 (t.1.length + 36) (dtok s t) := by
  have a := at_small T t.2
  have z := NiceA.tup (NiceA.cons ((nice_str (t := t.1) fun c hc => by have := T.chr c (h c hc); omega).mono (Nat.zero_le 1) (Nat.le_refl _)) (NiceA.cons (NiceA.tup (NiceA.cons (nice_int a.1) (NiceA.cons (nice_int a.2) (NiceA.nil (w := 0))))) (NiceA.nil (w := 0))))
  exact z.mono (Nat.le_refl _) (by omega)
theorem nice_toks {s : List Nat} (T : TT s) : ∀ L : List TK, (∀ t ∈ L, 1 ≤ t.1.length ∧ ∀ x ∈ t.1, x ∈ s) → NiceA 2 (38 * tot L) (L.map (dtok s))
  | [], _ => NiceA.nil
  | t :: L, h => by
    have z := NiceA.cons (nice_tok T (h t List.mem_cons_self).2) (nice_toks T L fun u hu => h u (List.mem_cons_of_mem _ hu))
    have := (h t List.mem_cons_self).1
    rw [tot_cons]
    exact ⟨z.sh, z.nd, z.dp, z.lf, Nat.le_trans z.wt (by omega)⟩
theorem nice_T {s : List Nat} (T : TT s) : Nice 3 5320 (.list ((looked s).1.map (dtok s))) := by
  obtain ⟨h1, h2⟩ := looked_tot s
  have := T.nb
  exact (NiceA.lst (nice_toks T _ h2)).mono (Nat.le_refl _) (by omega)
theorem nice_F {s : List Nat} (T : TT s) (e : FS) : Nice 1 60 (dfs s e) := by
  cases e with
  | none => exact nice_none.mono (by omega) (by omega)
  | some x =>
    have a := at_small T x.2
    have l : (rn x.1).length ≤ 7 := by
      unfold rn kn
      split
      · decide
      · split
        · decide
        · split <;> decide
    have z := NiceA.tup (NiceA.cons (nice_str (rn_lt x.1)) (NiceA.cons (nice_int a.1) (NiceA.cons (nice_int a.2) (NiceA.nil (w := 0)))))
    exact z.mono (Nat.le_refl _) (by omega)
section
variable {s : List Nat} {h : IH} {k : Nat}
theorem some_toks (n : Nat) : ∀ L : List TK, allSome (dat h (n + 3)) (L.map (wtok s)) = some (L.map (dtok s))
  | [] => rfl
  | t :: L => by
    rw [List.map_cons, allSome_cons, some_toks n L]
    rfl
theorem dat_T {L : List TK} (n : Nat) (e : h[k]? = some (.lst (L.map (wtok s)))) : dat h (n + 4) (.ref k) = some (.list (L.map (dtok s))) := by
  rw [show n + 4 = (n + 3) + 1 from rfl, dat_ref e, some_toks n L]
  rfl
theorem dat_fs (n : Nat) (e : FS) : dat h (n + 2) (fsW s e) = some (dfs s e) := by
  cases e <;> rfl
theorem rep_of {w : W} {d : PyData} (e : dat h depthMax w = some d) (N : Nice 50 60000 d) : bfF .repr [w] h = some (.str d.shown, h) := by
  show (match dat h depthMax w with
    | some d => if d.showable = true ∧ d.hasDict = false ∧ d.depth ≤ depthMax ∧ d.shown.length ≤ lineLen then some (W.str d.shown, h) else none
    | none => none) = _
  rw [e]
  dsimp only
  have l := PyData.shown_le 13 (by decide) d N.lf
  have w := N.wt
  have dm : depthMax = 60 := rfl
  have ll : lineLen = 1000000 := rfl
  rw [if_pos ⟨N.sh, N.nd, by have := N.dp; omega, by omega⟩]
/-- repr of what is told -/
theorem rep4 {a b : Nat} {L M : List TK} {e f : FS} (hk : h[k]? = some (.lst [.ref a, .ref b, fsW s e, fsW s f])) (ha : h[a]? = some (.lst (L.map (wtok s)))) (hb : h[b]? = some (.lst (M.map (wtok s)))) (T : TT s) (hL : L = (looked s).1) (hM : M = (looked s).1) :
    bfF .repr [.ref k] h = some (.str (PyData.shown (.list [.list (L.map (dtok s)), .list (M.map (dtok s)), dfs s e, dfs s f])), h) := by
  refine rep_of ?_ ?_
  · show dat h (59 + 1) (.ref k) = _
    rw [dat_ref hk, allSome_cons, allSome_cons, allSome_cons, allSome_cons, dat_T 55 ha, dat_T 55 hb, dat_fs 57 e, dat_fs 57 f]
    rfl
  · rw [hL, hM]
    have F := fun e => (nice_F T e).mono (show 1 ≤ 3 by decide) (Nat.le_refl _)
    exact (NiceA.lst (NiceA.cons (nice_T T) (NiceA.cons (nice_T T) (NiceA.cons (F e) (NiceA.cons (F f) (NiceA.nil (w := 0))))))).mono (by decide) (by decide)
theorem rep2 {a : Nat} {L : List TK} {e : FS} (hk : h[k]? = some (.lst [.ref a, fsW s e])) (ha : h[a]? = some (.lst (L.map (wtok s)))) (T : TT s) (hL : L = (looked s).1) :
    bfF .repr [.ref k] h = some (.str (PyData.shown (.list [.list (L.map (dtok s)), dfs s e])), h) := by
  refine rep_of ?_ ?_
  · show dat h (59 + 1) (.ref k) = _
    rw [dat_ref hk, allSome_cons, allSome_cons, dat_T 55 ha, dat_fs 57 e]
    rfl
  · rw [hL]
    have F := fun e => (nice_F T e).mono (show 1 ≤ 3 by decide) (Nat.le_refl _)
    exact (NiceA.lst (NiceA.cons (nice_T T) (NiceA.cons (F e) (NiceA.nil (w := 0))))).mono (by decide) (by decide)
theorem repF {e f : FS} (hk : h[k]? = some (.lst [fsW s e, fsW s f])) (T : TT s) : bfF .repr [.ref k] h = some (.str (PyData.shown (.list [dfs s e, dfs s f])), h) := by
  refine rep_of ?_ ?_
  · show dat h (59 + 1) (.ref k) = _
    rw [dat_ref hk, allSome_cons, allSome_cons, dat_fs 57 e, dat_fs 57 f]
    rfl
  · exact (NiceA.lst (NiceA.cons (nice_F T e) (NiceA.cons (nice_F T f) (NiceA.nil (w := 0))))).mono (by decide) (by decide)
theorem repT {L : List TK} (ha : h[k]? = some (.lst (L.map (wtok s)))) (T : TT s) (hL : L = (looked s).1) : bfF .repr [.ref k] h = some (.str (PyData.shown (.list (L.map (dtok s)))), h) := by
  refine rep_of (dat_T 56 ha) ?_
  rw [hL]
  exact (nice_T T).mono (by decide) (by decide)
end
end K11

set_option Elab.async false
set_option linter.all false
set_option autoImplicit false
set_option maxRecDepth 100000
set_option maxHeartbeats 4000000
namespace K11
open PySem PySem.Spec PyProof.Rows L2 Itp
/-- all stands as it was but for two pots -/
structure R2 (n m : Nat) (h h' : IH) : Prop where
  le : h.length ≤ h'.length
  keep : ∀ k, k < h.length → k ≠ n → k ≠ m → h'[k]? = h[k]?
  pn : Pot h n → Pot h' n
  pm : Pot h m → Pot h' m
section
variable {n m k : Nat} {h h' h1 h2 h3 : IH} {o : IO} {w : W}
theorem pot_get {j : Nat} (P : Pot h n) (e : h'[n]? = h[n]?) : Pot h' n := by
  obtain ⟨p0, p1, z, q⟩ := P
  exact ⟨p0, p1, e.trans z, q⟩
theorem R2.refl : R2 n m h h := ⟨Nat.le_refl _, fun _ _ _ _ => rfl, fun p => p, fun p => p⟩
theorem R2.trans (a : R2 n m h1 h2) (b : R2 n m h2 h3) : R2 n m h1 h3 := ⟨Nat.le_trans a.le b.le, fun k hk x y => (b.keep k (Nat.lt_of_lt_of_le hk a.le) x y).trans (a.keep k hk x y), fun p => b.pn (a.pn p), fun p => b.pm (a.pm p)⟩
theorem R2.of_n (r : Rn (some n) h h') (ne : n ≠ m) : R2 n m h h' := ⟨r.le, fun k hk x _ => r.keep k hk (fun z => x (Option.some.inj z).symm), fun p => r.pot n rfl p, fun p => pot_get (j := 0) p (r.keep m p.lt (fun z => ne (Option.some.inj z)))⟩
theorem R2.of_m (r : Rn (some m) h h') (ne : n ≠ m) : R2 n m h h' := ⟨r.le, fun k hk _ y => r.keep k hk (fun z => y (Option.some.inj z).symm), fun p => pot_get (j := 0) p (r.keep n p.lt (fun z => ne (Option.some.inj z).symm)), fun p => r.pot m rfl p⟩
theorem R2.of0 (r : Rn none h h') : R2 n m h h' := ⟨r.le, fun k hk _ _ => r.keep k hk (fun z => nomatch z), fun p => pot_get (j := 0) p (r.keep n p.lt (fun z => nomatch z)), fun p => pot_get (j := 0) p (r.keep m p.lt (fun z => nomatch z))⟩
theorem R2.get (r : R2 n m h h') (e : h[k]? = some o) (x : k ≠ n) (y : k ≠ m) : h'[k]? = some o := by
  rw [r.keep k (List.getElem?_eq_some_iff.mp e).1 x y]
  exact e
theorem R2.set (r : R2 n m h h') (hk : h.length ≤ k) (P : Pot h n) (Q : Pot h m) : R2 n m h (h'.set k o) := by
  have := P.lt
  have := Q.lt
  refine ⟨by rw [List.length_set]; exact r.le, fun j hj x y => ?_, fun _ => pot_get (j := 0) (r.pn P) (List.getElem?_set_ne (by omega)), fun _ => pot_get (j := 0) (r.pm Q) (List.getElem?_set_ne (by omega))⟩
  rw [List.getElem?_set_ne (by omega)]
  exact r.keep j hj x y
theorem fin_2 (r : R2 n m h h') (P : Pot h n) (Q : Pot h m) : ∃ h2, fin true h (.ok w h') = .ok w h2 ∧ R2 n m h h2 := by
  unfold fin
  dsimp only
  split
  · refine ⟨_, rfl, by rw [List.length_take]; have := r.le; omega, fun k hk x y => ?_, fun p => pot_get (j := 0) (r.pn p) ?_, fun p => pot_get (j := 0) (r.pm p) ?_⟩
    · rw [List.getElem?_take, if_pos hk]
      exact r.keep k hk x y
    · rw [List.getElem?_take, if_pos p.lt]
    · rw [List.getElem?_take, if_pos p.lt]
  · exact ⟨_, rfl, r⟩
end
section
variable {n m : Nat} {h : IH} {F : FEnv}
def LT (ts : List (List Nat)) : IE := .lst (ts.map fun t => .cst (tx t))
theorem evs_csts : ∀ (ts : List (List Nat)) (ρ : IS), evs F (ts.map fun t => .cst (tx t)) ρ h = .ok (ts.map tx) h
  | [], ρ => by simp only [List.map_nil, evs]
  | t :: ts, ρ => by
    simp only [List.map_cons, evs, ev, Out.bind_ok, evs_csts ts ρ]
theorem ev_LT (ts : List (List Nat)) (ρ : IS) (hl : ts.length ≤ 100) : ev F (LT ts) ρ h = .ok (.ref h.length) (h ++ [.lst (ts.map tx)]) := by
  unfold LT
  simp only [ev, evs_csts, Out.bind_ok]
  rw [if_pos (by rw [List.length_map]; exact Nat.le_trans hl (by decide))]
/-- one of some texts -/
theorem pick_txts {v : Nat} {ρ : IS} (e19 : F 19 = G dcs 19) (P : Pot h n) (hv : ρ[v]? = some (some (.ref n))) (ts : List (List Nat)) (h0 : ts ≠ []) (hl : ts.length ≤ 100) : ∃ t ∈ ts, ∃ h', ev F (.call 19 [.var v, LT ts]) ρ h = .ok (tx t) h' ∧ Rn (some n) h h' := by
  have P1 : Pot (h ++ [.lst (ts.map tx)]) n := P.app
  obtain ⟨x, hx, h', e, r, _⟩ := d_pick (l := h.length) (xs := ts.map tx) P1 (by have := P.lt; omega) get_last (by simpa using h0) (by rw [List.length_map]; omega) (fun x hx => by
    obtain ⟨t, _, rfl⟩ := List.mem_map.mp hx
    simp)
  obtain ⟨t, ht, rfl⟩ := List.mem_map.mp hx
  refine ⟨t, ht, h', ?_, Rn.app.trans r⟩
  have z : evs F [.var v, LT ts] ρ h = .ok [.ref n, .ref h.length] (h ++ [.lst (ts.map tx)]) := by
    simp only [evs, ev, hv, Out.bind_ok]
    rw [ev_LT ts ρ hl]
    simp only [Out.bind_ok]
  simp only [ev, z, Out.bind_ok, e19, e]
/-! ### a piece -/
def gdT (t : List Nat) : Prop := t.length ≤ 10 ∧ ∀ c ∈ t, c < 128
instance (t : List Nat) : Decidable (gdT t) := by
  unfold gdT
  infer_instance
def A1 : List (List Nat) := [[97], [104, 111, 117, 115, 101], [100, 101, 98, 116], [97, 98, 99, 100, 101, 102, 103, 104], [97, 98, 99, 100, 101, 102, 103, 104, 105], [116, 111], [120], [111, 119, 101, 115], [104, 111, 117, 115, 101, 99, 97, 115, 104]]
def A2 : List (List Nat) := [[48], [55], [52, 50], [57, 57, 57, 57, 57, 57, 57, 57, 57], [49, 48, 48, 48, 48, 48, 48, 48, 48, 48], [48, 55], [48, 48], [49, 48, 48]]
def A3 : List (List Nat) := [[59], [47], [32], [59, 59], [47, 47]]
def A4 : List (List Nat) := [[32], [10], [32, 32], [32, 10, 32], [63], [65], [95], [44], [46], [126]]
def A5 : List (List Nat) := [[35], [48], [57], [122], [10], [90], [59], [47]]
def A6 : List (List Nat) := [[32], [32], [10]]
def A7 : List (List Nat) := [[32, 63], [32, 48], [10, 59], [32, 97, 98, 99]]
def PP (k : Int) (A : List (List Nat)) : IStm := .ite (.cmp .Lt (.var 1) (.cst (.int k))) [.ret (.call 19 [.var 0, LT A])] []
theorem piece_eq : b__law_piece = [.asg (.name 1) (.call 18 [.var 0, .cst (.int 9)]), PP 3 A1, PP 5 A2, PP 7 A3, .ret (.ite (.cmp .Eq (.var 1) (.cst (.int 7))) (.call 19 [.var 0, LT A4]) (.cst (tx [32])))] := rfl
noncomputable abbrev E24 : FEnv := envTo dcs 24
theorem sp24 (P : Pot h n) : ∃ t h', G dcs 24 [.ref n] h = .ok (tx t) h' ∧ Rn (some n) h h' ∧ gdT t := by
  have main : ∃ t h', runB E24 100000 b__law_piece 2 [.ref n] h = .ok (tx t) h' ∧ Rn (some n) h h' ∧ gdT t := by
    obtain ⟨d, h1, e1, d1, r1, P1⟩ := d_draw (m := 9) P (by decide) (by decide)
    have s0 : evS E24 100000 (.asg (.name 1) (.call 18 [.var 0, .cst (.int 9)])) [some (.ref n), none] h = .nx [some (.ref n), some (.int (d : Int))] h1 := by
      simp only [runB, evSs, evS, ev, evs, evO, evIt, tst, tstO, sto, stos, unpk, asgT, asgTs, Out.bind_ok, Out.bind_err, Out.bind_stuck, Out.of_some, Out.of_none, Out.then_ok, Out.then_err, Out.then_stuck, SOut.seq_nx, SOut.seq_rt, SOut.seq_bk, SOut.seq_ct, SOut.seq_err, SOut.seq_stuck, List.map_cons, List.map_nil, List.length_cons, List.length_nil, List.replicate, List.cons_append, List.nil_append, List.getElem?_cons_zero, List.getElem?_cons_succ, List.set_cons_zero, List.set_cons_succ, Nat.reduceSub, Nat.reduceAdd, Nat.reduceLT, Nat.reduceLeDiff, Int.ofNat_eq_natCast, if_true, if_false, Bool.false_eq_true, Bool.not_true, Bool.not_false, env_lt (show 18 < 24 by decide), e1]
    have pk := fun (A : List (List Nat)) (a : A ≠ []) (b : A.length ≤ 100) => pick_txts (F := E24) (v := 0) (ρ := [some (.ref n), some (.int (d : Int))]) (env_lt (show 19 < 24 by decide)) P1 rfl A a b
    have pp : ∀ (k : Int) (A : List (List Nat)), tst E24 (.cmp .Lt (.var 1) (.cst (.int k))) [some (.ref n), some (.int (d : Int))] h1 = .ok (decide ((d : Int) < k)) h1 := fun k A => by
      simp only [runB, evSs, evS, ev, evs, evO, evIt, tst, tstO, sto, stos, unpk, asgT, asgTs, Out.bind_ok, Out.bind_err, Out.bind_stuck, Out.of_some, Out.of_none, Out.then_ok, Out.then_err, Out.then_stuck, SOut.seq_nx, SOut.seq_rt, SOut.seq_bk, SOut.seq_ct, SOut.seq_err, SOut.seq_stuck, List.map_cons, List.map_nil, List.length_cons, List.length_nil, List.replicate, List.cons_append, List.nil_append, List.getElem?_cons_zero, List.getElem?_cons_succ, List.set_cons_zero, List.set_cons_succ, Nat.reduceSub, Nat.reduceAdd, Nat.reduceLT, Nat.reduceLeDiff, Int.ofNat_eq_natCast, if_true, if_false, Bool.false_eq_true, Bool.not_true, Bool.not_false, cmp_lt]
    rw [piece_eq]
    have start : ∀ o, evSs E24 100000 [PP 3 A1, PP 5 A2, PP 7 A3, .ret (.ite (.cmp .Eq (.var 1) (.cst (.int 7))) (.call 19 [.var 0, LT A4]) (.cst (tx [32])))] [some (.ref n), some (.int (d : Int))] h1 = o → evSs E24 100000 [.asg (.name 1) (.call 18 [.var 0, .cst (.int 9)]), PP 3 A1, PP 5 A2, PP 7 A3, .ret (.ite (.cmp .Eq (.var 1) (.cst (.int 7))) (.call 19 [.var 0, LT A4]) (.cst (tx [32])))] [some (.ref n), none] h = o := fun o q => (evSs_cons s0).trans q
    have one : ∀ (k : Int) (A : List (List Nat)) (ss : List IStm), (d : Int) < k → A ≠ [] → A.length ≤ 100 → (∀ t ∈ A, gdT t) → ∃ t h', evSs E24 100000 (PP k A :: ss) [some (.ref n), some (.int (d : Int))] h1 = .rt (tx t) h' ∧ Rn (some n) h1 h' ∧ gdT t := fun k A ss lt a b g => by
      obtain ⟨t, ht, h2, e2, r2⟩ := pk A a b
      refine ⟨t, h2, evSs_ret ?_, r2, g t ht⟩
      have := pp k A
      rw [decide_eq_true lt] at this
      rw [PP, evS_ite this, if_pos rfl]
      exact evSs_ret (evS_ret e2)
    have skip : ∀ (k : Int) (A : List (List Nat)) (ss : List IStm), ¬ (d : Int) < k → evSs E24 100000 (PP k A :: ss) [some (.ref n), some (.int (d : Int))] h1 = evSs E24 100000 ss [some (.ref n), some (.int (d : Int))] h1 := fun k A ss lt => by
      have := pp k A
      rw [decide_eq_false lt] at this
      exact evSs_cons (evS_pass this)
    have res : ∃ t h', evSs E24 100000 [PP 3 A1, PP 5 A2, PP 7 A3, .ret (.ite (.cmp .Eq (.var 1) (.cst (.int 7))) (.call 19 [.var 0, LT A4]) (.cst (tx [32])))] [some (.ref n), some (.int (d : Int))] h1 = .rt (tx t) h' ∧ Rn (some n) h1 h' ∧ gdT t := by
      by_cases q1 : (d : Int) < 3
      · exact one 3 A1 _ q1 (by decide) (by decide) (by decide)
      rw [skip 3 A1 _ q1]
      by_cases q2 : (d : Int) < 5
      · exact one 5 A2 _ q2 (by decide) (by decide) (by decide)
      rw [skip 5 A2 _ q2]
      by_cases q3 : (d : Int) < 7
      · exact one 7 A3 _ q3 (by decide) (by decide) (by decide)
      rw [skip 7 A3 _ q3]
      have t7 : tst E24 (.cmp .Eq (.var 1) (.cst (.int 7))) [some (.ref n), some (.int (d : Int))] h1 = .ok (decide ((d : Int) = 7)) h1 := by
        simp only [runB, evSs, evS, ev, evs, evO, evIt, tst, tstO, sto, stos, unpk, asgT, asgTs, Out.bind_ok, Out.bind_err, Out.bind_stuck, Out.of_some, Out.of_none, Out.then_ok, Out.then_err, Out.then_stuck, SOut.seq_nx, SOut.seq_rt, SOut.seq_bk, SOut.seq_ct, SOut.seq_err, SOut.seq_stuck, List.map_cons, List.map_nil, List.length_cons, List.length_nil, List.replicate, List.cons_append, List.nil_append, List.getElem?_cons_zero, List.getElem?_cons_succ, List.set_cons_zero, List.set_cons_succ, Nat.reduceSub, Nat.reduceAdd, Nat.reduceLT, Nat.reduceLeDiff, Int.ofNat_eq_natCast, if_true, if_false, Bool.false_eq_true, Bool.not_true, Bool.not_false, cmp_eq, eqF_int]
      by_cases q4 : (d : Int) = 7
      · obtain ⟨t, ht, h2, e2, r2⟩ := pk A4 (by decide) (by decide)
        rw [decide_eq_true q4] at t7
        refine ⟨t, h2, evSs_ret (evS_ret ?_), r2, (show ∀ t ∈ A4, gdT t by decide) t ht⟩
        have : ∀ a b : IE, ev E24 (.ite (.cmp .Eq (.var 1) (.cst (.int 7))) a b) [some (.ref n), some (.int (d : Int))] h1 = ev E24 a [some (.ref n), some (.int (d : Int))] h1 := fun a b => by
          simp only [ev, t7, Out.bind_ok, if_true]
        rw [this]
        exact e2
      · rw [decide_eq_false q4] at t7
        refine ⟨[32], h1, evSs_ret (evS_ret ?_), Rn.refl, by decide⟩
        simp only [ev, t7, Out.bind_ok, Bool.false_eq_true, if_false]
    obtain ⟨t, h', e, r, g⟩ := res
    exact ⟨t, h', runB_rt (start _ e), r1.trans r, g⟩
  obtain ⟨t, h', e, r, g⟩ := main
  obtain ⟨h2, e2, r2⟩ := fin_W (w := tx t) r
  exact ⟨t, h2, by rw [g__law_piece rfl, e, e2], r2, g⟩
end
end K11

set_option Elab.async false
set_option linter.all false
set_option autoImplicit false
set_option maxRecDepth 100000
set_option maxHeartbeats 4000000
namespace K11
open PySem PySem.Spec PyProof.Rows L2 Itp
noncomputable abbrev E25 : FEnv := envTo dcs 25
def T0e : IE := .meth .join (.cst (tx [])) [.comp (.call 24 [.var 0]) (.name 3) (.rng (.call 18 [.var 0, .cst (.int 14)])) none [3]]
def T1 : IStm := .asg (.name 4) (.call 18 [.var 1, .cst (.int 5)])
def T2 : IStm := .asg (.name 5) (.call 18 [.var 1, .bin .Add (.blt .len [.var 2]) (.cst (.int 1))])
def T3e : IE := .bin .Add (.bin .Add (.slc (.var 2) none (some (.var 5))) (.call 19 [.var 1, LT A5])) (.slc (.var 2) (some (.var 5)) none)
def T3 : IStm := .ite (.cmp .Eq (.var 4) (.cst (.int 0))) [.ret T3e] []
def T4e : IE := .bin .Add (.slc (.var 2) none (some (.var 5))) (.slc (.var 2) (some (.bin .Add (.var 5) (.cst (.int 1)))) none)
def T4 : IStm := .ite (.cmp .Eq (.var 4) (.cst (.int 1))) [.ret T4e] []
def T5c : IT := .and (.cmp .Eq (.var 4) (.cst (.int 2))) (.cmp .Eq (.call 18 [.var 1, .cst (.int 3)]) (.cst (.int 0)))
def T5e : IE := .bin .Add (.bin .Mult (.call 19 [.var 1, LT A6]) (.bin .Sub (.cst (.int 4000)) (.call 18 [.var 1, .bin .Add (.blt .len [.var 2]) (.cst (.int 20))]))) (.var 2)
def T5 : IStm := .ite T5c [.ret T5e] []
theorem text_eq : b__law_text = [.asg (.name 2) T0e, T1, T2, T3, T4, T5, .ret (.var 2)] := rfl
theorem sum_le10 : ∀ ys : List (List Nat), (∀ y ∈ ys, gdT y) → (ys.map (·.length)).sum ≤ 10 * ys.length
  | [], _ => Nat.le_refl _
  | y :: ys, h => by
    rw [List.map_cons, List.sum_cons, List.length_cons]
    have := (h y List.mem_cons_self).1
    have := sum_le10 ys fun z hz => h z (List.mem_cons_of_mem _ hz)
    omega
section
variable {n m : Nat} {h : IH}
theorem text0 (P : Pot h n) : ∃ u h', ev E25 T0e [some (.ref n), some (.ref m), none, none, none, none] h = .ok (tx u) h' ∧ Rn (some n) h h' ∧ u.length ≤ 130 ∧ ∀ c ∈ u, c < 128 := by
  obtain ⟨d, h1, e1, d1, r1, P1⟩ := d_draw (m := 14) P (by decide) (by decide)
  have er : ev E25 (.call 18 [.var 0, .cst (.int 14)]) [some (.ref n), some (.ref m), none, none, none, none] h = .ok (.int (d : Int)) h1 := by
    simp only [runB, evSs, evS, ev, evs, evO, evIt, tst, tstO, sto, stos, unpk, asgT, asgTs, Out.bind_ok, Out.bind_err, Out.bind_stuck, Out.of_some, Out.of_none, Out.then_ok, Out.then_err, Out.then_stuck, SOut.seq_nx, SOut.seq_rt, SOut.seq_bk, SOut.seq_ct, SOut.seq_err, SOut.seq_stuck, List.map_cons, List.map_nil, List.length_cons, List.length_nil, List.replicate, List.cons_append, List.nil_append, List.getElem?_cons_zero, List.getElem?_cons_succ, List.set_cons_zero, List.set_cons_succ, Nat.reduceSub, Nat.reduceAdd, Nat.reduceLT, Nat.reduceLeDiff, Int.ofNat_eq_natCast, if_true, if_false, Bool.false_eq_true, Bool.not_true, Bool.not_false, env_lt (show 18 < 25 by decide), e1]
  have hit := evIt_rng er ⟨by omega, by omega⟩
  obtain ⟨h', ys, e2, r2, hl, e3, hl2, ⟨bs, c1, c2, c3⟩⟩ := ev_comp_W (n := some n) (F := E25) (ρ := [some (.ref n), some (.ref m), none, none, none, none]) (hp := h) (a := .call 24 [.var 0]) (t := .name 3) (c := none) (own := [3]) d
    (fun i acc => ∃ bs : List (List Nat), acc = bs.map tx ∧ bs.length = i ∧ ∀ b ∈ bs, gdT b) hit r1 (itLen_rng ..) (Nat.lt_of_le_of_lt (show d ≤ 100 by omega) (by decide)) (ne_of_lt P1 (Nat.le_refl _)) ⟨[], rfl, rfl, fun b hb => by simp at hb⟩ (fun i h2 acc hi r ea ⟨bs, c1, c2, c3⟩ => by
      obtain ⟨b, h3, e4, r3, gb⟩ := sp24 (r.pot n rfl P1)
      refine ⟨.int (0 + (i : Int)), _, true, h2, by rw [cur_rng, if_pos hi], rfl, tstO_none, Rn.refl, fun _ => ⟨tx b, h3, ?_, r3, bs ++ [b], by rw [c1]; simp, by simp [c2], fun x hx => ?_⟩, fun z => nomatch z⟩
      · exact ev_call1 (ev_var rfl) ((congrFun (congrFun (env_lt (dcs := dcs) (show 24 < 25 by decide)) _) _).trans e4)
      · rcases List.mem_append.mp hx with q | q
        · exact c3 x q
        · rw [List.mem_singleton.mp q]
          exact gb) (fun h2 _ => by rw [cur_rng, if_neg (by omega)])
  have sm := sum_le10 bs c3
  have j := ev_join e2 (items_ref e3) c1 (Nat.le_trans (show (bs.map (·.length)).sum ≤ 140 by omega) (by decide))
  refine ⟨bs.flatten, h', j, r2, ?_, fun c hc => ?_⟩
  · rw [List.length_flatten]
    show (bs.map (·.length)).sum ≤ 130
    omega
  · obtain ⟨l, hl, hcl⟩ := List.mem_flatten.mp hc
    exact (c3 l hl).2 c hcl
theorem tt_of {s : List Nat} (hl : s.length ≤ 140) (hc : ∀ c ∈ s, c < 128) : TT s := ⟨by omega, hc, Nat.le_trans (nbl_le s) hl⟩
theorem nbl_rep {c k : Nat} (h : blk c = true) : nbl (List.replicate k c) = 0 := by
  unfold nbl
  rw [List.filter_replicate, h]
  rfl
theorem sp25 (P : Pot h n) (Q : Pot h m) (ne : n ≠ m) : ∃ s h', G dcs 25 [.ref n, .ref m] h = .ok (tx s) h' ∧ R2 n m h h' ∧ TT s := by
  have main : ∃ s h', runB E25 100000 b__law_text 6 [.ref n, .ref m] h = .ok (tx s) h' ∧ R2 n m h h' ∧ TT s := by
    obtain ⟨u, h1, e1, r1, ul, uc⟩ := text0 (m := m) P
    have R1 := R2.of_n r1 ne
    have big : u.length ≤ lineLen := Nat.le_trans ul (by decide)
    obtain ⟨w, h2, e2, w2, r2, Q2⟩ := d_draw (m := 5) (R1.pm Q) (by decide) (by decide)
    obtain ⟨a, h3, e3, a3, r3, Q3⟩ := d_draw (m := (u.length : Int) + 1) Q2 (by omega) (by omega)
    have R3 : R2 n m h h3 := (R1.trans (R2.of_m r2 ne)).trans (R2.of_m r3 ne)
    obtain ⟨ρ, hρ⟩ : ∃ ρ : IS, ρ = [some (.ref n), some (.ref m), some (tx u), none, some (.int (w : Int)), some (.int (a : Int))] := ⟨_, rfl⟩
    have s0 : evS E25 100000 (.asg (.name 2) T0e) [some (.ref n), some (.ref m), none, none, none, none] h = .nx [some (.ref n), some (.ref m), some (tx u), none, none, none] h1 := evS_asg e1
    have s1 : evS E25 100000 T1 [some (.ref n), some (.ref m), some (tx u), none, none, none] h1 = .nx [some (.ref n), some (.ref m), some (tx u), none, some (.int (w : Int)), none] h2 := by
      simp only [T1, runB, evSs, evS, ev, evs, evO, evIt, tst, tstO, sto, stos, unpk, asgT, asgTs, Out.bind_ok, Out.bind_err, Out.bind_stuck, Out.of_some, Out.of_none, Out.then_ok, Out.then_err, Out.then_stuck, SOut.seq_nx, SOut.seq_rt, SOut.seq_bk, SOut.seq_ct, SOut.seq_err, SOut.seq_stuck, List.map_cons, List.map_nil, List.length_cons, List.length_nil, List.replicate, List.cons_append, List.nil_append, List.getElem?_cons_zero, List.getElem?_cons_succ, List.set_cons_zero, List.set_cons_succ, Nat.reduceSub, Nat.reduceAdd, Nat.reduceLT, Nat.reduceLeDiff, Int.ofNat_eq_natCast, if_true, if_false, Bool.false_eq_true, Bool.not_true, Bool.not_false, env_lt (show 18 < 25 by decide), e2]
    have s2 : evS E25 100000 T2 [some (.ref n), some (.ref m), some (tx u), none, some (.int (w : Int)), none] h2 = .nx ρ h3 := by
      rw [hρ]
      simp only [T2, runB, evSs, evS, ev, evs, evO, evIt, tst, tstO, sto, stos, unpk, asgT, asgTs, Out.bind_ok, Out.bind_err, Out.bind_stuck, Out.of_some, Out.of_none, Out.then_ok, Out.then_err, Out.then_stuck, SOut.seq_nx, SOut.seq_rt, SOut.seq_bk, SOut.seq_ct, SOut.seq_err, SOut.seq_stuck, List.map_cons, List.map_nil, List.length_cons, List.length_nil, List.replicate, List.cons_append, List.nil_append, List.getElem?_cons_zero, List.getElem?_cons_succ, List.set_cons_zero, List.set_cons_succ, Nat.reduceSub, Nat.reduceAdd, Nat.reduceLT, Nat.reduceLeDiff, Int.ofNat_eq_natCast, if_true, if_false, Bool.false_eq_true, Bool.not_true, Bool.not_false, env_lt (show 18 < 25 by decide), tx_len big, bin_add, e3]
    have start : ∀ o, evSs E25 100000 [T3, T4, T5, .ret (.var 2)] ρ h3 = o → evSs E25 100000 [.asg (.name 2) T0e, T1, T2, T3, T4, T5, .ret (.var 2)] [some (.ref n), some (.ref m), none, none, none, none] h = o := fun o q => (evSs_cons s0).trans ((evSs_cons s1).trans ((evSs_cons s2).trans q))
    have v1 : ρ[1]? = some (some (.ref m)) := by rw [hρ]; rfl
    have v2 : ρ[2]? = some (some (tx u)) := by rw [hρ]; rfl
    have v4 : ρ[4]? = some (some (.int (w : Int))) := by rw [hρ]; rfl
    have v5 : ρ[5]? = some (some (.int (a : Int))) := by rw [hρ]; rfl
    have tw : ∀ k : Int, tst E25 (.cmp .Eq (.var 4) (.cst (.int k))) ρ h3 = .ok (decide ((w : Int) = k)) h3 := fun k => by
      simp only [runB, evSs, evS, ev, evs, evO, evIt, tst, tstO, sto, stos, unpk, asgT, asgTs, Out.bind_ok, Out.bind_err, Out.bind_stuck, Out.of_some, Out.of_none, Out.then_ok, Out.then_err, Out.then_stuck, SOut.seq_nx, SOut.seq_rt, SOut.seq_bk, SOut.seq_ct, SOut.seq_err, SOut.seq_stuck, List.map_cons, List.map_nil, List.length_cons, List.length_nil, List.replicate, List.cons_append, List.nil_append, List.getElem?_cons_zero, List.getElem?_cons_succ, List.set_cons_zero, List.set_cons_succ, Nat.reduceSub, Nat.reduceAdd, Nat.reduceLT, Nat.reduceLeDiff, Int.ofNat_eq_natCast, if_true, if_false, Bool.false_eq_true, Bool.not_true, Bool.not_false, v4, cmp_eq, eqF_int]
    have al : a ≤ u.length := by omega
    have c1 : ∀ c ∈ u.take a, c < 128 := fun c hc => uc c (List.mem_of_mem_take hc)
    have c2 : ∀ k, ∀ c ∈ u.drop k, c < 128 := fun k c hc => uc c (List.mem_of_mem_drop hc)
    have l1 : (u.take a).length = a := by rw [List.length_take]; omega
    have lin : ∀ k : Nat, k ≤ 5000 → k ≤ lineLen := fun k hk => Nat.le_trans hk (by decide)
    have res : ∃ s h', evSs E25 100000 [T3, T4, T5, .ret (.var 2)] ρ h3 = .rt (tx s) h' ∧ R2 n m h h' ∧ TT s := by
      by_cases w0 : (w : Int) = 0
      · have t := tw 0
        rw [decide_eq_true w0] at t
        obtain ⟨x, hx, h4, e4, r4⟩ := pick_txts (F := E25) (v := 1) (ρ := ρ) (env_lt (show 19 < 25 by decide)) Q3 v1 A5 (by decide) (by decide)
        have gx := (show ∀ t ∈ A5, t.length = 1 ∧ ∀ c ∈ t, c < 128 by decide) x hx
        refine ⟨u.take a ++ x ++ u.drop a, h4, evSs_ret ?_, R3.trans (R2.of_m r4 ne), tt_of ?_ ?_⟩
        · rw [T3, evS_ite t, if_pos rfl]
          refine evSs_ret (evS_ret ?_)
          have a1 := tx_to (hp := h3) (a := u) (j := a) big
          have a2 := tx_from (hp := h4) (a := u) (i := a) big
          have a3 := tx_add (hp := h4) (a := u.take a) (b := x) (lin _ (by omega))
          have a4 := tx_add (hp := h4) (a := u.take a ++ x) (b := u.drop a) (lin _ (by rw [List.length_append, List.length_drop]; omega))
          have q : ∀ (x y : IE) (h3 : IH), ev E25 (.bin .Add x y) ρ h3 = (ev E25 x ρ h3).bind fun u h => (ev E25 y ρ h).bind fun v h => .of (binF .Add u v h) := fun x y h3 => by simp only [ev]
          have f1 : ev E25 (.slc (.var 2) none (some (.var 5))) ρ h3 = .ok (tx (u.take a)) h3 := by simp only [ev, evO, v2, v5, Out.bind_ok, a1, Out.of_some]
          have f2 : ev E25 (.slc (.var 2) (some (.var 5)) none) ρ h4 = .ok (tx (u.drop a)) h4 := by simp only [ev, evO, v2, v5, Out.bind_ok, a2, Out.of_some]
          rw [T3e, q, q, f1, Out.bind_ok, e4, Out.bind_ok, a3, Out.of_some, Out.bind_ok, f2, Out.bind_ok, a4, Out.of_some]
        · rw [List.length_append, List.length_append, List.length_drop]
          omega
        · intro c hc
          rcases List.mem_append.mp hc with hc | hc
          · rcases List.mem_append.mp hc with hc | hc
            · exact c1 c hc
            · exact gx.2 c hc
          · exact c2 a c hc
      have t := tw 0
      rw [decide_eq_false w0] at t
      rw [T3, evSs_cons (evS_pass t)]
      by_cases w1 : (w : Int) = 1
      · have t := tw 1
        rw [decide_eq_true w1] at t
        refine ⟨u.take a ++ u.drop (a + 1), h3, evSs_ret ?_, R3, tt_of ?_ ?_⟩
        · rw [T4, evS_ite t, if_pos rfl]
          refine evSs_ret (evS_ret ?_)
          have a1 := tx_to (hp := h3) (a := u) (j := a) big
          have a2 := tx_from (hp := h3) (a := u) (i := a + 1) big
          rw [show ((a + 1 : Nat) : Int) = (a : Int) + 1 by omega] at a2
          have a3 := tx_add (hp := h3) (a := u.take a) (b := u.drop (a + 1)) (lin _ (by rw [List.length_drop]; omega))
          simp only [T4e, ev, evO, v2, v5, Out.bind_ok, a1, Out.of_some, bin_add, a2, a3]
        · rw [List.length_append, List.length_drop]
          omega
        · intro c hc
          rcases List.mem_append.mp hc with hc | hc
          · exact c1 c hc
          · exact c2 (a + 1) c hc
      have t := tw 1
      rw [decide_eq_false w1] at t
      rw [T4, evSs_cons (evS_pass t)]
      have last : ∀ h4, tst E25 T5c ρ h3 = .ok false h4 → R2 n m h3 h4 → ∃ s h', evSs E25 100000 [T5, .ret (.var 2)] ρ h3 = .rt (tx s) h' ∧ R2 n m h h' ∧ TT s := fun h4 t r => by
        refine ⟨u, h4, ?_, R3.trans r, tt_of (by omega) uc⟩
        rw [T5, evSs_cons (evS_pass t)]
        exact evSs_ret (evS_ret (ev_var v2))
      by_cases w2 : (w : Int) = 2
      · have t := tw 2
        rw [decide_eq_true w2] at t
        obtain ⟨z, h4, e4, z4, r4, Q4⟩ := d_draw (m := 3) Q3 (by decide) (by decide)
        have tz : tst E25 T5c ρ h3 = .ok (decide ((z : Int) = 0)) h4 := by
          rw [T5c, tst_and t, if_pos rfl]
          simp only [runB, evSs, evS, ev, evs, evO, evIt, tst, tstO, sto, stos, unpk, asgT, asgTs, Out.bind_ok, Out.bind_err, Out.bind_stuck, Out.of_some, Out.of_none, Out.then_ok, Out.then_err, Out.then_stuck, SOut.seq_nx, SOut.seq_rt, SOut.seq_bk, SOut.seq_ct, SOut.seq_err, SOut.seq_stuck, List.map_cons, List.map_nil, List.length_cons, List.length_nil, List.replicate, List.cons_append, List.nil_append, List.getElem?_cons_zero, List.getElem?_cons_succ, List.set_cons_zero, List.set_cons_succ, Nat.reduceSub, Nat.reduceAdd, Nat.reduceLT, Nat.reduceLeDiff, Int.ofNat_eq_natCast, if_true, if_false, Bool.false_eq_true, Bool.not_true, Bool.not_false, v1, env_lt (show 18 < 25 by decide), e4, cmp_eq, eqF_int]
        by_cases z0 : (z : Int) = 0
        · rw [decide_eq_true z0] at tz
          obtain ⟨x, hx, h5, e5, r5⟩ := pick_txts (F := E25) (v := 1) (ρ := ρ) (env_lt (show 19 < 25 by decide)) Q4 v1 A6 (by decide) (by decide)
          obtain ⟨c, ec, cb⟩ : ∃ c, x = [c] ∧ blk c = true := by
            have : x = [32] ∨ x = [32] ∨ x = [10] := by simpa [A6] using hx
            rcases this with q | q | q
            · exact ⟨32, q, rfl⟩
            · exact ⟨32, q, rfl⟩
            · exact ⟨10, q, rfl⟩
          have Q5 := r5.pot m rfl Q4
          obtain ⟨d, h6, e6, d6, r6, Q6⟩ := d_draw (m := (u.length : Int) + 20) Q5 (by omega) (by omega)
          have md : (4000 : Int) - (d : Int) = ((4000 - d : Nat) : Int) := by omega
          have c128 : c < 128 := by
            unfold blk at cb
            simp at cb
            omega
          refine ⟨List.replicate (4000 - d) c ++ u, h6, evSs_ret ?_, ((R3.trans (R2.of_m r4 ne)).trans (R2.of_m r5 ne)).trans (R2.of_m r6 ne), ?_, ?_, ?_⟩
          · rw [T5, evS_ite tz, if_pos rfl]
            refine evSs_ret (evS_ret ?_)
            have m1 := mul_tx (h := h6) (c := c) (m := 4000 - d) (by omega)
            have a1 := tx_add (hp := h6) (a := List.replicate (4000 - d) c) (b := u) (lin _ (by rw [List.length_replicate]; omega))
            have ed : ev E25 (.bin .Sub (.cst (.int 4000)) (.call 18 [.var 1, .bin .Add (.blt .len [.var 2]) (.cst (.int 20))])) ρ h5 = .ok (.int ((4000 - d : Nat) : Int)) h6 := by
              simp only [runB, evSs, evS, ev, evs, evO, evIt, tst, tstO, sto, stos, unpk, asgT, asgTs, Out.bind_ok, Out.bind_err, Out.bind_stuck, Out.of_some, Out.of_none, Out.then_ok, Out.then_err, Out.then_stuck, SOut.seq_nx, SOut.seq_rt, SOut.seq_bk, SOut.seq_ct, SOut.seq_err, SOut.seq_stuck, List.map_cons, List.map_nil, List.length_cons, List.length_nil, List.replicate, List.cons_append, List.nil_append, List.getElem?_cons_zero, List.getElem?_cons_succ, List.set_cons_zero, List.set_cons_succ, Nat.reduceSub, Nat.reduceAdd, Nat.reduceLT, Nat.reduceLeDiff, Int.ofNat_eq_natCast, if_true, if_false, Bool.false_eq_true, Bool.not_true, Bool.not_false, v1, v2, tx_len big, bin_add, env_lt (show 18 < 25 by decide), e6, bin_sub, md]
            rw [ec] at e5
            have em : ev E25 (.bin .Mult (.call 19 [.var 1, LT A6]) (.bin .Sub (.cst (.int 4000)) (.call 18 [.var 1, .bin .Add (.blt .len [.var 2]) (.cst (.int 20))]))) ρ h4 = .ok (tx (List.replicate (4000 - d) c)) h6 := by
              have q : ∀ x y : IE, ev E25 (.bin .Mult x y) ρ h4 = (ev E25 x ρ h4).bind fun u h => (ev E25 y ρ h).bind fun v h => .of (binF .Mult u v h) := fun x y => by simp only [ev]
              rw [q, e5, Out.bind_ok, ed, Out.bind_ok, m1]
              rfl
            have q : ∀ x y : IE, ev E25 (.bin .Add x y) ρ h4 = (ev E25 x ρ h4).bind fun u h => (ev E25 y ρ h).bind fun v h => .of (binF .Add u v h) := fun x y => by simp only [ev]
            rw [T5e, q, em, Out.bind_ok, ev_var v2, Out.bind_ok, a1]
            rfl
          · rw [List.length_append, List.length_replicate]
            omega
          · intro x hx
            rcases List.mem_append.mp hx with hx | hx
            · rw [List.eq_of_mem_replicate hx]
              exact c128
            · exact uc x hx
          · rw [nbl_app, nbl_rep cb]
            have := nbl_le u
            omega
        · rw [decide_eq_false z0] at tz
          exact last h4 tz (R2.of_m r4 ne)
      · have t := tw 2
        rw [decide_eq_false w2] at t
        have tz : tst E25 T5c ρ h3 = .ok false h3 := by
          rw [T5c, tst_and t]
          rfl
        exact last h3 tz R2.refl
    obtain ⟨s, h', e, r, g⟩ := res
    refine ⟨s, h', ?_, r, g⟩
    rw [text_eq]
    exact runB_rt (start _ e)
  obtain ⟨s, h', e, r, g⟩ := main
  obtain ⟨h2, e2, r2⟩ := fin_2 (w := tx s) r P Q
  exact ⟨s, h2, by rw [g__law_text rfl, e, e2], r2, g⟩
end
end K11

set_option Elab.async false
set_option linter.all false
set_option autoImplicit false
set_option maxRecDepth 100000
set_option maxHeartbeats 4000000
namespace K11
open PySem PySem.Spec PyProof.Rows L2 Itp
/-! ### a text behind a fault has no say -/
theorem take_more {p : Nat → Bool} {d : Nat} {y : List Nat} (hd : p d = false) : ∀ r : List Nat, (r ++ d :: y).takeWhile p = r.takeWhile p
  | [] => by
    rw [List.nil_append, List.takeWhile_cons_of_neg (by rw [hd]; decide)]
    rfl
  | x :: r => by
    rw [List.cons_append]
    cases q : p x with
    | true => rw [List.takeWhile_cons_of_pos q, List.takeWhile_cons_of_pos q, take_more hd r]
    | false => rw [List.takeWhile_cons_of_neg (by rw [q]; decide), List.takeWhile_cons_of_neg (by rw [q]; decide)]
theorem tok_more {c d : Nat} {r y : List Nat} (hd : blk d = true) : tok (c :: (r ++ d :: y)) = tok (c :: r) := by
  rw [tok_cons, tok_cons]
  by_cases k2 : kd c = 2
  · rw [if_pos k2, if_pos k2]
  · rw [if_neg k2, if_neg k2, take_more]
    have := kd_blk hd
    exact decide_eq_false fun z => k2 (by rw [← z, this])
theorem scan_more {s y : List Nat} {d : Nat} (hd : blk d = true) : ∀ (f' f p : Nat) (b : Bool), f' ≤ f → (scanF f' s p b).2 ≠ none → scanF f (s ++ d :: y) p b = scanF f' s p b
  | 0, f, p, b, _, h => absurd rfl h
  | f' + 1, f, p, b, hf, h => by
    obtain ⟨g, rfl⟩ : ∃ g, f = g + 1 := ⟨f - 1, by omega⟩
    cases e : s.drop p with
    | nil =>
      rw [scan_nil e] at h
      exact absurd rfl h
    | cons c r =>
      have lt := (drop_lt e).1
      have e2 : (s ++ d :: y).drop p = c :: (r ++ d :: y) := by
        rw [List.drop_append_of_le_length (Nat.le_of_lt lt), e]
        rfl
      cases k : blk c with
      | true =>
        rw [scan_blank e k] at h ⊢
        rw [scan_blank e2 k]
        exact scan_more hd f' g (p + 1) false (by omega) h
      | false =>
        have t := tok_more (c := c) (r := r) (y := y) hd
        cases q : wrP (tok (c :: r)) b with
        | some w =>
          rw [scan_bad e k q, scan_bad e2 k (by rw [t]; exact q)]
        | none =>
          rw [scan_good e k q] at h ⊢
          rw [scan_good e2 k (by rw [t]; exact q), t, scan_more hd f' g _ _ (by omega) h]
theorem looked_more {s y : List Nat} {d : Nat} (hd : blk d = true) (hl : (s ++ d :: y).length ≤ 4000) (h : (looked s).2 ≠ none) : looked (s ++ d :: y) = looked s := by
  have l := hl
  rw [List.length_append] at l
  have a : looked s = full s := by
    unfold looked
    rw [if_neg fun z => by omega]
  have b : looked (s ++ d :: y) = full (s ++ d :: y) := by
    unfold looked
    rw [if_neg fun z => by omega]
  rw [a] at h ⊢
  rw [b]
  unfold full at h ⊢
  exact scan_more hd _ _ 0 false (by rw [List.length_append]; omega) h
theorem at_more {s y : List Nat} {p : Nat} (h : p ≤ s.length) : at_ (s ++ y) p = at_ s p := by
  unfold at_
  rw [List.take_append_of_le_length h]
theorem toks_more {s y : List Nat} {L : List TK} (h : ∀ t ∈ L, t.2 < s.length) : L.map (wtok (s ++ y)) = L.map (wtok s) := List.map_congr_left fun t ht => by
  unfold wtok
  rw [at_more (Nat.le_of_lt (h t ht))]
theorem fs_more {s y : List Nat} {x : Nat × Nat} (h : x.2 < s.length) : fsW (s ++ y) (some x) = fsW s (some x) := by
  unfold fsW faultW
  dsimp only
  rw [at_more (Nat.le_of_lt h)]
/-! ### statements -/
section
variable {F : FEnv} {ρ : IS} {h h1 h2 h3 h4 : IH} {a b c d : IE} {u v wa wb wc wd : W}
theorem ne_rep {x : Str} (e1 : ev F a ρ h = .ok u h1) (q1 : bfF .repr [u] h1 = some (.str x, h1)) (e2 : ev F b ρ h1 = .ok v h2) (q2 : bfF .repr [v] h2 = some (.str x, h2)) : tst F (.cmp .NotEq (.blt .repr [a]) (.blt .repr [b])) ρ h = .ok false h2 := by
  have t := tst_ne (ev_blt1 e1 q1) (ev_blt1 e2 q2) eqF_str
  rw [decide_eq_true rfl] at t
  exact t
theorem ev_lst2 (ea : ev F a ρ h = .ok wa h1) (eb : ev F b ρ h1 = .ok wb h2) : ev F (.lst [a, b]) ρ h = .ok (.ref h2.length) (h2 ++ [.lst [wa, wb]]) := by
  simp only [ev, evs, ea, eb, Out.bind_ok, List.length_cons, List.length_nil, Nat.reduceAdd, small2, if_true]
theorem ev_lst4 (ea : ev F a ρ h = .ok wa h1) (eb : ev F b ρ h1 = .ok wb h2) (ec : ev F c ρ h2 = .ok wc h3) (ed : ev F d ρ h3 = .ok wd h4) : ev F (.lst [a, b, c, d]) ρ h = .ok (.ref h4.length) (h4 ++ [.lst [wa, wb, wc, wd]]) := by
  simp only [ev, evs, ea, eb, ec, ed, Out.bind_ok, List.length_cons, List.length_nil, Nat.reduceAdd, small4, if_true]
theorem fin_any {w : W} : ∃ h2, fin true h (.ok w h1) = .ok w h2 := by
  unfold fin
  dsimp only
  split <;> exact ⟨_, rfl⟩
end
noncomputable abbrev E26 : FEnv := envTo dcs 26
theorem e26 {i : Nat} (hi : i < 26) (ws : List W) (h : IH) : E26 i ws h = G dcs i ws h := congrFun (congrFun (env_lt hi) ws) h
def RF : List IStm := [.ret (.cst (.bl false))]
def M3c : IT := .cmp .NotEq (.blt .repr [.lst [.var 7, .callk 7 [0] [] [.var 4], .call 8 [.var 4], .callk 8 [0] [] [.var 4]]]) (.blt .repr [.lst [.var 5, .var 5, .var 6, .var 6]])
def M4 : IStm := .expr (.meth .append (.var 7) [.cst .non])
def M5a : IT := .cmp .NotEq (.blt .repr [.call 7 [.var 4]]) (.blt .repr [.var 5])
def M5b : IT := .cmp .NotEq (.blt .repr [.lst [.call 16 [.var 4], .callk 16 [0] [] [.var 4]]]) (.blt .repr [.lst [.var 6, .var 6]])
def M5c : IT := .or M5a (.and (.cmp .IsNot (.var 6) (.cst .non)) M5b)
def M6 : IStm := .asg (.name 8) (.bin .Add (.var 4) (.call 19 [.var 2, LT A7]))
def M7b : IT := .cmp .NotEq (.blt .repr [.lst [.call 7 [.var 8], .call 8 [.var 8]]]) (.blt .repr [.lst [.var 5, .var 6]])
def M7c : IT := .and (.cmp .IsNot (.var 6) (.cst .non)) (.and (.cmp .Lt (.blt .len [.var 8]) (.cst (.int 4000))) M7b)
def MB : List IStm := [.asg (.name 4) (.call 25 [.var 1, .var 2]), .asg (.tup [.name 5, .name 6]) (.call 23 [.var 4]), .asg (.name 7) (.call 7 [.var 4]), .ite M3c RF [], M4, .ite M5c RF [], M6, .ite M7c RF []]
def M0 : IStm := .asg (.tup [.name 1, .name 2]) (.tup [.call 17 [.var 0, .cst (.int 0)], .call 17 [.var 0, .cst (.int 1)]])
theorem law_eq : b_law = [M0, .forS (.name 3) (.rng (.cst (.int 10))) MB, .ret (.cst (.bl true))] := rfl
section
variable {n m k5 k7 : Nat} {h : IH} {s : List Nat} {ρ : IS}
theorem m3 (T : TT s) (v4 : ρ[4]? = some (some (tx s))) (v5 : ρ[5]? = some (some (.ref k5))) (v6 : ρ[6]? = some (some (fsW s (looked s).2))) (v7 : ρ[7]? = some (some (.ref k7))) (f5 : h[k5]? = some (.lst ((looked s).1.map (wtok s)))) (f7 : h[k7]? = some (.lst ((looked s).1.map (wtok s)))) :
    ∃ h', tst E26 M3c ρ h = .ok false h' ∧ Rn none h h' := by
  obtain ⟨ka, h1, e1, r1, fa, la⟩ := sp7 (h := h) T.txt
  obtain ⟨h2, e2, r2⟩ := sp8 (h := h1) T.txt
  obtain ⟨h3, e3, r3⟩ := sp8 (h := h2) T.txt
  have nn : ∀ k : Nat, (none : Option Nat) ≠ some k := fun k z => nomatch z
  have l4 := ev_lst4 (F := E26) (ρ := ρ) (h := h) (a := .var 7) (ev_var v7) (ev_callk1 (f := 7) (ev_var v4) ((e26 (by decide) _ _).trans e1)) (ev_call1 (f := 8) (ev_var v4) ((e26 (by decide) _ _).trans e2)) (ev_callk1 (f := 8) (ev_var v4) ((e26 (by decide) _ _).trans e3))
  obtain ⟨h4, eh4⟩ : ∃ h4, h4 = h3 ++ [IO.lst [.ref k7, .ref ka, fsW s (looked s).2, fsW s (looked s).2]] := ⟨_, rfl⟩
  have r4 : Rn none h3 h4 := by rw [eh4]; exact Rn.app
  have R4 := ((r1.trans r2).trans r3).trans r4
  have q1 := rep4 (h := h4) (k := h3.length) (by rw [eh4]; exact get_last) (R4.get f7 (nn _)) (((r2.trans r3).trans r4).get fa (nn _)) T rfl rfl
  rw [← eh4] at l4
  have l5 := ev_lst4 (F := E26) (ρ := ρ) (h := h4) (a := .var 5) (b := .var 5) (c := .var 6) (d := .var 6) (ev_var v5) (ev_var v5) (ev_var v6) (ev_var v6)
  obtain ⟨h5, eh5⟩ : ∃ h5, h5 = h4 ++ [IO.lst [.ref k5, .ref k5, fsW s (looked s).2, fsW s (looked s).2]] := ⟨_, rfl⟩
  have r5 : Rn none h4 h5 := by rw [eh5]; exact Rn.app
  have g5 := (R4.trans r5).get f5 (nn _)
  have q2 := rep4 (h := h5) (k := h4.length) (by rw [eh5]; exact get_last) g5 g5 T rfl rfl
  rw [← eh5] at l5
  exact ⟨h5, ne_rep l4 q1 l5 q2, R4.trans r5⟩
theorem m5 (T : TT s) (v4 : ρ[4]? = some (some (tx s))) (v5 : ρ[5]? = some (some (.ref k5))) (v6 : ρ[6]? = some (some (fsW s (looked s).2))) (f5 : h[k5]? = some (.lst ((looked s).1.map (wtok s)))) :
    ∃ h', tst E26 M5c ρ h = .ok false h' ∧ Rn none h h' := by
  have nn : ∀ k : Nat, (none : Option Nat) ≠ some k := fun k z => nomatch z
  obtain ⟨ka, h1, e1, r1, fa, la⟩ := sp7 (h := h) T.txt
  have ta := ne_rep (F := E26) (ρ := ρ) (h := h) (ev_call1 (f := 7) (ev_var v4) ((e26 (by decide) _ _).trans e1)) (repT fa T rfl) (b := .var 5) (ev_var v5) (repT (r1.get f5 (nn _)) T rfl)
  have t := tst_or (b := .and (.cmp .IsNot (.var 6) (.cst .non)) M5b) (show tst E26 M5a ρ h = _ from ta)
  rw [if_neg Bool.false_ne_true] at t
  rw [M5c, t]
  cases e : (looked s).2 with
  | none =>
    rw [e] at v6
    have q : tst E26 (.cmp .IsNot (.var 6) (.cst .non)) ρ h1 = .ok false h1 := by
      have : cmpB .IsNot (fsW s none) .non h1 = some false := rfl
      simp only [runB, evSs, evS, ev, evs, evO, evIt, tst, tstO, sto, stos, unpk, asgT, asgTs, Out.bind_ok, Out.bind_err, Out.bind_stuck, Out.of_some, Out.of_none, Out.then_ok, Out.then_err, Out.then_stuck, SOut.seq_nx, SOut.seq_rt, SOut.seq_bk, SOut.seq_ct, SOut.seq_err, SOut.seq_stuck, List.map_cons, List.map_nil, List.length_cons, List.length_nil, List.replicate, List.cons_append, List.nil_append, List.getElem?_cons_zero, List.getElem?_cons_succ, List.set_cons_zero, List.set_cons_succ, Nat.reduceSub, Nat.reduceAdd, Nat.reduceLT, Nat.reduceLeDiff, Int.ofNat_eq_natCast, if_true, if_false, Bool.false_eq_true, Bool.not_true, Bool.not_false, v6, this]
    refine ⟨h1, ?_, r1⟩
    rw [tst_and q]
    rfl
  | some x =>
    rw [e] at v6
    have q : tst E26 (.cmp .IsNot (.var 6) (.cst .non)) ρ h1 = .ok true h1 := by
      have : cmpB .IsNot (fsW s (some x)) .non h1 = some true := rfl
      simp only [runB, evSs, evS, ev, evs, evO, evIt, tst, tstO, sto, stos, unpk, asgT, asgTs, Out.bind_ok, Out.bind_err, Out.bind_stuck, Out.of_some, Out.of_none, Out.then_ok, Out.then_err, Out.then_stuck, SOut.seq_nx, SOut.seq_rt, SOut.seq_bk, SOut.seq_ct, SOut.seq_err, SOut.seq_stuck, List.map_cons, List.map_nil, List.length_cons, List.length_nil, List.replicate, List.cons_append, List.nil_append, List.getElem?_cons_zero, List.getElem?_cons_succ, List.set_cons_zero, List.set_cons_succ, Nat.reduceSub, Nat.reduceAdd, Nat.reduceLT, Nat.reduceLeDiff, Int.ofNat_eq_natCast, if_true, if_false, Bool.false_eq_true, Bool.not_true, Bool.not_false, v6, this]
    obtain ⟨h2, e2, r2⟩ := sp16 (h := h1) T.txt e
    obtain ⟨h3, e3, r3⟩ := sp16 (h := h2) T.txt e
    have l1 := ev_lst2 (F := E26) (ρ := ρ) (h := h1) (ev_call1 (f := 16) (ev_var v4) ((e26 (by decide) _ _).trans e2)) (ev_callk1 (f := 16) (ev_var v4) ((e26 (by decide) _ _).trans e3))
    have q1 := repF (s := s) (h := h3 ++ [IO.lst [faultW s x, faultW s x]]) (k := h3.length) (e := some x) (f := some x) get_last T
    have l2 := ev_lst2 (F := E26) (ρ := ρ) (h := h3 ++ [IO.lst [faultW s x, faultW s x]]) (a := .var 6) (b := .var 6) (ev_var v6) (ev_var v6)
    have q2 := repF (s := s) (h := (h3 ++ [IO.lst [faultW s x, faultW s x]]) ++ [IO.lst [fsW s (some x), fsW s (some x)]]) (k := (h3 ++ [IO.lst [faultW s x, faultW s x]]).length) (e := some x) (f := some x) get_last T
    refine ⟨(h3 ++ [IO.lst [faultW s x, faultW s x]]) ++ [IO.lst [fsW s (some x), fsW s (some x)]], ?_, ((r1.trans r2).trans r3).trans (Rn.app.trans Rn.app)⟩
    rw [tst_and q, if_pos rfl]
    exact ne_rep l1 q1 l2 q2
theorem m7 {y : List Nat} {d : Nat} (T : TT s) (hd : blk d = true) (yl : y.length ≤ 10) (yc : ∀ c ∈ d :: y, c < 128) (v5 : ρ[5]? = some (some (.ref k5))) (v6 : ρ[6]? = some (some (fsW s (looked s).2))) (v8 : ρ[8]? = some (some (tx (s ++ d :: y)))) (f5 : h[k5]? = some (.lst ((looked s).1.map (wtok s)))) :
    ∃ h', tst E26 M7c ρ h = .ok false h' ∧ Rn none h h' := by
  have nn : ∀ k : Nat, (none : Option Nat) ≠ some k := fun k z => nomatch z
  have T2 : Txt (s ++ d :: y) := ⟨by rw [List.length_append, List.length_cons]; have := T.len; omega, fun c hc => by
    rcases List.mem_append.mp hc with q | q
    · have := T.chr c q
      omega
    · have := yc c q
      omega⟩
  cases e : (looked s).2 with
  | none =>
    rw [e] at v6
    have q : tst E26 (.cmp .IsNot (.var 6) (.cst .non)) ρ h = .ok false h := by
      have : cmpB .IsNot (fsW s none) .non h = some false := rfl
      simp only [runB, evSs, evS, ev, evs, evO, evIt, tst, tstO, sto, stos, unpk, asgT, asgTs, Out.bind_ok, Out.bind_err, Out.bind_stuck, Out.of_some, Out.of_none, Out.then_ok, Out.then_err, Out.then_stuck, SOut.seq_nx, SOut.seq_rt, SOut.seq_bk, SOut.seq_ct, SOut.seq_err, SOut.seq_stuck, List.map_cons, List.map_nil, List.length_cons, List.length_nil, List.replicate, List.cons_append, List.nil_append, List.getElem?_cons_zero, List.getElem?_cons_succ, List.set_cons_zero, List.set_cons_succ, Nat.reduceSub, Nat.reduceAdd, Nat.reduceLT, Nat.reduceLeDiff, Int.ofNat_eq_natCast, if_true, if_false, Bool.false_eq_true, Bool.not_true, Bool.not_false, v6, this]
    refine ⟨h, ?_, Rn.refl⟩
    rw [M7c, tst_and q]
    rfl
  | some x =>
    rw [e] at v6
    have q : tst E26 (.cmp .IsNot (.var 6) (.cst .non)) ρ h = .ok true h := by
      have : cmpB .IsNot (fsW s (some x)) .non h = some true := rfl
      simp only [runB, evSs, evS, ev, evs, evO, evIt, tst, tstO, sto, stos, unpk, asgT, asgTs, Out.bind_ok, Out.bind_err, Out.bind_stuck, Out.of_some, Out.of_none, Out.then_ok, Out.then_err, Out.then_stuck, SOut.seq_nx, SOut.seq_rt, SOut.seq_bk, SOut.seq_ct, SOut.seq_err, SOut.seq_stuck, List.map_cons, List.map_nil, List.length_cons, List.length_nil, List.replicate, List.cons_append, List.nil_append, List.getElem?_cons_zero, List.getElem?_cons_succ, List.set_cons_zero, List.set_cons_succ, Nat.reduceSub, Nat.reduceAdd, Nat.reduceLT, Nat.reduceLeDiff, Int.ofNat_eq_natCast, if_true, if_false, Bool.false_eq_true, Bool.not_true, Bool.not_false, v6, this]
    have tl : tst E26 (.cmp .Lt (.blt .len [.var 8]) (.cst (.int 4000))) ρ h = .ok (decide ((s ++ d :: y).length < 4000)) h := by
      have : decide (((s ++ d :: y).length : Int) < 4000) = decide ((s ++ d :: y).length < 4000) := decide_eq_decide.mpr ⟨fun z => by omega, fun z => by omega⟩
      simp only [ev, evs, tst, v8, Out.bind_ok, Out.of_some, tx_len T2.big, cmp_lt, this]
    rw [M7c, tst_and q, if_pos rfl, tst_and tl]
    by_cases hl : (s ++ d :: y).length < 4000
    · rw [decide_eq_true hl, if_pos rfl]
      have lm := looked_more hd (Nat.le_of_lt hl) (by rw [e]; exact fun z => nomatch z)
      obtain ⟨ps, px⟩ := looked_pos s
      obtain ⟨ka, h1, e1, r1, fa, la⟩ := sp7 (h := h) T2
      rw [lm, toks_more ps] at fa
      obtain ⟨h2, e2, r2⟩ := sp8 (h := h1) T2
      rw [lm, e, fs_more (px x e).1] at e2
      have l1 := ev_lst2 (F := E26) (ρ := ρ) (h := h) (ev_call1 (f := 7) (ev_var v8) ((e26 (by decide) _ _).trans e1)) (ev_call1 (f := 8) (ev_var v8) ((e26 (by decide) _ _).trans e2))
      obtain ⟨h3, eh3⟩ : ∃ h3, h3 = h2 ++ [IO.lst [.ref ka, fsW s (some x)]] := ⟨_, rfl⟩
      have r3 : Rn none h2 h3 := by rw [eh3]; exact Rn.app
      have q1 := rep2 (h := h3) (k := h2.length) (by rw [eh3]; exact get_last) ((r2.trans r3).get fa (nn _)) T rfl
      rw [← eh3] at l1
      have l2 := ev_lst2 (F := E26) (ρ := ρ) (h := h3) (a := .var 5) (b := .var 6) (ev_var v5) (ev_var v6)
      obtain ⟨h4, eh4⟩ : ∃ h4, h4 = h3 ++ [IO.lst [.ref k5, fsW s (some x)]] := ⟨_, rfl⟩
      have r4 : Rn none h3 h4 := by rw [eh4]; exact Rn.app
      have R4 := ((r1.trans r2).trans r3).trans r4
      have q2 := rep2 (h := h4) (k := h3.length) (by rw [eh4]; exact get_last) (R4.get f5 (nn _)) T rfl
      rw [← eh4] at l2
      exact ⟨h4, ne_rep l1 q1 l2 q2, R4⟩
    · rw [decide_eq_false hl]
      exact ⟨h, rfl, Rn.refl⟩
end
end K11

set_option Elab.async false
set_option linter.all false
set_option autoImplicit false
set_option maxRecDepth 100000
set_option maxHeartbeats 4000000
namespace K11
open PySem PySem.Spec PyProof.Rows L2 Itp
section
variable {n m : Nat} {h : IH}
/-- one of ten turns -/
theorem turn (P : Pot h n) (Q : Pot h m) (ne : n ≠ m) {x0 x3 x4 x5 x6 x7 x8 : Option W} : ∃ y4 y5 y6 y7 y8 h', evSs E26 100000 MB [x0, some (.ref n), some (.ref m), x3, x4, x5, x6, x7, x8] h = .nx [x0, some (.ref n), some (.ref m), x3, y4, y5, y6, y7, y8] h' ∧ R2 n m h h' := by
  have nn : ∀ k : Nat, (none : Option Nat) ≠ some k := fun k z => nomatch z
  obtain ⟨s, h1, e1, R1, T⟩ := sp25 P Q ne
  have s0 : evS E26 100000 (.asg (.name 4) (.call 25 [.var 1, .var 2])) [x0, some (.ref n), some (.ref m), x3, x4, x5, x6, x7, x8] h = .nx [x0, some (.ref n), some (.ref m), x3, some (tx s), x5, x6, x7, x8] h1 := by
    simp only [runB, evSs, evS, ev, evs, evO, evIt, tst, tstO, sto, stos, unpk, asgT, asgTs, Out.bind_ok, Out.bind_err, Out.bind_stuck, Out.of_some, Out.of_none, Out.then_ok, Out.then_err, Out.then_stuck, SOut.seq_nx, SOut.seq_rt, SOut.seq_bk, SOut.seq_ct, SOut.seq_err, SOut.seq_stuck, List.map_cons, List.map_nil, List.length_cons, List.length_nil, List.replicate, List.cons_append, List.nil_append, List.getElem?_cons_zero, List.getElem?_cons_succ, List.set_cons_zero, List.set_cons_succ, Nat.reduceSub, Nat.reduceAdd, Nat.reduceLT, Nat.reduceLeDiff, Int.ofNat_eq_natCast, if_true, if_false, Bool.false_eq_true, Bool.not_true, Bool.not_false, env_lt (show 25 < 26 by decide), e1]
  obtain ⟨k5, h2, e2, r2, f5, l5⟩ := sp23 (h := h1) T.txt
  have s1 : evS E26 100000 (.asg (.tup [.name 5, .name 6]) (.call 23 [.var 4])) [x0, some (.ref n), some (.ref m), x3, some (tx s), x5, x6, x7, x8] h1 = .nx [x0, some (.ref n), some (.ref m), x3, some (tx s), some (.ref k5), some (fsW s (looked s).2), x7, x8] h2 := by
    simp only [runB, evSs, evS, ev, evs, evO, evIt, tst, tstO, sto, stos, unpk, asgT, asgTs, Out.bind_ok, Out.bind_err, Out.bind_stuck, Out.of_some, Out.of_none, Out.then_ok, Out.then_err, Out.then_stuck, SOut.seq_nx, SOut.seq_rt, SOut.seq_bk, SOut.seq_ct, SOut.seq_err, SOut.seq_stuck, List.map_cons, List.map_nil, List.length_cons, List.length_nil, List.replicate, List.cons_append, List.nil_append, List.getElem?_cons_zero, List.getElem?_cons_succ, List.set_cons_zero, List.set_cons_succ, Nat.reduceSub, Nat.reduceAdd, Nat.reduceLT, Nat.reduceLeDiff, Int.ofNat_eq_natCast, if_true, if_false, Bool.false_eq_true, Bool.not_true, Bool.not_false, env_lt (show 23 < 26 by decide), e2, itemsOf_tup]
  obtain ⟨k7, h3, e3, r3, f7, l7⟩ := sp7 (h := h2) T.txt
  have s2 : evS E26 100000 (.asg (.name 7) (.call 7 [.var 4])) [x0, some (.ref n), some (.ref m), x3, some (tx s), some (.ref k5), some (fsW s (looked s).2), x7, x8] h2 = .nx [x0, some (.ref n), some (.ref m), x3, some (tx s), some (.ref k5), some (fsW s (looked s).2), some (.ref k7), x8] h3 := by
    simp only [runB, evSs, evS, ev, evs, evO, evIt, tst, tstO, sto, stos, unpk, asgT, asgTs, Out.bind_ok, Out.bind_err, Out.bind_stuck, Out.of_some, Out.of_none, Out.then_ok, Out.then_err, Out.then_stuck, SOut.seq_nx, SOut.seq_rt, SOut.seq_bk, SOut.seq_ct, SOut.seq_err, SOut.seq_stuck, List.map_cons, List.map_nil, List.length_cons, List.length_nil, List.replicate, List.cons_append, List.nil_append, List.getElem?_cons_zero, List.getElem?_cons_succ, List.set_cons_zero, List.set_cons_succ, Nat.reduceSub, Nat.reduceAdd, Nat.reduceLT, Nat.reduceLeDiff, Int.ofNat_eq_natCast, if_true, if_false, Bool.false_eq_true, Bool.not_true, Bool.not_false, env_lt (show 7 < 26 by decide), e3]
  have g5 := r3.get f5 (nn _)
  have pl := (R1.pn P).lt
  have ql := (R1.pm Q).lt
  have l52 := (List.getElem?_eq_some_iff.mp f5).1
  obtain ⟨h4, t3, r4⟩ := m3 (ρ := [x0, some (.ref n), some (.ref m), x3, some (tx s), some (.ref k5), some (fsW s (looked s).2), some (.ref k7), x8]) T rfl rfl rfl rfl g5 f7
  have a7 := r4.get f7 (nn _)
  have R4 : R2 n m h h4 := ((R1.trans (R2.of0 r2)).trans (R2.of0 r3)).trans (R2.of0 r4)
  have tl : ((looked s).1.map (wtok s)).length < lineLen := by
    rw [List.length_map]
    have z : (looked s).1.length ≤ tot (looked s).1 := by
      have q := (looked_tot s).2
      generalize (looked s).1 = L at q
      induction L with
      | nil => exact Nat.zero_le _
      | cons t L ih =>
        rw [tot_cons, List.length_cons]
        have := (q t List.mem_cons_self).1
        have := ih fun u hu => q u (List.mem_cons_of_mem _ hu)
        omega
    have := (looked_tot s).1
    have := T.nb
    exact Nat.lt_of_le_of_lt (show (looked s).1.length ≤ 140 by omega) (by decide)
  have s4 := evS_app1 (F := E26) (gas := 100000) (v := 7) (e := .cst .non) (ρ := [x0, some (.ref n), some (.ref m), x3, some (tx s), some (.ref k5), some (fsW s (looked s).2), some (.ref k7), x8]) (h := h4) (h1 := h4) (w := .non) rfl a7 ev_cst tl
  obtain ⟨h5, eh5⟩ : ∃ h5, h5 = h4.set k7 (.lst ((looked s).1.map (wtok s) ++ [.non])) := ⟨_, rfl⟩
  rw [← eh5] at s4
  have le1 := R1.le
  have le2 := r2.le
  have R5 : R2 n m h h5 := by
    rw [eh5]
    exact R4.set (by omega) P Q
  have b5 : h5[k5]? = some (.lst ((looked s).1.map (wtok s))) := by
    rw [eh5, List.getElem?_set_ne (by omega)]
    exact r4.get g5 (nn _)
  obtain ⟨h6, t5, r6⟩ := m5 (ρ := [x0, some (.ref n), some (.ref m), x3, some (tx s), some (.ref k5), some (fsW s (looked s).2), some (.ref k7), x8]) T rfl rfl rfl b5
  have R6 := R5.trans (R2.of0 r6)
  have b6 := r6.get b5 (nn _)
  obtain ⟨y, hy, h7, e7, r7⟩ := pick_txts (F := E26) (v := 2) (ρ := [x0, some (.ref n), some (.ref m), x3, some (tx s), some (.ref k5), some (fsW s (looked s).2), some (.ref k7), x8]) (env_lt (show 19 < 26 by decide)) (R6.pm Q) rfl A7 (by decide) (by decide)
  have R7 := R6.trans (R2.of_m r7 ne)
  have b7 : h7[k5]? = some (.lst ((looked s).1.map (wtok s))) := r7.get b6 (fun z => by
    have : m = k5 := Option.some.inj z
    omega)
  obtain ⟨d, y', ey, hd, yl, yc⟩ : ∃ d y', y = d :: y' ∧ blk d = true ∧ y'.length ≤ 10 ∧ ∀ c ∈ d :: y', c < 128 := by
    have : y = [32, 63] ∨ y = [32, 48] ∨ y = [10, 59] ∨ y = [32, 97, 98, 99] := by simpa [A7] using hy
    rcases this with q | q | q | q
    · exact ⟨_, _, q, by decide, by decide, by decide⟩
    · exact ⟨_, _, q, by decide, by decide, by decide⟩
    · exact ⟨_, _, q, by decide, by decide, by decide⟩
    · exact ⟨_, _, q, by decide, by decide, by decide⟩
  rw [ey] at e7
  have s6 : evS E26 100000 M6 [x0, some (.ref n), some (.ref m), x3, some (tx s), some (.ref k5), some (fsW s (looked s).2), some (.ref k7), x8] h6 = .nx [x0, some (.ref n), some (.ref m), x3, some (tx s), some (.ref k5), some (fsW s (looked s).2), some (.ref k7), some (tx (s ++ d :: y'))] h7 := by
    have a := tx_add (hp := h7) (a := s) (b := d :: y') (Nat.le_trans (show s.length + (d :: y').length ≤ 5000 by rw [List.length_cons]; have := T.len; omega) (by decide))
    have q : ∀ (x y : IE) (ρ : IS), ev E26 (.bin .Add x y) ρ h6 = (ev E26 x ρ h6).bind fun u h => (ev E26 y ρ h).bind fun v h => .of (binF .Add u v h) := fun x y ρ => by simp only [ev]
    refine evS_asg ?_
    rw [q, ev_var (i := 4) (w := tx s) rfl, Out.bind_ok, e7, Out.bind_ok, a]
    rfl
  obtain ⟨h8, t7, r8⟩ := m7 (ρ := [x0, some (.ref n), some (.ref m), x3, some (tx s), some (.ref k5), some (fsW s (looked s).2), some (.ref k7), some (tx (s ++ d :: y'))]) T hd yl yc rfl rfl rfl b7
  refine ⟨some (tx s), some (.ref k5), some (fsW s (looked s).2), some (.ref k7), some (tx (s ++ d :: y')), h8, ?_, R7.trans (R2.of0 r8)⟩
  rw [MB, evSs_cons s0, evSs_cons s1, evSs_cons s2, evSs_cons (evS_pass t3), M4, evSs_cons s4, evSs_cons (evS_pass t5), evSs_cons s6, evSs_cons (evS_pass t7)]
  simp only [evSs]
end
theorem law_holds (ns : List Int) (hn : ns.length ≤ 63) : ∃ hp, G dcs 26 [.ref 0] [.flst (ns.map W.int)] = .ok (.bl true) hp := by
  obtain ⟨h, eh⟩ : ∃ h : IH, h = [.flst (ns.map W.int)] := ⟨_, rfl⟩
  have e0 : h[0]? = some (.flst (ns.map .int)) := by rw [eh]; rfl
  have hl : h.length = 1 := by rw [eh]; rfl
  rw [← eh]
  obtain ⟨p0, p1, ep, z0, z1, z2⟩ := s_pot (k := 0) e0 (by decide)
  obtain ⟨h1, eh1⟩ : ∃ h1, h1 = h ++ [IO.lst [.int p0, .int p1]] := ⟨_, rfl⟩
  rw [← eh1] at ep
  have f0 : h1[0]? = some (.flst (ns.map .int)) := by rw [eh1, List.getElem?_append_left (by omega)]; exact e0
  obtain ⟨q0, q1, eq, w0, w1, w2⟩ := s_pot (k := 1) f0 (by decide)
  obtain ⟨h2, eh2⟩ : ∃ h2, h2 = h1 ++ [IO.lst [.int q0, .int q1]] := ⟨_, rfl⟩
  rw [← eh2] at eq
  have hl1 : h1.length = 2 := by rw [eh1, List.length_append, hl]; rfl
  have P : Pot h2 h.length := by
    rw [eh2]
    exact Pot.app ⟨p0, p1, by rw [eh1]; exact get_last, z0, z1, z2⟩
  have Q : Pot h2 h1.length := ⟨q0, q1, by rw [eh2]; exact get_last, w0, w1, w2⟩
  have ne : h.length ≠ h1.length := by omega
  have s0 : evS E26 100000 M0 [some (.ref 0), none, none, none, none, none, none, none, none] h = .nx [some (.ref 0), some (.ref h.length), some (.ref h1.length), none, none, none, none, none, none] h2 := by
    have ep' : G dcs 17 [.ref 0, .int 0] h = .ok (.ref h.length) h1 := ep
    have eq' : G dcs 17 [.ref 0, .int 1] h1 = .ok (.ref h1.length) h2 := eq
    simp only [M0, runB, evSs, evS, ev, evs, evO, evIt, tst, tstO, sto, stos, unpk, asgT, asgTs, Out.bind_ok, Out.bind_err, Out.bind_stuck, Out.of_some, Out.of_none, Out.then_ok, Out.then_err, Out.then_stuck, SOut.seq_nx, SOut.seq_rt, SOut.seq_bk, SOut.seq_ct, SOut.seq_err, SOut.seq_stuck, List.map_cons, List.map_nil, List.length_cons, List.length_nil, List.replicate, List.cons_append, List.nil_append, List.getElem?_cons_zero, List.getElem?_cons_succ, List.set_cons_zero, List.set_cons_succ, Nat.reduceSub, Nat.reduceAdd, Nat.reduceLT, Nat.reduceLeDiff, Int.ofNat_eq_natCast, if_true, if_false, Bool.false_eq_true, Bool.not_true, Bool.not_false, env_lt (show 17 < 26 by decide), ep', eq', small2, itemsOf_tup]
  have hit : evIt E26 (.rng (.cst (.int 10))) [some (.ref 0), some (.ref h.length), some (.ref h1.length), none, none, none, none, none, none] h2 = .ok (.rng 0 10) h2 := evIt_rng (n := 10) ev_cst ⟨by decide, by decide⟩
  obtain ⟨ρ', h3, e3, _⟩ := for_run (body := evSs E26 100000 MB) (t := .name 3) (J := .rng 0 10)
    (fun i ρ hp => ∃ x3 x4 x5 x6 x7 x8, ρ = [some (.ref 0), some (.ref h.length), some (.ref h1.length), x3, x4, x5, x6, x7, x8] ∧ Pot hp h.length ∧ Pot hp h1.length) 10
    (fun i ρ hp hi ⟨x3, x4, x5, x6, x7, x8, er, P, Q⟩ => by
      subst er
      obtain ⟨y4, y5, y6, y7, y8, h', e, R⟩ := turn P Q ne (x0 := some (.ref 0)) (x3 := some (.int (0 + (i : Int)))) (x4 := x4) (x5 := x5) (x6 := x6) (x7 := x7) (x8 := x8)
      exact ⟨.int (0 + (i : Int)), _, _, _, by rw [cur_rng, if_pos hi], rfl, .inl e, _, _, _, _, _, _, rfl, R.pn P, R.pm Q⟩)
    (fun ρ hp _ => by rw [cur_rng, if_neg (by omega)]) 10 0 _ h2 rfl ⟨none, none, none, none, none, none, rfl, P, Q⟩
  have s1 : evS E26 100000 (.forS (.name 3) (.rng (.cst (.int 10))) MB) [some (.ref 0), some (.ref h.length), some (.ref h1.length), none, none, none, none, none, none] h2 = .nx ρ' h3 := by
    rw [evS_for hit]
    exact e3
  obtain ⟨h4, e4⟩ := fin_any (h := h) (h1 := h3) (w := .bl true)
  refine ⟨h4, ?_⟩
  rw [g_law rfl, ← e4]
  congr 1
  rw [law_eq]
  refine runB_rt ?_
  refine (evSs_cons s0).trans ((evSs_cons s1).trans ?_)
  exact evSs_ret (evS_ret ev_cst)
end K11

set_option Elab.async false
set_option maxRecDepth 100000
set_option maxHeartbeats 8000000
namespace K11
open PySem PySem.Spec PyProof.Rows L2 Itp
theorem all_mk {l : PySem.W.OpenLaw} {w : World} {K : PySem.W.Frag} {h : Heap} {mg : Str → Option Value} {fa : Addr} {ca : Nat → Addr} (X : K.In h) (Gr : h.Ns mainGlobals mg) (hfa : mg "law" = some (.ref fa))
    {t1 : Tok} {t2 : Tok} {t3 : Tok} {t4 : Tok} {t5 : Tok} {t6 : Tok} {t7 : Tok} {t8 : Tok} {t10 : Tok} {t11 : Tok} {a9 : Addr} {od9 : Option Addr} {m9 : Nat} {sl9 : Array (Option Value)} {t12 : Tok} {t13 : Tok} {t14 : Tok} {t15 : Tok} {t16 : Tok} {t18 : Tok} {t19 : Tok} {t20 : Tok} {t21 : Tok} {t22 : Tok} {t23 : Tok} {t24 : Tok} {t25 : Tok} {t26 : Tok} {t27 : Tok} {a17 : Addr} {od17 : Option Addr} {m17 : Nat} {sl17 : Array (Option Value)} {fa0 : Addr} {od_0 : Option Addr} {an_0 : Option Addr} {sl_0 : Array (Option Value)} {oc_0 : Value} {kV_0 : Value} {dc_0 : Value} {pmv_0 : Value} {cdv_0 : Value} {ctv_0 : Value} {fa1 : Addr} {od_1 : Option Addr} {an_1 : Option Addr} {sl_1 : Array (Option Value)} {oc_1 : Value} {kV_1 : Value} {dc_1 : Value} {pmv_1 : Value} {cdv_1 : Value} {ctv_1 : Value} {fa2 : Addr} {od_2 : Option Addr} {an_2 : Option Addr} {sl_2 : Array (Option Value)} {oc_2 : Value} {kV_2 : Value} {dc_2 : Value} {pmv_2 : Value} {cdv_2 : Value} {ctv_2 : Value} {fa3 : Addr} {od_3 : Option Addr} {an_3 : Option Addr} {sl_3 : Array (Option Value)} {oc_3 : Value} {kV_3 : Value} {dc_3 : Value} {pmv_3 : Value} {cdv_3 : Value} {ctv_3 : Value} {fa4 : Addr} {od_4 : Option Addr} {an_4 : Option Addr} {sl_4 : Array (Option Value)} {oc_4 : Value} {kV_4 : Value} {dc_4 : Value} {pmv_4 : Value} {cdv_4 : Value} {ctv_4 : Value} {fa5 : Addr} {od_5 : Option Addr} {an_5 : Option Addr} {sl_5 : Array (Option Value)} {oc_5 : Value} {kV_5 : Value} {dc_5 : Value} {pmv_5 : Value} {cdv_5 : Value} {ctv_5 : Value} {fa6 : Addr} {od_6 : Option Addr} {an_6 : Option Addr} {sl_6 : Array (Option Value)} {oc_6 : Value} {kV_6 : Value} {dc_6 : Value} {pmv_6 : Value} {cdv_6 : Value} {ctv_6 : Value} {fa7 : Addr} {od_7 : Option Addr} {an_7 : Option Addr} {sl_7 : Array (Option Value)} {oc_7 : Value} {kV_7 : Value} {dc_7 : Value} {pmv_7 : Value} {cdv_7 : Value} {ctv_7 : Value} {fa8 : Addr} {od_8 : Option Addr} {an_8 : Option Addr} {sl_8 : Array (Option Value)} {oc_8 : Value} {kV_8 : Value} {dc_8 : Value} {pmv_8 : Value} {cdv_8 : Value} {ctv_8 : Value} {fa9 : Addr} {od_9 : Option Addr} {an_9 : Option Addr} {sl_9 : Array (Option Value)} {oc_9 : Value} {kV_9 : Value} {dc_9 : Value} {pmv_9 : Value} {cdv_9 : Value} {ctv_9 : Value} {fa10 : Addr} {od_10 : Option Addr} {an_10 : Option Addr} {sl_10 : Array (Option Value)} {oc_10 : Value} {kV_10 : Value} {dc_10 : Value} {pmv_10 : Value} {cdv_10 : Value} {ctv_10 : Value} {fa11 : Addr} {od_11 : Option Addr} {an_11 : Option Addr} {sl_11 : Array (Option Value)} {oc_11 : Value} {kV_11 : Value} {dc_11 : Value} {pmv_11 : Value} {cdv_11 : Value} {ctv_11 : Value} {fa12 : Addr} {od_12 : Option Addr} {an_12 : Option Addr} {sl_12 : Array (Option Value)} {oc_12 : Value} {kV_12 : Value} {dc_12 : Value} {pmv_12 : Value} {cdv_12 : Value} {ctv_12 : Value} {fa13 : Addr} {od_13 : Option Addr} {an_13 : Option Addr} {sl_13 : Array (Option Value)} {oc_13 : Value} {kV_13 : Value} {dc_13 : Value} {pmv_13 : Value} {cdv_13 : Value} {ctv_13 : Value} {fa14 : Addr} {od_14 : Option Addr} {an_14 : Option Addr} {sl_14 : Array (Option Value)} {oc_14 : Value} {kV_14 : Value} {dc_14 : Value} {pmv_14 : Value} {cdv_14 : Value} {ctv_14 : Value} {fa15 : Addr} {od_15 : Option Addr} {an_15 : Option Addr} {sl_15 : Array (Option Value)} {oc_15 : Value} {kV_15 : Value} {dc_15 : Value} {pmv_15 : Value} {cdv_15 : Value} {ctv_15 : Value} {fa16 : Addr} {od_16 : Option Addr} {an_16 : Option Addr} {sl_16 : Array (Option Value)} {oc_16 : Value} {kV_16 : Value} {dc_16 : Value} {pmv_16 : Value} {cdv_16 : Value} {ctv_16 : Value} {fa17 : Addr} {od_17 : Option Addr} {an_17 : Option Addr} {sl_17 : Array (Option Value)} {oc_17 : Value} {kV_17 : Value} {dc_17 : Value} {pmv_17 : Value} {cdv_17 : Value} {ctv_17 : Value} {fa18 : Addr} {od_18 : Option Addr} {an_18 : Option Addr} {sl_18 : Array (Option Value)} {oc_18 : Value} {kV_18 : Value} {dc_18 : Value} {pmv_18 : Value} {cdv_18 : Value} {ctv_18 : Value} {fa19 : Addr} {od_19 : Option Addr} {an_19 : Option Addr} {sl_19 : Array (Option Value)} {oc_19 : Value} {kV_19 : Value} {dc_19 : Value} {pmv_19 : Value} {cdv_19 : Value} {ctv_19 : Value} {fa20 : Addr} {od_20 : Option Addr} {an_20 : Option Addr} {sl_20 : Array (Option Value)} {oc_20 : Value} {kV_20 : Value} {dc_20 : Value} {pmv_20 : Value} {cdv_20 : Value} {ctv_20 : Value} {fa21 : Addr} {od_21 : Option Addr} {an_21 : Option Addr} {sl_21 : Array (Option Value)} {oc_21 : Value} {kV_21 : Value} {dc_21 : Value} {pmv_21 : Value} {cdv_21 : Value} {ctv_21 : Value} {fa22 : Addr} {od_22 : Option Addr} {an_22 : Option Addr} {sl_22 : Array (Option Value)} {oc_22 : Value} {kV_22 : Value} {dc_22 : Value} {pmv_22 : Value} {cdv_22 : Value} {ctv_22 : Value} {fa23 : Addr} {od_23 : Option Addr} {an_23 : Option Addr} {sl_23 : Array (Option Value)} {oc_23 : Value} {kV_23 : Value} {dc_23 : Value} {pmv_23 : Value} {cdv_23 : Value} {ctv_23 : Value} {fa24 : Addr} {od_24 : Option Addr} {an_24 : Option Addr} {sl_24 : Array (Option Value)} {oc_24 : Value} {kV_24 : Value} {dc_24 : Value} {pmv_24 : Value} {cdv_24 : Value} {ctv_24 : Value} {fa25 : Addr} {od_25 : Option Addr} {an_25 : Option Addr} {sl_25 : Array (Option Value)} {oc_25 : Value} {kV_25 : Value} {dc_25 : Value} {pmv_25 : Value} {cdv_25 : Value} {ctv_25 : Value} {fa26 : Addr} {od_26 : Option Addr} {an_26 : Option Addr} {sl_26 : Array (Option Value)} {oc_26 : Value} {kV_26 : Value} {dc_26 : Value} {pmv_26 : Value} {cdv_26 : Value} {ctv_26 : Value}
    (g_MOST_NAMES : PySem.W.nsIn K mainGlobals "MOST_NAMES" = some (some (.int 9 t1)))
    (g_MOST_ITEMS : PySem.W.nsIn K mainGlobals "MOST_ITEMS" = some (some (.int 60 t2)))
    (g_NOWHERE : PySem.W.nsIn K mainGlobals "NOWHERE" = some (some (.str "nowhere" t3)))
    (g_NUMERAL : PySem.W.nsIn K mainGlobals "NUMERAL" = some (some (.str "NUMERAL" t4)))
    (g_NAME : PySem.W.nsIn K mainGlobals "NAME" = some (some (.str "NAME" t5)))
    (g_END : PySem.W.nsIn K mainGlobals "END" = some (some (.str "END" t6)))
    (g_MOST_DIGITS : PySem.W.nsIn K mainGlobals "MOST_DIGITS" = some (some (.int 9 t7)))
    (g_MOST_SIGNS : PySem.W.nsIn K mainGlobals "MOST_SIGNS" = some (some (.int 4000 t8)))
    (g_SIGNS : PySem.W.nsIn K mainGlobals "SIGNS" = some (some (.ref a9)))
    (lt9 : K.lookup a9 = some ⟨.type "tuple", od9, .seq #[.str ";" t10, .str "/" t11] m9, sl9⟩)
    (g_SIGN : PySem.W.nsIn K mainGlobals "SIGN" = some (some (.str ";" t12)))
    (g_BLANKS : PySem.W.nsIn K mainGlobals "BLANKS" = some (some (.str " \n" t13)))
    (g_DIGITS : PySem.W.nsIn K mainGlobals "DIGITS" = some (some (.str "0123456789" t14)))
    (g_MOST_LETTERS : PySem.W.nsIn K mainGlobals "MOST_LETTERS" = some (some (.int 8 t15)))
    (g_LETTERS : PySem.W.nsIn K mainGlobals "LETTERS" = some (some (.str "abcdefghijklmnopqrstuvwxyz" t16)))
    (g_CLOSED : PySem.W.nsIn K mainGlobals "CLOSED" = some (some (.ref a17)))
    (lt17 : K.lookup a17 = some ⟨.type "tuple", od17, .seq #[.str "house" t18, .str "cash" t19, .str "like" t20, .str "debt" t21, .str "owes" t22, .str "times" t23, .str "each" t24, .str "day" t25, .str "bound" t26, .str "to" t27] m17, sl17⟩)
    (z_abs : PySem.W.nsIn K mainGlobals "abs" = some none)
    (z_dict : PySem.W.nsIn K mainGlobals "dict" = some none)
    (z_divmod : PySem.W.nsIn K mainGlobals "divmod" = some none)
    (z_int : PySem.W.nsIn K mainGlobals "int" = some none)
    (z_isinstance : PySem.W.nsIn K mainGlobals "isinstance" = some none)
    (z_len : PySem.W.nsIn K mainGlobals "len" = some none)
    (z_list : PySem.W.nsIn K mainGlobals "list" = some none)
    (z_max : PySem.W.nsIn K mainGlobals "max" = some none)
    (z_range : PySem.W.nsIn K mainGlobals "range" = some none)
    (z_repr : PySem.W.nsIn K mainGlobals "repr" = some none)
    (z_sorted : PySem.W.nsIn K mainGlobals "sorted" = some none)
    (z_str : PySem.W.nsIn K mainGlobals "str" = some none)
    (a_0 : PySem.W.nsIn K mainGlobals "place_behind" = some (some (.ref fa0)))
    (l_0 : K.lookup fa0 = some ⟨oc_0, od_0, .func (PySem.W.fnOf "place_behind" "place_behind" (defArgs s_place_behind) (defBody s_place_behind) (defScope s_place_behind) .none kV_0 dc_0 pmv_0 an_0 cdv_0 ctv_0), sl_0⟩)
    (cc_0 : PySem.W.codeIn K cdv_0 "place_behind" = true)
    (k_0 : PySem.W.keepIn K (.ref fa0) = true)
    (a_1 : PySem.W.nsIn K mainGlobals "signs_of" = some (some (.ref fa1)))
    (l_1 : K.lookup fa1 = some ⟨oc_1, od_1, .func (PySem.W.fnOf "signs_of" "signs_of" (defArgs s_signs_of) (defBody s_signs_of) (defScope s_signs_of) .none kV_1 dc_1 pmv_1 an_1 cdv_1 ctv_1), sl_1⟩)
    (cc_1 : PySem.W.codeIn K cdv_1 "signs_of" = true)
    (k_1 : PySem.W.keepIn K (.ref fa1) = true)
    (a_2 : PySem.W.nsIn K mainGlobals "run_at" = some (some (.ref fa2)))
    (l_2 : K.lookup fa2 = some ⟨oc_2, od_2, .func (PySem.W.fnOf "run_at" "run_at" (defArgs s_run_at) (defBody s_run_at) (defScope s_run_at) .none kV_2 dc_2 pmv_2 an_2 cdv_2 ctv_2), sl_2⟩)
    (cc_2 : PySem.W.codeIn K cdv_2 "run_at" = true)
    (k_2 : PySem.W.keepIn K (.ref fa2) = true)
    (a_3 : PySem.W.nsIn K mainGlobals "wrong_with" = some (some (.ref fa3)))
    (l_3 : K.lookup fa3 = some ⟨oc_3, od_3, .func (PySem.W.fnOf "wrong_with" "wrong_with" (defArgs s_wrong_with) (defBody s_wrong_with) (defScope s_wrong_with) .none kV_3 dc_3 pmv_3 an_3 cdv_3 ctv_3), sl_3⟩)
    (cc_3 : PySem.W.codeIn K cdv_3 "wrong_with" = true)
    (k_3 : PySem.W.keepIn K (.ref fa3) = true)
    (a_4 : PySem.W.nsIn K mainGlobals "scanned" = some (some (.ref fa4)))
    (l_4 : K.lookup fa4 = some ⟨oc_4, od_4, .func (PySem.W.fnOf "scanned" "scanned" (defArgs s_scanned) (defBody s_scanned) (defScope s_scanned) .none kV_4 dc_4 pmv_4 an_4 cdv_4 ctv_4), sl_4⟩)
    (cc_4 : PySem.W.codeIn K cdv_4 "scanned" = true)
    (k_4 : PySem.W.keepIn K (.ref fa4) = true)
    (a_5 : PySem.W.nsIn K mainGlobals "looked_over" = some (some (.ref fa5)))
    (l_5 : K.lookup fa5 = some ⟨oc_5, od_5, .func (PySem.W.fnOf "looked_over" "looked_over" (defArgs s_looked_over) (defBody s_looked_over) (defScope s_looked_over) .none kV_5 dc_5 pmv_5 an_5 cdv_5 ctv_5), sl_5⟩)
    (cc_5 : PySem.W.codeIn K cdv_5 "looked_over" = true)
    (k_5 : PySem.W.keepIn K (.ref fa5) = true)
    (a_6 : PySem.W.nsIn K mainGlobals "check_text" = some (some (.ref fa6)))
    (l_6 : K.lookup fa6 = some ⟨oc_6, od_6, .func (PySem.W.fnOf "check_text" "check_text" (defArgs s_check_text) (defBody s_check_text) (defScope s_check_text) .none kV_6 dc_6 pmv_6 an_6 cdv_6 ctv_6), sl_6⟩)
    (cc_6 : PySem.W.codeIn K cdv_6 "check_text" = true)
    (k_6 : PySem.W.keepIn K (.ref fa6) = true)
    (a_7 : PySem.W.nsIn K mainGlobals "tokens" = some (some (.ref fa7)))
    (l_7 : K.lookup fa7 = some ⟨oc_7, od_7, .func (PySem.W.fnOf "tokens" "tokens" (defArgs s_tokens) (defBody s_tokens) (defScope s_tokens) .none kV_7 dc_7 pmv_7 an_7 cdv_7 ctv_7), sl_7⟩)
    (cc_7 : PySem.W.codeIn K cdv_7 "tokens" = true)
    (k_7 : PySem.W.keepIn K (.ref fa7) = true)
    (a_8 : PySem.W.nsIn K mainGlobals "token_fault" = some (some (.ref fa8)))
    (l_8 : K.lookup fa8 = some ⟨oc_8, od_8, .func (PySem.W.fnOf "token_fault" "token_fault" (defArgs s_token_fault) (defBody s_token_fault) (defScope s_token_fault) .none kV_8 dc_8 pmv_8 an_8 cdv_8 ctv_8), sl_8⟩)
    (cc_8 : PySem.W.codeIn K cdv_8 "token_fault" = true)
    (k_8 : PySem.W.keepIn K (.ref fa8) = true)
    (a_9 : PySem.W.nsIn K mainGlobals "kind_of" = some (some (.ref fa9)))
    (l_9 : K.lookup fa9 = some ⟨oc_9, od_9, .func (PySem.W.fnOf "kind_of" "kind_of" (defArgs s_kind_of) (defBody s_kind_of) (defScope s_kind_of) .none kV_9 dc_9 pmv_9 an_9 cdv_9 ctv_9), sl_9⟩)
    (cc_9 : PySem.W.codeIn K cdv_9 "kind_of" = true)
    (k_9 : PySem.W.keepIn K (.ref fa9) = true)
    (a_10 : PySem.W.nsIn K mainGlobals "row_for" = some (some (.ref fa10)))
    (l_10 : K.lookup fa10 = some ⟨oc_10, od_10, .func (PySem.W.fnOf "row_for" "row_for" (defArgs s_row_for) (defBody s_row_for) (defScope s_row_for) .none kV_10 dc_10 pmv_10 an_10 cdv_10 ctv_10), sl_10⟩)
    (cc_10 : PySem.W.codeIn K cdv_10 "row_for" = true)
    (k_10 : PySem.W.keepIn K (.ref fa10) = true)
    (a_11 : PySem.W.nsIn K mainGlobals "opened" = some (some (.ref fa11)))
    (l_11 : K.lookup fa11 = some ⟨oc_11, od_11, .func (PySem.W.fnOf "opened" "opened" (defArgs s_opened) (defBody s_opened) (defScope s_opened) .none kV_11 dc_11 pmv_11 an_11 cdv_11 ctv_11), sl_11⟩)
    (cc_11 : PySem.W.codeIn K cdv_11 "opened" = true)
    (k_11 : PySem.W.keepIn K (.ref fa11) = true)
    (a_12 : PySem.W.nsIn K mainGlobals "led_by" = some (some (.ref fa12)))
    (l_12 : K.lookup fa12 = some ⟨oc_12, od_12, .func (PySem.W.fnOf "led_by" "led_by" (defArgs s_led_by) (defBody s_led_by) (defScope s_led_by) .none kV_12 dc_12 pmv_12 an_12 cdv_12 ctv_12), sl_12⟩)
    (cc_12 : PySem.W.codeIn K cdv_12 "led_by" = true)
    (k_12 : PySem.W.keepIn K (.ref fa12) = true)
    (a_13 : PySem.W.nsIn K mainGlobals "is_too_much" = some (some (.ref fa13)))
    (l_13 : K.lookup fa13 = some ⟨oc_13, od_13, .func (PySem.W.fnOf "is_too_much" "is_too_much" (defArgs s_is_too_much) (defBody s_is_too_much) (defScope s_is_too_much) .none kV_13 dc_13 pmv_13 an_13 cdv_13 ctv_13), sl_13⟩)
    (cc_13 : PySem.W.codeIn K cdv_13 "is_too_much" = true)
    (k_13 : PySem.W.keepIn K (.ref fa13) = true)
    (a_14 : PySem.W.nsIn K mainGlobals "walked" = some (some (.ref fa14)))
    (l_14 : K.lookup fa14 = some ⟨oc_14, od_14, .func (PySem.W.fnOf "walked" "walked" (defArgs s_walked) (defBody s_walked) (defScope s_walked) .none kV_14 dc_14 pmv_14 an_14 cdv_14 ctv_14), sl_14⟩)
    (cc_14 : PySem.W.codeIn K cdv_14 "walked" = true)
    (k_14 : PySem.W.keepIn K (.ref fa14) = true)
    (a_15 : PySem.W.nsIn K mainGlobals "fault_by" = some (some (.ref fa15)))
    (l_15 : K.lookup fa15 = some ⟨oc_15, od_15, .func (PySem.W.fnOf "fault_by" "fault_by" (defArgs s_fault_by) (defBody s_fault_by) (defScope s_fault_by) .none kV_15 dc_15 pmv_15 an_15 cdv_15 ctv_15), sl_15⟩)
    (cc_15 : PySem.W.codeIn K cdv_15 "fault_by" = true)
    (k_15 : PySem.W.keepIn K (.ref fa15) = true)
    (a_16 : PySem.W.nsIn K mainGlobals "letter_fault" = some (some (.ref fa16)))
    (l_16 : K.lookup fa16 = some ⟨oc_16, od_16, .func (PySem.W.fnOf "letter_fault" "letter_fault" (defArgs s_letter_fault) (defBody s_letter_fault) (defScope s_letter_fault) .none kV_16 dc_16 pmv_16 an_16 cdv_16 ctv_16), sl_16⟩)
    (cc_16 : PySem.W.codeIn K cdv_16 "letter_fault" = true)
    (k_16 : PySem.W.keepIn K (.ref fa16) = true)
    (a_17 : PySem.W.nsIn K mainGlobals "_law_pot" = some (some (.ref fa17)))
    (l_17 : K.lookup fa17 = some ⟨oc_17, od_17, .func (PySem.W.fnOf "_law_pot" "_law_pot" (defArgs s__law_pot) (defBody s__law_pot) (defScope s__law_pot) .none kV_17 dc_17 pmv_17 an_17 cdv_17 ctv_17), sl_17⟩)
    (cc_17 : PySem.W.codeIn K cdv_17 "_law_pot" = true)
    (k_17 : PySem.W.keepIn K (.ref fa17) = true)
    (a_18 : PySem.W.nsIn K mainGlobals "_law_draw" = some (some (.ref fa18)))
    (l_18 : K.lookup fa18 = some ⟨oc_18, od_18, .func (PySem.W.fnOf "_law_draw" "_law_draw" (defArgs s__law_draw) (defBody s__law_draw) (defScope s__law_draw) .none kV_18 dc_18 pmv_18 an_18 cdv_18 ctv_18), sl_18⟩)
    (cc_18 : PySem.W.codeIn K cdv_18 "_law_draw" = true)
    (k_18 : PySem.W.keepIn K (.ref fa18) = true)
    (a_19 : PySem.W.nsIn K mainGlobals "_law_pick" = some (some (.ref fa19)))
    (l_19 : K.lookup fa19 = some ⟨oc_19, od_19, .func (PySem.W.fnOf "_law_pick" "_law_pick" (defArgs s__law_pick) (defBody s__law_pick) (defScope s__law_pick) .none kV_19 dc_19 pmv_19 an_19 cdv_19 ctv_19), sl_19⟩)
    (cc_19 : PySem.W.codeIn K cdv_19 "_law_pick" = true)
    (k_19 : PySem.W.keepIn K (.ref fa19) = true)
    (a_20 : PySem.W.nsIn K mainGlobals "_law_kind_of" = some (some (.ref fa20)))
    (l_20 : K.lookup fa20 = some ⟨oc_20, od_20, .func (PySem.W.fnOf "_law_kind_of" "_law_kind_of" (defArgs s__law_kind_of) (defBody s__law_kind_of) (defScope s__law_kind_of) .none kV_20 dc_20 pmv_20 an_20 cdv_20 ctv_20), sl_20⟩)
    (cc_20 : PySem.W.codeIn K cdv_20 "_law_kind_of" = true)
    (k_20 : PySem.W.keepIn K (.ref fa20) = true)
    (a_21 : PySem.W.nsIn K mainGlobals "_law_lex" = some (some (.ref fa21)))
    (l_21 : K.lookup fa21 = some ⟨oc_21, od_21, .func (PySem.W.fnOf "_law_lex" "_law_lex" (defArgs s__law_lex) (defBody s__law_lex) (defScope s__law_lex) .none kV_21 dc_21 pmv_21 an_21 cdv_21 ctv_21), sl_21⟩)
    (cc_21 : PySem.W.codeIn K cdv_21 "_law_lex" = true)
    (k_21 : PySem.W.keepIn K (.ref fa21) = true)
    (a_22 : PySem.W.nsIn K mainGlobals "_law_place_at" = some (some (.ref fa22)))
    (l_22 : K.lookup fa22 = some ⟨oc_22, od_22, .func (PySem.W.fnOf "_law_place_at" "_law_place_at" (defArgs s__law_place_at) (defBody s__law_place_at) (defScope s__law_place_at) .none kV_22 dc_22 pmv_22 an_22 cdv_22 ctv_22), sl_22⟩)
    (cc_22 : PySem.W.codeIn K cdv_22 "_law_place_at" = true)
    (k_22 : PySem.W.keepIn K (.ref fa22) = true)
    (a_23 : PySem.W.nsIn K mainGlobals "_law_lexed" = some (some (.ref fa23)))
    (l_23 : K.lookup fa23 = some ⟨oc_23, od_23, .func (PySem.W.fnOf "_law_lexed" "_law_lexed" (defArgs s__law_lexed) (defBody s__law_lexed) (defScope s__law_lexed) .none kV_23 dc_23 pmv_23 an_23 cdv_23 ctv_23), sl_23⟩)
    (cc_23 : PySem.W.codeIn K cdv_23 "_law_lexed" = true)
    (k_23 : PySem.W.keepIn K (.ref fa23) = true)
    (a_24 : PySem.W.nsIn K mainGlobals "_law_piece" = some (some (.ref fa24)))
    (l_24 : K.lookup fa24 = some ⟨oc_24, od_24, .func (PySem.W.fnOf "_law_piece" "_law_piece" (defArgs s__law_piece) (defBody s__law_piece) (defScope s__law_piece) .none kV_24 dc_24 pmv_24 an_24 cdv_24 ctv_24), sl_24⟩)
    (cc_24 : PySem.W.codeIn K cdv_24 "_law_piece" = true)
    (k_24 : PySem.W.keepIn K (.ref fa24) = true)
    (a_25 : PySem.W.nsIn K mainGlobals "_law_text" = some (some (.ref fa25)))
    (l_25 : K.lookup fa25 = some ⟨oc_25, od_25, .func (PySem.W.fnOf "_law_text" "_law_text" (defArgs s__law_text) (defBody s__law_text) (defScope s__law_text) .none kV_25 dc_25 pmv_25 an_25 cdv_25 ctv_25), sl_25⟩)
    (cc_25 : PySem.W.codeIn K cdv_25 "_law_text" = true)
    (k_25 : PySem.W.keepIn K (.ref fa25) = true)
    (a_26 : PySem.W.nsIn K mainGlobals "law" = some (some (.ref fa26)))
    (l_26 : K.lookup fa26 = some ⟨oc_26, od_26, .func (PySem.W.fnOf "law" "law" (defArgs s_law) (defBody s_law) (defScope s_law) .none kV_26 dc_26 pmv_26 an_26 cdv_26 ctv_26), sl_26⟩)
    (cc_26 : PySem.W.codeIn K cdv_26 "law" = true)
    (k_26 : PySem.W.keepIn K (.ref fa26) = true)
    : ∃ fd : FuncData, (∀ (s : Shared) (v : Value), BindsTo s fd ⟨[v], []⟩ [("script", v)]) ∧ ∀ base : Heap, K.In base → base.Ns mainGlobals mg → FnG l.prog w K mg base 27 fa fd ["script"] (spG ⟨K, ca⟩ 1 (G dcs 26)) := by
  have e := hfa.symm.trans (PySem.W.mg_of X Gr a_26)
  cases e
  have T : TopOk K mg glb blt := ⟨(glb_cons (v := .ref a17) (PySem.W.mg_of X Gr g_CLOSED) (relR a17) (krep_tup lt17 rfl rfl (by show 10 ≤ sizeLine; decide) (.cons (relS "house" t18) (.cons (relS "cash" t19) (.cons (relS "like" t20) (.cons (relS "debt" t21) (.cons (relS "owes" t22) (.cons (relS "times" t23) (.cons (relS "each" t24) (.cons (relS "day" t25) (.cons (relS "bound" t26) (.cons (relS "to" t27) .nil)))))))))) (krep_cons (krep_str "house") (krep_cons (krep_str "cash") (krep_cons (krep_str "like") (krep_cons (krep_str "debt") (krep_cons (krep_str "owes") (krep_cons (krep_str "times") (krep_cons (krep_str "each") (krep_cons (krep_str "day") (krep_cons (krep_str "bound") (krep_cons (krep_str "to") krep_nil))))))))))) (glb_cons (v := .str "abcdefghijklmnopqrstuvwxyz") (PySem.W.mg_of X Gr g_LETTERS) (relS "abcdefghijklmnopqrstuvwxyz" t16) (krep_str "abcdefghijklmnopqrstuvwxyz") (glb_cons (v := .int 8) (PySem.W.mg_of X Gr g_MOST_LETTERS) (relI 8 t15) (krep_int 8) (glb_cons (v := .str "0123456789") (PySem.W.mg_of X Gr g_DIGITS) (relS "0123456789" t14) (krep_str "0123456789") (glb_cons (v := .str " \n") (PySem.W.mg_of X Gr g_BLANKS) (relS " \n" t13) (krep_str " \n") (glb_cons (v := .str ";") (PySem.W.mg_of X Gr g_SIGN) (relS ";" t12) (krep_str ";") (glb_cons (v := .ref a9) (PySem.W.mg_of X Gr g_SIGNS) (relR a9) (krep_tup lt9 rfl rfl (by show 2 ≤ sizeLine; decide) (.cons (relS ";" t10) (.cons (relS "/" t11) .nil)) (krep_cons (krep_str ";") (krep_cons (krep_str "/") krep_nil))) (glb_cons (v := .int 4000) (PySem.W.mg_of X Gr g_MOST_SIGNS) (relI 4000 t8) (krep_int 4000) (glb_cons (v := .int 9) (PySem.W.mg_of X Gr g_MOST_DIGITS) (relI 9 t7) (krep_int 9) (glb_cons (v := .str "END") (PySem.W.mg_of X Gr g_END) (relS "END" t6) (krep_str "END") (glb_cons (v := .str "NAME") (PySem.W.mg_of X Gr g_NAME) (relS "NAME" t5) (krep_str "NAME") (glb_cons (v := .str "NUMERAL") (PySem.W.mg_of X Gr g_NUMERAL) (relS "NUMERAL" t4) (krep_str "NUMERAL") (glb_cons (v := .str "nowhere") (PySem.W.mg_of X Gr g_NOWHERE) (relS "nowhere" t3) (krep_str "nowhere") (glb_cons (v := .int 60) (PySem.W.mg_of X Gr g_MOST_ITEMS) (relI 60 t2) (krep_int 60) (glb_cons (v := .int 9) (PySem.W.mg_of X Gr g_MOST_NAMES) (relI 9 t1) (krep_int 9) glb_nil))))))))))))))), by
    intro x hx
    simp only [blt, List.mem_cons, List.not_mem_nil, or_false] at hx
    rcases hx with rfl | rfl | rfl | rfl | rfl | rfl | rfl | rfl | rfl | rfl | rfl | rfl
    · exact PySem.W.mg_none_of X Gr z_abs
    · exact PySem.W.mg_none_of X Gr z_dict
    · exact PySem.W.mg_none_of X Gr z_divmod
    · exact PySem.W.mg_none_of X Gr z_int
    · exact PySem.W.mg_none_of X Gr z_isinstance
    · exact PySem.W.mg_none_of X Gr z_len
    · exact PySem.W.mg_none_of X Gr z_list
    · exact PySem.W.mg_none_of X Gr z_max
    · exact PySem.W.mg_none_of X Gr z_range
    · exact PySem.W.mg_none_of X Gr z_repr
    · exact PySem.W.mg_none_of X Gr z_sorted
    · exact PySem.W.mg_none_of X Gr z_str
    ⟩
  have A0 : ∀ base, DefsOk l.prog w K mg base ca dcs (fis.take 0) := fun base => defs_nil
  have F0 := fun_mk (st := s_place_behind) l_0 cc_0 k_0
  have D0 : ∀ base, DefOk l.prog w K mg base ca fi_place_behind (G dcs 0) := fun base => def_mk (c := c_place_behind) (n := 60) (A0 base) F0 (PySem.W.mg_of X Gr a_0) k_0 (F0.binds (ps := ["text"]) fun _ _ _ _ _ _ us hl => match us, hl with | [_], _ => rfl) (fun _ h => nomatch h) sc_place_behind rfl rfl (by decide) T b_place_behind_eq rfl rfl
  have A1 : ∀ base, DefsOk l.prog w K mg base ca dcs (fis.take 1) := fun base => defs_snoc (fs := fis.take 0) (A0 base) (D0 base)
  have F1 := fun_mk (st := s_signs_of) l_1 cc_1 k_1
  have D1 : ∀ base, DefOk l.prog w K mg base ca fi_signs_of (G dcs 1) := fun base => def_mk (c := c_signs_of) (n := 60) (A1 base) F1 (PySem.W.mg_of X Gr a_1) k_1 (F1.binds (ps := ["sign"]) fun _ _ _ _ _ _ us hl => match us, hl with | [_], _ => rfl) (fun _ h => nomatch h) sc_signs_of rfl rfl (by decide) T b_signs_of_eq rfl rfl
  have A2 : ∀ base, DefsOk l.prog w K mg base ca dcs (fis.take 2) := fun base => defs_snoc (fs := fis.take 1) (A1 base) (D1 base)
  have F2 := fun_mk (st := s_run_at) l_2 cc_2 k_2
  have D2 : ∀ base, DefOk l.prog w K mg base ca fi_run_at (G dcs 2) := fun base => def_mk (c := c_run_at) (n := 60) (A2 base) F2 (PySem.W.mg_of X Gr a_2) k_2 (F2.binds (ps := ["text", "at"]) fun _ _ _ _ _ _ us hl => match us, hl with | [_, _], _ => rfl) (fun _ h => nomatch h) sc_run_at rfl rfl (by decide) T b_run_at_eq rfl rfl
  have A3 : ∀ base, DefsOk l.prog w K mg base ca dcs (fis.take 3) := fun base => defs_snoc (fs := fis.take 2) (A2 base) (D2 base)
  have F3 := fun_mk (st := s_wrong_with) l_3 cc_3 k_3
  have D3 : ∀ base, DefOk l.prog w K mg base ca fi_wrong_with (G dcs 3) := fun base => def_mk (c := c_wrong_with) (n := 60) (A3 base) F3 (PySem.W.mg_of X Gr a_3) k_3 (F3.binds (ps := ["token", "is_behind"]) fun _ _ _ _ _ _ us hl => match us, hl with | [_, _], _ => rfl) (fun _ h => nomatch h) sc_wrong_with rfl rfl (by decide) T b_wrong_with_eq rfl rfl
  have A4 : ∀ base, DefsOk l.prog w K mg base ca dcs (fis.take 4) := fun base => defs_snoc (fs := fis.take 3) (A3 base) (D3 base)
  have F4 := fun_mk (st := s_scanned) l_4 cc_4 k_4
  have D4 : ∀ base, DefOk l.prog w K mg base ca fi_scanned (G dcs 4) := fun base => def_mk (c := c_scanned) (n := 60) (A4 base) F4 (PySem.W.mg_of X Gr a_4) k_4 (F4.binds (ps := ["text"]) fun _ _ _ _ _ _ us hl => match us, hl with | [_], _ => rfl) (fun _ h => nomatch h) sc_scanned rfl rfl (by decide) T b_scanned_eq rfl rfl
  have A5 : ∀ base, DefsOk l.prog w K mg base ca dcs (fis.take 5) := fun base => defs_snoc (fs := fis.take 4) (A4 base) (D4 base)
  have F5 := fun_mk (st := s_looked_over) l_5 cc_5 k_5
  have D5 : ∀ base, DefOk l.prog w K mg base ca fi_looked_over (G dcs 5) := fun base => def_mk (c := c_looked_over) (n := 60) (A5 base) F5 (PySem.W.mg_of X Gr a_5) k_5 (F5.binds (ps := ["text"]) fun _ _ _ _ _ _ us hl => match us, hl with | [_], _ => rfl) (fun _ h => nomatch h) sc_looked_over rfl rfl (by decide) T b_looked_over_eq rfl rfl
  have A6 : ∀ base, DefsOk l.prog w K mg base ca dcs (fis.take 6) := fun base => defs_snoc (fs := fis.take 5) (A5 base) (D5 base)
  have F6 := fun_mk (st := s_check_text) l_6 cc_6 k_6
  have D6 : ∀ base, DefOk l.prog w K mg base ca fi_check_text (G dcs 6) := fun base => def_mk (c := c_check_text) (n := 60) (A6 base) F6 (PySem.W.mg_of X Gr a_6) k_6 (F6.binds (ps := ["text"]) fun _ _ _ _ _ _ us hl => match us, hl with | [_], _ => rfl) (fun _ h => nomatch h) sc_check_text rfl rfl (by decide) T b_check_text_eq rfl rfl
  have A7 : ∀ base, DefsOk l.prog w K mg base ca dcs (fis.take 7) := fun base => defs_snoc (fs := fis.take 6) (A6 base) (D6 base)
  have F7 := fun_mk (st := s_tokens) l_7 cc_7 k_7
  have D7 : ∀ base, DefOk l.prog w K mg base ca fi_tokens (G dcs 7) := fun base => def_mk (c := c_tokens) (n := 60) (A7 base) F7 (PySem.W.mg_of X Gr a_7) k_7 (F7.binds (ps := ["text"]) fun _ _ _ _ _ _ us hl => match us, hl with | [_], _ => rfl) (List.forall_mem_cons.mpr ⟨kbn_of (ks := ["text"]) (n := 0) (perm := [0]) F7 fun _ _ _ _ _ _ us ws h1 h2 => match us, ws, h1, h2 with | [], [_], _, _ => rfl, (fun _ h => nomatch h)⟩) sc_tokens rfl rfl (by decide) T b_tokens_eq rfl rfl
  have A8 : ∀ base, DefsOk l.prog w K mg base ca dcs (fis.take 8) := fun base => defs_snoc (fs := fis.take 7) (A7 base) (D7 base)
  have F8 := fun_mk (st := s_token_fault) l_8 cc_8 k_8
  have D8 : ∀ base, DefOk l.prog w K mg base ca fi_token_fault (G dcs 8) := fun base => def_mk (c := c_token_fault) (n := 60) (A8 base) F8 (PySem.W.mg_of X Gr a_8) k_8 (F8.binds (ps := ["text"]) fun _ _ _ _ _ _ us hl => match us, hl with | [_], _ => rfl) (List.forall_mem_cons.mpr ⟨kbn_of (ks := ["text"]) (n := 0) (perm := [0]) F8 fun _ _ _ _ _ _ us ws h1 h2 => match us, ws, h1, h2 with | [], [_], _, _ => rfl, (fun _ h => nomatch h)⟩) sc_token_fault rfl rfl (by decide) T b_token_fault_eq rfl rfl
  have A9 : ∀ base, DefsOk l.prog w K mg base ca dcs (fis.take 9) := fun base => defs_snoc (fs := fis.take 8) (A8 base) (D8 base)
  have F9 := fun_mk (st := s_kind_of) l_9 cc_9 k_9
  have D9 : ∀ base, DefOk l.prog w K mg base ca fi_kind_of (G dcs 9) := fun base => def_mk (c := c_kind_of) (n := 60) (A9 base) F9 (PySem.W.mg_of X Gr a_9) k_9 (F9.binds (ps := ["token"]) fun _ _ _ _ _ _ us hl => match us, hl with | [_], _ => rfl) (fun _ h => nomatch h) sc_kind_of rfl rfl (by decide) T b_kind_of_eq rfl rfl
  have A10 : ∀ base, DefsOk l.prog w K mg base ca dcs (fis.take 10) := fun base => defs_snoc (fs := fis.take 9) (A9 base) (D9 base)
  have F10 := fun_mk (st := s_row_for) l_10 cc_10 k_10
  have D10 : ∀ base, DefOk l.prog w K mg base ca fi_row_for (G dcs 10) := fun base => def_mk (c := c_row_for) (n := 60) (A10 base) F10 (PySem.W.mg_of X Gr a_10) k_10 (F10.binds (ps := ["rule", "kind"]) fun _ _ _ _ _ _ us hl => match us, hl with | [_, _], _ => rfl) (fun _ h => nomatch h) sc_row_for rfl rfl (by decide) T b_row_for_eq rfl rfl
  have A11 : ∀ base, DefsOk l.prog w K mg base ca dcs (fis.take 11) := fun base => defs_snoc (fs := fis.take 10) (A10 base) (D10 base)
  have F11 := fun_mk (st := s_opened) l_11 cc_11 k_11
  have D11 : ∀ base, DefOk l.prog w K mg base ca fi_opened (G dcs 11) := fun base => def_mk (c := c_opened) (n := 60) (A11 base) F11 (PySem.W.mg_of X Gr a_11) k_11 (F11.binds (ps := ["pile", "kind"]) fun _ _ _ _ _ _ us hl => match us, hl with | [_, _], _ => rfl) (fun _ h => nomatch h) sc_opened rfl rfl (by decide) T b_opened_eq rfl rfl
  have A12 : ∀ base, DefsOk l.prog w K mg base ca dcs (fis.take 12) := fun base => defs_snoc (fs := fis.take 11) (A11 base) (D11 base)
  have F12 := fun_mk (st := s_led_by) l_12 cc_12 k_12
  have D12 : ∀ base, DefOk l.prog w K mg base ca fi_led_by (G dcs 12) := fun base => def_mk (c := c_led_by) (n := 60) (A12 base) F12 (PySem.W.mg_of X Gr a_12) k_12 (F12.binds (ps := ["pile", "kind"]) fun _ _ _ _ _ _ us hl => match us, hl with | [_, _], _ => rfl) (fun _ h => nomatch h) sc_led_by rfl rfl (by decide) T b_led_by_eq rfl rfl
  have A13 : ∀ base, DefsOk l.prog w K mg base ca dcs (fis.take 13) := fun base => defs_snoc (fs := fis.take 12) (A12 base) (D12 base)
  have F13 := fun_mk (st := s_is_too_much) l_13 cc_13 k_13
  have D13 : ∀ base, DefOk l.prog w K mg base ca fi_is_too_much (G dcs 13) := fun base => def_mk (c := c_is_too_much) (n := 60) (A13 base) F13 (PySem.W.mg_of X Gr a_13) k_13 (F13.binds (ps := ["found", "token", "many"]) fun _ _ _ _ _ _ us hl => match us, hl with | [_, _, _], _ => rfl) (fun _ h => nomatch h) sc_is_too_much rfl rfl (by decide) T b_is_too_much_eq rfl rfl
  have A14 : ∀ base, DefsOk l.prog w K mg base ca dcs (fis.take 14) := fun base => defs_snoc (fs := fis.take 13) (A13 base) (D13 base)
  have F14 := fun_mk (st := s_walked) l_14 cc_14 k_14
  have D14 : ∀ base, DefOk l.prog w K mg base ca fi_walked (G dcs 14) := fun base => def_mk (c := c_walked) (n := 60) (A14 base) F14 (PySem.W.mg_of X Gr a_14) k_14 (F14.binds (ps := ["text"]) fun _ _ _ _ _ _ us hl => match us, hl with | [_], _ => rfl) (fun _ h => nomatch h) sc_walked rfl rfl (by decide) T b_walked_eq rfl rfl
  have A15 : ∀ base, DefsOk l.prog w K mg base ca dcs (fis.take 15) := fun base => defs_snoc (fs := fis.take 14) (A14 base) (D14 base)
  have F15 := fun_mk (st := s_fault_by) l_15 cc_15 k_15
  have D15 : ∀ base, DefOk l.prog w K mg base ca fi_fault_by (G dcs 15) := fun base => def_mk (c := c_fault_by) (n := 60) (A15 base) F15 (PySem.W.mg_of X Gr a_15) k_15 (F15.binds (ps := ["text"]) fun _ _ _ _ _ _ us hl => match us, hl with | [_], _ => rfl) (fun _ h => nomatch h) sc_fault_by rfl rfl (by decide) T b_fault_by_eq rfl rfl
  have A16 : ∀ base, DefsOk l.prog w K mg base ca dcs (fis.take 16) := fun base => defs_snoc (fs := fis.take 15) (A15 base) (D15 base)
  have F16 := fun_mk (st := s_letter_fault) l_16 cc_16 k_16
  have D16 : ∀ base, DefOk l.prog w K mg base ca fi_letter_fault (G dcs 16) := fun base => def_mk (c := c_letter_fault) (n := 60) (A16 base) F16 (PySem.W.mg_of X Gr a_16) k_16 (F16.binds (ps := ["text"]) fun _ _ _ _ _ _ us hl => match us, hl with | [_], _ => rfl) (List.forall_mem_cons.mpr ⟨kbn_of (ks := ["text"]) (n := 0) (perm := [0]) F16 fun _ _ _ _ _ _ us ws h1 h2 => match us, ws, h1, h2 with | [], [_], _, _ => rfl, (fun _ h => nomatch h)⟩) sc_letter_fault rfl rfl (by decide) T b_letter_fault_eq rfl rfl
  have A17 : ∀ base, DefsOk l.prog w K mg base ca dcs (fis.take 17) := fun base => defs_snoc (fs := fis.take 16) (A16 base) (D16 base)
  have F17 := fun_mk (st := s__law_pot) l_17 cc_17 k_17
  have D17 : ∀ base, DefOk l.prog w K mg base ca fi__law_pot (G dcs 17) := fun base => def_mk (c := c__law_pot) (n := 60) (A17 base) F17 (PySem.W.mg_of X Gr a_17) k_17 (F17.binds (ps := ["script", "k"]) fun _ _ _ _ _ _ us hl => match us, hl with | [_, _], _ => rfl) (fun _ h => nomatch h) sc__law_pot rfl rfl (by decide) T b__law_pot_eq rfl rfl
  have A18 : ∀ base, DefsOk l.prog w K mg base ca dcs (fis.take 18) := fun base => defs_snoc (fs := fis.take 17) (A17 base) (D17 base)
  have F18 := fun_mk (st := s__law_draw) l_18 cc_18 k_18
  have D18 : ∀ base, DefOk l.prog w K mg base ca fi__law_draw (G dcs 18) := fun base => def_mk (c := c__law_draw) (n := 60) (A18 base) F18 (PySem.W.mg_of X Gr a_18) k_18 (F18.binds (ps := ["pot", "many"]) fun _ _ _ _ _ _ us hl => match us, hl with | [_, _], _ => rfl) (fun _ h => nomatch h) sc__law_draw rfl rfl (by decide) T b__law_draw_eq rfl rfl
  have A19 : ∀ base, DefsOk l.prog w K mg base ca dcs (fis.take 19) := fun base => defs_snoc (fs := fis.take 18) (A18 base) (D18 base)
  have F19 := fun_mk (st := s__law_pick) l_19 cc_19 k_19
  have D19 : ∀ base, DefOk l.prog w K mg base ca fi__law_pick (G dcs 19) := fun base => def_mk (c := c__law_pick) (n := 60) (A19 base) F19 (PySem.W.mg_of X Gr a_19) k_19 (F19.binds (ps := ["pot", "some"]) fun _ _ _ _ _ _ us hl => match us, hl with | [_, _], _ => rfl) (fun _ h => nomatch h) sc__law_pick rfl rfl (by decide) T b__law_pick_eq rfl rfl
  have A20 : ∀ base, DefsOk l.prog w K mg base ca dcs (fis.take 20) := fun base => defs_snoc (fs := fis.take 19) (A19 base) (D19 base)
  have F20 := fun_mk (st := s__law_kind_of) l_20 cc_20 k_20
  have D20 : ∀ base, DefOk l.prog w K mg base ca fi__law_kind_of (G dcs 20) := fun base => def_mk (c := c__law_kind_of) (n := 60) (A20 base) F20 (PySem.W.mg_of X Gr a_20) k_20 (F20.binds (ps := ["sign"]) fun _ _ _ _ _ _ us hl => match us, hl with | [_], _ => rfl) (fun _ h => nomatch h) sc__law_kind_of rfl rfl (by decide) T b__law_kind_of_eq rfl rfl
  have A21 : ∀ base, DefsOk l.prog w K mg base ca dcs (fis.take 21) := fun base => defs_snoc (fs := fis.take 20) (A20 base) (D20 base)
  have F21 := fun_mk (st := s__law_lex) l_21 cc_21 k_21
  have D21 : ∀ base, DefOk l.prog w K mg base ca fi__law_lex (G dcs 21) := fun base => def_mk (c := c__law_lex) (n := 60) (A21 base) F21 (PySem.W.mg_of X Gr a_21) k_21 (F21.binds (ps := ["text"]) fun _ _ _ _ _ _ us hl => match us, hl with | [_], _ => rfl) (fun _ h => nomatch h) sc__law_lex rfl rfl (by decide) T b__law_lex_eq rfl rfl
  have A22 : ∀ base, DefsOk l.prog w K mg base ca dcs (fis.take 22) := fun base => defs_snoc (fs := fis.take 21) (A21 base) (D21 base)
  have F22 := fun_mk (st := s__law_place_at) l_22 cc_22 k_22
  have D22 : ∀ base, DefOk l.prog w K mg base ca fi__law_place_at (G dcs 22) := fun base => def_mk (c := c__law_place_at) (n := 60) (A22 base) F22 (PySem.W.mg_of X Gr a_22) k_22 (F22.binds (ps := ["text", "at"]) fun _ _ _ _ _ _ us hl => match us, hl with | [_, _], _ => rfl) (fun _ h => nomatch h) sc__law_place_at rfl rfl (by decide) T b__law_place_at_eq rfl rfl
  have A23 : ∀ base, DefsOk l.prog w K mg base ca dcs (fis.take 23) := fun base => defs_snoc (fs := fis.take 22) (A22 base) (D22 base)
  have F23 := fun_mk (st := s__law_lexed) l_23 cc_23 k_23
  have D23 : ∀ base, DefOk l.prog w K mg base ca fi__law_lexed (G dcs 23) := fun base => def_mk (c := c__law_lexed) (n := 60) (A23 base) F23 (PySem.W.mg_of X Gr a_23) k_23 (F23.binds (ps := ["text"]) fun _ _ _ _ _ _ us hl => match us, hl with | [_], _ => rfl) (fun _ h => nomatch h) sc__law_lexed rfl rfl (by decide) T b__law_lexed_eq rfl rfl
  have A24 : ∀ base, DefsOk l.prog w K mg base ca dcs (fis.take 24) := fun base => defs_snoc (fs := fis.take 23) (A23 base) (D23 base)
  have F24 := fun_mk (st := s__law_piece) l_24 cc_24 k_24
  have D24 : ∀ base, DefOk l.prog w K mg base ca fi__law_piece (G dcs 24) := fun base => def_mk (c := c__law_piece) (n := 60) (A24 base) F24 (PySem.W.mg_of X Gr a_24) k_24 (F24.binds (ps := ["pot"]) fun _ _ _ _ _ _ us hl => match us, hl with | [_], _ => rfl) (fun _ h => nomatch h) sc__law_piece rfl rfl (by decide) T b__law_piece_eq rfl rfl
  have A25 : ∀ base, DefsOk l.prog w K mg base ca dcs (fis.take 25) := fun base => defs_snoc (fs := fis.take 24) (A24 base) (D24 base)
  have F25 := fun_mk (st := s__law_text) l_25 cc_25 k_25
  have D25 : ∀ base, DefOk l.prog w K mg base ca fi__law_text (G dcs 25) := fun base => def_mk (c := c__law_text) (n := 60) (A25 base) F25 (PySem.W.mg_of X Gr a_25) k_25 (F25.binds (ps := ["pot", "late"]) fun _ _ _ _ _ _ us hl => match us, hl with | [_, _], _ => rfl) (fun _ h => nomatch h) sc__law_text rfl rfl (by decide) T b__law_text_eq rfl rfl
  have A26 : ∀ base, DefsOk l.prog w K mg base ca dcs (fis.take 26) := fun base => defs_snoc (fs := fis.take 25) (A25 base) (D25 base)
  have F26 := fun_mk (st := s_law) l_26 cc_26 k_26
  refine ⟨PySem.W.fnOf "law" "law" (defArgs s_law) (defBody s_law) (defScope s_law) .none kV_26 dc_26 pmv_26 an_26 cdv_26 ctv_26, fun s v => .of_eq rfl, fun base _ _ => ?_⟩
  exact def_g (i := fi_law) (c := c_law) (n := 60) (A26 base) F26 sc_law rfl rfl (by decide) T b_law_eq rfl rfl
end K11
open PySem PySem.W PyProof.Rows
set_option maxHeartbeats 0 in
theorem PySem.Challenge.cw_paidinfull_k11_whole_tokens_and_what_is_holds : PySem.Challenge.rw_paidinfull_k11_whole_tokens_and_what_is.Holds := by
  w_on; o_law; k_head; (case hw => w_witness2)
  k_fill
  refine Itp.walk_itp (l := PySem.Challenge.rw_paidinfull_k11_whole_tokens_and_what_is) (n := 63) (k := 27) (x := "script") (G := Itp.G K11.dcs 26) (ca := fun _ _ => 0) rfl (by decide) rfl ⟨rfl, by decide, by decide⟩ (fun w h Y => PySem.W.kIn_of Y) ?F K11.law_holds
  case F =>
    intro w mg fa h KX Gr hmg
    refine' K11.all_mk KX Gr hmg ?g_MOST_NAMES ?g_MOST_ITEMS ?g_NOWHERE ?g_NUMERAL ?g_NAME ?g_END ?g_MOST_DIGITS ?g_MOST_SIGNS ?g_SIGNS ?lt9 ?g_SIGN ?g_BLANKS ?g_DIGITS ?g_MOST_LETTERS ?g_LETTERS ?g_CLOSED ?lt17 ?z_abs ?z_dict ?z_divmod ?z_int ?z_isinstance ?z_len ?z_list ?z_max ?z_range ?z_repr ?z_sorted ?z_str ?a_0 ?l_0 ?cc_0 ?k_0 ?a_1 ?l_1 ?cc_1 ?k_1 ?a_2 ?l_2 ?cc_2 ?k_2 ?a_3 ?l_3 ?cc_3 ?k_3 ?a_4 ?l_4 ?cc_4 ?k_4 ?a_5 ?l_5 ?cc_5 ?k_5 ?a_6 ?l_6 ?cc_6 ?k_6 ?a_7 ?l_7 ?cc_7 ?k_7 ?a_8 ?l_8 ?cc_8 ?k_8 ?a_9 ?l_9 ?cc_9 ?k_9 ?a_10 ?l_10 ?cc_10 ?k_10 ?a_11 ?l_11 ?cc_11 ?k_11 ?a_12 ?l_12 ?cc_12 ?k_12 ?a_13 ?l_13 ?cc_13 ?k_13 ?a_14 ?l_14 ?cc_14 ?k_14 ?a_15 ?l_15 ?cc_15 ?k_15 ?a_16 ?l_16 ?cc_16 ?k_16 ?a_17 ?l_17 ?cc_17 ?k_17 ?a_18 ?l_18 ?cc_18 ?k_18 ?a_19 ?l_19 ?cc_19 ?k_19 ?a_20 ?l_20 ?cc_20 ?k_20 ?a_21 ?l_21 ?cc_21 ?k_21 ?a_22 ?l_22 ?cc_22 ?k_22 ?a_23 ?l_23 ?cc_23 ?k_23 ?a_24 ?l_24 ?cc_24 ?k_24 ?a_25 ?l_25 ?cc_25 ?k_25 ?a_26 ?l_26 ?cc_26 ?k_26
    (case g_MOST_NAMES => k_is); (case g_MOST_ITEMS => k_is); (case g_NOWHERE => k_is); (case g_NUMERAL => k_is); (case g_NAME => k_is); (case g_END => k_is); (case g_MOST_DIGITS => k_is); (case g_MOST_SIGNS => k_is); (case g_SIGNS => k_is); (case lt9 => k_is); (case g_SIGN => k_is); (case g_BLANKS => k_is); (case g_DIGITS => k_is); (case g_MOST_LETTERS => k_is); (case g_LETTERS => k_is); (case g_CLOSED => k_is); (case lt17 => k_is); (case z_abs => k_is); (case z_dict => k_is); (case z_divmod => k_is); (case z_int => k_is); (case z_isinstance => k_is); (case z_len => k_is); (case z_list => k_is); (case z_max => k_is); (case z_range => k_is); (case z_repr => k_is); (case z_sorted => k_is); (case z_str => k_is); (case a_0 => k_is); (case l_0 => k_is); (case cc_0 => k_is); (case k_0 => k_is); (case a_1 => k_is); (case l_1 => k_is); (case cc_1 => k_is); (case k_1 => k_is); (case a_2 => k_is); (case l_2 => k_is); (case cc_2 => k_is); (case k_2 => k_is); (case a_3 => k_is); (case l_3 => k_is); (case cc_3 => k_is); (case k_3 => k_is); (case a_4 => k_is); (case l_4 => k_is); (case cc_4 => k_is); (case k_4 => k_is); (case a_5 => k_is); (case l_5 => k_is); (case cc_5 => k_is); (case k_5 => k_is); (case a_6 => k_is); (case l_6 => k_is); (case cc_6 => k_is); (case k_6 => k_is); (case a_7 => k_is); (case l_7 => k_is); (case cc_7 => k_is); (case k_7 => k_is); (case a_8 => k_is); (case l_8 => k_is); (case cc_8 => k_is); (case k_8 => k_is); (case a_9 => k_is); (case l_9 => k_is); (case cc_9 => k_is); (case k_9 => k_is); (case a_10 => k_is); (case l_10 => k_is); (case cc_10 => k_is); (case k_10 => k_is); (case a_11 => k_is); (case l_11 => k_is); (case cc_11 => k_is); (case k_11 => k_is); (case a_12 => k_is); (case l_12 => k_is); (case cc_12 => k_is); (case k_12 => k_is); (case a_13 => k_is); (case l_13 => k_is); (case cc_13 => k_is); (case k_13 => k_is); (case a_14 => k_is); (case l_14 => k_is); (case cc_14 => k_is); (case k_14 => k_is); (case a_15 => k_is); (case l_15 => k_is); (case cc_15 => k_is); (case k_15 => k_is); (case a_16 => k_is); (case l_16 => k_is); (case cc_16 => k_is); (case k_16 => k_is); (case a_17 => k_is); (case l_17 => k_is); (case cc_17 => k_is); (case k_17 => k_is); (case a_18 => k_is); (case l_18 => k_is); (case cc_18 => k_is); (case k_18 => k_is); (case a_19 => k_is); (case l_19 => k_is); (case cc_19 => k_is); (case k_19 => k_is); (case a_20 => k_is); (case l_20 => k_is); (case cc_20 => k_is); (case k_20 => k_is); (case a_21 => k_is); (case l_21 => k_is); (case cc_21 => k_is); (case k_21 => k_is); (case a_22 => k_is); (case l_22 => k_is); (case cc_22 => k_is); (case k_22 => k_is); (case a_23 => k_is); (case l_23 => k_is); (case cc_23 => k_is); (case k_23 => k_is); (case a_24 => k_is); (case l_24 => k_is); (case cc_24 => k_is); (case k_24 => k_is); (case a_25 => k_is); (case l_25 => k_is); (case cc_25 => k_is); (case k_25 => k_is); (case a_26 => k_is); (case l_26 => k_is); (case cc_26 => k_is); (case k_26 => k_is)
