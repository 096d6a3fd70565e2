/-
  Drawn regions, in each of their orders. Over whatever program; no program in sight.
-/
import Derived.Test.YteohklfoggiojaaAbsQ
namespace Go.AL
open Go.RowKit
set_option linter.unusedSimpArgs false
set_option linter.unusedVariables false
variable {P : Program} {n : Nat}
/-! ### a drawn region, in each of its orders -/
def allLin (ops : Array Oper) : Nat → Array Bool → List (List Nat)
  | 0, _ => [[]]
  | fuel + 1, listed => match Region.ready .any ops listed with
    | [] => [[]]
    | r :: rs => (r :: rs).flatMap fun i => (allLin ops fuel (listed.setIfInBounds i true)).map (i :: ·)
def pickL (l : List Oper) : List Nat → List Oper
  | [] => []
  | i :: is => match l[i]? with
    | some o => o :: pickL l is
    | none => pickL l is
def noDrops : List Nat → List (List Nat)
  | [] => []
  | _ :: is => [] :: noDrops is
def allE {α : Type} : List α → (α → Prop) → Prop
  | [], _ => True
  | x :: xs, p => p x ∧ allE xs p
theorem allE_mem {α : Type} {p : α → Prop} : ∀ {l : List α}, allE l p → ∀ x ∈ l, p x
  | [], _, x, hx => by cases hx
  | y :: l, h, x, hx => by
    rcases List.mem_cons.1 hx with rfl | hx
    · exact h.1
    · exact allE_mem h.2 x hx
theorem lin_mem (ops : Array Oper) : ∀ (fuel t : Nat) (listed : Array Bool), Region.linearise.go .any ops fuel t listed [] ∈ allLin ops fuel listed
  | 0, t, listed => by simp [Region.linearise.go, allLin]
  | fuel + 1, t, listed => by
    simp only [Region.linearise.go]
    change (match (Region.ready .any ops listed)[t % (Region.ready .any ops listed).length]? with
      | some i => Region.linearise.go .any ops fuel (t / (Region.ready .any ops listed).length) (listed.setIfInBounds i true) [i]
      | none => [].reverse) ∈ _
    unfold allLin
    cases hr : Region.ready .any ops listed with
    | nil => simp
    | cons r rs =>
      have hlt : t % (r :: rs).length < (r :: rs).length := Nat.mod_lt _ (by simp)
      rw [List.getElem?_eq_getElem hlt]
      simp only
      rw [linearise_go_acc, List.reverse_singleton, List.singleton_append, List.mem_flatMap]
      exact ⟨_, List.getElem_mem hlt, List.mem_map.2 ⟨_, lin_mem ops fuel _ _, rfl⟩⟩
theorem wpOps_pick {ops : List Oper} {Q : Exit → Act → World → Prop} : ∀ (is : List Nat) (a : Act) (w : World), wpList P ops.toArray Q (pickL ops is) a w → wpOps P ops.toArray Q is a w
  | [], a, w, h => h
  | i :: is, a, w, h => by
    unfold wpOps
    unfold pickL at h
    simp only [List.getElem?_toArray]
    cases ho : ops[i]? with
    | none =>
      rw [ho] at h
      exact wpOps_pick is a w h
    | some o =>
      rw [ho] at h
      unfold wpList at h
      simp only
      split at h
      · rename_i hw
        rw [if_pos hw]
        exact h.imp (Oper.wp_mono fun a w => wpOps_pick is a w) id
      · rename_i hw
        rw [if_neg hw]
        exact wpOps_pick is _ w h
def allO (P : Program) (n : Nat) (gs : Nat → Option Nat) (l : List Oper) (st : ASt) (K : ASt → Prop) : List (List Nat) → Prop
  | [] => True
  | o :: os => aops P n gs (pickL l o) (noDrops o) st K ∧ allO P n gs l st K os
theorem allO_cons {gs : Nat → Option Nat} {l : List Oper} {st : ASt} {K : ASt → Prop} {o : List Nat} {os : List (List Nat)} (h1 : aops P n gs (pickL l o) (noDrops o) st K) (h2 : allO P n gs l st K os) : allO P n gs l st K (o :: os) := ⟨h1, h2⟩
theorem allO_nil {gs : Nat → Option Nat} {l : List Oper} {st : ASt} {K : ASt → Prop} : allO P n gs l st K [] := trivial
theorem allO_all {gs : Nat → Option Nat} {l : List Oper} {st : ASt} {K : ASt → Prop} : ∀ {os : List (List Nat)}, allO P n gs l st K os → allE os fun o => aops P n gs (pickL l o) (noDrops o) st K
  | [], _ => trivial
  | _ :: _, h => ⟨h.1, allO_all h.2⟩
theorem AWp.regionE {id : Nat} {l : List Oper} {Q : Exit → ASt → Prop} {st : ASt} (F : List Nat) (os : List (List Nat)) (hm : P.follows .mixedOrders = true) (hos : allLin l.toArray l.length (Array.replicate l.length false) = os)
    (h : allE os fun o => aops P n (gslot l) (pickL l o) (noDrops o) st fun s => Q .normal (s.prune F)) : AWp P n (.region id l.toArray true) Q st := fun w0 S0 a w ⟨S, γ, ρ, hr⟩ => by
  refine wp_region_draw fun t => ?_
  simp only [Region.schedule, hm, Bool.true_or, if_true]
  have hb : Below w.heap.size w { w with drawn := w.drawn + 1 } := ⟨rfl, rfl, rfl, Nat.le_refl _, fun _ _ => rfl⟩
  have hr2 : Rel w0 S0 n st a { w with drawn := w.drawn + 1 } := ⟨S, γ, ρ, hr.later hb (fun _ h => h) (fun _ h => .inl h)⟩
  have hmem := lin_mem l.toArray l.length t (Array.replicate l.length false)
  rw [hos] at hmem
  have hp := allE_mem h _ hmem
  refine wpOps_pick _ a _ ?_
  have hs : l.toArray.size = l.length := by simp
  unfold Region.linearise
  rw [hs]
  exact aops_sound (Q := fun e a' w' => ∃ st', Q e st' ∧ Rel w0 S0 n st' a' w') (fun st' a' w' hK hr' => ⟨_, hK, hr'.prune F⟩) _ _ _ a _ hr2 hp
theorem AWp.regE {id : Nat} {l : List Oper} {Q : Exit → ASt → Prop} {st : ASt} (F : Nat → List Nat) (os : List (List Nat)) (hm : P.follows .mixedOrders = true) (hos : allLin l.toArray l.length (Array.replicate l.length false) = os)
    (h : ∀ (gs : Nat → Option Nat) (K : ASt → Prop), (∀ j, gs j = gslot l j) → (∀ s, Q .normal (s.prune (F id)) → K s) → allO P n gs l st K os) : AWp P n (.region id l.toArray true) Q st :=
  AWp.regionE (F id) os hm hos (allO_all <| h (gslot l) (fun s => Q .normal (s.prune (F id))) (fun _ => rfl) fun s h => h)
theorem AWp.sregE {id : Nat} {l : List Oper} {y : Code} {Q : Exit → ASt → Prop} {st : ASt} (F : Nat → List Nat) (os : List (List Nat)) (hm : P.follows .mixedOrders = true) (hos : allLin l.toArray l.length (Array.replicate l.length false) = os)
    (h : ∀ (gs : Nat → Option Nat) (K : ASt → Prop), (∀ j, gs j = gslot l j) → (∀ s, AWp P n y Q (s.prune (F id)) → K s) → allO P n gs l st K os) : AWp P n (.seq (.region id l.toArray true) y) Q st :=
  AWp.seq (AWp.regionE (F id) os hm hos (allO_all <| h (gslot l) (fun s => AWp P n y Q (s.prune (F id))) (fun _ => rfl) fun s h => h))
end Go.AL
