/-
  The abstract layer, boxes under other numbers; drawn regions that append. Over whatever program; no program in sight.
-/
import Derived.Test.YtfmnjgjfkfppkaaAbsM

set_option linter.unusedSimpArgs false
set_option linter.unusedVariables false
set_option linter.constructorNameAsVariable false

namespace Go.AL
open Go.RowKit
set_option linter.unusedSimpArgs false
set_option linter.unusedVariables false

/-! ### boxes under other numbers -/
/-! ### boxes that are written no more -/
/-- a loop over the numbers below N: what holds of those behind -/
theorem AWp.loopN {P : Program} {n : Nat} {c : Code} {Q : Exit → ASt → Prop} {st : ASt} (N : Nat) (p : Nat → Prop) (inv : Nat → ASt) (h0 : Wk st (inv 0))
    (h : ∀ k, k ≤ N → (∀ j, j < k → p j) → AWp P n c (aThen (fun s => k < N ∧ p k ∧ Wk s (inv (k + 1))) Q) (inv k)) : AWp P n (.loop c) Q st := by
  refine AWp.loop (I := fun k : Nat => k ≤ N ∧ ∀ j, j < k → p j) inv (fun k => N - k) 0 ⟨Nat.zero_le _, fun j h => absurd h (Nat.not_lt_zero j)⟩ h0 ?_
  rintro k ⟨hk, hall⟩
  refine (h k hk hall).mono fun e s hq => ?_
  cases e <;> try exact hq
  obtain ⟨h1, h2, h3⟩ := hq
  refine ⟨k + 1, ⟨by omega, fun j hj => ?_⟩, h3, by omega⟩
  by_cases hjk : j = k
  · rw [hjk]; exact h2
  · exact hall j (by omega)
end Go.AL

namespace Go.AL
open Go.RowKit
set_option linter.unusedSimpArgs false
set_option linter.unusedVariables false

/-! ### drawn regions that append to rows of the call's own -/
variable {P : Program} {n : Nat}

/-- j comes behind i, by the edges -/
def reachB (all : Array Oper) (i : Nat) : Nat → Nat → Bool
  | 0, _ => false
  | f + 1, j => match all[j]? with
    | some o => o.after.any fun e => Region.binds .any e && (e.on == i || reachB all i f e.on)
    | none => false
def Closed (all : Array Oper) (listed : Array Bool) : Prop := ∀ (j : Nat) (o : Oper), all[j]? = some o → listed.getD j false = true → ∀ e ∈ o.after, Region.binds .any e = true → listed.getD e.on false = true
theorem reach_listed {all : Array Oper} {listed : Array Bool} {i : Nat} (hc : Closed all listed) : ∀ (f j : Nat) (o : Oper), all[j]? = some o → (∀ e ∈ o.after, Region.binds .any e = true → listed.getD e.on false = true) → reachB all i f j = true → listed.getD i false = true
  | 0, j, o, _, _, h => by simp [reachB] at h
  | f + 1, j, o, ho, hp, h => by
    simp only [reachB, ho] at h
    obtain ⟨e, he, hb⟩ := Array.any_eq_true'.1 h
    simp only [Bool.and_eq_true, Bool.or_eq_true, beq_iff_eq] at hb
    have hl := hp e he hb.1
    rcases hb.2 with h1 | h1
    · rw [← h1]; exact hl
    · cases hk : all[e.on]? with
      | none =>
        cases f with
        | zero => simp [reachB] at h1
        | succ f => simp [reachB, hk] at h1
      | some o2 => exact reach_listed hc f e.on o2 hk (hc e.on o2 hk hl) h1
theorem closed_set {all : Array Oper} {listed : Array Bool} {i : Nat} (hc : Closed all listed) (hi : i ∈ Region.ready .any all listed) : Closed all (listed.setIfInBounds i true) := by
  intro j o ho hl e he hb
  refine getD_set_true ?_
  by_cases hij : i = j
  · subst hij
    obtain ⟨_, o', ho', hall⟩ := mem_ready.1 hi
    rw [ho] at ho'
    cases ho'
    exact hall e he hb
  · rw [getD_set_ne false hij] at hl
    exact hc j o ho hl e he hb
theorem getD_tf {listed : Array Bool} {i : Nat} (h0 : listed.getD i true = false) (h1 : listed.getD i false = true) : False := by
  rcases Nat.lt_or_ge i listed.size with h' | h'
  · simp [h'] at h0 h1; rw [h0] at h1; cases h1
  · simp [Array.getElem?_eq_none h'] at h1

/-! ### what it says of memory -/
theorem closed_none (all : Array Oper) (m : Nat) : Closed all (Array.replicate m false) := by
  intro j o ho hl
  exfalso
  rw [Array.getD_eq_getD_getElem?] at hl
  rcases Nat.lt_or_ge j m with h | h
  · simp [h] at hl
  · simp [h] at hl

end Go.AL

open Go Go.AL in
attribute [go_sem] amem
