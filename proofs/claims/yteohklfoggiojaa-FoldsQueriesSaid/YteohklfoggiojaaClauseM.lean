/-
  Windows and sources, in plain Lean: no program in sight.
-/
import Derived.Test.YteohklfoggiojaaAbsD
namespace Go.Proofs.Yteohklfoggiojaa
open Go.AL
set_option linter.unusedSimpArgs false
set_option linter.unusedVariables false
structure Win where
  kind : Int
  size : Int
  every : Int
  deriving DecidableEq, Inhabited
def Win.cells (w : Win) : List AV := [.lit (.int .u8 w.kind), .lit (.int .i64 w.size), .lit (.int .i64 w.every)]
def winP (w : Win) : Prop := 1 ≤ w.size ∧ w.size ≤ 1073741824 ∧ ((w.kind = 2 ∧ 1 ≤ w.every ∧ w.every ≤ w.size ∧ w.size ≤ 16 * w.every) ∨ ((w.kind = 1 ∨ w.kind = 3) ∧ w.every = 0))
instance (w : Win) : Decidable (winP w) := by unfold winP; infer_instance
def winE (w : Win) : Int := if winP w then 0 else 8
def outB (l : List Int) : Bool := l.any fun x => decide (x < 0) || decide (3 < x)
def srcE (l : List Int) (join : Bool) : Int :=
  if 4 < l.length then 4 else if l.length = 0 ∨ (join = true ∧ l.length ≠ 2) ∨ outB l = true then 8 else if l.Nodup then 0 else 43
def intsV (l : List Int) : AV := .ro 1 (l.map fun x => [.lit (.int .i64 x)])
def firstFrom (p : Nat → Bool) : Nat → Nat → Nat
  | 0, k => k
  | n + 1, k => if p k = true then k else firstFrom p n (k + 1)
theorem firstFrom_spec (p : Nat → Bool) : ∀ (n k : Nat), k ≤ firstFrom p n k ∧ firstFrom p n k ≤ k + n ∧ (∀ j, k ≤ j → j < firstFrom p n k → p j = false) ∧ (firstFrom p n k < k + n → p (firstFrom p n k) = true)
  | 0, k => ⟨Nat.le_refl _, Nat.le_refl _, fun j h1 h2 => absurd h2 (by simp only [firstFrom]; omega), fun h => absurd h (by simp only [firstFrom]; omega)⟩
  | n + 1, k => by
    obtain ⟨h1, h2, h3, h4⟩ := firstFrom_spec p n (k + 1)
    simp only [firstFrom]
    by_cases h : p k = true
    · rw [if_pos h]
      exact ⟨Nat.le_refl _, by omega, fun j a b => by omega, fun _ => h⟩
    · rw [if_neg h]
      refine ⟨by omega, by omega, fun j a b => ?_, fun a => h4 (by omega)⟩
      by_cases hj : j = k
      · rw [hj]; simpa using h
      · exact h3 j (by omega) b
theorem firstFrom_uniq {p : Nat → Bool} {n k : Nat} (h1 : k ≤ n) (h2 : ∀ j, j < k → p j = false) (h3 : k < n → p k = true) : firstFrom p n 0 = k := by
  obtain ⟨_, b, c, d⟩ := firstFrom_spec p n 0
  rcases Nat.lt_trichotomy (firstFrom p n 0) k with h | h | h
  · have := d (by omega); rw [h2 _ h] at this; cases this
  · exact h
  · have := c k (Nat.zero_le _) h; rw [h3 (by omega)] at this; cases this
def outAt (l : List Int) (j : Nat) : Bool := decide (l.getD j default < 0) || decide (3 < l.getD j default)
def outI (l : List Int) : Int := if firstFrom (outAt l) l.length 0 < l.length then (firstFrom (outAt l) l.length 0 : Nat) else -1
theorem outB_at {l : List Int} : outB l = true ↔ ∃ j, j < l.length ∧ outAt l j = true := by
  unfold outB outAt
  rw [List.any_eq_true]
  constructor
  · rintro ⟨x, hx, h⟩
    obtain ⟨j, hj, rfl⟩ := List.mem_iff_getElem.1 hx
    exact ⟨j, hj, by simpa [List.getD_eq_getElem?_getD, List.getElem?_eq_getElem hj] using h⟩
  · rintro ⟨j, hj, h⟩
    exact ⟨l[j], List.getElem_mem hj, by simpa [List.getD_eq_getElem?_getD, List.getElem?_eq_getElem hj] using h⟩
theorem outI_pos {l : List Int} : decide (0 ≤ outI l) = outB l := by
  obtain ⟨_, b, c, d⟩ := firstFrom_spec (outAt l) l.length 0
  unfold outI
  cases ho : outB l with
  | true =>
    obtain ⟨j, hj, h⟩ := outB_at.1 ho
    have : firstFrom (outAt l) l.length 0 < l.length := by
      rcases Nat.lt_or_ge (firstFrom (outAt l) l.length 0) l.length with h1 | h1
      · exact h1
      · have := c j (Nat.zero_le _) (by omega); rw [h] at this; cases this
    rw [if_pos this]; simp
  | false =>
    have : ¬ firstFrom (outAt l) l.length 0 < l.length := fun h1 => by
      have := outB_at.2 ⟨_, h1, d (by omega)⟩
      rw [ho] at this; cases this
    rw [if_neg this]; rfl
end Go.Proofs.Yteohklfoggiojaa
