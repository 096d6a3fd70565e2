/-
  Values of expressions, in plain Lean: no program in sight.
-/
import Derived.Test.YteohklfoggiojaaKindM
import Derived.Test.YteohklfoggiojaaTskM
namespace Go.Proofs.Yteohklfoggiojaa
open Go.AL
set_option linter.unusedSimpArgs false
set_option linter.unusedVariables false
def w64 (n : Int) : Int := IntKind.i64.wrap n
def i64B (x : Int) : Prop := -9223372036854775808 ≤ x ∧ x ≤ 9223372036854775807
theorem w64_eq (n : Int) : w64 n = if n % 18446744073709551616 ≥ 9223372036854775808 then n % 18446744073709551616 - 18446744073709551616 else n % 18446744073709551616 := by
  simp [w64, IntKind.wrap, IntKind.bits, IntKind.signed]
theorem w64_B (n : Int) : i64B (w64 n) := by
  rw [w64_eq]; unfold i64B; split <;> omega
theorem w64_id {n : Int} (h : i64B n) : w64 n = n := by
  unfold i64B at h
  rw [w64_eq]; split <;> omega
theorem w64_mod (n : Int) : w64 n % 18446744073709551616 = n % 18446744073709551616 := by
  rw [w64_eq]; split <;> omega
theorem w64_of {a b : Int} (h : a % 18446744073709551616 = b % 18446744073709551616) : w64 a = w64 b := by
  rw [w64_eq, w64_eq, h]
theorem w64_mul (a b : Int) : w64 (a * w64 b) = w64 (a * b) := by
  refine w64_of ?_
  rw [Int.mul_emod, w64_mod, ← Int.mul_emod]
theorem w64_add (a b : Int) : w64 (w64 a + w64 b) = w64 (a + b) := by
  refine w64_of ?_
  rw [Int.add_emod, w64_mod, w64_mod, ← Int.add_emod]
def shC (b : Int) : Nat := (b % 64).toNat
theorem shC_lt (b : Int) : shC b < 64 := by unfold shC; omega
theorem shC_cast (b : Int) : ((shC b : Nat) : Int) = b % 64 := by unfold shC; omega
theorem and63 (b : Int) : bAnd .i64 b 63 = ((shC b : Nat) : Int) := by
  unfold bAnd
  have h1 : (BitVec.ofInt IntKind.i64.bits b &&& BitVec.ofInt IntKind.i64.bits 63).toNat = shC b := by
    rw [BitVec.toNat_and, BitVec.toNat_ofInt, BitVec.toNat_ofInt]
    have e : ((63 : Int) % ((2 ^ IntKind.i64.bits : Nat) : Int)).toNat = 2 ^ 6 - 1 := by decide
    rw [e, Nat.and_two_pow_sub_one_eq_mod]
    have e2 : ((2 ^ IntKind.i64.bits : Nat) : Int) = 18446744073709551616 := by decide
    rw [e2]
    unfold shC
    omega
  rw [h1]
  have := shC_lt b
  exact w64_id (by unfold i64B; omega)
theorem bOr_0 {a b : Int} (ha : i64B a) (hb : i64B b) : (bOr .i64 a b != 0) = (a != 0 || b != 0) := by
  unfold bOr
  have e2 : ((2 ^ IntKind.i64.bits : Nat) : Int) = 18446744073709551616 := by decide
  have h0 : ∀ x : Int, i64B x → (BitVec.ofInt IntKind.i64.bits x = 0#_ ↔ x = 0) := fun x hx => by
    constructor
    · intro h
      have := congrArg BitVec.toNat h
      rw [BitVec.toNat_ofInt, e2] at this
      simp at this
      unfold i64B at hx
      omega
    · rintro rfl
      rfl
  have h1 : IntKind.i64.wrap (((BitVec.ofInt IntKind.i64.bits a ||| BitVec.ofInt IntKind.i64.bits b).toNat : Nat) : Int) = 0 ↔ a = 0 ∧ b = 0 := by
    have hlt := (BitVec.ofInt IntKind.i64.bits a ||| BitVec.ofInt IntKind.i64.bits b).isLt
    have e3 : 2 ^ IntKind.i64.bits = 18446744073709551616 := by decide
    have : ∀ n : Nat, n < 18446744073709551616 → (IntKind.i64.wrap (n : Int) = 0 ↔ n = 0) := fun n hn => by
      have := w64_eq (n : Int)
      unfold w64 at this
      rw [this]
      split <;> omega
    rw [this _ (by omega)]
    constructor
    · intro h
      have hz : (BitVec.ofInt IntKind.i64.bits a ||| BitVec.ofInt IntKind.i64.bits b) = 0#_ := BitVec.eq_of_toNat_eq (by rw [h]; rfl)
      rw [BitVec.or_eq_zero_iff] at hz
      exact ⟨(h0 a ha).1 hz.1, (h0 b hb).1 hz.2⟩
    · rintro ⟨rfl, rfl⟩
      rfl
  by_cases g : a = 0 ∧ b = 0
  · rw [h1.2 g, g.1, g.2]; rfl
  · have : IntKind.i64.wrap (((BitVec.ofInt IntKind.i64.bits a ||| BitVec.ofInt IntKind.i64.bits b).toNat : Nat) : Int) ≠ 0 := fun h => g (h1.1 h)
    rw [bne_iff_ne.2 this]
    symm
    rw [Bool.or_eq_true, bne_iff_ne, bne_iff_ne]
    by_cases ga : a = 0
    · exact .inr fun h => g ⟨ga, h⟩
    · exact .inl ga
def trI (b : Bool) : Int := if b = true then 1 else 0
theorem trI_B (b : Bool) : i64B (trI b) := by cases b <;> simp [trI, i64B]
def cmpB (k a b : Int) : Bool := if k = 12 then decide (a < b) else if k = 13 then decide (a ≤ b) else if k = 14 then decide (b < a) else if k = 15 then decide (b ≤ a) else if k = 16 then a == b else a != b
def doV (k a b : Int) : Int :=
  if k = 5 then w64 (0 - a) else if k = 6 then trI (a == 0) else if k = 7 then w64 (a * b) else if k = 8 then w64 (a + b) else if k = 9 then w64 (a - b)
  else if k = 10 then w64 (a * 2 ^ shC b) else if k = 11 then a.fdiv (2 ^ shC b) else if k = 18 then trI (a != 0 && b != 0) else if k = 19 then trI (a != 0 || b != 0)
  else trI (cmpB k a b)
theorem fdiv_B {a : Int} (h : i64B a) (n : Nat) : i64B (a.fdiv (2 ^ n)) := by
  have hp : (0 : Int) < 2 ^ n := Int.pow_pos (by decide)
  rw [Int.fdiv_eq_ediv_of_nonneg _ (Int.le_of_lt hp)]
  unfold i64B at h ⊢
  constructor
  · refine (Int.le_ediv_iff_mul_le hp).2 ?_
    have : (1 : Int) ≤ 2 ^ n := hp
    have := Int.mul_le_mul_of_nonneg_left this (by decide : (0 : Int) ≤ 9223372036854775808)
    omega
  · by_cases h0 : 0 ≤ a
    · exact Int.le_trans (Int.ediv_le_self _ h0) h.2
    · have : a / 2 ^ n < 0 := Int.ediv_neg_of_neg_of_pos (by omega) hp
      omega
theorem doV_B {k a b : Int} (h : i64B a) : i64B (doV k a b) := by
  unfold doV
  repeat' split
  all_goals first | exact w64_B _ | exact trI_B _ | exact fdiv_B h _
theorem doV_un {k a b c : Int} (h5 : 5 ≤ k) (h : k ≤ 6) : doV k a b = doV k a c := by
  rcases (show k = 5 ∨ k = 6 by omega) with rfl | rfl
  · rfl
  · rfl
def leafV (k n : Int) (r : Rcd) : Int := if k = 1 then n else if k = 2 then r.key else if k = 3 then r.t else r.v
def nodeV (r : Rcd) (x : Node) (vs : List Int) : Int := if x.kind ≤ 4 then leafV x.kind x.n r else doV x.kind (vs.getD x.a.toNat default) (vs.getD x.b.toNat default)
def valsL (r : Rcd) (l : List Node) : List Int := l.foldl (fun vs x => vs ++ [nodeV r x vs]) []
theorem valsL_snoc (r : Rcd) (l : List Node) (x : Node) : valsL r (l ++ [x]) = valsL r l ++ [nodeV r x (valsL r l)] := by
  unfold valsL; rw [List.foldl_append]; rfl
theorem take_snoc {l : List Node} {k : Nat} (hk : k < l.length) : l.take (k + 1) = l.take k ++ [l.getD k default] := by
  rw [List.take_add_one, List.getElem?_eq_getElem hk, List.getD_eq_getElem?_getD, List.getElem?_eq_getElem hk]; rfl
theorem valsL_next {r : Rcd} {l : List Node} {k : Nat} (hk : k < l.length) : valsL r (l.take (k + 1)) = valsL r (l.take k) ++ [nodeV r (l.getD k default) (valsL r (l.take k))] := by
  rw [take_snoc hk, valsL_snoc]
theorem valsL_length (r : Rcd) : ∀ l : List Node, (valsL r l).length = l.length := by
  intro l
  suffices H : ∀ k, k ≤ l.length → (valsL r (l.take k)).length = k by have := H l.length (Nat.le_refl _); rwa [List.take_length] at this
  intro k
  induction k with
  | zero => intro _; rfl
  | succ k ih => intro h; rw [valsL_next (by omega), List.length_append, ih (by omega)]; rfl
theorem valsL_take {r : Rcd} {l : List Node} : ∀ {k : Nat}, k ≤ l.length → valsL r (l.take k) = (valsL r l).take k := by
  suffices H : ∀ d k, k + d = l.length → valsL r (l.take k) = (valsL r l).take k from fun {k} h => H (l.length - k) k (by omega)
  intro d
  induction d with
  | zero => intro k h; rw [show k = l.length by omega, List.take_length, List.take_of_length_le (by rw [valsL_length]; exact Nat.le_refl _)]
  | succ d ih =>
    intro k h
    have h1 := ih (k + 1) (by omega)
    rw [valsL_next (by omega)] at h1
    have h2 := congrArg (List.take k) h1
    rw [List.take_take, Nat.min_eq_left (by omega), List.take_append_of_le_length (by rw [valsL_length]; simp; omega), List.take_of_length_le (by rw [valsL_length]; simp; omega)] at h2
    exact h2
def valAt (r : Rcd) (l : List Node) (j : Nat) : Int := (valsL r l).getD j default
theorem valAt_take {r : Rcd} {l : List Node} {k j : Nat} (hk : k ≤ l.length) (hj : j < k) : (valsL r (l.take k)).getD j default = valAt r l j := by
  unfold valAt
  rw [valsL_take hk]
  simp only [List.getD_eq_getElem?_getD]
  rw [List.getElem?_take_of_lt hj]
theorem valAt_node {r : Rcd} {l : List Node} {k : Nat} (hk : k < l.length) : valAt r l k = nodeV r (l.getD k default) (valsL r (l.take k)) := by
  rw [← valAt_take (k := k + 1) (by omega) (by omega), valsL_next hk]
  simp only [List.getD_eq_getElem?_getD]
  rw [List.getElem?_append_right (by rw [valsL_length]; simp; omega), valsL_length]
  simp [Nat.min_eq_left (Nat.le_of_lt hk)]
theorem valAt_leaf {r : Rcd} {l : List Node} {k : Nat} (hk : k < l.length) (h : (l.getD k default).kind ≤ 4) : valAt r l k = leafV (l.getD k default).kind (l.getD k default).n r := by
  rw [valAt_node hk]; unfold nodeV; rw [if_pos h]
theorem valAt_un {r : Rcd} {l : List Node} {k : Nat} (hk : k < l.length) (h4 : 4 < (l.getD k default).kind) (h : (l.getD k default).kind ≤ 6) (h0 : 0 ≤ (l.getD k default).a) (h1 : (l.getD k default).a < k) (c : Int) :
    valAt r l k = doV (l.getD k default).kind (valAt r l (l.getD k default).a.toNat) c := by
  rw [valAt_node hk]; unfold nodeV; rw [if_neg (by omega), valAt_take (by omega) (by omega)]
  exact doV_un (by omega) h
theorem valAt_bin {r : Rcd} {l : List Node} {k : Nat} (hk : k < l.length) (h : 4 < (l.getD k default).kind) (h0 : 0 ≤ (l.getD k default).a) (h1 : (l.getD k default).a < k) (h2 : 0 ≤ (l.getD k default).b) (h3 : (l.getD k default).b < k) :
    valAt r l k = doV (l.getD k default).kind (valAt r l (l.getD k default).a.toNat) (valAt r l (l.getD k default).b.toNat) := by
  rw [valAt_node hk]; unfold nodeV; rw [if_neg (by omega), valAt_take (by omega) (by omega), valAt_take (by omega) (by omega)]
def Rcd.B (r : Rcd) : Prop := i64B r.key ∧ i64B r.t ∧ i64B r.v
theorem valAt_B {r : Rcd} {l : List Node} (hr : r.B) (hn : ∀ x ∈ l, i64B x.n) : ∀ j, i64B (valAt r l j) := by
  intro j
  induction j using Nat.strongRecOn with
  | _ j ih =>
    by_cases hj : j < l.length
    · rw [valAt_node hj]
      unfold nodeV leafV
      obtain ⟨h1, h2, h3⟩ := hr
      split
      · split
        · have : l.getD j default ∈ l := by rw [List.getD_eq_getElem?_getD, List.getElem?_eq_getElem hj]; exact List.getElem_mem _
          exact hn _ this
        · split
          · exact h1
          · split
            · exact h2
            · exact h3
      · refine doV_B ?_
        by_cases ha : (l.getD j default).a.toNat < j
        · rw [valAt_take (by omega) ha]; exact ih _ ha
        · have : (valsL r (l.take j)).length = j := by rw [valsL_length]; simp; omega
          rw [List.getD_eq_getElem?_getD, List.getElem?_eq_none (by omega)]
          exact ⟨by decide, by decide⟩
    · have : (valsL r l).length = l.length := valsL_length r l
      unfold valAt
      rw [List.getD_eq_getElem?_getD, List.getElem?_eq_none (by omega)]
      exact ⟨by decide, by decide⟩
theorem doV_truth {k a b : Int} (h : givesB k = true) (h1 : k ≤ 19) : doV k a b = 0 ∨ doV k a b = 1 := by
  have ht : ∀ x, trI x = 0 ∨ trI x = 1 := fun x => by cases x; exact .inl rfl; exact .inr rfl
  have hk : k = 6 ∨ 12 ≤ k := by unfold givesB at h; simpa using h
  unfold doV
  rcases hk with rfl | hk
  · exact ht _
  · rw [if_neg (by omega), if_neg (by omega), if_neg (by omega), if_neg (by omega), if_neg (by omega), if_neg (by omega), if_neg (by omega)]
    repeat' split
    all_goals exact ht _
end Go.Proofs.Yteohklfoggiojaa
