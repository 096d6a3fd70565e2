/-
  The walks over operators: of the program and of the reference.
-/
import Derived.Test.YteohklfoggiojaaEvalM
import Derived.Test.YteohklfoggiojaaFacts
import Derived.Test.YteohklfoggiojaaAbsQ
namespace Go.Proofs.Yteohklfoggiojaa
open Go.AL Go.RowKit
set_option linter.unusedSimpArgs false
set_option linter.unusedVariables false
set_option maxRecDepth 10000
set_option maxHeartbeats 4000000
def dd96 : Nat → List (List Nat)
  | 0 => [[], [2]]
  | 1 => [[], [0]]
  | 2 => [[3], []]
  | 3 => [[3], []]
  | _ => []
theorem truth_c (b : Bool) : ACall Try.prog 96 [.lit (.bool b)] (.lit (.int .i64 (trI b))) := by
  unfold trI
  cases b
  all_goals
    refine acall_of (n := 4) (rs := [.tmp 2]) Try.func96 rfl (by kernel_rfl) rfl rfl rfl ?_; simp only [argsE, Nat.reduceAdd]
    repeat (any_goals (first | (refine aops_cons (fun K' h' => ?_); simp only [go_sem, Nat.reduceLT, Nat.reduceLeDiff, Nat.reduceEqDiff, reduceIte, Nat.reduceAdd, Nat.reduceMul, Nat.reduceSub, Int.reduceLT, Int.reduceLE, Int.reduceToNat, Int.reduceNeg, reduceCtorEq]; (try simp (disch := omega) only [wrap_id, getD_map_in, Int.toNat_natCast]); (repeat (refine And.intro (by (first | omega | (simp; done) | (simp; omega) | assumption)) ?_)); refine h' _ ?_; clear h' K') | (refine aops_nil (hK _ ?_); clear hK K gs; try simp only [aThen, aBlock]) | (refine AWp.sreg  dd96 rfl (fun gs K hgs hK => ?_); clear hgs) | refine AWp.seq ?_ | refine ARounds.step ?_ | refine AWp.block ?_ | refine AWp.label ?_ | (refine AWp.ret ?_; try simp only [aThen, aBlock]) | (refine AWp.skip ?_; try simp only [aThen, aBlock]) | (refine AWp.exit ?_; try simp only [aThen, aBlock, Nat.reduceEqDiff, reduceIte]) | (refine AWp.reg  dd96 rfl (fun gs K hgs hK => ?_); clear hgs) | (refine AWp.cond rfl (fun h => ?_) (fun h => ?_) <;> (try simp only [decide_eq_true_eq, decide_eq_false_iff_not, beq_iff_eq, bne_iff_ne, ne_eq, Bool.not_eq_true', Bool.not_eq_false', beq_eq_false_iff_ne, Bool.true_eq_false, Bool.false_eq_true, Int.not_le, Int.not_lt, Bool.and_eq_true, Bool.and_eq_false_iff, Bool.or_eq_true, Bool.or_eq_false_iff, bne_eq_false_iff_eq, reduceCtorEq] at h) <;> (try first | contradiction | (exfalso; omega) | (exfalso; revert h; simp; done) | (exfalso; revert h; simp; omega)))))
    simp only [Out, outA, outL, resA, go_sem, Nat.reduceLT, Nat.reduceLeDiff, Nat.reduceEqDiff, reduceIte, Nat.reduceAdd, Nat.reduceMul, Nat.reduceSub, Int.reduceLT, Int.reduceLE, Int.reduceToNat, Int.reduceNeg, reduceCtorEq]
    exact AVle.refl _
def dd90 : Nat → List (List Nat)
  | 0 => [[], [2]]
  | 1 => [[], [0]]
  | 2 => [[3], []]
  | 3 => [[3], []]
  | _ => []
theorem rTruth_c (b : Bool) : ACall Try.prog 90 [.lit (.bool b)] (.lit (.int .i64 (trI b))) := by
  unfold trI
  cases b
  all_goals
    refine acall_of (n := 4) (rs := [.tmp 2]) Try.func90 rfl (by kernel_rfl) rfl rfl rfl ?_; simp only [argsE, Nat.reduceAdd]
    repeat (any_goals (first | (refine aops_cons (fun K' h' => ?_); simp only [go_sem, Nat.reduceLT, Nat.reduceLeDiff, Nat.reduceEqDiff, reduceIte, Nat.reduceAdd, Nat.reduceMul, Nat.reduceSub, Int.reduceLT, Int.reduceLE, Int.reduceToNat, Int.reduceNeg, reduceCtorEq]; (try simp (disch := omega) only [wrap_id, getD_map_in, Int.toNat_natCast]); (repeat (refine And.intro (by (first | omega | (simp; done) | (simp; omega) | assumption)) ?_)); refine h' _ ?_; clear h' K') | (refine aops_nil (hK _ ?_); clear hK K gs; try simp only [aThen, aBlock]) | (refine AWp.sreg  dd90 rfl (fun gs K hgs hK => ?_); clear hgs) | refine AWp.seq ?_ | refine ARounds.step ?_ | refine AWp.block ?_ | refine AWp.label ?_ | (refine AWp.ret ?_; try simp only [aThen, aBlock]) | (refine AWp.skip ?_; try simp only [aThen, aBlock]) | (refine AWp.exit ?_; try simp only [aThen, aBlock, Nat.reduceEqDiff, reduceIte]) | (refine AWp.reg  dd90 rfl (fun gs K hgs hK => ?_); clear hgs) | (refine AWp.cond rfl (fun h => ?_) (fun h => ?_) <;> (try simp only [decide_eq_true_eq, decide_eq_false_iff_not, beq_iff_eq, bne_iff_ne, ne_eq, Bool.not_eq_true', Bool.not_eq_false', beq_eq_false_iff_ne, Bool.true_eq_false, Bool.false_eq_true, Int.not_le, Int.not_lt, Bool.and_eq_true, Bool.and_eq_false_iff, Bool.or_eq_true, Bool.or_eq_false_iff, bne_eq_false_iff_eq, reduceCtorEq] at h) <;> (try first | contradiction | (exfalso; omega) | (exfalso; revert h; simp; done) | (exfalso; revert h; simp; omega)))))
    simp only [Out, outA, outL, resA, go_sem, Nat.reduceLT, Nat.reduceLeDiff, Nat.reduceEqDiff, reduceIte, Nat.reduceAdd, Nat.reduceMul, Nat.reduceSub, Int.reduceLT, Int.reduceLE, Int.reduceToNat, Int.reduceNeg, reduceCtorEq]
    exact AVle.refl _
theorem min_shC (b : Int) : min (shC b) 64 = shC b := by
  have := shC_lt b
  omega
theorem half_1 {x : Int} (hx : i64B x) (h : ¬ x.tmod 2 < 0) : w64 (x.tdiv 2) = x.fdiv 2 := by
  unfold i64B at hx
  have h2 : x.fdiv 2 = x / 2 := Int.fdiv_eq_ediv_of_nonneg _ (by decide)
  rw [h2]
  by_cases h0 : 0 ≤ x
  · rw [Int.tdiv_eq_ediv_of_nonneg h0]
    exact w64_id (by unfold i64B; omega)
  · obtain ⟨y, rfl⟩ : ∃ y, x = -y := ⟨-x, by omega⟩
    rw [Int.neg_tmod, Int.tmod_eq_emod_of_nonneg (by omega)] at h
    rw [Int.neg_tdiv, Int.tdiv_eq_ediv_of_nonneg (by omega), w64_id (by unfold i64B; omega)]
    omega
theorem half_2 {x : Int} (hx : i64B x) (h : x.tmod 2 < 0) : w64 (w64 (x.tdiv 2) - 1) = x.fdiv 2 := by
  unfold i64B at hx
  have h2 : x.fdiv 2 = x / 2 := Int.fdiv_eq_ediv_of_nonneg _ (by decide)
  rw [h2]
  by_cases h0 : 0 ≤ x
  · rw [Int.tmod_eq_emod_of_nonneg h0] at h
    omega
  · obtain ⟨y, rfl⟩ : ∃ y, x = -y := ⟨-x, by omega⟩
    rw [Int.neg_tmod, Int.tmod_eq_emod_of_nonneg (by omega)] at h
    rw [Int.neg_tdiv, Int.tdiv_eq_ediv_of_nonneg (by omega), w64_id (n := -(y / 2)) (by unfold i64B; omega), w64_id (by unfold i64B; omega)]
    omega
theorem count_w (b : Int) : IntKind.i64.wrap ((IntKind.u64.wrap b).tmod 64) = ((shC b : Nat) : Int) := by
  have h1 : IntKind.u64.wrap b = b % 18446744073709551616 := by simp [IntKind.wrap, IntKind.bits, IntKind.signed]
  rw [h1, Int.tmod_eq_emod_of_nonneg (by omega), shC_cast]
  have := w64_id (n := b % 18446744073709551616 % 64) (by unfold i64B; omega)
  unfold w64 at this
  rw [this]
  omega
theorem pow_next (k : Nat) : w64 (w64 (2 ^ k) + w64 (2 ^ k)) = w64 (2 ^ (k + 1)) := by
  rw [w64_add, Int.pow_succ]
  congr 1
  omega
theorem fdiv_next (a : Int) (k : Nat) : (a.fdiv (2 ^ k)).fdiv 2 = a.fdiv (2 ^ (k + 1)) := by
  have hp : (0 : Int) ≤ 2 ^ k := Int.le_of_lt (Int.pow_pos (by decide))
  have hp2 : (0 : Int) ≤ 2 ^ (k + 1) := Int.le_of_lt (Int.pow_pos (by decide))
  rw [Int.fdiv_eq_ediv_of_nonneg _ hp, Int.fdiv_eq_ediv_of_nonneg _ (by decide), Int.fdiv_eq_ediv_of_nonneg _ hp2, Int.pow_succ, Int.ediv_ediv_of_nonneg hp]
theorem fdiv_1 (a : Int) : a.fdiv (2 ^ 0) = a := by
  rw [Int.fdiv_eq_ediv_of_nonneg _ (by decide)]; simp
def dd77 : Nat → List (List Nat)
  | 0 => [[], [6], [7]]
  | 1 => [[], [0]]
  | 2 => [[], [], [10]]
  | 3 => [[2, 8, 9], [1], [11], [12], []]
  | 4 => [[9], [], [14]]
  | 5 => [[2, 8, 13], [1], [15], [16], [17], []]
  | 6 => [[13], [], [19]]
  | 7 => [[8, 18], [1], [2], [20, 21], [22], []]
  | 8 => [[18], [], [24]]
  | 9 => [[8, 23], [1], [2], [25, 26], [27], []]
  | 10 => [[23], [], [29]]
  | 11 => [[8, 28], [1], [2], [30, 31], [32], []]
  | 12 => [[28], [], [34]]
  | 13 => [[8, 33], [1], [2], [36], [35, 37], [38], []]
  | 14 => [[33], [], [40]]
  | 15 => [[8, 39], [1], [2], [42], [41, 43], [44], []]
  | 16 => [[39], [], [46]]
  | 17 => [[8, 45], [1], [2], [47, 48], [49], [50], []]
  | 18 => [[45], [], [52]]
  | 19 => [[8, 51], [1], [2], [53, 54], [55], [56], []]
  | 20 => [[51], [], [58]]
  | 21 => [[8, 57], [1], [2], [59, 60], [61], [62], []]
  | 22 => [[57], [], [64]]
  | 23 => [[8, 63], [1], [2], [65, 66], [67], [68], []]
  | 24 => [[63], [], [70]]
  | 25 => [[8, 69], [1], [2], [71, 72], [73], [74], []]
  | 26 => [[69], [], [76]]
  | 27 => [[8, 75], [1], [2], [77, 78], [79], [80], []]
  | 28 => [[75], [], [82]]
  | 29 => [[8, 81], [1], [83], [84], [2], [86], [85, 87], [88], [89], []]
  | 30 => [[81], [8], [91]]
  | 31 => [[90], [1], [2], [92, 93], [94], [95], [96], []]
  | 32 => [[1, 2, 90], [], []]
  | _ => []
theorem do_c (k a b : Int) (ha : i64B a) (hb : i64B b) (h5 : 5 ≤ k) (h19 : k ≤ 19) : ACall Try.prog 77 [.lit (.int .u8 k), .lit (.int .i64 a), .lit (.int .i64 b)] (.tup [.lit (.int .i64 (doV k a b)), .lit (.int .i64 0)]) := by
  have h1 := and63 b
  have h2 := min_shC b
  have h4 := bOr_0 ha hb
  have hk : k = 5 ∨ k = 6 ∨ k = 7 ∨ k = 8 ∨ k = 9 ∨ k = 10 ∨ k = 11 ∨ k = 12 ∨ k = 13 ∨ k = 14 ∨ k = 15 ∨ k = 16 ∨ k = 17 ∨ k = 18 ∨ k = 19 := by omega
  rcases hk with rfl | rfl | rfl | rfl | rfl | rfl | rfl | rfl | rfl | rfl | rfl | rfl | rfl | rfl | rfl
  all_goals
    refine acall_of (n := 97) (rs := [.tmp 6, .tmp 7]) Try.func77 rfl (by kernel_rfl) rfl rfl rfl ?_; simp only [argsE, Nat.reduceAdd]
    repeat (any_goals (first | (refine aops_cons (fun K' h' => ?_); simp only [go_sem, Nat.reduceLT, Nat.reduceLeDiff, Nat.reduceEqDiff, reduceIte, Nat.reduceAdd, Nat.reduceMul, Nat.reduceSub, Int.reduceLT, Int.reduceLE, Int.reduceToNat, Int.reduceNeg, reduceCtorEq, hgs, h1, h2, h4]; (try ((first | refine ⟨_, truth_c _, ?_⟩ | refine ⟨_, fun _ => truth_c _, ?_⟩); (try simp only [go_sem, Nat.reduceLT, Nat.reduceLeDiff, Nat.reduceEqDiff, reduceIte, Nat.reduceAdd, Nat.reduceMul, Nat.reduceSub, Int.reduceLT, Int.reduceLE, Int.reduceToNat, Int.reduceNeg, reduceCtorEq, hgs, h1, h2, h4]))); (try simp (disch := omega) only [wrap_id, getD_map_in, Int.toNat_natCast, h1, h2, h4]); (repeat (refine And.intro (by (first | omega | (simp; done) | (simp; omega) | assumption)) ?_)); refine h' _ ?_; clear h' K') | (refine aops_nil (hK _ ?_); clear hK K hgs gs; try simp only [aThen, aBlock]) | ((first | refine AWp.sreg (id := 29) dd77 rfl (fun gs K hgs hK => ?_) | refine AWp.reg (id := 29) dd77 rfl (fun gs K hgs hK => ?_)); replace hgs : gs 2 = some 85 := hgs 2) | (refine AWp.sreg  dd77 rfl (fun gs K hgs hK => ?_); replace hgs : Nat.succ 0 = 1 := rfl) | refine AWp.seq ?_ | refine ARounds.step ?_ | refine AWp.block ?_ | refine AWp.label ?_ | (refine AWp.ret ?_; try simp only [aThen, aBlock]) | (refine AWp.skip ?_; try simp only [aThen, aBlock]) | (refine AWp.exit ?_; try simp only [aThen, aBlock, Nat.reduceEqDiff, reduceIte]) | (refine AWp.reg  dd77 rfl (fun gs K hgs hK => ?_); replace hgs : Nat.succ 0 = 1 := rfl) | (refine AWp.cond rfl (fun h => ?_) (fun h => ?_) <;> (try simp only [decide_eq_true_eq, decide_eq_false_iff_not, beq_iff_eq, bne_iff_ne, ne_eq, Bool.not_eq_true', Bool.not_eq_false', beq_eq_false_iff_ne, Bool.true_eq_false, Bool.false_eq_true, Int.not_le, Int.not_lt, Bool.and_eq_true, Bool.and_eq_false_iff, Bool.or_eq_true, Bool.or_eq_false_iff, bne_eq_false_iff_eq, reduceCtorEq] at h) <;> (try first | contradiction | (exfalso; omega) | (exfalso; revert h; simp; done) | (exfalso; revert h; simp; omega)))))
    simp only [Out, outA, outL, resA, go_sem, Nat.reduceLT, Nat.reduceLeDiff, Nat.reduceEqDiff, reduceIte, Nat.reduceAdd, Nat.reduceMul, Nat.reduceSub, Int.reduceLT, Int.reduceLE, Int.reduceToNat, Int.reduceNeg, reduceCtorEq]
    exact AVle.of_eq rfl
def dd92 : Nat → List (List Nat)
  | 0 => [[], [2]]
  | 1 => [[], [0], [3], [4], [5], [6]]
  | _ => []
theorem rCount_c (b : Int) : ACall Try.prog 92 [.lit (.int .i64 b)] (.lit (.int .i64 ((shC b : Nat) : Int))) := by
  have hw := count_w b
  refine acall_of (n := 7) (rs := [.tmp 2]) Try.func92 rfl (by kernel_rfl) rfl rfl rfl ?_; simp only [argsE, Nat.reduceAdd]
  repeat (any_goals (first | (refine aops_cons (fun K' h' => ?_); simp only [go_sem, Nat.reduceLT, Nat.reduceLeDiff, Nat.reduceEqDiff, reduceIte, Nat.reduceAdd, Nat.reduceMul, Nat.reduceSub, Int.reduceLT, Int.reduceLE, Int.reduceToNat, Int.reduceNeg, reduceCtorEq, hw]; (try simp (disch := omega) only [wrap_id, getD_map_in, Int.toNat_natCast, hw]); (repeat (refine And.intro (by (first | omega | (simp; done) | (simp; omega) | assumption)) ?_)); refine h' _ ?_; clear h' K') | (refine aops_nil (hK _ ?_); clear hK K gs; try simp only [aThen, aBlock]) | (refine AWp.sreg  dd92 rfl (fun gs K hgs hK => ?_); clear hgs) | refine AWp.seq ?_ | refine ARounds.step ?_ | refine AWp.block ?_ | refine AWp.label ?_ | (refine AWp.ret ?_; try simp only [aThen, aBlock]) | (refine AWp.skip ?_; try simp only [aThen, aBlock]) | (refine AWp.exit ?_; try simp only [aThen, aBlock, Nat.reduceEqDiff, reduceIte]) | (refine AWp.reg  dd92 rfl (fun gs K hgs hK => ?_); clear hgs) | (refine AWp.cond rfl (fun h => ?_) (fun h => ?_) <;> (try simp only [decide_eq_true_eq, decide_eq_false_iff_not, beq_iff_eq, bne_iff_ne, ne_eq, Bool.not_eq_true', Bool.not_eq_false', beq_eq_false_iff_ne, Bool.true_eq_false, Bool.false_eq_true, Int.not_le, Int.not_lt, Bool.and_eq_true, Bool.and_eq_false_iff, Bool.or_eq_true, Bool.or_eq_false_iff, bne_eq_false_iff_eq, reduceCtorEq] at h) <;> (try first | contradiction | (exfalso; omega) | (exfalso; revert h; simp; done) | (exfalso; revert h; simp; omega)))))
  simp only [Out, outA, outL, resA, go_sem, Nat.reduceLT, Nat.reduceLeDiff, Nat.reduceEqDiff, reduceIte, Nat.reduceAdd, Nat.reduceMul, Nat.reduceSub, Int.reduceLT, Int.reduceLE, Int.reduceToNat, Int.reduceNeg, reduceCtorEq]
  exact AVle.refl _
def dd93 : Nat → List (List Nat)
  | 0 => [[], [2]]
  | 1 => [[], [], [3], [4]]
  | 2 => [[5], [0], [6], [7], [8]]
  | 3 => [[5], [0], [9], [10]]
  | _ => []
theorem rHalf_c (x : Int) (hx : i64B x) : ACall Try.prog 93 [.lit (.int .i64 x)] (.lit (.int .i64 (x.fdiv 2))) := by
  have h1 := half_1 hx
  have h2 := half_2 hx
  unfold w64 at h1 h2
  refine acall_of (n := 11) (rs := [.tmp 2]) Try.func93 rfl (by kernel_rfl) rfl rfl rfl ?_; simp only [argsE, Nat.reduceAdd]
  repeat (any_goals (first | (refine aops_cons (fun K' h' => ?_); simp only [go_sem, Nat.reduceLT, Nat.reduceLeDiff, Nat.reduceEqDiff, reduceIte, Nat.reduceAdd, Nat.reduceMul, Nat.reduceSub, Int.reduceLT, Int.reduceLE, Int.reduceToNat, Int.reduceNeg, reduceCtorEq]; (try simp (disch := omega) only [wrap_id, getD_map_in, Int.toNat_natCast]); (repeat (refine And.intro (by (first | omega | (simp; done) | (simp; omega) | assumption)) ?_)); refine h' _ ?_; clear h' K') | (refine aops_nil (hK _ ?_); clear hK K gs; try simp only [aThen, aBlock]) | (refine AWp.sreg  dd93 rfl (fun gs K hgs hK => ?_); clear hgs) | refine AWp.seq ?_ | refine ARounds.step ?_ | refine AWp.block ?_ | refine AWp.label ?_ | (refine AWp.ret ?_; try simp only [aThen, aBlock]) | (refine AWp.skip ?_; try simp only [aThen, aBlock]) | (refine AWp.exit ?_; try simp only [aThen, aBlock, Nat.reduceEqDiff, reduceIte]) | (refine AWp.reg  dd93 rfl (fun gs K hgs hK => ?_); clear hgs) | (refine AWp.cond rfl (fun h => ?_) (fun h => ?_) <;> (try simp only [decide_eq_true_eq, decide_eq_false_iff_not, beq_iff_eq, bne_iff_ne, ne_eq, Bool.not_eq_true', Bool.not_eq_false', beq_eq_false_iff_ne, Bool.true_eq_false, Bool.false_eq_true, Int.not_le, Int.not_lt, Bool.and_eq_true, Bool.and_eq_false_iff, Bool.or_eq_true, Bool.or_eq_false_iff, bne_eq_false_iff_eq, reduceCtorEq] at h) <;> (try first | contradiction | (exfalso; omega) | (exfalso; revert h; simp; done) | (exfalso; revert h; simp; omega)))))
  all_goals simp only [Out, outA, outL, resA, go_sem, Nat.reduceLT, Nat.reduceLeDiff, Nat.reduceEqDiff, reduceIte, Nat.reduceAdd, Nat.reduceMul, Nat.reduceSub, Int.reduceLT, Int.reduceLE, Int.reduceToNat, Int.reduceNeg, reduceCtorEq]
  all_goals refine AVle.of_eq (congrArg (fun n => AV.lit (.int .i64 n)) ?_)
  all_goals first
    | exact h1 (by omega)
    | exact h2 (by assumption)
def dd91 : Nat → List (List Nat)
  | 0 => [[], [2]]
  | 1 => [[], []]
  | 2 => [[], []]
  | 3 => [[], [], [], [5, 6]]
  | 4 => [[], [4], [8], [9]]
  | 5 => [[7], [], [3], [10, 11], [12]]
  | 6 => [[0, 4, 7], [3], [13]]
  | _ => []
theorem rPower_c (n : Nat) (hn : n ≤ 64) : ACall Try.prog 91 [.lit (.int .i64 (n : Int))] (.lit (.int .i64 (w64 (2 ^ n)))) := by
  refine acall_of (n := 14) (rs := [.tmp 2]) Try.func91 rfl (by kernel_rfl) rfl rfl rfl ?_; simp only [argsE, Nat.reduceAdd]
  repeat (any_goals (first | (refine aops_cons (fun K' h' => ?_); simp only [go_sem, Nat.reduceLT, Nat.reduceLeDiff, Nat.reduceEqDiff, reduceIte, Nat.reduceAdd, Nat.reduceMul, Nat.reduceSub, Int.reduceLT, Int.reduceLE, Int.reduceToNat, Int.reduceNeg, reduceCtorEq]; (try simp (disch := omega) only [wrap_id, getD_map_in, Int.toNat_natCast]); (repeat (refine And.intro (by (first | omega | (simp; done) | (simp; omega) | assumption)) ?_)); refine h' _ ?_; clear h' K') | (refine aops_nil (hK _ ?_); clear hK K gs; try simp only [aThen, aBlock]) | (refine AWp.sreg  dd91 rfl (fun gs K hgs hK => ?_); clear hgs) | refine AWp.seq ?_ | refine ARounds.step ?_ | refine AWp.block ?_ | refine AWp.label ?_ | (refine AWp.ret ?_; try simp only [aThen, aBlock]) | (refine AWp.skip ?_; try simp only [aThen, aBlock]) | (refine AWp.exit ?_; try simp only [aThen, aBlock, Nat.reduceEqDiff, reduceIte]) | (refine AWp.reg  dd91 rfl (fun gs K hgs hK => ?_); clear hgs) | (refine AWp.cond rfl (fun h => ?_) (fun h => ?_) <;> (try simp only [decide_eq_true_eq, decide_eq_false_iff_not, beq_iff_eq, bne_iff_ne, ne_eq, Bool.not_eq_true', Bool.not_eq_false', beq_eq_false_iff_ne, Bool.true_eq_false, Bool.false_eq_true, Int.not_le, Int.not_lt, Bool.and_eq_true, Bool.and_eq_false_iff, Bool.or_eq_true, Bool.or_eq_false_iff, bne_eq_false_iff_eq, reduceCtorEq] at h) <;> (try first | contradiction | (exfalso; omega) | (exfalso; revert h; simp; done) | (exfalso; revert h; simp; omega)))))
  refine AWp.loopN n (fun _ => True) (fun k => ⟨[(0, .lit (.int .i64 (n : Int))), (3, .lit (.int .i64 (w64 (2 ^ k)))), (4, .lit (.int .i64 (k : Int)))], [], []⟩) ?_ ?_
  · refine Wk.ofCut 0 0 rfl rfl ?_
    rw [show w64 (2 ^ 0) = 1 from rfl]
    simp [subE, eget, ASt.drop, dropE, keepR, lowE, AV.lowB, lowL, Nat.blt, Nat.ble]
  · intro k hk _
    have hnx := pow_next k
    obtain ⟨x, hx⟩ : ∃ x, w64 (2 ^ k) = x := ⟨_, rfl⟩
    obtain ⟨z, hz⟩ : ∃ z, w64 (2 ^ (k + 1)) = z := ⟨_, rfl⟩
    rw [hx, hz] at hnx
    unfold w64 at hnx
    rw [hx]
    repeat (any_goals (first | (refine aops_cons (fun K' h' => ?_); simp only [go_sem, Nat.reduceLT, Nat.reduceLeDiff, Nat.reduceEqDiff, reduceIte, Nat.reduceAdd, Nat.reduceMul, Nat.reduceSub, Int.reduceLT, Int.reduceLE, Int.reduceToNat, Int.reduceNeg, reduceCtorEq, hnx]; (try simp (disch := omega) only [wrap_id, getD_map_in, Int.toNat_natCast, hnx]); (repeat (refine And.intro (by (first | omega | (simp; done) | (simp; omega) | assumption)) ?_)); refine h' _ ?_; clear h' K') | (refine aops_nil (hK _ ?_); clear hK K gs; try simp only [aThen, aBlock]) | (refine AWp.sreg  dd91 rfl (fun gs K hgs hK => ?_); clear hgs) | refine AWp.seq ?_ | refine ARounds.step ?_ | refine AWp.block ?_ | refine AWp.label ?_ | (refine AWp.ret ?_; try simp only [aThen, aBlock]) | (refine AWp.skip ?_; try simp only [aThen, aBlock]) | (refine AWp.exit ?_; try simp only [aThen, aBlock, Nat.reduceEqDiff, reduceIte]) | (refine AWp.reg  dd91 rfl (fun gs K hgs hK => ?_); clear hgs) | (refine AWp.cond rfl (fun h => ?_) (fun h => ?_) <;> (try simp only [decide_eq_true_eq, decide_eq_false_iff_not, beq_iff_eq, bne_iff_ne, ne_eq, Bool.not_eq_true', Bool.not_eq_false', beq_eq_false_iff_ne, Bool.true_eq_false, Bool.false_eq_true, Int.not_le, Int.not_lt, Bool.and_eq_true, Bool.and_eq_false_iff, Bool.or_eq_true, Bool.or_eq_false_iff, bne_eq_false_iff_eq, reduceCtorEq] at h) <;> (try first | contradiction | (exfalso; omega) | (exfalso; revert h; simp; done) | (exfalso; revert h; simp; omega)))))
    · rw [hz]
      refine ⟨by omega, trivial, Wk.ofCut 0 0 rfl rfl ?_⟩
      simp [subE, eget, ASt.drop, dropE, keepR, lowE, AV.lowB, lowL, Nat.blt, Nat.ble]
    · obtain rfl : k = n := by omega
      simp only [Out, outA, outL, resA, go_sem, Nat.reduceLT, Nat.reduceLeDiff, Nat.reduceEqDiff, reduceIte, Nat.reduceAdd, Nat.reduceMul, Nat.reduceSub, Int.reduceLT, Int.reduceLE, Int.reduceToNat, Int.reduceNeg, reduceCtorEq]
      rw [hx]
      exact AVle.refl _
def dd94 : Nat → List (List Nat)
  | 0 => [[], [6]]
  | 1 => [[], [0]]
  | 2 => [[], [], [9]]
  | 3 => [[7, 8], [1], [2], [10, 11], [12]]
  | 4 => [[8], [], [14]]
  | 5 => [[7, 13], [], [], [15, 16], [17], [1], [2], [19, 20], [18, 21], [22]]
  | 6 => [[13], [], [24]]
  | 7 => [[7, 23], [2], [1], [25, 26], [27]]
  | 8 => [[23], [], [29]]
  | 9 => [[7, 28], [], [], [30, 31], [32], [1], [2], [34, 35], [33, 36], [37]]
  | 10 => [[28], [7], [39]]
  | 11 => [[38], [1], [2], [40, 41], [42]]
  | 12 => [[38], [1], [2], [43, 44], [45]]
  | _ => []
theorem rCompare_c (k a b : Int) : ACall Try.prog 94 [.lit (.int .u8 k), .lit (.int .i64 a), .lit (.int .i64 b)] (.lit (.bool (cmpB k a b))) := by
  refine acall_of (n := 46) (rs := [.tmp 6]) Try.func94 rfl (by kernel_rfl) rfl rfl rfl ?_; simp only [argsE, Nat.reduceAdd]
  repeat (any_goals (first | (refine aops_cons (fun K' h' => ?_); simp only [go_sem, Nat.reduceLT, Nat.reduceLeDiff, Nat.reduceEqDiff, reduceIte, Nat.reduceAdd, Nat.reduceMul, Nat.reduceSub, Int.reduceLT, Int.reduceLE, Int.reduceToNat, Int.reduceNeg, reduceCtorEq, hgs]; (try simp (disch := omega) only [wrap_id, getD_map_in, Int.toNat_natCast]); (repeat (refine And.intro (by (first | omega | (simp; done) | (simp; omega) | assumption)) ?_)); refine h' _ ?_; clear h' K') | (refine aops_nil (hK _ ?_); clear hK K hgs gs; try simp only [aThen, aBlock]) | ((first | refine AWp.sreg (id := 5) dd94 rfl (fun gs K hgs hK => ?_) | refine AWp.reg (id := 5) dd94 rfl (fun gs K hgs hK => ?_)); replace hgs : gs 3 = some 18 := hgs 3) | ((first | refine AWp.sreg (id := 9) dd94 rfl (fun gs K hgs hK => ?_) | refine AWp.reg (id := 9) dd94 rfl (fun gs K hgs hK => ?_)); replace hgs : gs 3 = some 33 := hgs 3) | (refine AWp.sreg  dd94 rfl (fun gs K hgs hK => ?_); replace hgs : Nat.succ 0 = 1 := rfl) | refine AWp.seq ?_ | refine ARounds.step ?_ | refine AWp.block ?_ | refine AWp.label ?_ | (refine AWp.ret ?_; try simp only [aThen, aBlock]) | (refine AWp.skip ?_; try simp only [aThen, aBlock]) | (refine AWp.exit ?_; try simp only [aThen, aBlock, Nat.reduceEqDiff, reduceIte]) | (refine AWp.reg  dd94 rfl (fun gs K hgs hK => ?_); replace hgs : Nat.succ 0 = 1 := rfl) | (refine AWp.cond rfl (fun h => ?_) (fun h => ?_) <;> (try simp only [decide_eq_true_eq, decide_eq_false_iff_not, beq_iff_eq, bne_iff_ne, ne_eq, Bool.not_eq_true', Bool.not_eq_false', beq_eq_false_iff_ne, Bool.true_eq_false, Bool.false_eq_true, Int.not_le, Int.not_lt, Bool.and_eq_true, Bool.and_eq_false_iff, Bool.or_eq_true, Bool.or_eq_false_iff, bne_eq_false_iff_eq, reduceCtorEq] at h) <;> (try first | contradiction | (exfalso; omega) | (exfalso; revert h; simp; done) | (exfalso; revert h; simp; omega)))))
  all_goals simp only [Out, outA, outL, resA, go_sem, Nat.reduceLT, Nat.reduceLeDiff, Nat.reduceEqDiff, reduceIte, Nat.reduceAdd, Nat.reduceMul, Nat.reduceSub, Int.reduceLT, Int.reduceLE, Int.reduceToNat, Int.reduceNeg, reduceCtorEq]
  all_goals refine AVle.of_eq (congrArg (fun b => AV.lit (.bool b)) ?_)
  all_goals unfold cmpB
  all_goals repeat' split
  all_goals first
    | (exfalso; omega)
    | rfl
    | (rw [Bool.eq_iff_iff]; simp; omega)
def dd73 : Nat → List (List Nat)
  | 0 => [[], [6]]
  | 1 => [[], []]
  | 2 => [[], [], [10]]
  | 3 => [[0, 2, 8, 9], [1], [11], [12]]
  | 4 => [[9], [], [14]]
  | 5 => [[0, 2, 8, 13], [1], [15], [16], [17]]
  | 6 => [[13], [], [19]]
  | 7 => [[0, 8, 18], [1], [2], [20, 21], [22]]
  | 8 => [[18], [], [24]]
  | 9 => [[0, 8, 23], [1], [2], [25, 26], [27]]
  | 10 => [[23], [], [29]]
  | 11 => [[0, 8, 28], [1], [2], [30, 31], [32]]
  | 12 => [[28], [], [34]]
  | 13 => [[0, 8, 33], [1], [2], [36], [37], [35, 38], [39]]
  | 14 => [[33], [], [41]]
  | 15 => [[0, 8, 40], []]
  | 16 => [[], [], [], [43], [42, 44]]
  | 17 => [[], [7], [46], [47]]
  | 18 => [[45], [1], [48], [49]]
  | 19 => [[2, 7, 45], [1], [50]]
  | 20 => [[40], [], [52]]
  | 21 => [[0, 8, 51], [1], [53], [54], [2], [56], [55, 57], [58], [59]]
  | 22 => [[51], [8], [61]]
  | 23 => [[0, 60], [1], [62], [63], [2], [65], [64, 66], [67], [68]]
  | 24 => [[60], [0], [1], [2], [69, 70, 71], [72], [73]]
  | _ => []
theorem rGiven_c (k a b : Int) (ha : i64B a) (hb : i64B b) (h5 : 5 ≤ k) (h19 : k ≤ 19) : ACall Try.prog 73 [.lit (.int .u8 k), .lit (.int .i64 a), .lit (.int .i64 b)] (.lit (.int .i64 (doV k a b))) := by
  have hPw := rPower_c (shC b) (by have := shC_lt b; omega)
  have hm := w64_mul a (2 ^ shC b)
  have hk : k = 5 ∨ k = 6 ∨ k = 7 ∨ k = 8 ∨ k = 9 ∨ k = 10 ∨ k = 11 ∨ k = 12 ∨ k = 13 ∨ k = 14 ∨ k = 15 ∨ k = 16 ∨ k = 17 ∨ k = 18 ∨ k = 19 := by omega
  have hCo := rCompare_c k a b
  by_cases h11 : k = 11
  · subst h11
    have hs := shC_lt b
    refine acall_of (n := 74) (rs := [.tmp 6]) Try.func73 rfl (by kernel_rfl) rfl rfl rfl ?_; simp only [argsE, Nat.reduceAdd]
    repeat (any_goals (first | (refine aops_cons (fun K' h' => ?_); simp only [go_sem, Nat.reduceLT, Nat.reduceLeDiff, Nat.reduceEqDiff, reduceIte, Nat.reduceAdd, Nat.reduceMul, Nat.reduceSub, Int.reduceLT, Int.reduceLE, Int.reduceToNat, Int.reduceNeg, reduceCtorEq, hgs]; (try ((first | refine ⟨_, rTruth_c _, ?_⟩ | refine ⟨_, fun _ => rTruth_c _, ?_⟩ | refine ⟨_, rCount_c _, ?_⟩ | refine ⟨_, fun _ => rCount_c _, ?_⟩ | refine ⟨_, hCo, ?_⟩ | refine ⟨_, fun _ => hCo, ?_⟩ | refine ⟨_, hPw, ?_⟩ | refine ⟨_, fun _ => hPw, ?_⟩ | refine ⟨_, hHf, ?_⟩ | refine ⟨_, fun _ => hHf, ?_⟩); (try simp only [go_sem, Nat.reduceLT, Nat.reduceLeDiff, Nat.reduceEqDiff, reduceIte, Nat.reduceAdd, Nat.reduceMul, Nat.reduceSub, Int.reduceLT, Int.reduceLE, Int.reduceToNat, Int.reduceNeg, reduceCtorEq, hgs]))); (try simp (disch := omega) only [wrap_id, getD_map_in, Int.toNat_natCast]); (repeat (refine And.intro (by (first | omega | (simp; done) | (simp; omega) | assumption)) ?_)); refine h' _ ?_; clear h' K') | (refine aops_nil (hK _ ?_); clear hK K hgs gs; try simp only [aThen, aBlock]) | ((first | refine AWp.sreg (id := 21) dd73 rfl (fun gs K hgs hK => ?_) | refine AWp.reg (id := 21) dd73 rfl (fun gs K hgs hK => ?_)); replace hgs : gs 2 = some 55 := hgs 2) | ((first | refine AWp.sreg (id := 23) dd73 rfl (fun gs K hgs hK => ?_) | refine AWp.reg (id := 23) dd73 rfl (fun gs K hgs hK => ?_)); replace hgs : gs 2 = some 64 := hgs 2) | (refine AWp.sreg  dd73 rfl (fun gs K hgs hK => ?_); replace hgs : Nat.succ 0 = 1 := rfl) | refine AWp.seq ?_ | refine ARounds.step ?_ | refine AWp.block ?_ | refine AWp.label ?_ | (refine AWp.ret ?_; try simp only [aThen, aBlock]) | (refine AWp.skip ?_; try simp only [aThen, aBlock]) | (refine AWp.exit ?_; try simp only [aThen, aBlock, Nat.reduceEqDiff, reduceIte]) | (refine AWp.reg  dd73 rfl (fun gs K hgs hK => ?_); replace hgs : Nat.succ 0 = 1 := rfl) | (refine AWp.cond rfl (fun h => ?_) (fun h => ?_) <;> (try simp only [decide_eq_true_eq, decide_eq_false_iff_not, beq_iff_eq, bne_iff_ne, ne_eq, Bool.not_eq_true', Bool.not_eq_false', beq_eq_false_iff_ne, Bool.true_eq_false, Bool.false_eq_true, Int.not_le, Int.not_lt, Bool.and_eq_true, Bool.and_eq_false_iff, Bool.or_eq_true, Bool.or_eq_false_iff, bne_eq_false_iff_eq, reduceCtorEq] at h) <;> (try first | contradiction | (exfalso; omega) | (exfalso; revert h; simp; done) | (exfalso; revert h; simp; omega)))))
    refine AWp.loopN (shC b) (fun _ => True) (fun k => ⟨[(1, .lit (.int .i64 (a.fdiv (2 ^ k)))), (2, .lit (.int .i64 b)), (7, .lit (.int .i64 (k : Int)))], [], []⟩) ?_ ?_
    · rw [fdiv_1]
      refine Wk.ofCut 0 0 rfl rfl ?_
      simp [subE, eget, ASt.drop, dropE, keepR, lowE, AV.lowB, lowL, Nat.blt, Nat.ble]
    · intro k hk _
      have hHf := rHalf_c (a.fdiv (2 ^ k)) (fdiv_B ha k)
      rw [fdiv_next] at hHf
      obtain ⟨x, hx⟩ : ∃ x, a.fdiv (2 ^ k) = x := ⟨_, rfl⟩
      obtain ⟨z, hz⟩ : ∃ z, a.fdiv (2 ^ (k + 1)) = z := ⟨_, rfl⟩
      rw [hx, hz] at hHf
      rw [hx]
      repeat (any_goals (first | (refine aops_cons (fun K' h' => ?_); simp only [go_sem, Nat.reduceLT, Nat.reduceLeDiff, Nat.reduceEqDiff, reduceIte, Nat.reduceAdd, Nat.reduceMul, Nat.reduceSub, Int.reduceLT, Int.reduceLE, Int.reduceToNat, Int.reduceNeg, reduceCtorEq, hgs]; (try ((first | refine ⟨_, rTruth_c _, ?_⟩ | refine ⟨_, fun _ => rTruth_c _, ?_⟩ | refine ⟨_, rCount_c _, ?_⟩ | refine ⟨_, fun _ => rCount_c _, ?_⟩ | refine ⟨_, hCo, ?_⟩ | refine ⟨_, fun _ => hCo, ?_⟩ | refine ⟨_, hPw, ?_⟩ | refine ⟨_, fun _ => hPw, ?_⟩ | refine ⟨_, hHf, ?_⟩ | refine ⟨_, fun _ => hHf, ?_⟩); (try simp only [go_sem, Nat.reduceLT, Nat.reduceLeDiff, Nat.reduceEqDiff, reduceIte, Nat.reduceAdd, Nat.reduceMul, Nat.reduceSub, Int.reduceLT, Int.reduceLE, Int.reduceToNat, Int.reduceNeg, reduceCtorEq, hgs]))); (try simp (disch := omega) only [wrap_id, getD_map_in, Int.toNat_natCast]); (repeat (refine And.intro (by (first | omega | (simp; done) | (simp; omega) | assumption)) ?_)); refine h' _ ?_; clear h' K') | (refine aops_nil (hK _ ?_); clear hK K hgs gs; try simp only [aThen, aBlock]) | ((first | refine AWp.sreg (id := 21) dd73 rfl (fun gs K hgs hK => ?_) | refine AWp.reg (id := 21) dd73 rfl (fun gs K hgs hK => ?_)); replace hgs : gs 2 = some 55 := hgs 2) | ((first | refine AWp.sreg (id := 23) dd73 rfl (fun gs K hgs hK => ?_) | refine AWp.reg (id := 23) dd73 rfl (fun gs K hgs hK => ?_)); replace hgs : gs 2 = some 64 := hgs 2) | (refine AWp.sreg  dd73 rfl (fun gs K hgs hK => ?_); replace hgs : Nat.succ 0 = 1 := rfl) | refine AWp.seq ?_ | refine ARounds.step ?_ | refine AWp.block ?_ | refine AWp.label ?_ | (refine AWp.ret ?_; try simp only [aThen, aBlock]) | (refine AWp.skip ?_; try simp only [aThen, aBlock]) | (refine AWp.exit ?_; try simp only [aThen, aBlock, Nat.reduceEqDiff, reduceIte]) | (refine AWp.reg  dd73 rfl (fun gs K hgs hK => ?_); replace hgs : Nat.succ 0 = 1 := rfl) | (refine AWp.cond rfl (fun h => ?_) (fun h => ?_) <;> (try simp only [decide_eq_true_eq, decide_eq_false_iff_not, beq_iff_eq, bne_iff_ne, ne_eq, Bool.not_eq_true', Bool.not_eq_false', beq_eq_false_iff_ne, Bool.true_eq_false, Bool.false_eq_true, Int.not_le, Int.not_lt, Bool.and_eq_true, Bool.and_eq_false_iff, Bool.or_eq_true, Bool.or_eq_false_iff, bne_eq_false_iff_eq, reduceCtorEq] at h) <;> (try first | contradiction | (exfalso; omega) | (exfalso; revert h; simp; done) | (exfalso; revert h; simp; omega)))))
      · rw [hz]
        refine ⟨by omega, trivial, Wk.ofCut 0 0 rfl rfl ?_⟩
        simp [subE, eget, ASt.drop, dropE, keepR, lowE, AV.lowB, lowL, Nat.blt, Nat.ble]
      · obtain rfl : k = shC b := by omega
        simp only [Out, outA, outL, resA, go_sem, Nat.reduceLT, Nat.reduceLeDiff, Nat.reduceEqDiff, reduceIte, Nat.reduceAdd, Nat.reduceMul, Nat.reduceSub, Int.reduceLT, Int.reduceLE, Int.reduceToNat, Int.reduceNeg, reduceCtorEq]
        rw [← hx]
        exact AVle.of_eq rfl
  · rcases hk with rfl | rfl | rfl | rfl | rfl | rfl | rfl | rfl | rfl | rfl | rfl | rfl | rfl | rfl | rfl
    all_goals first
      | exact absurd rfl h11
      | skip
    all_goals
      refine acall_of (n := 74) (rs := [.tmp 6]) Try.func73 rfl (by kernel_rfl) rfl rfl rfl ?_; simp only [argsE, Nat.reduceAdd]
      repeat (any_goals (first | (refine aops_cons (fun K' h' => ?_); simp only [go_sem, Nat.reduceLT, Nat.reduceLeDiff, Nat.reduceEqDiff, reduceIte, Nat.reduceAdd, Nat.reduceMul, Nat.reduceSub, Int.reduceLT, Int.reduceLE, Int.reduceToNat, Int.reduceNeg, reduceCtorEq, hgs]; (try ((first | refine ⟨_, rTruth_c _, ?_⟩ | refine ⟨_, fun _ => rTruth_c _, ?_⟩ | refine ⟨_, rCount_c _, ?_⟩ | refine ⟨_, fun _ => rCount_c _, ?_⟩ | refine ⟨_, hCo, ?_⟩ | refine ⟨_, fun _ => hCo, ?_⟩ | refine ⟨_, hPw, ?_⟩ | refine ⟨_, fun _ => hPw, ?_⟩ | refine ⟨_, hHf, ?_⟩ | refine ⟨_, fun _ => hHf, ?_⟩); (try simp only [go_sem, Nat.reduceLT, Nat.reduceLeDiff, Nat.reduceEqDiff, reduceIte, Nat.reduceAdd, Nat.reduceMul, Nat.reduceSub, Int.reduceLT, Int.reduceLE, Int.reduceToNat, Int.reduceNeg, reduceCtorEq, hgs]))); (try simp (disch := omega) only [wrap_id, getD_map_in, Int.toNat_natCast]); (repeat (refine And.intro (by (first | omega | (simp; done) | (simp; omega) | assumption)) ?_)); refine h' _ ?_; clear h' K') | (refine aops_nil (hK _ ?_); clear hK K hgs gs; try simp only [aThen, aBlock]) | ((first | refine AWp.sreg (id := 21) dd73 rfl (fun gs K hgs hK => ?_) | refine AWp.reg (id := 21) dd73 rfl (fun gs K hgs hK => ?_)); replace hgs : gs 2 = some 55 := hgs 2) | ((first | refine AWp.sreg (id := 23) dd73 rfl (fun gs K hgs hK => ?_) | refine AWp.reg (id := 23) dd73 rfl (fun gs K hgs hK => ?_)); replace hgs : gs 2 = some 64 := hgs 2) | (refine AWp.sreg  dd73 rfl (fun gs K hgs hK => ?_); replace hgs : Nat.succ 0 = 1 := rfl) | refine AWp.seq ?_ | refine ARounds.step ?_ | refine AWp.block ?_ | refine AWp.label ?_ | (refine AWp.ret ?_; try simp only [aThen, aBlock]) | (refine AWp.skip ?_; try simp only [aThen, aBlock]) | (refine AWp.exit ?_; try simp only [aThen, aBlock, Nat.reduceEqDiff, reduceIte]) | (refine AWp.reg  dd73 rfl (fun gs K hgs hK => ?_); replace hgs : Nat.succ 0 = 1 := rfl) | (refine AWp.cond rfl (fun h => ?_) (fun h => ?_) <;> (try simp only [decide_eq_true_eq, decide_eq_false_iff_not, beq_iff_eq, bne_iff_ne, ne_eq, Bool.not_eq_true', Bool.not_eq_false', beq_eq_false_iff_ne, Bool.true_eq_false, Bool.false_eq_true, Int.not_le, Int.not_lt, Bool.and_eq_true, Bool.and_eq_false_iff, Bool.or_eq_true, Bool.or_eq_false_iff, bne_eq_false_iff_eq, reduceCtorEq] at h) <;> (try first | contradiction | (exfalso; omega) | (exfalso; revert h; simp; done) | (exfalso; revert h; simp; omega)))))
      simp only [Out, outA, outL, resA, go_sem, Nat.reduceLT, Nat.reduceLeDiff, Nat.reduceEqDiff, reduceIte, Nat.reduceAdd, Nat.reduceMul, Nat.reduceSub, Int.reduceLT, Int.reduceLE, Int.reduceToNat, Int.reduceNeg, reduceCtorEq]
      first
        | exact AVle.of_eq rfl
        | exact AVle.of_eq (congrArg (fun n => AV.lit (.int .i64 n)) hm)
end Go.Proofs.Yteohklfoggiojaa
