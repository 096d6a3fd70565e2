/-
  The walks over operators: of the program and of the reference.
-/
import Derived.Test.YtjeehkdepoiegaaGreatPlnM
import Derived.Test.YtjeehkdepoiegaaGreatFacts
import Derived.Test.YtjeehkdepoiegaaGreatAbsPQ
namespace Go.Proofs.YtjeehkdepoiegaaGreat
open Go.AL Go.RowKit
set_option linter.unusedSimpArgs false
set_option linter.unusedVariables false
set_option maxRecDepth 10000
set_option maxHeartbeats 4000000
def dd91 : Nat → List (List Nat)
  | 0 => [[], [2]]
  | 1 => [[], [0]]
  | 2 => [[3], []]
  | 3 => [[3], []]
  | _ => []
theorem truth_c (b : Bool) : ACall Tryz.prog 91 [.lit (.bool b)] (.lit (.int .i64 (trI b))) := by
  unfold trI
  cases b
  all_goals
    refine acall_of (n := 4) (rs := [.tmp 2]) Tryz.func91 rfl (by kernel_rfl) rfl rfl rfl ?_; simp only [argsE, Nat.reduceAdd]
    repeat (any_goals (first | (refine aops_cons (fun K' h' => ?_); simp only [go_sem, Nat.reduceLT, Nat.reduceLeDiff, Nat.reduceEqDiff, reduceIte, Nat.reduceAdd, Nat.reduceMul, Nat.reduceSub, Int.reduceLT, Int.reduceLE, Int.reduceToNat, Int.reduceNeg, reduceCtorEq]; (try simp (disch := omega) only [wrap_id, getD_map_in, Int.toNat_natCast]); (repeat (refine And.intro (by (omega)) ?_)); refine h' _ ?_; clear h' K') | (refine aops_nil (hK _ ?_); clear hK K gs; try simp only [aThen, aBlock]) | (refine AWp.sreg  dd91 rfl (fun gs K hgs hK => ?_); clear hgs) | refine AWp.seq ?_ | (refine AWp.ret ?_; try simp only [aThen, aBlock]) | (refine AWp.skip ?_; try simp only [aThen, aBlock]) | (refine AWp.cond rfl (fun h => ?_) (fun h => ?_) <;> (try simp only [decide_eq_true_eq, decide_eq_false_iff_not, beq_iff_eq, bne_iff_ne, ne_eq, Bool.not_eq_true', Bool.not_eq_false', beq_eq_false_iff_ne, Bool.true_eq_false, Bool.false_eq_true, Int.not_le, Int.not_lt, Bool.and_eq_true, Bool.and_eq_false_iff, Bool.or_eq_true, Bool.or_eq_false_iff, bne_eq_false_iff_eq, reduceCtorEq] at h))))
    simp only [Out, outA, outL, resA, go_sem, Nat.reduceLT, Nat.reduceLeDiff, Nat.reduceEqDiff, reduceIte, Nat.reduceAdd, Nat.reduceMul, Nat.reduceSub, Int.reduceLT, Int.reduceLE, Int.reduceToNat, Int.reduceNeg, reduceCtorEq]
    exact AVle.refl _
theorem min_shC (b : Int) : min (shC b) 64 = shC b := by
  have := shC_lt b
  omega
def dd78 : Nat → List (List Nat)
  | 0 => [[], [6], [7]]
  | 1 => [[], [0]]
  | 2 => [[], [], [10]]
  | 3 => [[2, 8, 9], [1], [11], [12], []]
  | 4 => [[9], [], [14]]
  | 5 => [[2, 8, 13], [1], [15], [16], [17], []]
  | 6 => [[13], [], [19]]
  | 7 => [[8, 18], [1], [2], [20, 21], [22], []]
  | 8 => [[18], [], [24]]
  | 9 => [[8, 23], [1], [2], [25, 26], [27], []]
  | 10 => [[23], [], [29]]
  | 11 => [[8, 28], [1], [2], [30, 31], [32], []]
  | 12 => [[28], [], [34]]
  | 13 => [[8, 33], [1], [2], [36], [35, 37], [38], []]
  | 14 => [[33], [], [40]]
  | 15 => [[8, 39], [1], [2], [42], [41, 43], [44], []]
  | 16 => [[39], [], [46]]
  | 17 => [[8, 45], [1], [2], [47, 48], [49], [50], []]
  | 18 => [[45], [], [52]]
  | 19 => [[8, 51], [1], [2], [53, 54], [55], [56], []]
  | 20 => [[51], [], [58]]
  | 21 => [[8, 57], [1], [2], [59, 60], [61], [62], []]
  | 22 => [[57], [], [64]]
  | 23 => [[8, 63], [1], [2], [65, 66], [67], [68], []]
  | 24 => [[63], [], [70]]
  | 25 => [[8, 69], [1], [2], [71, 72], [73], [74], []]
  | 26 => [[69], [], [76]]
  | 27 => [[8, 75], [1], [2], [77, 78], [79], [80], []]
  | 28 => [[75], [], [82]]
  | 29 => [[8, 81], [1], [83], [84], [2], [86], [85, 87], [88], [89], []]
  | 30 => [[81], [8], [91]]
  | 31 => [[90], [1], [2], [92, 93], [94], [95], [96], []]
  | 32 => [[1, 2, 90], [], []]
  | _ => []
theorem do_c (k a b : Int) (ha : i64B a) (hb : i64B b) (h5 : 5 ≤ k) (h19 : k ≤ 19) : ACall Tryz.prog 78 [.lit (.int .u8 k), .lit (.int .i64 a), .lit (.int .i64 b)] (.tup [.lit (.int .i64 (doV k a b)), .lit (.int .i64 0)]) := by
  have h1 := and63 b
  have h2 := min_shC b
  have h4 := bOr_0 ha hb
  have hk : k = 5 ∨ k = 6 ∨ k = 7 ∨ k = 8 ∨ k = 9 ∨ k = 10 ∨ k = 11 ∨ k = 12 ∨ k = 13 ∨ k = 14 ∨ k = 15 ∨ k = 16 ∨ k = 17 ∨ k = 18 ∨ k = 19 := by omega
  rcases hk with rfl | rfl | rfl | rfl | rfl | rfl | rfl | rfl | rfl | rfl | rfl | rfl | rfl | rfl | rfl
  all_goals
    refine acall_of (n := 97) (rs := [.tmp 6, .tmp 7]) Tryz.func78 rfl (by kernel_rfl) rfl rfl rfl ?_; simp only [argsE, Nat.reduceAdd]
    repeat (any_goals (first | (refine aops_cons (fun K' h' => ?_); simp only [go_sem, Nat.reduceLT, Nat.reduceLeDiff, Nat.reduceEqDiff, reduceIte, Nat.reduceAdd, Nat.reduceMul, Nat.reduceSub, Int.reduceLT, Int.reduceLE, Int.reduceToNat, Int.reduceNeg, reduceCtorEq, hgs, h1, h2, h4]; (try ((refine ⟨_, truth_c _, ?_⟩); (try simp only [go_sem, Nat.reduceLT, Nat.reduceLeDiff, Nat.reduceEqDiff, reduceIte, Nat.reduceAdd, Nat.reduceMul, Nat.reduceSub, Int.reduceLT, Int.reduceLE, Int.reduceToNat, Int.reduceNeg, reduceCtorEq, hgs, h1, h2, h4]))); (try simp (disch := omega) only [wrap_id, getD_map_in, Int.toNat_natCast, h1, h2, h4]); (repeat (refine And.intro (by (omega)) ?_)); refine h' _ ?_; clear h' K') | (refine aops_nil (hK _ ?_); clear hK K hgs gs; try simp only [aThen, aBlock]) | ((refine AWp.sreg (id := 29) dd78 rfl (fun gs K hgs hK => ?_)); replace hgs : gs 2 = some 85 := hgs 2) | (refine AWp.sreg  dd78 rfl (fun gs K hgs hK => ?_); replace hgs : Nat.succ 0 = 1 := rfl) | refine AWp.seq ?_ | refine AWp.block ?_ | (refine AWp.ret ?_; try simp only [aThen, aBlock]) | (refine AWp.cond rfl (fun h => ?_) (fun h => ?_) <;> (try simp only [decide_eq_true_eq, decide_eq_false_iff_not, beq_iff_eq, bne_iff_ne, ne_eq, Bool.not_eq_true', Bool.not_eq_false', beq_eq_false_iff_ne, Bool.true_eq_false, Bool.false_eq_true, Int.not_le, Int.not_lt, Bool.and_eq_true, Bool.and_eq_false_iff, Bool.or_eq_true, Bool.or_eq_false_iff, bne_eq_false_iff_eq, reduceCtorEq] at h) <;> (try first | contradiction))))
    simp only [Out, outA, outL, resA, go_sem, Nat.reduceLT, Nat.reduceLeDiff, Nat.reduceEqDiff, reduceIte, Nat.reduceAdd, Nat.reduceMul, Nat.reduceSub, Int.reduceLT, Int.reduceLE, Int.reduceToNat, Int.reduceNeg, reduceCtorEq]
    exact AVle.of_eq rfl
end Go.Proofs.YtjeehkdepoiegaaGreat
