/-
  The walks over checks of tasks: of the program and of the reference.
-/
import Derived.Test.YtjeehkdepoiegaaGreatTskW1
namespace Go.Proofs.YtjeehkdepoiegaaGreat
open Go.AL Go.RowKit
set_option linter.unusedSimpArgs false
set_option linter.unusedVariables false
set_option maxRecDepth 10000
set_option maxHeartbeats 8000000
def leastI (k : Int) : Int := if k = 1 ∨ k = 3 ∨ k = 6 ∨ k = 7 then 0 else if k = 5 then 2 else 1
def mostI (k : Int) : Int := if k = 2 then 1 else if k = 4 then 4 else if k = 5 then 2 else 0
def keepsI (k : Int) : Bool := decide (k = 4 ∨ k = 5)
def dd60 : Nat → List (List Nat)
  | 0 => [[], [], [], [], [], [], []]
  | 1 => [[], [0]]
  | 2 => [[2, 21], []]
  | 3 => [[], [], [10]]
  | 4 => [[5, 8, 9], []]
  | 5 => [[9], [], [12]]
  | 6 => [[2, 3, 8, 11], [], []]
  | 7 => [[11], [], [14]]
  | 8 => [[13], [], [16]]
  | 9 => [[2, 3, 4, 8, 15], [], [], []]
  | 10 => [[15], [], [18]]
  | 11 => [[2, 3, 4, 8, 17], [], [], []]
  | 12 => [[17], [], [20]]
  | 13 => [[6, 8, 19], []]
  | 14 => [[19], [8], [22]]
  | 15 => [[7, 21], []]
  | _ => []
theorem limits_c (k : Int) : ACall Tryz.prog 60 [.lit (.int .u8 k)] (.tup [.lit (.int .i64 (leastI k)), .lit (.int .i64 (mostI k)), .lit (.bool (keepsI k)), .lit (.bool (decide (k = 1))), .lit (.bool (decide (k = 6))), .lit (.bool (decide (k = 7)))]) := by
  refine acall_of (n := 23) (rs := [.tmp 2, .tmp 3, .tmp 4, .tmp 5, .tmp 6, .tmp 7]) Tryz.func60 rfl (by kernel_rfl) rfl rfl rfl ?_; simp only [argsE, Nat.reduceAdd]
  repeat (any_goals (first | (refine aops_cons (fun K' h' => ?_); simp only [go_sem, Nat.reduceLT, Nat.reduceLeDiff, Nat.reduceEqDiff, reduceIte, Nat.reduceAdd, Nat.reduceMul, Nat.reduceSub, Int.reduceLT, Int.reduceLE, Int.reduceToNat, Int.reduceNeg, reduceCtorEq]; (try simp (disch := omega) only [wrap_id, getD_map_in, Int.toNat_natCast]); (repeat (refine And.intro (by (omega)) ?_)); refine h' _ ?_; clear h' K') | (refine aops_nil (hK _ ?_); clear hK K gs; try simp only [aThen, aBlock]) | (refine AWp.sreg  dd60 rfl (fun gs K hgs hK => ?_); clear hgs) | refine AWp.seq ?_ | refine AWp.block ?_ | (refine AWp.ret ?_; try simp only [aThen, aBlock]) | (refine AWp.skip ?_; try simp only [aThen, aBlock]) | (refine AWp.reg  dd60 rfl (fun gs K hgs hK => ?_); clear hgs) | (refine AWp.cond rfl (fun h => ?_) (fun h => ?_) <;> (try simp only [decide_eq_true_eq, decide_eq_false_iff_not, beq_iff_eq, bne_iff_ne, ne_eq, Bool.not_eq_true', Bool.not_eq_false', beq_eq_false_iff_ne, Bool.true_eq_false, Bool.false_eq_true, Int.not_le, Int.not_lt, Bool.and_eq_true, Bool.and_eq_false_iff, Bool.or_eq_true, Bool.or_eq_false_iff, bne_eq_false_iff_eq, reduceCtorEq] at h))))
  all_goals simp only [Out, outA, outL, resA, go_sem, Nat.reduceLT, Nat.reduceLeDiff, Nat.reduceEqDiff, reduceIte, Nat.reduceAdd, Nat.reduceMul, Nat.reduceSub, Int.reduceLT, Int.reduceLE, Int.reduceToNat, Int.reduceNeg, reduceCtorEq]
  all_goals refine AVle.of_eq ?_
  all_goals unfold leastI mostI keepsI
  all_goals first
    | (subst h; rfl)
    | (simp [*]; done)
    | (simp [*]; omega)
def roomI (b : Bool) (n : Int) : Int := if b = true then n else 0
def dd61 : Nat → List (List Nat)
  | 0 => [[], [4]]
  | 1 => [[], [0]]
  | 2 => [[5], [1], [6]]
  | 3 => [[1, 5], []]
  | _ => []
theorem room_c (b : Bool) (n : Int) : ACall Tryz.prog 61 [.lit (.bool b), .lit (.int .i64 n)] (.lit (.int .i64 (roomI b n))) := by
  refine acall_of (n := 7) (rs := [.tmp 4]) Tryz.func61 rfl (by kernel_rfl) rfl rfl rfl ?_; simp only [argsE, Nat.reduceAdd]
  repeat (any_goals (first | (refine aops_cons (fun K' h' => ?_); simp only [go_sem, Nat.reduceLT, Nat.reduceLeDiff, Nat.reduceEqDiff, reduceIte, Nat.reduceAdd, Nat.reduceMul, Nat.reduceSub, Int.reduceLT, Int.reduceLE, Int.reduceToNat, Int.reduceNeg, reduceCtorEq]; (try simp (disch := omega) only [wrap_id, getD_map_in, Int.toNat_natCast]); (repeat (refine And.intro (by (omega)) ?_)); refine h' _ ?_; clear h' K') | (refine aops_nil (hK _ ?_); clear hK K gs; try simp only [aThen, aBlock]) | (refine AWp.sreg  dd61 rfl (fun gs K hgs hK => ?_); clear hgs) | refine AWp.seq ?_ | (refine AWp.ret ?_; try simp only [aThen, aBlock]) | (refine AWp.skip ?_; try simp only [aThen, aBlock]) | (refine AWp.cond rfl (fun h => ?_) (fun h => ?_) <;> (try simp only [decide_eq_true_eq, decide_eq_false_iff_not, beq_iff_eq, bne_iff_ne, ne_eq, Bool.not_eq_true', Bool.not_eq_false', beq_eq_false_iff_ne, Bool.true_eq_false, Bool.false_eq_true, Int.not_le, Int.not_lt, Bool.and_eq_true, Bool.and_eq_false_iff, Bool.or_eq_true, Bool.or_eq_false_iff, bne_eq_false_iff_eq, reduceCtorEq] at h))))
  all_goals simp only [Out, outA, outL, resA, go_sem, Nat.reduceLT, Nat.reduceLeDiff, Nat.reduceEqDiff, reduceIte, Nat.reduceAdd, Nat.reduceMul, Nat.reduceSub, Int.reduceLT, Int.reduceLE, Int.reduceToNat, Int.reduceNeg, reduceCtorEq]
  all_goals exact AVle.of_eq (by simp [roomI, *])
def dd63 : Nat → List (List Nat)
  | 0 => [[], [2]]
  | 1 => [[], [], [3], [4], [0], [6], [7], [8], [5, 9], [10]]
  | _ => []
theorem tMark_c (t : Int) : ACall Tryz.prog 63 [.lit (.int .i64 t)] (.lit (.bool (lowB t))) := by
  have hM := mCheck_c ⟨2, 0, 0, 0, t, 0, 0, 0, 0, 0⟩
  have he : errM ⟨2, 0, 0, 0, t, 0, 0, 0, 0, 0⟩ = if markB t = true then 0 else 8 := by
    unfold errM validM
    simp
  rw [he] at hM
  unfold lowB
  generalize markB t = p at *
  unfold Msg.cells at hM
  simp only at hM
  refine acall_of (n := 11) (rs := [.tmp 2]) Tryz.func63 rfl (by kernel_rfl) rfl rfl rfl ?_; simp only [argsE, Nat.reduceAdd]
  repeat (any_goals (first | (refine aops_cons (fun K' h' => ?_); simp only [go_sem, Nat.reduceLT, Nat.reduceLeDiff, Nat.reduceEqDiff, reduceIte, Nat.reduceAdd, Nat.reduceMul, Nat.reduceSub, Int.reduceLT, Int.reduceLE, Int.reduceToNat, Int.reduceNeg, reduceCtorEq, hgs]; (try ((refine ⟨_, fun _ => hM, ?_⟩); (try simp only [go_sem, Nat.reduceLT, Nat.reduceLeDiff, Nat.reduceEqDiff, reduceIte, Nat.reduceAdd, Nat.reduceMul, Nat.reduceSub, Int.reduceLT, Int.reduceLE, Int.reduceToNat, Int.reduceNeg, reduceCtorEq, hgs]))); (try simp (disch := omega) only [wrap_id, getD_map_in, Int.toNat_natCast]); (repeat (refine And.intro (by (omega)) ?_)); refine h' _ ?_; clear h' K') | (refine aops_nil (hK _ ?_); clear hK K hgs gs; try simp only [aThen, aBlock]) | ((refine AWp.sreg (id := 1) dd63 rfl (fun gs K hgs hK => ?_)); replace hgs : gs 2 = some 5 := hgs 2) | (refine AWp.sreg  dd63 rfl (fun gs K hgs hK => ?_); replace hgs : Nat.succ 0 = 1 := rfl) | (refine AWp.ret ?_; try simp only [aThen, aBlock])))
  all_goals simp only [Out, outA, outL, resA, go_sem, Nat.reduceLT, Nat.reduceLeDiff, Nat.reduceEqDiff, reduceIte, Nat.reduceAdd, Nat.reduceMul, Nat.reduceSub, Int.reduceLT, Int.reduceLE, Int.reduceToNat, Int.reduceNeg, reduceCtorEq]
  all_goals refine AVle.of_eq (congrArg (fun b => AV.lit (.bool b)) ?_)
  all_goals (cases p <;> simp)
end Go.Proofs.YtjeehkdepoiegaaGreat
