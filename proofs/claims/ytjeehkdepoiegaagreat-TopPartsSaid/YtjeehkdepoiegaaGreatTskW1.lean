/-
  The walks over messages, sends, accumulators and stores: of the program and of the references.
-/
import Derived.Test.YtjeehkdepoiegaaGreatEvW
import Derived.Test.YtjeehkdepoiegaaGreatPlnM
import Derived.Test.YtjeehkdepoiegaaGreatAbsPQ
namespace Go.Proofs.YtjeehkdepoiegaaGreat
open Go.AL Go.RowKit
set_option linter.unusedSimpArgs false
set_option linter.unusedVariables false
set_option maxRecDepth 10000
set_option maxHeartbeats 4000000
def errM (m : Msg) : Int := if validM m = true then 0 else 8
def dd37 : Nat → List (List Nat)
  | 0 => [[], [0], [2]]
  | 1 => [[], []]
  | 2 => [[], [], [6], [7], [], [8]]
  | 3 => [[], [], [9]]
  | 4 => [[], [], [12]]
  | 5 => [[11], [], [13]]
  | 6 => [[3, 10, 11], [], [14], [], [15, 16]]
  | 7 => [[], [], [17], [18], [19], [20]]
  | 8 => [[11], [], [22]]
  | 9 => [[3, 10, 21], [], [23], [], [24, 25]]
  | 10 => [[], [], [26], [27], [28]]
  | 11 => [[21], [10], [30]]
  | 12 => [[3, 29], [], [31], [], [32, 33]]
  | 13 => [[], [], [34], [35], [], [36]]
  | 14 => [[], [], [37], [38], [39], [], [41], [], [43], [42, 44], [40, 45], [46], [5], [48], [49], [47, 50], [51]]
  | 15 => [[29], [3], [52], [53], [1], [4], [55, 56], [54, 57]]
  | 16 => [[58], []]
  | 17 => [[58], []]
  | _ => []
theorem mCheck_c (m : Msg) : ACall Tryz.prog 37 [.agg m.cells] (.lit (.int .i64 (errM m))) := by
  have hv : ∀ b, validM m = b → (errM m = if b = true then 0 else 8) := fun b h => by unfold errM; rw [h]
  have hr : validM m = validM m := rfl
  conv at hr => rhs; unfold validM
  obtain ⟨kd, k, rt, v, t, r1, r2, r3, r4, r5⟩ := m
  unfold Msg.cells
  simp only at hr
  generalize ho : validM ⟨kd, k, rt, v, t, r1, r2, r3, r4, r5⟩ = ok at hr
  have he := hv _ ho
  clear hv ho
  simp only
  generalize errM ⟨kd, k, rt, v, t, r1, r2, r3, r4, r5⟩ = e at *
  refine acall_of (n := 59) (rs := [.tmp 2]) Tryz.func37 rfl (by kernel_rfl) rfl rfl rfl ?_; simp only [argsE, Nat.reduceAdd]
  repeat (any_goals (first | (refine aops_cons (fun K' h' => ?_); simp only [go_sem, Nat.reduceLT, Nat.reduceLeDiff, Nat.reduceEqDiff, reduceIte, Nat.reduceAdd, Nat.reduceMul, Nat.reduceSub, Int.reduceLT, Int.reduceLE, Int.reduceToNat, Int.reduceNeg, reduceCtorEq, hgs, Msg.cells]; (try ((first | refine ⟨_, isTime_c _, ?_⟩ | refine ⟨_, isMark_c _, ?_⟩); (try simp only [go_sem, Nat.reduceLT, Nat.reduceLeDiff, Nat.reduceEqDiff, reduceIte, Nat.reduceAdd, Nat.reduceMul, Nat.reduceSub, Int.reduceLT, Int.reduceLE, Int.reduceToNat, Int.reduceNeg, reduceCtorEq, hgs, Msg.cells]))); (try simp (disch := omega) only [wrap_id, getD_map_in, Int.toNat_natCast, Msg.cells]); (repeat (refine And.intro (by (omega)) ?_)); refine h' _ ?_; clear h' K') | (refine aops_nil (hK _ ?_); clear hK K hgs gs; try simp only [aThen, aBlock]) | ((refine AWp.reg (id := 14) dd37 rfl (fun gs K hgs hK => ?_)); replace hgs : gs 3 = some 40 ∧ gs 10 = some 47 := ⟨hgs 3, hgs 10⟩) | ((refine AWp.sreg (id := 15) dd37 rfl (fun gs K hgs hK => ?_)); replace hgs : gs 2 = some 54 := hgs 2) | (refine AWp.sreg  dd37 rfl (fun gs K hgs hK => ?_); replace hgs : Nat.succ 0 = 1 := rfl) | refine AWp.seq ?_ | refine AWp.block ?_ | (refine AWp.ret ?_; try simp only [aThen, aBlock]) | (refine AWp.skip ?_; try simp only [aThen, aBlock]) | (refine AWp.reg  dd37 rfl (fun gs K hgs hK => ?_); replace hgs : Nat.succ 0 = 1 := rfl) | (refine AWp.cond rfl (fun h => ?_) (fun h => ?_) <;> (try simp only [decide_eq_true_eq, decide_eq_false_iff_not, beq_iff_eq, bne_iff_ne, ne_eq, Bool.not_eq_true', Bool.not_eq_false', beq_eq_false_iff_ne, Bool.true_eq_false, Bool.false_eq_true, Int.not_le, Int.not_lt, Bool.and_eq_true, Bool.and_eq_false_iff, Bool.or_eq_true, Bool.or_eq_false_iff, bne_eq_false_iff_eq, reduceCtorEq] at h) <;> (try first | contradiction))))
  all_goals simp only [Out, outA, outL, resA, go_sem, Nat.reduceLT, Nat.reduceLeDiff, Nat.reduceEqDiff, reduceIte, Nat.reduceAdd, Nat.reduceMul, Nat.reduceSub, Int.reduceLT, Int.reduceLE, Int.reduceToNat, Int.reduceNeg, reduceCtorEq]
  all_goals refine AVle.of_eq (congrArg (fun n => AV.lit (.int .i64 n)) ?_)
  all_goals (try unfold rowB at hr)
  all_goals first
    | grind
    | (simp_all; done)
    | (simp_all; omega)
def dd83 : Nat → List (List Nat)
  | 0 => [[], [0], [2]]
  | 1 => [[], []]
  | 2 => [[], [], [5], [6], [7]]
  | 3 => [[3, 4], [1], [], [8, 9], [10]]
  | 4 => [[4], [], [12], [13], [14]]
  | 5 => [[3, 11], [], [15], [], [17], [16, 18], [19], [], [21], [1], [23], [22, 24], [20, 25], [26]]
  | 6 => [[11], [], [28], [29], [30], [], [32], [33], [31, 34], [35]]
  | 7 => [[3, 27], [], [36], [1], [38], [37, 39], [40]]
  | 8 => [[1, 27], [3], [41]]
  | 9 => [[42], []]
  | 10 => [[42], []]
  | _ => []
theorem accs_c (c s m x : Int) : ACall Tryz.prog 83 [.agg [.lit (.int .i64 c), .lit (.int .i64 s), .lit (.int .i64 m), .lit (.int .i64 x)]] (.lit (.int .i64 (if accB c s m x = true then 0 else 8))) := by
  unfold accB
  simp only [decide_eq_true_eq]
  refine acall_of (n := 43) (rs := [.tmp 2]) Tryz.func83 rfl (by kernel_rfl) rfl rfl rfl ?_; simp only [argsE, Nat.reduceAdd]
  repeat (any_goals (first | (refine aops_cons (fun K' h' => ?_); simp only [go_sem, Nat.reduceLT, Nat.reduceLeDiff, Nat.reduceEqDiff, reduceIte, Nat.reduceAdd, Nat.reduceMul, Nat.reduceSub, Int.reduceLT, Int.reduceLE, Int.reduceToNat, Int.reduceNeg, reduceCtorEq, hgs, Msg.cells]; (try simp (disch := omega) only [wrap_id, getD_map_in, Int.toNat_natCast, Msg.cells]); (repeat (refine And.intro (by (omega)) ?_)); refine h' _ ?_; clear h' K') | (refine aops_nil (hK _ ?_); clear hK K hgs gs; try simp only [aThen, aBlock]) | ((refine AWp.reg (id := 5) dd83 rfl (fun gs K hgs hK => ?_)); replace hgs : gs 5 = some 20 := hgs 5) | ((refine AWp.sreg (id := 6) dd83 rfl (fun gs K hgs hK => ?_)); replace hgs : gs 3 = some 31 := hgs 3) | (refine AWp.sreg  dd83 rfl (fun gs K hgs hK => ?_); replace hgs : Nat.succ 0 = 1 := rfl) | refine AWp.seq ?_ | refine AWp.block ?_ | (refine AWp.ret ?_; try simp only [aThen, aBlock]) | (refine AWp.skip ?_; try simp only [aThen, aBlock]) | (refine AWp.reg  dd83 rfl (fun gs K hgs hK => ?_); replace hgs : Nat.succ 0 = 1 := rfl) | (refine AWp.cond rfl (fun h => ?_) (fun h => ?_) <;> (try simp only [decide_eq_true_eq, decide_eq_false_iff_not, beq_iff_eq, bne_iff_ne, ne_eq, Bool.not_eq_true', Bool.not_eq_false', beq_eq_false_iff_ne, Bool.true_eq_false, Bool.false_eq_true, Int.not_le, Int.not_lt, Bool.and_eq_true, Bool.and_eq_false_iff, Bool.or_eq_true, Bool.or_eq_false_iff, bne_eq_false_iff_eq, reduceCtorEq] at h))))
  all_goals simp only [Out, outA, outL, resA, go_sem, Nat.reduceLT, Nat.reduceLeDiff, Nat.reduceEqDiff, reduceIte, Nat.reduceAdd, Nat.reduceMul, Nat.reduceSub, Int.reduceLT, Int.reduceLE, Int.reduceToNat, Int.reduceNeg, reduceCtorEq]
  all_goals refine AVle.of_eq (congrArg (fun n => AV.lit (.int .i64 n)) ?_)
  all_goals first
    | (rw [if_pos (by omega)]; done)
    | (rw [if_neg (by omega)]; done)
    | (simp_all; done)
    | (simp_all; omega)
    | grind
def cmpI (a b : Int) : Int := if a < b then -1 else if b < a then 1 else 0
def dd93 : Nat → List (List Nat)
  | 0 => [[], [2]]
  | 1 => [[], [], [0], [3, 4], [5]]
  | _ => []
theorem isNaN_c (a : Int) : ACall Tryz.prog 93 [.lit (.int .i64 a)] (.lit (.bool false)) := by
  refine acall_of (n := 6) (rs := [.tmp 2]) Tryz.func93 rfl (by kernel_rfl) rfl rfl rfl ?_; simp only [argsE, Nat.reduceAdd]
  repeat (any_goals (first | (refine aops_cons (fun K' h' => ?_); simp only [go_sem, Nat.reduceLT, Nat.reduceLeDiff, Nat.reduceEqDiff, reduceIte, Nat.reduceAdd, Nat.reduceMul, Nat.reduceSub, Int.reduceLT, Int.reduceLE, Int.reduceToNat, Int.reduceNeg, reduceCtorEq, Msg.cells]; (try simp (disch := omega) only [wrap_id, getD_map_in, Int.toNat_natCast, Msg.cells]); (repeat (refine And.intro (by (omega)) ?_)); refine h' _ ?_; clear h' K') | (refine aops_nil (hK _ ?_); clear hK K gs; try simp only [aThen, aBlock]) | (refine AWp.sreg  dd93 rfl (fun gs K hgs hK => ?_); clear hgs) | (refine AWp.ret ?_; try simp only [aThen, aBlock])))
  all_goals simp only [Out, outA, outL, resA, go_sem, Nat.reduceLT, Nat.reduceLeDiff, Nat.reduceEqDiff, reduceIte, Nat.reduceAdd, Nat.reduceMul, Nat.reduceSub, Int.reduceLT, Int.reduceLE, Int.reduceToNat, Int.reduceNeg, reduceCtorEq]
  all_goals exact AVle.of_eq (by simp)
def dd85 : Nat → List (List Nat)
  | 0 => [[], [4]]
  | 1 => [[], [], [7], [8]]
  | 2 => [[], [], [9], [10]]
  | 3 => [[], [5]]
  | 4 => [[0, 1, 11], [6]]
  | 5 => [[12], []]
  | 6 => [[12], []]
  | 7 => [[11], [6]]
  | 8 => [[0, 1, 13], []]
  | 9 => [[13], [], [], [14, 15]]
  | 10 => [[0, 1, 16], []]
  | 11 => [[16], [0], [1], [17, 18]]
  | 12 => [[19], []]
  | 13 => [[19], []]
  | _ => []
theorem cmp_c (a b : Int) : ACall Tryz.prog 85 [.lit (.int .i64 a), .lit (.int .i64 b)] (.lit (.int .i64 (cmpI a b))) := by
  unfold cmpI
  refine acall_of (n := 20) (rs := [.tmp 4]) Tryz.func85 rfl (by kernel_rfl) rfl rfl rfl ?_; simp only [argsE, Nat.reduceAdd]
  repeat (any_goals (first | (refine aops_cons (fun K' h' => ?_); simp only [go_sem, Nat.reduceLT, Nat.reduceLeDiff, Nat.reduceEqDiff, reduceIte, Nat.reduceAdd, Nat.reduceMul, Nat.reduceSub, Int.reduceLT, Int.reduceLE, Int.reduceToNat, Int.reduceNeg, reduceCtorEq, Msg.cells]; (try ((refine ⟨_, isNaN_c _, ?_⟩); (try simp only [go_sem, Nat.reduceLT, Nat.reduceLeDiff, Nat.reduceEqDiff, reduceIte, Nat.reduceAdd, Nat.reduceMul, Nat.reduceSub, Int.reduceLT, Int.reduceLE, Int.reduceToNat, Int.reduceNeg, reduceCtorEq, Msg.cells]))); (try simp (disch := omega) only [wrap_id, getD_map_in, Int.toNat_natCast, Msg.cells]); (repeat (refine And.intro (by (omega)) ?_)); refine h' _ ?_; clear h' K') | (refine aops_nil (hK _ ?_); clear hK K gs; try simp only [aThen, aBlock]) | (refine AWp.sreg  dd85 rfl (fun gs K hgs hK => ?_); clear hgs) | refine AWp.seq ?_ | (refine AWp.ret ?_; try simp only [aThen, aBlock]) | (refine AWp.skip ?_; try simp only [aThen, aBlock]) | (refine AWp.cond rfl (fun h => ?_) (fun h => ?_) <;> (try simp only [decide_eq_true_eq, decide_eq_false_iff_not, beq_iff_eq, bne_iff_ne, ne_eq, Bool.not_eq_true', Bool.not_eq_false', beq_eq_false_iff_ne, Bool.true_eq_false, Bool.false_eq_true, Int.not_le, Int.not_lt, Bool.and_eq_true, Bool.and_eq_false_iff, Bool.or_eq_true, Bool.or_eq_false_iff, bne_eq_false_iff_eq, reduceCtorEq] at h))))
  all_goals simp only [Out, outA, outL, resA, go_sem, Nat.reduceLT, Nat.reduceLeDiff, Nat.reduceEqDiff, reduceIte, Nat.reduceAdd, Nat.reduceMul, Nat.reduceSub, Int.reduceLT, Int.reduceLE, Int.reduceToNat, Int.reduceNeg, reduceCtorEq]
  all_goals refine AVle.of_eq (congrArg (fun n => AV.lit (.int .i64 n)) ?_)
  all_goals (repeat' split)
  all_goals omega
def or3 (a b c : Int) : Int := if a ≠ 0 then a else if b ≠ 0 then b else c
def dd84 : Nat → List (List Nat)
  | 0 => [[], [2]]
  | 1 => [[], []]
  | 2 => [[], [0], [], []]
  | 3 => [[], []]
  | 4 => [[9], [], [10], [11]]
  | 5 => [[], [], [], [12, 13]]
  | 6 => [[3, 6, 7, 8, 14], [5], [15]]
  | 7 => [[5, 14], [8], [16]]
  | 8 => [[6, 7, 8, 9], [3], [17]]
  | _ => []
theorem or_c (a b c : Int) : ACall Tryz.prog 84 [.ro 1 [[.lit (.int .i64 a)], [.lit (.int .i64 b)], [.lit (.int .i64 c)]]] (.lit (.int .i64 (or3 a b c))) := by
  unfold or3
  refine acall_of (n := 18) (rs := [.tmp 2]) Tryz.func84 rfl (by kernel_rfl) rfl rfl rfl ?_; simp only [argsE, Nat.reduceAdd]
  repeat (any_goals (first | (refine aops_cons (fun K' h' => ?_); simp only [go_sem, Nat.reduceLT, Nat.reduceLeDiff, Nat.reduceEqDiff, reduceIte, Nat.reduceAdd, Nat.reduceMul, Nat.reduceSub, Int.reduceLT, Int.reduceLE, Int.reduceToNat, Int.reduceNeg, reduceCtorEq, Msg.cells]; (try simp (disch := omega) only [wrap_id, getD_map_in, Int.toNat_natCast, Msg.cells]); (repeat (refine And.intro (by (omega)) ?_)); refine h' _ ?_; clear h' K') | (refine aops_nil (hK _ ?_); clear hK K gs; try simp only [aThen, aBlock]) | (refine AWp.sreg  dd84 rfl (fun gs K hgs hK => ?_); clear hgs) | refine AWp.seq ?_ | refine AWp.block ?_))
  refine AWp.loopR 4 ?_
  repeat (any_goals (first | (refine aops_cons (fun K' h' => ?_); simp only [go_sem, Nat.reduceLT, Nat.reduceLeDiff, Nat.reduceEqDiff, reduceIte, Nat.reduceAdd, Nat.reduceMul, Nat.reduceSub, Int.reduceLT, Int.reduceLE, Int.reduceToNat, Int.reduceNeg, reduceCtorEq, Msg.cells, Int.reduceAdd, Int.zero_add]; (try simp (disch := omega) only [wrap_id, getD_map_in, Int.toNat_natCast, Msg.cells, Int.reduceAdd, Int.zero_add]); (repeat (refine And.intro (by (omega)) ?_)); refine h' _ ?_; clear h' K') | (refine aops_nil (hK _ ?_); clear hK K gs; try simp only [aThen, aBlock]) | (refine AWp.sreg  dd84 rfl (fun gs K hgs hK => ?_); clear hgs) | refine AWp.seq ?_ | refine AWp.block ?_ | (refine AWp.ret ?_; try simp only [aThen, aBlock]) | (refine AWp.skip ?_; try simp only [aThen, aBlock]) | (refine AWp.exit ?_; try simp only [aThen, aBlock, Nat.reduceEqDiff, reduceIte]) | (refine AWp.reg  dd84 rfl (fun gs K hgs hK => ?_); clear hgs) | (refine AWp.cond rfl (fun h => ?_) (fun h => ?_) <;> (try simp only [decide_eq_true_eq, decide_eq_false_iff_not, beq_iff_eq, bne_iff_ne, ne_eq, Bool.not_eq_true', Bool.not_eq_false', beq_eq_false_iff_ne, Bool.true_eq_false, Bool.false_eq_true, Int.not_le, Int.not_lt, Bool.and_eq_true, Bool.and_eq_false_iff, Bool.or_eq_true, Bool.or_eq_false_iff, bne_eq_false_iff_eq, reduceCtorEq] at h) <;> (try first | contradiction))))
  all_goals simp only [Out, outA, outL, resA, go_sem, Nat.reduceLT, Nat.reduceLeDiff, Nat.reduceEqDiff, reduceIte, Nat.reduceAdd, Nat.reduceMul, Nat.reduceSub, Int.reduceLT, Int.reduceLE, Int.reduceToNat, Int.reduceNeg, reduceCtorEq]
  all_goals refine AVle.of_eq (congrArg (fun n => AV.lit (.int .i64 n)) ?_)
  all_goals (repeat' split)
  all_goals omega
end Go.Proofs.YtjeehkdepoiegaaGreat
