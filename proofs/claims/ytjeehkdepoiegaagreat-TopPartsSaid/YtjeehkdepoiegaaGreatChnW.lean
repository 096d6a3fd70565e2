/-
  The walks over a channel of room one: Take; the example of messages that go through channels.
-/
import Derived.Test.YtjeehkdepoiegaaGreatQueV
import Derived.Test.YtjeehkdepoiegaaGreatLatS
import Derived.Test.YtjeehkdepoiegaaGreatAbsZY
namespace Go.Proofs.YtjeehkdepoiegaaGreat
open Go.AL Go.RowKit
set_option linter.unusedSimpArgs false
set_option linter.unusedVariables false
set_option maxRecDepth 10000
set_option maxHeartbeats 8000000
def dd11 : Nat → List (List Nat)
  | 0 => [[], [0], [], [], [4]]
  | 1 => [[], [], [8], [9]]
  | 2 => [[], [], [10]]
  | 3 => [[1, 11], [], [], [5], [12], [13], [14]]
  | 4 => [[5, 11], [], [15], [16], [17]]
  | 5 => [[], [], [18]]
  | 6 => [[1, 6, 19], [], [], [20], [21], []]
  | 7 => [[19], [], [22], [23]]
  | 8 => [[], [], [], [25], [24, 26, 27]]
  | _ => []
def fo11 : Nat → List Nat
  | 9 => [2, 3, 4]
  | _ => []
theorem takeCh_1 (m : Msg) (hv : validM m = true) : ACall Tryz.prog 11 [.agg [.lit (.int .i64 1), .ro 10 [m.cells]]] (.tup [.agg m.cells, .agg [.lit (.int .i64 1), .ro 10 []], .lit (.int .i64 0)]) := by
  have hCh := chk_c ⟨1, [m]⟩
  rw [show queE ⟨1, [m]⟩ = 0 by unfold queE goodQ; simp [hv]] at hCh
  obtain ⟨kd, k1, rt, v, t, r1, r2, r3, r4, r5⟩ := m
  unfold Que.cells at hCh
  simp only [List.map_cons, List.map_nil] at hCh
  unfold Msg.cells at hCh ⊢
  simp only at hCh ⊢
  clear hv
  refine acall_of (n := 38) (rs := [.cell 2 62, .cell 3 47, .tmp 4]) Tryz.func11 rfl (by kernel_rfl) rfl rfl rfl ?_; simp only [argsE, Nat.reduceAdd]
  repeat (any_goals (first | (refine AP_take rfl (fun K' h' => ?_); simp only [go_sem, Nat.reduceLT, Nat.reduceLeDiff, Nat.reduceEqDiff, reduceIte, Nat.reduceAdd, Nat.reduceMul, Nat.reduceSub, Int.reduceLT, Int.reduceLE, Int.reduceToNat, Int.reduceNeg, reduceCtorEq, List.replicate_succ, List.replicate_zero, laid]; (try simp (disch := omega) only [wrap_id, getD_map_in, Int.toNat_natCast, List.replicate_succ, List.replicate_zero, laid]); (repeat (refine And.intro (by (omega)) ?_)); refine h' _ ?_; clear h' K') | (refine AP_last rfl (fun K' h' => ?_); simp only [go_sem, Nat.reduceLT, Nat.reduceLeDiff, Nat.reduceEqDiff, reduceIte, Nat.reduceAdd, Nat.reduceMul, Nat.reduceSub, Int.reduceLT, Int.reduceLE, Int.reduceToNat, Int.reduceNeg, reduceCtorEq, List.replicate_succ, List.replicate_zero, laid]; (try simp (disch := omega) only [wrap_id, getD_map_in, Int.toNat_natCast, List.replicate_succ, List.replicate_zero, laid]); (repeat (refine And.intro (by (omega)) ?_)); refine h' _ ?_; clear h' K') | (refine AP_stop (hK _ ?_); clear hK K gs; (try simp only [aThen, aBlock]); (try (simp only [fo11, ASt.drop]; simp only [ASt.prune, pruneE, keepB, keepR, Bool.or_false, Bool.or_true, Bool.true_or, Bool.false_or, reduceIte, Bool.or_self, Bool.false_eq_true, aThen, aBlock, Nat.reduceEqDiff]))) | ((first | refine aops_cons (fun K' h' => ?_) | refine aopsZ_cons (fun K' h' => ?_)); simp only [go_sem, Nat.reduceLT, Nat.reduceLeDiff, Nat.reduceEqDiff, reduceIte, Nat.reduceAdd, Nat.reduceMul, Nat.reduceSub, Int.reduceLT, Int.reduceLE, Int.reduceToNat, Int.reduceNeg, reduceCtorEq, List.replicate_succ, List.replicate_zero, laid]; (try ((refine ⟨_, hCh, ?_⟩); (try simp only [go_sem, Nat.reduceLT, Nat.reduceLeDiff, Nat.reduceEqDiff, reduceIte, Nat.reduceAdd, Nat.reduceMul, Nat.reduceSub, Int.reduceLT, Int.reduceLE, Int.reduceToNat, Int.reduceNeg, reduceCtorEq, List.replicate_succ, List.replicate_zero, laid]))); (try simp (disch := omega) only [wrap_id, getD_map_in, Int.toNat_natCast, List.replicate_succ, List.replicate_zero, laid]); (repeat (refine And.intro (by (omega)) ?_)); refine h' _ ?_; clear h' K') | (refine aops_nil (hK _ ?_); clear hK K gs; try simp only [aThen, aBlock]) | ((refine AWp.sregQ (id := 9) fo11 (.take 0 (.take 3 (.take 5 (.take 6 (.take 7 (.alt 1 (.alt 2 (.alt 4 (.alt 8 (.alt 9 (.alt 10 (.alt 11 (.alt 12 .stop .stop) .stop) .stop) (.alt 10 (.alt 9 (.alt 11 (.alt 12 .stop .stop) .stop) .stop) .stop)) (.alt 10 (.alt 8 (.alt 9 (.alt 11 (.alt 12 .stop .stop) .stop) .stop) .stop) .stop)) (.alt 8 (.alt 4 (.alt 9 (.alt 10 (.alt 11 (.alt 12 .stop .stop) .stop) .stop) (.alt 10 (.alt 9 (.alt 11 (.alt 12 .stop .stop) .stop) .stop) .stop)) (.alt 10 (.alt 4 (.alt 9 (.alt 11 (.alt 12 .stop .stop) .stop) .stop) .stop) .stop)) (.alt 10 (.alt 4 (.alt 8 (.alt 9 (.alt 11 (.alt 12 .stop .stop) .stop) .stop) .stop) (.alt 8 (.alt 4 (.alt 9 (.alt 11 (.alt 12 .stop .stop) .stop) .stop) .stop) .stop)) .stop))) (.alt 4 (.alt 2 (.alt 8 (.alt 9 (.alt 10 (.alt 11 (.alt 12 .stop .stop) .stop) .stop) (.alt 10 (.alt 9 (.alt 11 (.alt 12 .stop .stop) .stop) .stop) .stop)) (.alt 10 (.alt 8 (.alt 9 (.alt 11 (.alt 12 .stop .stop) .stop) .stop) .stop) .stop)) (.alt 8 (.alt 2 (.alt 9 (.alt 10 (.alt 11 (.alt 12 .stop .stop) .stop) .stop) (.alt 10 (.alt 9 (.alt 11 (.alt 12 .stop .stop) .stop) .stop) .stop)) (.alt 9 (.alt 2 (.alt 10 (.alt 11 (.alt 12 .stop .stop) .stop) .stop) .stop) .stop)) .stop)) (.alt 8 (.alt 2 (.alt 4 (.alt 9 (.alt 10 (.alt 11 (.alt 12 .stop .stop) .stop) .stop) (.alt 10 (.alt 9 (.alt 11 (.alt 12 .stop .stop) .stop) .stop) .stop)) (.alt 10 (.alt 4 (.alt 9 (.alt 11 (.alt 12 .stop .stop) .stop) .stop) .stop) .stop)) (.alt 4 (.alt 2 (.alt 9 (.alt 10 (.alt 11 (.alt 12 .stop .stop) .stop) .stop) (.alt 10 (.alt 9 (.alt 11 (.alt 12 .stop .stop) .stop) .stop) .stop)) (.alt 9 (.alt 2 (.alt 10 (.alt 11 (.alt 12 .stop .stop) .stop) .stop) .stop) .stop)) .stop)) .stop))) (.alt 4 (.alt 1 (.alt 2 (.alt 8 (.alt 9 (.alt 10 (.alt 11 (.alt 12 .stop .stop) .stop) .stop) (.alt 10 (.alt 9 (.alt 11 (.alt 12 .stop .stop) .stop) .stop) .stop)) (.alt 10 (.alt 8 (.alt 9 (.alt 11 (.alt 12 .stop .stop) .stop) .stop) .stop) .stop)) (.alt 8 (.alt 2 (.alt 9 (.alt 10 (.alt 11 (.alt 12 .stop .stop) .stop) .stop) (.alt 10 (.alt 9 (.alt 11 (.alt 12 .stop .stop) .stop) .stop) .stop)) (.alt 9 (.alt 2 (.alt 10 (.alt 11 (.alt 12 .stop .stop) .stop) .stop) .stop) .stop)) .stop)) (.alt 8 (.alt 1 (.alt 2 (.alt 9 (.alt 10 (.alt 11 (.alt 12 .stop .stop) .stop) .stop) (.alt 10 (.alt 9 (.alt 11 (.alt 12 .stop .stop) .stop) .stop) .stop)) (.alt 9 (.alt 2 (.alt 10 (.alt 11 (.alt 12 .stop .stop) .stop) .stop) .stop) .stop)) (.alt 9 (.alt 1 (.alt 2 (.alt 10 (.alt 11 (.alt 12 .stop .stop) .stop) .stop) .stop) .stop) .stop)) .stop)) (.alt 8 (.alt 1 (.alt 2 (.alt 4 (.alt 9 (.alt 10 (.alt 11 (.alt 12 .stop .stop) .stop) .stop) (.alt 10 (.alt 9 (.alt 11 (.alt 12 .stop .stop) .stop) .stop) .stop)) (.alt 10 (.alt 4 (.alt 9 (.alt 11 (.alt 12 .stop .stop) .stop) .stop) .stop) .stop)) (.alt 4 (.alt 2 (.alt 9 (.alt 10 (.alt 11 (.alt 12 .stop .stop) .stop) .stop) (.alt 10 (.alt 9 (.alt 11 (.alt 12 .stop .stop) .stop) .stop) .stop)) (.alt 9 (.alt 2 (.alt 10 (.alt 11 (.alt 12 .stop .stop) .stop) .stop) .stop) .stop)) .stop)) (.alt 4 (.alt 1 (.alt 2 (.alt 9 (.alt 10 (.alt 11 (.alt 12 .stop .stop) .stop) .stop) (.alt 10 (.alt 9 (.alt 11 (.alt 12 .stop .stop) .stop) .stop) .stop)) (.alt 9 (.alt 2 (.alt 10 (.alt 11 (.alt 12 .stop .stop) .stop) .stop) .stop) .stop)) (.alt 9 (.alt 1 (.alt 2 (.alt 10 (.alt 11 (.alt 12 .stop .stop) .stop) .stop) .stop) .stop) .stop)) .stop)) .stop)))))))) mo_fact (by kernel_rfl) (by kernel_rfl) (fun gs K hgs hK => ?_)); clear hgs) | refine AP_alt ?_ ?_ | (refine aopsZ_consZ (fun K' h' => ?_); simp only [go_sem, Nat.reduceLT, Nat.reduceLeDiff, Nat.reduceEqDiff, reduceIte, Nat.reduceAdd, Nat.reduceMul, Nat.reduceSub, Int.reduceLT, Int.reduceLE, Int.reduceToNat, Int.reduceNeg, reduceCtorEq, List.replicate_succ, List.replicate_zero, laid]; (try simp (disch := omega) only [wrap_id, getD_map_in, Int.toNat_natCast, List.replicate_succ, List.replicate_zero, laid]); (repeat (refine And.intro (by (omega)) ?_)); refine h' _ ?_; clear h' K') | (refine aopsZ_nil (hK _ ?_); clear hK K gs; try simp only [aThen, aBlock]) | ((refine AWp.sregZ (id := 8) dd11 rfl (fun gs K hgs hK => ?_)); clear hgs) | (refine AWp.sreg  dd11 rfl (fun gs K hgs hK => ?_); clear hgs) | refine AWp.seq ?_ | (refine AWp.ret ?_; try simp only [aThen, aBlock]) | (refine AWp.skip ?_; try simp only [aThen, aBlock]) | (refine AWp.cond rfl (fun h => ?_) (fun h => ?_) <;> (try simp only [decide_eq_true_eq, decide_eq_false_iff_not, beq_iff_eq, bne_iff_ne, ne_eq, Bool.not_eq_true', Bool.not_eq_false', beq_eq_false_iff_ne, Bool.true_eq_false, Bool.false_eq_true, Int.not_le, Int.not_lt, Bool.and_eq_true, Bool.and_eq_false_iff, Bool.or_eq_true, Bool.or_eq_false_iff, bne_eq_false_iff_eq, reduceCtorEq] at h) <;> (try first | contradiction))))
  all_goals simp only [Out, outA, outL, resA, go_sem, Nat.reduceLT, Nat.reduceLeDiff, Nat.reduceEqDiff, reduceIte, Nat.reduceAdd, Nat.reduceMul, Nat.reduceSub, Int.reduceLT, Int.reduceLE, Int.reduceToNat, Int.reduceNeg, reduceCtorEq]
  all_goals exact AVle.of_eq (by simp)
def mark3 : Msg := ⟨2, 0, 0, 0, 3, 0, 0, 0, 0, 0⟩
def dd4 : Nat → List (List Nat)
  | 0 => [[], [0]]
  | 1 => [[], [], [8], [], [7], [], [9], [10]]
  | 2 => [[], [], [], [12, 13], [14], [], [11], [15], [16]]
  | 3 => [[], [1], [18], [19], [], [], [17], [], [], [20], [5, 21], [22]]
  | 4 => [[], [2], [23], [24], [3], [26], [25, 27], [28], [6], [30], [29, 31], [32], [4], [34], [35], [33, 36], [37]]
  | _ => []
theorem alive30_c : ACall Tryz.prog 4 [] (.lit (.bool true)) := by
  have hPu := put_c ⟨1, []⟩ mark3
  have e1 : putE ⟨1, []⟩ mark3 = 0 := by decide
  rw [show putR ⟨1, []⟩ mark3 = ⟨1, [mark3]⟩ by unfold putR; rw [if_pos e1]; rfl, e1] at hPu
  have hTk := takeCh_1 mark3 (by decide)
  unfold Que.cells Msg.cells mark3 at hPu hTk
  simp only [List.map_cons, List.map_nil, Msg.cells] at hPu hTk
  refine acall_of (n := 38) (rs := [.tmp 0]) Tryz.func4 rfl (by kernel_rfl) rfl rfl rfl ?_; simp only [argsE, Nat.reduceAdd]
  repeat (any_goals (first | (refine aops_cons (fun K' h' => ?_); simp only [go_sem, Nat.reduceLT, Nat.reduceLeDiff, Nat.reduceEqDiff, reduceIte, Nat.reduceAdd, Nat.reduceMul, Nat.reduceSub, Int.reduceLT, Int.reduceLE, Int.reduceToNat, Int.reduceNeg, reduceCtorEq, hgs]; (try ((first | refine ⟨_, newCh_1, ?_⟩ | refine ⟨_, hPu, ?_⟩ | refine ⟨_, hTk, ?_⟩); (try simp only [go_sem, Nat.reduceLT, Nat.reduceLeDiff, Nat.reduceEqDiff, reduceIte, Nat.reduceAdd, Nat.reduceMul, Nat.reduceSub, Int.reduceLT, Int.reduceLE, Int.reduceToNat, Int.reduceNeg, reduceCtorEq, hgs]))); (try simp (disch := omega) only [wrap_id, getD_map_in, Int.toNat_natCast]); (repeat (refine And.intro (by (omega)) ?_)); refine h' _ ?_; clear h' K') | (refine aops_nil (hK _ ?_); clear hK K hgs gs; try simp only [aThen, aBlock]) | ((refine AWp.sreg (id := 4) dd4 rfl (fun gs K hgs hK => ?_)); replace hgs : gs 2 = some 25 ∧ gs 6 = some 29 ∧ gs 10 = some 33 := ⟨hgs 2, hgs 6, hgs 10⟩) | (refine AWp.sreg  dd4 rfl (fun gs K hgs hK => ?_); replace hgs : Nat.succ 0 = 1 := rfl) | (refine AWp.ret ?_; try simp only [aThen, aBlock])))
  all_goals simp only [Out, outA, outL, resA, go_sem, Nat.reduceLT, Nat.reduceLeDiff, Nat.reduceEqDiff, reduceIte, Nat.reduceAdd, Nat.reduceMul, Nat.reduceSub, Int.reduceLT, Int.reduceLE, Int.reduceToNat, Int.reduceNeg, reduceCtorEq]
  all_goals exact AVle.refl _
end Go.Proofs.YtjeehkdepoiegaaGreat
