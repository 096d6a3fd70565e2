/-
  The walks over queues: copies of lists, joined lists, what is put.
-/
import Derived.Test.YtjeehkdepoiegaaGreatQueMW
namespace Go.Proofs.YtjeehkdepoiegaaGreat
open Go.AL Go.RowKit
set_option linter.unusedSimpArgs false
set_option linter.unusedVariables false
set_option maxRecDepth 10000
set_option maxHeartbeats 8000000
def dd25 : Nat → List (List Nat)
  | 0 => [[], [2]]
  | 1 => [[], [], [3]]
  | 2 => [[0, 4], []]
  | 3 => [[4], [], [0], [5, 6], [7]]
  | _ => []
theorem cloneQue_n (l : List Que) (hl : l.length ≤ 4100) : ACallN Tryz.prog 25 [.ro 2 (l.map Que.cells)] (.own 0 2 0 l.length) [some ⟨47, 2, l.map Que.cells⟩] := by
  cases l with
  | nil =>
    refine acallN_roNil fun A c => ?_
    cases A with
    | none =>
      refine acallN_of (n := 8) (rs := [.tmp 2]) [0] Tryz.func25 rfl (by kernel_rfl) rfl rfl rfl ?_; simp only [argsE, Nat.reduceAdd]
      repeat (any_goals (first | (refine aops_cons (fun K' h' => ?_); simp only [go_sem, Nat.reduceLT, Nat.reduceLeDiff, Nat.reduceEqDiff, reduceIte, Nat.reduceAdd, Nat.reduceMul, Nat.reduceSub, Int.reduceLT, Int.reduceLE, Int.reduceToNat, Int.reduceNeg, reduceCtorEq, Que.cells]; (try simp (disch := omega) only [wrap_id, getD_map_in, Int.toNat_natCast, Que.cells]); (repeat (refine And.intro (by (omega)) ?_)); refine h' _ ?_; clear h' K') | (refine aops_nil (hK _ ?_); clear hK K gs; try simp only [aThen, aBlock]) | (refine AWp.sreg  dd25 rfl (fun gs K hgs hK => ?_); clear hgs) | refine AWp.seq ?_ | (refine AWp.cond rfl (fun h => ?_) (fun h => ?_) <;> (try simp only [decide_eq_true_eq, decide_eq_false_iff_not, beq_iff_eq, bne_iff_ne, ne_eq, Bool.not_eq_true', Bool.not_eq_false', beq_eq_false_iff_ne, Bool.true_eq_false, Bool.false_eq_true, Int.not_le, Int.not_lt, Bool.and_eq_true, Bool.and_eq_false_iff, Bool.or_eq_true, Bool.or_eq_false_iff, bne_eq_false_iff_eq, reduceCtorEq] at h) <;> (try first | contradiction))))
      refine AWp.weaken (Wk.nilOwn 2 47 2 rfl (by simp)) ?_
      simp only [ASt.nilOwn, eput, ASt.drop, List.length_nil, List.nil_append]
      repeat (any_goals ((refine AWp.ret ?_; try simp only [aThen, aBlock])))
      simp only [OutN, outA, outL, resA, go_sem, Nat.reduceLT, Nat.reduceLeDiff, Nat.reduceEqDiff, reduceIte, Nat.reduceAdd, Nat.reduceMul, Nat.reduceSub, Int.reduceLT, Int.reduceLE, Int.reduceToNat, Int.reduceNeg, reduceCtorEq]
      first
        | (refine ⟨AVle.of_eq (by simp [keepR]), ?_⟩; simp [frzRows, keepR]; done)
        | (refine ⟨AVle.of_eq (by simp [keepR]), ?_, ?_⟩ <;> simp [AV.lowB, Nat.blt, Nat.ble, frzRows, keepR]; done)
    | some ad =>
      refine acallN_of (n := 8) (rs := [.tmp 2]) [0] Tryz.func25 rfl (by kernel_rfl) rfl rfl rfl ?_; simp only [argsE, Nat.reduceAdd]
      repeat (any_goals (first | (refine aops_cons (fun K' h' => ?_); simp only [go_sem, Nat.reduceLT, Nat.reduceLeDiff, Nat.reduceEqDiff, reduceIte, Nat.reduceAdd, Nat.reduceMul, Nat.reduceSub, Int.reduceLT, Int.reduceLE, Int.reduceToNat, Int.reduceNeg, reduceCtorEq, Que.cells]; (try simp (disch := omega) only [wrap_id, getD_map_in, Int.toNat_natCast, Que.cells]); (repeat (refine And.intro (by (omega)) ?_)); refine h' _ ?_; clear h' K') | (refine aops_nil (hK _ ?_); clear hK K gs; try simp only [aThen, aBlock]) | (refine AWp.sreg  dd25 rfl (fun gs K hgs hK => ?_); clear hgs) | refine AWp.seq ?_ | (refine AWp.ret ?_; try simp only [aThen, aBlock]) | (refine AWp.skip ?_; try simp only [aThen, aBlock]) | (refine AWp.cond rfl (fun h => ?_) (fun h => ?_) <;> (try simp only [decide_eq_true_eq, decide_eq_false_iff_not, beq_iff_eq, bne_iff_ne, ne_eq, Bool.not_eq_true', Bool.not_eq_false', beq_eq_false_iff_ne, Bool.true_eq_false, Bool.false_eq_true, Int.not_le, Int.not_lt, Bool.and_eq_true, Bool.and_eq_false_iff, Bool.or_eq_true, Bool.or_eq_false_iff, bne_eq_false_iff_eq, reduceCtorEq] at h) <;> (try first | contradiction))))
      simp only [OutN, outA, outL, resA, go_sem, Nat.reduceLT, Nat.reduceLeDiff, Nat.reduceEqDiff, reduceIte, Nat.reduceAdd, Nat.reduceMul, Nat.reduceSub, Int.reduceLT, Int.reduceLE, Int.reduceToNat, Int.reduceNeg, reduceCtorEq]
      first
        | (refine ⟨AVle.of_eq (by simp [keepR]), ?_⟩; simp [frzRows, keepR]; done)
        | (refine ⟨AVle.of_eq (by simp [keepR]), ?_, ?_⟩ <;> simp [AV.lowB, Nat.blt, Nat.ble, frzRows, keepR]; done)
  | cons x l =>
    rw [List.map_cons]
    simp only [List.length_cons] at hl
    refine acallN_of (n := 8) (rs := [.tmp 2]) [0] Tryz.func25 rfl (by kernel_rfl) rfl rfl rfl ?_; simp only [argsE, Nat.reduceAdd]
    repeat (any_goals (first | (refine aops_cons (fun K' h' => ?_); simp only [go_sem, Nat.reduceLT, Nat.reduceLeDiff, Nat.reduceEqDiff, reduceIte, Nat.reduceAdd, Nat.reduceMul, Nat.reduceSub, Int.reduceLT, Int.reduceLE, Int.reduceToNat, Int.reduceNeg, reduceCtorEq, Que.cells]; (try simp (disch := omega) only [wrap_id, getD_map_in, Int.toNat_natCast, Que.cells]); (repeat (refine And.intro (by (omega)) ?_)); refine h' _ ?_; clear h' K') | (refine aops_nil (hK _ ?_); clear hK K gs; try simp only [aThen, aBlock]) | (refine AWp.sreg  dd25 rfl (fun gs K hgs hK => ?_); clear hgs) | refine AWp.seq ?_ | (refine AWp.ret ?_; try simp only [aThen, aBlock]) | (refine AWp.skip ?_; try simp only [aThen, aBlock]) | (refine AWp.cond rfl (fun h => ?_) (fun h => ?_) <;> (try simp only [decide_eq_true_eq, decide_eq_false_iff_not, beq_iff_eq, bne_iff_ne, ne_eq, Bool.not_eq_true', Bool.not_eq_false', beq_eq_false_iff_ne, Bool.true_eq_false, Bool.false_eq_true, Int.not_le, Int.not_lt, Bool.and_eq_true, Bool.and_eq_false_iff, Bool.or_eq_true, Bool.or_eq_false_iff, bne_eq_false_iff_eq, reduceCtorEq] at h))))
    simp only [OutN, outA, outL, resA, go_sem, Nat.reduceLT, Nat.reduceLeDiff, Nat.reduceEqDiff, reduceIte, Nat.reduceAdd, Nat.reduceMul, Nat.reduceSub, Int.reduceLT, Int.reduceLE, Int.reduceToNat, Int.reduceNeg, reduceCtorEq]
    first
      | (refine ⟨AVle.of_eq (by simp [keepR]), ?_⟩; simp [frzRows, keepR, Que.cells]; done)
      | (refine ⟨AVle.of_eq (by simp [keepR]), ?_, ?_⟩ <;> simp [AV.lowB, Nat.blt, Nat.ble, frzRows, keepR, Que.cells]; done)
def dd26 : Nat → List (List Nat)
  | 0 => [[], [2]]
  | 1 => [[], [], [3]]
  | 2 => [[0, 4], []]
  | 3 => [[4], [], [0], [5, 6], [7]]
  | _ => []
theorem cloneMsg_c (l : List Msg) (hl : l.length ≤ 4100) : ACall Tryz.prog 26 [.ro 10 (l.map Msg.cells)] (.ro 10 (l.map Msg.cells)) := by
  cases l with
  | nil =>
    refine acall_roNil fun A c => ?_
    cases A with
    | none =>
      refine acall_of (n := 8) (rs := [.tmp 2]) Tryz.func26 rfl (by kernel_rfl) rfl rfl rfl ?_; simp only [argsE, Nat.reduceAdd]
      repeat (any_goals (first | (refine aops_cons (fun K' h' => ?_); simp only [go_sem, Nat.reduceLT, Nat.reduceLeDiff, Nat.reduceEqDiff, reduceIte, Nat.reduceAdd, Nat.reduceMul, Nat.reduceSub, Int.reduceLT, Int.reduceLE, Int.reduceToNat, Int.reduceNeg, reduceCtorEq, Que.cells]; (try simp (disch := omega) only [wrap_id, getD_map_in, Int.toNat_natCast, Que.cells]); (repeat (refine And.intro (by (omega)) ?_)); refine h' _ ?_; clear h' K') | (refine aops_nil (hK _ ?_); clear hK K gs; try simp only [aThen, aBlock]) | (refine AWp.sreg  dd26 rfl (fun gs K hgs hK => ?_); clear hgs) | refine AWp.seq ?_ | (refine AWp.ret ?_; try simp only [aThen, aBlock]) | (refine AWp.cond rfl (fun h => ?_) (fun h => ?_) <;> (try simp only [decide_eq_true_eq, decide_eq_false_iff_not, beq_iff_eq, bne_iff_ne, ne_eq, Bool.not_eq_true', Bool.not_eq_false', beq_eq_false_iff_ne, Bool.true_eq_false, Bool.false_eq_true, Int.not_le, Int.not_lt, Bool.and_eq_true, Bool.and_eq_false_iff, Bool.or_eq_true, Bool.or_eq_false_iff, bne_eq_false_iff_eq, reduceCtorEq] at h) <;> (try first | contradiction))))
      simp only [Out, outA, outL, resA, go_sem, Nat.reduceLT, Nat.reduceLeDiff, Nat.reduceEqDiff, reduceIte, Nat.reduceAdd, Nat.reduceMul, Nat.reduceSub, Int.reduceLT, Int.reduceLE, Int.reduceToNat, Int.reduceNeg, reduceCtorEq]
      exact AVle.nil 10
    | some ad =>
      refine acall_of (n := 8) (rs := [.tmp 2]) Tryz.func26 rfl (by kernel_rfl) rfl rfl rfl ?_; simp only [argsE, Nat.reduceAdd]
      repeat (any_goals (first | (refine aops_cons (fun K' h' => ?_); simp only [go_sem, Nat.reduceLT, Nat.reduceLeDiff, Nat.reduceEqDiff, reduceIte, Nat.reduceAdd, Nat.reduceMul, Nat.reduceSub, Int.reduceLT, Int.reduceLE, Int.reduceToNat, Int.reduceNeg, reduceCtorEq, Que.cells]; (try simp (disch := omega) only [wrap_id, getD_map_in, Int.toNat_natCast, Que.cells]); (repeat (refine And.intro (by (omega)) ?_)); refine h' _ ?_; clear h' K') | (refine aops_nil (hK _ ?_); clear hK K gs; try simp only [aThen, aBlock]) | (refine AWp.sreg  dd26 rfl (fun gs K hgs hK => ?_); clear hgs) | refine AWp.seq ?_ | (refine AWp.ret ?_; try simp only [aThen, aBlock]) | (refine AWp.skip ?_; try simp only [aThen, aBlock]) | (refine AWp.cond rfl (fun h => ?_) (fun h => ?_) <;> (try simp only [decide_eq_true_eq, decide_eq_false_iff_not, beq_iff_eq, bne_iff_ne, ne_eq, Bool.not_eq_true', Bool.not_eq_false', beq_eq_false_iff_ne, Bool.true_eq_false, Bool.false_eq_true, Int.not_le, Int.not_lt, Bool.and_eq_true, Bool.and_eq_false_iff, Bool.or_eq_true, Bool.or_eq_false_iff, bne_eq_false_iff_eq, reduceCtorEq] at h) <;> (try first | contradiction))))
      simp only [Out, outA, outL, resA, go_sem, Nat.reduceLT, Nat.reduceLeDiff, Nat.reduceEqDiff, reduceIte, Nat.reduceAdd, Nat.reduceMul, Nat.reduceSub, Int.reduceLT, Int.reduceLE, Int.reduceToNat, Int.reduceNeg, reduceCtorEq]
      exact AVle.of_eq (by simp)
  | cons x l =>
    rw [List.map_cons]
    simp only [List.length_cons] at hl
    refine acall_of (n := 8) (rs := [.tmp 2]) Tryz.func26 rfl (by kernel_rfl) rfl rfl rfl ?_; simp only [argsE, Nat.reduceAdd]
    repeat (any_goals (first | (refine aops_cons (fun K' h' => ?_); simp only [go_sem, Nat.reduceLT, Nat.reduceLeDiff, Nat.reduceEqDiff, reduceIte, Nat.reduceAdd, Nat.reduceMul, Nat.reduceSub, Int.reduceLT, Int.reduceLE, Int.reduceToNat, Int.reduceNeg, reduceCtorEq, Que.cells]; (try simp (disch := omega) only [wrap_id, getD_map_in, Int.toNat_natCast, Que.cells]); (repeat (refine And.intro (by (omega)) ?_)); refine h' _ ?_; clear h' K') | (refine aops_nil (hK _ ?_); clear hK K gs; try simp only [aThen, aBlock]) | (refine AWp.sreg  dd26 rfl (fun gs K hgs hK => ?_); clear hgs) | refine AWp.seq ?_ | (refine AWp.ret ?_; try simp only [aThen, aBlock]) | (refine AWp.skip ?_; try simp only [aThen, aBlock]) | (refine AWp.cond rfl (fun h => ?_) (fun h => ?_) <;> (try simp only [decide_eq_true_eq, decide_eq_false_iff_not, beq_iff_eq, bne_iff_ne, ne_eq, Bool.not_eq_true', Bool.not_eq_false', beq_eq_false_iff_ne, Bool.true_eq_false, Bool.false_eq_true, Int.not_le, Int.not_lt, Bool.and_eq_true, Bool.and_eq_false_iff, Bool.or_eq_true, Bool.or_eq_false_iff, bne_eq_false_iff_eq, reduceCtorEq] at h))))
    simp only [Out, outA, outL, resA, go_sem, Nat.reduceLT, Nat.reduceLeDiff, Nat.reduceEqDiff, reduceIte, Nat.reduceAdd, Nat.reduceMul, Nat.reduceSub, Int.reduceLT, Int.reduceLE, Int.reduceToNat, Int.reduceNeg, reduceCtorEq]
    exact AVle.of_eq (by simp [List.take_of_length_le])
def dd64 : Nat → List (List Nat)
  | 0 => [[], [4]]
  | 1 => [[], [], [5]]
  | 2 => [[6], [], [7]]
  | 3 => [[6], [1], [], [9], [], [11], [10, 12], [8, 13], [14]]
  | 4 => [[], [], [15]]
  | 5 => [[16], [], [], [18], [17, 19], [1], [20, 21], [0], [23], [22, 24], [25]]
  | 6 => [[1, 16], [0], [26]]
  | _ => []
theorem growQ_n (m : Nat) (hm : m ≤ 1000) : ACallN Tryz.prog 64 [.lit (.slice none 0 0), .lit (.int .i64 (m : Int))] (.own 0 2 0 0)
    [some ⟨47, 2, List.replicate m [.lit (.int .i64 0), .lit (.slice none 0 0)]⟩] := by
  cases m with
  | zero =>
    refine acallN_of (n := 27) (rs := [.tmp 4]) [0] Tryz.func64 rfl (by kernel_rfl) rfl rfl rfl ?_; simp only [argsE, Nat.reduceAdd]
    repeat (any_goals (first | ((first | refine aops_cons (fun K' h' => ?_) | refine aopsZ_cons (fun K' h' => ?_)); simp only [go_sem, Nat.reduceLT, Nat.reduceLeDiff, Nat.reduceEqDiff, reduceIte, Nat.reduceAdd, Nat.reduceMul, Nat.reduceSub, Int.reduceLT, Int.reduceLE, Int.reduceToNat, Int.reduceNeg, reduceCtorEq, Que.cells]; (try simp (disch := omega) only [wrap_id, getD_map_in, Int.toNat_natCast, Que.cells]); (repeat (refine And.intro (by (omega)) ?_)); refine h' _ ?_; clear h' K') | (refine aops_nil (hK _ ?_); clear hK K gs; try simp only [aThen, aBlock]) | (refine aopsZ_consZ (fun K' h' => ?_); simp only [go_sem, Nat.reduceLT, Nat.reduceLeDiff, Nat.reduceEqDiff, reduceIte, Nat.reduceAdd, Nat.reduceMul, Nat.reduceSub, Int.reduceLT, Int.reduceLE, Int.reduceToNat, Int.reduceNeg, reduceCtorEq, Que.cells]; (try simp (disch := omega) only [wrap_id, getD_map_in, Int.toNat_natCast, Que.cells]); (repeat (refine And.intro (by (omega)) ?_)); refine h' _ ?_; clear h' K') | (refine aopsZ_nil (hK _ ?_); clear hK K gs; try simp only [aThen, aBlock]) | ((refine AWp.sregZ (id := 3) dd64 rfl (fun gs K hgs hK => ?_)); clear hgs) | (refine AWp.sreg  dd64 rfl (fun gs K hgs hK => ?_); clear hgs) | refine AWp.seq ?_ | (refine AWp.skip ?_; try simp only [aThen, aBlock]) | (refine AWp.cond rfl (fun h => ?_) (fun h => ?_) <;> (try simp only [decide_eq_true_eq, decide_eq_false_iff_not, beq_iff_eq, bne_iff_ne, ne_eq, Bool.not_eq_true', Bool.not_eq_false', beq_eq_false_iff_ne, Bool.true_eq_false, Bool.false_eq_true, Int.not_le, Int.not_lt, Bool.and_eq_true, Bool.and_eq_false_iff, Bool.or_eq_true, Bool.or_eq_false_iff, bne_eq_false_iff_eq, reduceCtorEq] at h) <;> (try first | contradiction))))
    refine AWp.weaken (Wk.nilOwn 4 47 2 rfl (by simp)) ?_
    simp only [ASt.nilOwn, eput, ASt.drop, List.length_nil, List.nil_append]
    repeat (any_goals ((refine AWp.ret ?_; try simp only [aThen, aBlock])))
    simp only [OutN, outA, outL, resA, go_sem, Nat.reduceLT, Nat.reduceLeDiff, Nat.reduceEqDiff, reduceIte, Nat.reduceAdd, Nat.reduceMul, Nat.reduceSub, Int.reduceLT, Int.reduceLE, Int.reduceToNat, Int.reduceNeg, reduceCtorEq]
    first
      | (refine ⟨AVle.of_eq (by simp [keepR]), ?_⟩; simp [frzRows, keepR]; done)
      | (refine ⟨AVle.of_eq (by simp [keepR]), ?_, ?_⟩ <;> simp [AV.lowB, Nat.blt, Nat.ble, frzRows, keepR]; done)
  | succ m =>
    obtain ⟨j, hj⟩ : ∃ j, j = m + 1 := ⟨_, rfl⟩
    rw [← hj]
    have hj1 : 1 ≤ j ∧ j ≤ 1000 := by omega
    clear hj hm
    refine acallN_of (n := 27) (rs := [.tmp 4]) [0] Tryz.func64 rfl (by kernel_rfl) rfl rfl rfl ?_; simp only [argsE, Nat.reduceAdd]
    repeat (any_goals (first | ((first | refine aops_cons (fun K' h' => ?_) | refine aopsZ_cons (fun K' h' => ?_)); simp only [go_sem, Nat.reduceLT, Nat.reduceLeDiff, Nat.reduceEqDiff, reduceIte, Nat.reduceAdd, Nat.reduceMul, Nat.reduceSub, Int.reduceLT, Int.reduceLE, Int.reduceToNat, Int.reduceNeg, reduceCtorEq, Que.cells, Int.sub_zero]; (try simp (disch := omega) only [wrap_id, getD_map_in, Int.toNat_natCast, Que.cells, Int.sub_zero]); (repeat (refine And.intro (by (omega)) ?_)); refine h' _ ?_; clear h' K') | (refine aops_nil (hK _ ?_); clear hK K gs; try simp only [aThen, aBlock]) | (refine aopsZ_consZ (fun K' h' => ?_); simp only [go_sem, Nat.reduceLT, Nat.reduceLeDiff, Nat.reduceEqDiff, reduceIte, Nat.reduceAdd, Nat.reduceMul, Nat.reduceSub, Int.reduceLT, Int.reduceLE, Int.reduceToNat, Int.reduceNeg, reduceCtorEq, Que.cells, Int.sub_zero]; (try simp (disch := omega) only [wrap_id, getD_map_in, Int.toNat_natCast, Que.cells, Int.sub_zero]); (repeat (refine And.intro (by (omega)) ?_)); refine h' _ ?_; clear h' K') | (refine aopsZ_nil (hK _ ?_); clear hK K gs; try simp only [aThen, aBlock]) | ((refine AWp.sregZ (id := 3) dd64 rfl (fun gs K hgs hK => ?_)); clear hgs) | ((refine AWp.regZ (id := 5) dd64 rfl (fun gs K hgs hK => ?_)); clear hgs) | (refine AWp.sreg  dd64 rfl (fun gs K hgs hK => ?_); clear hgs) | refine AWp.seq ?_ | (refine AWp.ret ?_; try simp only [aThen, aBlock]) | (refine AWp.skip ?_; try simp only [aThen, aBlock]) | (refine AWp.cond rfl (fun h => ?_) (fun h => ?_) <;> (try simp only [decide_eq_true_eq, decide_eq_false_iff_not, beq_iff_eq, bne_iff_ne, ne_eq, Bool.not_eq_true', Bool.not_eq_false', beq_eq_false_iff_ne, Bool.true_eq_false, Bool.false_eq_true, Int.not_le, Int.not_lt, Bool.and_eq_true, Bool.and_eq_false_iff, Bool.or_eq_true, Bool.or_eq_false_iff, bne_eq_false_iff_eq, reduceCtorEq] at h) <;> (try first | contradiction | (exfalso; omega)))))
    simp only [OutN, outA, outL, resA, go_sem, Nat.reduceLT, Nat.reduceLeDiff, Nat.reduceEqDiff, reduceIte, Nat.reduceAdd, Nat.reduceMul, Nat.reduceSub, Int.reduceLT, Int.reduceLE, Int.reduceToNat, Int.reduceNeg, reduceCtorEq]
    first
      | (refine ⟨AVle.of_eq (by simp [keepR]), ?_⟩; simp [frzRows, keepR]; done)
      | (refine ⟨AVle.of_eq (by simp [keepR]), ?_, ?_⟩ <;> simp [AV.lowB, Nat.blt, Nat.ble, frzRows, keepR]; done)
def dd45 : Nat → List (List Nat)
  | 0 => [[], [2]]
  | 1 => [[], []]
  | 2 => [[], [], [], []]
  | 3 => [[], []]
  | 4 => [[12], [], [13], [14]]
  | 5 => [[], [3], [5], [16], [15, 17], [18]]
  | 6 => [[], [], [19]]
  | 7 => [[20], [], [21]]
  | 8 => [[20], [11], [22]]
  | 9 => [[9, 10, 11, 12], [3], [23], [24]]
  | 10 => [[], [0], [], []]
  | 11 => [[], []]
  | 12 => [[28], [], [29], [30]]
  | 13 => [[], [6], [8], [31, 32], [33]]
  | 14 => [[], [27], [34]]
  | 15 => [[25, 26, 27, 28], [6], [35]]
  | _ => []
theorem concatQ_c (a b : List Que) (ha : a.length ≤ 100) (hb : b.length ≤ 100) : ACall Tryz.prog 45 [.ro 1 [[.ro 2 (a.map Que.cells)], [.ro 2 (b.map Que.cells)]]] (.ro 2 ((a ++ b).map Que.cells)) := by
  have hGr := growQ_n (a.length + b.length) (by omega)
  refine acall_of (n := 36) (rs := [.tmp 2]) Tryz.func45 rfl (by kernel_rfl) rfl rfl rfl ?_; simp only [argsE, Nat.reduceAdd]
  repeat (any_goals (first | (refine aops_cons (fun K' h' => ?_); simp only [go_sem, Nat.reduceLT, Nat.reduceLeDiff, Nat.reduceEqDiff, reduceIte, Nat.reduceAdd, Nat.reduceMul, Nat.reduceSub, Int.reduceLT, Int.reduceLE, Int.reduceToNat, Int.reduceNeg, reduceCtorEq, Que.cells]; (try simp (disch := omega) only [wrap_id, getD_map_in, Int.toNat_natCast, Que.cells]); (repeat (refine And.intro (by (omega)) ?_)); refine h' _ ?_; clear h' K') | (refine aops_nil (hK _ ?_); clear hK K gs; try simp only [aThen, aBlock]) | (refine AWp.sreg  dd45 rfl (fun gs K hgs hK => ?_); clear hgs) | refine AWp.seq ?_ | refine AWp.block ?_))
  refine AWp.loopR 4 ?_
  repeat (any_goals (first | (refine aops_cons (fun K' h' => ?_); simp only [go_sem, Nat.reduceLT, Nat.reduceLeDiff, Nat.reduceEqDiff, reduceIte, Nat.reduceAdd, Nat.reduceMul, Nat.reduceSub, Int.reduceLT, Int.reduceLE, Int.reduceToNat, Int.reduceNeg, reduceCtorEq, Que.cells, Int.reduceAdd, Int.zero_add, Int.natCast_add]; (try simp (disch := omega) only [wrap_id, getD_map_in, Int.toNat_natCast, Que.cells, Int.reduceAdd, Int.zero_add, Int.natCast_add]); (repeat (refine And.intro (by (omega)) ?_)); refine h' _ ?_; clear h' K') | (refine aops_nil (hK _ ?_); clear hK K gs; try simp only [aThen, aBlock]) | (refine aops_consN  (fun K' h' => ?_); simp only [go_sem, Nat.reduceLT, Nat.reduceLeDiff, Nat.reduceEqDiff, reduceIte, Nat.reduceAdd, Nat.reduceMul, Nat.reduceSub, Int.reduceLT, Int.reduceLE, Int.reduceToNat, Int.reduceNeg, reduceCtorEq, Que.cells, Int.reduceAdd, Int.zero_add, Int.natCast_add]; refine ⟨_, _, hGr, ?_⟩; (try simp only [go_sem, Nat.reduceLT, Nat.reduceLeDiff, Nat.reduceEqDiff, reduceIte, Nat.reduceAdd, Nat.reduceMul, Nat.reduceSub, Int.reduceLT, Int.reduceLE, Int.reduceToNat, Int.reduceNeg, reduceCtorEq, Que.cells, Int.reduceAdd, Int.zero_add, Int.natCast_add]); (repeat (refine And.intro (by (omega)) ?_)); refine h' _ ?_; clear h' K') | (refine AWp.sreg  dd45 rfl (fun gs K hgs hK => ?_); clear hgs) | refine AWp.seq ?_ | refine AWp.block ?_ | (refine AWp.skip ?_; try simp only [aThen, aBlock]) | (refine AWp.exit ?_; try simp only [aThen, aBlock, Nat.reduceEqDiff, reduceIte]) | (refine AWp.reg  dd45 rfl (fun gs K hgs hK => ?_); clear hgs) | (refine AWp.cond rfl (fun h => ?_) (fun h => ?_) <;> (try simp only [decide_eq_true_eq, decide_eq_false_iff_not, beq_iff_eq, bne_iff_ne, ne_eq, Bool.not_eq_true', Bool.not_eq_false', beq_eq_false_iff_ne, Bool.true_eq_false, Bool.false_eq_true, Int.not_le, Int.not_lt, Bool.and_eq_true, Bool.and_eq_false_iff, Bool.or_eq_true, Bool.or_eq_false_iff, bne_eq_false_iff_eq, reduceCtorEq] at h) <;> (try first | contradiction))))
  refine AWp.loopR 4 ?_
  repeat (any_goals (first | (refine aops_cons (fun K' h' => ?_); simp only [go_sem, Nat.reduceLT, Nat.reduceLeDiff, Nat.reduceEqDiff, reduceIte, Nat.reduceAdd, Nat.reduceMul, Nat.reduceSub, Int.reduceLT, Int.reduceLE, Int.reduceToNat, Int.reduceNeg, reduceCtorEq, Que.cells, Int.reduceAdd, Int.zero_add, Int.natCast_add]; (try simp (disch := omega) only [wrap_id, getD_map_in, Int.toNat_natCast, Que.cells, Int.reduceAdd, Int.zero_add, Int.natCast_add]); (repeat (refine And.intro (by (omega)) ?_)); refine h' _ ?_; clear h' K') | (refine aops_nil (hK _ ?_); clear hK K gs; try simp only [aThen, aBlock]) | (refine AWp.sreg  dd45 rfl (fun gs K hgs hK => ?_); clear hgs) | refine AWp.seq ?_ | refine AWp.block ?_ | (refine AWp.ret ?_; try simp only [aThen, aBlock]) | (refine AWp.skip ?_; try simp only [aThen, aBlock]) | (refine AWp.exit ?_; try simp only [aThen, aBlock, Nat.reduceEqDiff, reduceIte]) | (refine AWp.reg  dd45 rfl (fun gs K hgs hK => ?_); clear hgs) | (refine AWp.cond rfl (fun h => ?_) (fun h => ?_) <;> (try simp only [decide_eq_true_eq, decide_eq_false_iff_not, beq_iff_eq, bne_iff_ne, ne_eq, Bool.not_eq_true', Bool.not_eq_false', beq_eq_false_iff_ne, Bool.true_eq_false, Bool.false_eq_true, Int.not_le, Int.not_lt, Bool.and_eq_true, Bool.and_eq_false_iff, Bool.or_eq_true, Bool.or_eq_false_iff, bne_eq_false_iff_eq, reduceCtorEq] at h) <;> (try first | contradiction))))
  simp only [Out, outA, outL, resA, go_sem, Nat.reduceLT, Nat.reduceLeDiff, Nat.reduceEqDiff, reduceIte, Nat.reduceAdd, Nat.reduceMul, Nat.reduceSub, Int.reduceLT, Int.reduceLE, Int.reduceToNat, Int.reduceNeg, reduceCtorEq]
  refine AVle.of_eq ?_
  simp [List.take_of_length_le]
theorem laid_len (xs : List (List AV)) (z : List AV) : (laid (List.replicate (xs.length + 1) z) 0 xs).length = xs.length + 1 := by
  unfold laid
  simp
theorem laid_eq (xs : List (List AV)) (z : List AV) : laid (List.replicate (xs.length + 1) z) 0 xs = xs ++ [z] := by
  unfold laid
  simp
theorem laid_get (xs : List (List AV)) (z : List AV) : (laid (List.replicate (xs.length + 1) z) 0 xs).getD xs.length [] = z := by
  rw [laid_eq, List.getD_eq_getElem?_getD, List.getElem?_append_right (Nat.le_refl _)]
  simp
theorem laid_set (xs : List (List AV)) (z y : List AV) : (laid (List.replicate (xs.length + 1) z) 0 xs).set xs.length y = xs ++ [y] := by
  rw [laid_eq, List.set_append_right _ _ (Nat.le_refl _)]
  simp
def putE (q : Que) (m : Msg) : Int := if queE q ≠ 0 then queE q else if validM m = false then 8 else if (q.list.length : Int) = q.room then 18 else 0
def zeroQ : Que := ⟨0, []⟩
def putR (q : Que) (m : Msg) : Que := if putE q m = 0 then putQ q m else zeroQ
theorem zeroQ_le : AVle (.agg [.lit (.int .i64 0), .lit (.slice none 0 0)]) (.agg zeroQ.cells) := AVle.agg ⟨AVle.refl _, AVle.nil 10, trivial⟩
theorem queE_bd {q : Que} (h : queE q = 0) : 1 ≤ q.room ∧ q.room ≤ 8 ∧ (q.list.length : Int) ≤ q.room := by
  have : goodQ q = true := by
    unfold queE at h
    split at h
    · assumption
    · cases h
  have := goodQ_bd this
  omega
theorem putE_cases (q : Que) (m : Msg) : (queE q ≠ 0 ∧ putE q m = queE q ∧ putR q m = zeroQ) ∨ (queE q = 0 ∧ validM m = false ∧ putE q m = 8 ∧ putR q m = zeroQ) ∨
    (queE q = 0 ∧ validM m = true ∧ (q.list.length : Int) = q.room ∧ putE q m = 18 ∧ putR q m = zeroQ) ∨ (queE q = 0 ∧ validM m = true ∧ (q.list.length : Int) < q.room ∧ putE q m = 0 ∧ putR q m = putQ q m) := by
  by_cases h1 : queE q = 0
  · cases h2 : validM m with
    | false =>
      have : putE q m = 8 := by unfold putE; rw [if_neg (by simp [h1]), if_pos h2]
      exact .inr (.inl ⟨h1, rfl, this, by unfold putR; rw [this]; rfl⟩)
    | true =>
      by_cases h3 : (q.list.length : Int) = q.room
      · have : putE q m = 18 := by unfold putE; rw [if_neg (by simp [h1]), if_neg (by simp [h2]), if_pos h3]
        exact .inr (.inr (.inl ⟨h1, rfl, h3, this, by unfold putR; rw [this]; rfl⟩))
      · have : putE q m = 0 := by unfold putE; rw [if_neg (by simp [h1]), if_neg (by simp [h2]), if_neg h3]
        have := queE_bd h1
        exact .inr (.inr (.inr ⟨h1, rfl, by omega, by assumption, by unfold putR; rw [if_pos (by assumption)]⟩))
  · have : putE q m = queE q := by unfold putE; rw [if_pos h1]
    exact .inl ⟨h1, this, by unfold putR; rw [this, if_neg h1]⟩
def dd14 : Nat → List (List Nat)
  | 0 => [[], [0], [1], [], [5]]
  | 1 => [[], [], [10], [11]]
  | 2 => [[], [], [12]]
  | 3 => [[2, 3, 13], [], [6], [14], [15]]
  | 4 => [[6, 13], [], [16], [17]]
  | 5 => [[], [], [18]]
  | 6 => [[2, 3, 19], [], [7], [20], [21]]
  | 7 => [[7, 19], [], [22], [23], [24]]
  | 8 => [[], [], [], [26], [25, 27]]
  | 9 => [[2, 3, 8, 28], [], [29], []]
  | 10 => [[28], [], [30], [31], [32]]
  | 11 => [[], [], [], [34], [33, 35, 36]]
  | 12 => [[], [], [8], [3], [37, 38], [39, 40]]
  | 13 => [[], [2], [41], [9], [42, 43], [44], []]
  | _ => []
theorem put_c (q : Que) (m : Msg) : ACall Tryz.prog 14 [.agg q.cells, .agg m.cells] (.tup [.agg (putR q m).cells, .lit (.int .i64 (putE q m))]) := by
  have hCh := chk_c q
  have hM := mCheck_c m
  unfold errM at hM
  have hb := @queE_bd q
  rcases putE_cases q m with ⟨h1, h2, h3⟩ | ⟨h1, h4, h2, h3⟩ | ⟨h1, h4, h5, h2, h3⟩ | ⟨h1, h4, h5, h2, h3⟩
  · rw [h2, h3]
    generalize queE q = qe at *
    obtain ⟨rm, l⟩ := q
    obtain ⟨kd, k1, rt, v, t, r1, r2, r3, r4, r5⟩ := m
    unfold Que.cells at hCh
    clear hM h2 h3 hb
    unfold Msg.cells
    rw [show Que.cells ⟨rm, l⟩ = [.lit (.int .i64 rm), .ro 10 (l.map Msg.cells)] from rfl]
    refine acall_of (n := 45) (rs := [.cell 4 47, .tmp 5]) Tryz.func14 rfl (by kernel_rfl) rfl rfl rfl ?_; simp only [argsE, Nat.reduceAdd]
    repeat (any_goals (first | ((refine aops_cons (fun K' h' => ?_)); simp only [go_sem, Nat.reduceLT, Nat.reduceLeDiff, Nat.reduceEqDiff, reduceIte, Nat.reduceAdd, Nat.reduceMul, Nat.reduceSub, Int.reduceLT, Int.reduceLE, Int.reduceToNat, Int.reduceNeg, reduceCtorEq, Que.cells]; (try ((refine ⟨_, hCh, ?_⟩); (try simp only [go_sem, Nat.reduceLT, Nat.reduceLeDiff, Nat.reduceEqDiff, reduceIte, Nat.reduceAdd, Nat.reduceMul, Nat.reduceSub, Int.reduceLT, Int.reduceLE, Int.reduceToNat, Int.reduceNeg, reduceCtorEq, Que.cells]))); (try simp (disch := omega) only [wrap_id, getD_map_in, Int.toNat_natCast, Que.cells]); (repeat (refine And.intro (by (omega)) ?_)); refine h' _ ?_; clear h' K') | (refine aops_nil (hK _ ?_); clear hK K gs; try simp only [aThen, aBlock]) | (refine AWp.sreg  dd14 rfl (fun gs K hgs hK => ?_); clear hgs) | refine AWp.seq ?_ | (refine AWp.ret ?_; try simp only [aThen, aBlock]) | (refine AWp.cond rfl (fun h => ?_) (fun h => ?_) <;> (try simp only [decide_eq_true_eq, decide_eq_false_iff_not, beq_iff_eq, bne_iff_ne, ne_eq, Bool.not_eq_true', Bool.not_eq_false', beq_eq_false_iff_ne, Bool.true_eq_false, Bool.false_eq_true, Int.not_le, Int.not_lt, Bool.and_eq_true, Bool.and_eq_false_iff, Bool.or_eq_true, Bool.or_eq_false_iff, bne_eq_false_iff_eq, reduceCtorEq] at h) <;> (try first | contradiction))))
    simp only [Out, outA, outL, resA, go_sem, Nat.reduceLT, Nat.reduceLeDiff, Nat.reduceEqDiff, reduceIte, Nat.reduceAdd, Nat.reduceMul, Nat.reduceSub, Int.reduceLT, Int.reduceLE, Int.reduceToNat, Int.reduceNeg, reduceCtorEq]
    exact AVle.tup ⟨zeroQ_le, AVle.refl _, trivial⟩
  · rw [h2, h3]
    rw [h1] at hCh
    rw [h4] at hM
    clear h1 h2 h3 hb h4
    obtain ⟨rm, l⟩ := q
    obtain ⟨kd, k1, rt, v, t, r1, r2, r3, r4, r5⟩ := m
    unfold Que.cells at hCh
    unfold Msg.cells at hM ⊢
    rw [show Que.cells ⟨rm, l⟩ = [.lit (.int .i64 rm), .ro 10 (l.map Msg.cells)] from rfl]
    refine acall_of (n := 45) (rs := [.cell 4 47, .tmp 5]) Tryz.func14 rfl (by kernel_rfl) rfl rfl rfl ?_; simp only [argsE, Nat.reduceAdd]
    repeat (any_goals (first | ((refine aops_cons (fun K' h' => ?_)); simp only [go_sem, Nat.reduceLT, Nat.reduceLeDiff, Nat.reduceEqDiff, reduceIte, Nat.reduceAdd, Nat.reduceMul, Nat.reduceSub, Int.reduceLT, Int.reduceLE, Int.reduceToNat, Int.reduceNeg, reduceCtorEq, Que.cells]; (try ((first | refine ⟨_, hM, ?_⟩ | refine ⟨_, hCh, ?_⟩); (try simp only [go_sem, Nat.reduceLT, Nat.reduceLeDiff, Nat.reduceEqDiff, reduceIte, Nat.reduceAdd, Nat.reduceMul, Nat.reduceSub, Int.reduceLT, Int.reduceLE, Int.reduceToNat, Int.reduceNeg, reduceCtorEq, Que.cells]))); (try simp (disch := omega) only [wrap_id, getD_map_in, Int.toNat_natCast, Que.cells]); (repeat (refine And.intro (by (omega)) ?_)); refine h' _ ?_; clear h' K') | (refine aops_nil (hK _ ?_); clear hK K gs; try simp only [aThen, aBlock]) | (refine AWp.sreg  dd14 rfl (fun gs K hgs hK => ?_); clear hgs) | refine AWp.seq ?_ | (refine AWp.ret ?_; try simp only [aThen, aBlock]) | (refine AWp.skip ?_; try simp only [aThen, aBlock]) | (refine AWp.cond rfl (fun h => ?_) (fun h => ?_) <;> (try simp only [decide_eq_true_eq, decide_eq_false_iff_not, beq_iff_eq, bne_iff_ne, ne_eq, Bool.not_eq_true', Bool.not_eq_false', beq_eq_false_iff_ne, Bool.true_eq_false, Bool.false_eq_true, Int.not_le, Int.not_lt, Bool.and_eq_true, Bool.and_eq_false_iff, Bool.or_eq_true, Bool.or_eq_false_iff, bne_eq_false_iff_eq, reduceCtorEq] at h) <;> (try first | contradiction))))
    simp only [Out, outA, outL, resA, go_sem, Nat.reduceLT, Nat.reduceLeDiff, Nat.reduceEqDiff, reduceIte, Nat.reduceAdd, Nat.reduceMul, Nat.reduceSub, Int.reduceLT, Int.reduceLE, Int.reduceToNat, Int.reduceNeg, reduceCtorEq]
    exact AVle.tup ⟨zeroQ_le, AVle.refl _, trivial⟩
  · rw [h2, h3]
    rw [h1] at hCh
    rw [h4] at hM
    obtain ⟨b1, b2, b3⟩ := hb h1
    clear h1 h2 h3 hb h4
    obtain ⟨rm, l⟩ := q
    obtain ⟨kd, k1, rt, v, t, r1, r2, r3, r4, r5⟩ := m
    simp only at h5 b1 b2 b3
    unfold Que.cells at hCh
    unfold Msg.cells at hM ⊢
    rw [show Que.cells ⟨rm, l⟩ = [.lit (.int .i64 rm), .ro 10 (l.map Msg.cells)] from rfl]
    refine acall_of (n := 45) (rs := [.cell 4 47, .tmp 5]) Tryz.func14 rfl (by kernel_rfl) rfl rfl rfl ?_; simp only [argsE, Nat.reduceAdd]
    repeat (any_goals (first | ((refine aops_cons (fun K' h' => ?_)); simp only [go_sem, Nat.reduceLT, Nat.reduceLeDiff, Nat.reduceEqDiff, reduceIte, Nat.reduceAdd, Nat.reduceMul, Nat.reduceSub, Int.reduceLT, Int.reduceLE, Int.reduceToNat, Int.reduceNeg, reduceCtorEq, Que.cells]; (try ((first | refine ⟨_, hM, ?_⟩ | refine ⟨_, hCh, ?_⟩); (try simp only [go_sem, Nat.reduceLT, Nat.reduceLeDiff, Nat.reduceEqDiff, reduceIte, Nat.reduceAdd, Nat.reduceMul, Nat.reduceSub, Int.reduceLT, Int.reduceLE, Int.reduceToNat, Int.reduceNeg, reduceCtorEq, Que.cells]))); (try simp (disch := omega) only [wrap_id, getD_map_in, Int.toNat_natCast, Que.cells]); (repeat (refine And.intro (by (omega)) ?_)); refine h' _ ?_; clear h' K') | (refine aops_nil (hK _ ?_); clear hK K gs; try simp only [aThen, aBlock]) | (refine AWp.sreg  dd14 rfl (fun gs K hgs hK => ?_); clear hgs) | refine AWp.seq ?_ | (refine AWp.ret ?_; try simp only [aThen, aBlock]) | (refine AWp.skip ?_; try simp only [aThen, aBlock]) | (refine AWp.cond rfl (fun h => ?_) (fun h => ?_) <;> (try simp only [decide_eq_true_eq, decide_eq_false_iff_not, beq_iff_eq, bne_iff_ne, ne_eq, Bool.not_eq_true', Bool.not_eq_false', beq_eq_false_iff_ne, Bool.true_eq_false, Bool.false_eq_true, Int.not_le, Int.not_lt, Bool.and_eq_true, Bool.and_eq_false_iff, Bool.or_eq_true, Bool.or_eq_false_iff, bne_eq_false_iff_eq, reduceCtorEq] at h) <;> (try first | contradiction))))
    simp only [Out, outA, outL, resA, go_sem, Nat.reduceLT, Nat.reduceLeDiff, Nat.reduceEqDiff, reduceIte, Nat.reduceAdd, Nat.reduceMul, Nat.reduceSub, Int.reduceLT, Int.reduceLE, Int.reduceToNat, Int.reduceNeg, reduceCtorEq]
    exact AVle.tup ⟨zeroQ_le, AVle.refl _, trivial⟩
  · rw [h2, h3]
    rw [h1] at hCh
    rw [h4] at hM
    obtain ⟨b1, b2, b3⟩ := hb h1
    clear h1 h2 h3 hb h4
    obtain ⟨rm, l⟩ := q
    obtain ⟨kd, k1, rt, v, t, r1, r2, r3, r4, r5⟩ := m
    simp only at h5 b1 b2 b3
    unfold Que.cells at hCh
    unfold Msg.cells at hM ⊢
    rw [show Que.cells ⟨rm, l⟩ = [.lit (.int .i64 rm), .ro 10 (l.map Msg.cells)] from rfl]
    have ht : ((l.length : Int) + 1).toNat = l.length + 1 := by omega
    by_cases hl0 : l.length = 0
    · obtain rfl : l = [] := List.eq_nil_of_length_eq_zero hl0
      simp only [List.length_nil] at *
      refine acall_of (n := 45) (rs := [.cell 4 47, .tmp 5]) Tryz.func14 rfl (by kernel_rfl) rfl rfl rfl ?_; simp only [argsE, Nat.reduceAdd]
      repeat (any_goals (first | ((first | refine aops_cons (fun K' h' => ?_) | refine aopsZ_cons (fun K' h' => ?_)); simp only [go_sem, Nat.reduceLT, Nat.reduceLeDiff, Nat.reduceEqDiff, reduceIte, Nat.reduceAdd, Nat.reduceMul, Nat.reduceSub, Int.reduceLT, Int.reduceLE, Int.reduceToNat, Int.reduceNeg, reduceCtorEq, Que.cells, List.replicate_succ, List.replicate_zero]; (try ((first | refine ⟨_, hM, ?_⟩ | refine ⟨_, hCh, ?_⟩); (try simp only [go_sem, Nat.reduceLT, Nat.reduceLeDiff, Nat.reduceEqDiff, reduceIte, Nat.reduceAdd, Nat.reduceMul, Nat.reduceSub, Int.reduceLT, Int.reduceLE, Int.reduceToNat, Int.reduceNeg, reduceCtorEq, Que.cells, List.replicate_succ, List.replicate_zero]))); (try simp (disch := omega) only [wrap_id, getD_map_in, Int.toNat_natCast, Que.cells, List.replicate_succ, List.replicate_zero]); (repeat (refine And.intro (by (first | omega | (simp; done))) ?_)); refine h' _ ?_; clear h' K') | (refine aops_nil (hK _ ?_); clear hK K gs; try simp only [aThen, aBlock]) | (refine aopsZ_consZ0 (fun K' h' => ?_); simp only [go_sem, Nat.reduceLT, Nat.reduceLeDiff, Nat.reduceEqDiff, reduceIte, Nat.reduceAdd, Nat.reduceMul, Nat.reduceSub, Int.reduceLT, Int.reduceLE, Int.reduceToNat, Int.reduceNeg, reduceCtorEq, Que.cells, List.replicate_succ, List.replicate_zero]; (try simp (disch := omega) only [wrap_id, getD_map_in, Int.toNat_natCast, Que.cells, List.replicate_succ, List.replicate_zero]); (repeat (refine And.intro (by (omega)) ?_)); refine h' _ ?_; clear h' K') | (refine aopsZ_nil (hK _ ?_); clear hK K gs; try simp only [aThen, aBlock]) | ((refine AWp.sregZ (id := 11) dd14 rfl (fun gs K hgs hK => ?_)); clear hgs) | (refine AWp.sreg  dd14 rfl (fun gs K hgs hK => ?_); clear hgs) | refine AWp.seq ?_ | (refine AWp.ret ?_; try simp only [aThen, aBlock]) | (refine AWp.skip ?_; try simp only [aThen, aBlock]) | (refine AWp.cond rfl (fun h => ?_) (fun h => ?_) <;> (try simp only [decide_eq_true_eq, decide_eq_false_iff_not, beq_iff_eq, bne_iff_ne, ne_eq, Bool.not_eq_true', Bool.not_eq_false', beq_eq_false_iff_ne, Bool.true_eq_false, Bool.false_eq_true, Int.not_le, Int.not_lt, Bool.and_eq_true, Bool.and_eq_false_iff, Bool.or_eq_true, Bool.or_eq_false_iff, bne_eq_false_iff_eq, reduceCtorEq] at h) <;> (try first | contradiction | (exfalso; omega)))))
      simp only [Out, outA, outL, resA, go_sem, Nat.reduceLT, Nat.reduceLeDiff, Nat.reduceEqDiff, reduceIte, Nat.reduceAdd, Nat.reduceMul, Nat.reduceSub, Int.reduceLT, Int.reduceLE, Int.reduceToNat, Int.reduceNeg, reduceCtorEq]
      exact AVle.of_eq (by simp [putQ, Que.cells, Msg.cells, splice])
    · have hl1 : 0 < l.length := by omega
      obtain ⟨Z, hZ⟩ : ∃ Z : List AV, Z = [.lit (.int .u8 0), .lit (.int .i64 0), .lit (.int .i64 0), .lit (.int .i64 0), .lit (.int .i64 0), .lit (.int .i64 0), .lit (.int .i64 0), .lit (.int .i64 0), .lit (.int .i64 0), .lit (.int .i64 0)] := ⟨_, rfl⟩
      have e1 := laid_len (l.map Msg.cells) Z
      have e2 := laid_get (l.map Msg.cells) Z
      have e3 := laid_set (l.map Msg.cells) Z [.lit (.int .u8 kd), .lit (.int .i64 k1), .lit (.int .i64 rt), .lit (.int .i64 v), .lit (.int .i64 t), .lit (.int .i64 r1), .lit (.int .i64 r2), .lit (.int .i64 r3), .lit (.int .i64 r4), .lit (.int .i64 r5)]
      rw [List.length_map] at e1 e2 e3
      subst hZ
      refine acall_of (n := 45) (rs := [.cell 4 47, .tmp 5]) Tryz.func14 rfl (by kernel_rfl) rfl rfl rfl ?_; simp only [argsE, Nat.reduceAdd]
      repeat (any_goals (first | ((first | refine aops_cons (fun K' h' => ?_) | refine aopsZ_cons (fun K' h' => ?_)); simp only [go_sem, Nat.reduceLT, Nat.reduceLeDiff, Nat.reduceEqDiff, reduceIte, Nat.reduceAdd, Nat.reduceMul, Nat.reduceSub, Int.reduceLT, Int.reduceLE, Int.reduceToNat, Int.reduceNeg, reduceCtorEq, Que.cells, ht, e1, e2, e3]; (try ((first | refine ⟨_, hM, ?_⟩ | refine ⟨_, hCh, ?_⟩); (try simp only [go_sem, Nat.reduceLT, Nat.reduceLeDiff, Nat.reduceEqDiff, reduceIte, Nat.reduceAdd, Nat.reduceMul, Nat.reduceSub, Int.reduceLT, Int.reduceLE, Int.reduceToNat, Int.reduceNeg, reduceCtorEq, Que.cells, ht, e1, e2, e3]))); (try simp (disch := omega) only [wrap_id, getD_map_in, Int.toNat_natCast, Que.cells, ht, e1, e2, e3]); (repeat (refine And.intro (by (omega)) ?_)); refine h' _ ?_; clear h' K') | (refine aops_nil (hK _ ?_); clear hK K gs; try simp only [aThen, aBlock]) | (refine aopsZ_consZ (fun K' h' => ?_); simp only [go_sem, Nat.reduceLT, Nat.reduceLeDiff, Nat.reduceEqDiff, reduceIte, Nat.reduceAdd, Nat.reduceMul, Nat.reduceSub, Int.reduceLT, Int.reduceLE, Int.reduceToNat, Int.reduceNeg, reduceCtorEq, Que.cells, ht, e1, e2, e3]; (try simp (disch := omega) only [wrap_id, getD_map_in, Int.toNat_natCast, Que.cells, ht, e1, e2, e3]); (repeat (refine And.intro (by (first | omega | (simp; done))) ?_)); refine h' _ ?_; clear h' K') | (refine aopsZ_nil (hK _ ?_); clear hK K gs; try simp only [aThen, aBlock]) | ((refine AWp.sregZ (id := 11) dd14 rfl (fun gs K hgs hK => ?_)); clear hgs) | (refine AWp.sreg  dd14 rfl (fun gs K hgs hK => ?_); clear hgs) | refine AWp.seq ?_ | (refine AWp.ret ?_; try simp only [aThen, aBlock]) | (refine AWp.skip ?_; try simp only [aThen, aBlock]) | (refine AWp.cond rfl (fun h => ?_) (fun h => ?_) <;> (try simp only [decide_eq_true_eq, decide_eq_false_iff_not, beq_iff_eq, bne_iff_ne, ne_eq, Bool.not_eq_true', Bool.not_eq_false', beq_eq_false_iff_ne, Bool.true_eq_false, Bool.false_eq_true, Int.not_le, Int.not_lt, Bool.and_eq_true, Bool.and_eq_false_iff, Bool.or_eq_true, Bool.or_eq_false_iff, bne_eq_false_iff_eq, reduceCtorEq] at h) <;> (try first | contradiction | (exfalso; omega)))))
      simp only [Out, outA, outL, resA, go_sem, Nat.reduceLT, Nat.reduceLeDiff, Nat.reduceEqDiff, reduceIte, Nat.reduceAdd, Nat.reduceMul, Nat.reduceSub, Int.reduceLT, Int.reduceLE, Int.reduceToNat, Int.reduceNeg, reduceCtorEq]
      rw [List.take_of_length_le (by simp)]
      exact AVle.of_eq (by simp [putQ, Que.cells, Msg.cells])
end Go.Proofs.YtjeehkdepoiegaaGreat
