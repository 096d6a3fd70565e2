/-
  The walks over events: messages of events, and the reference's check of events.
-/
import Derived.Test.YtjeehkdepoiegaaGreatFacts
import Derived.Test.YtjeehkdepoiegaaGreatPlnM
namespace Go.Proofs.YtjeehkdepoiegaaGreat
open Go.AL Go.RowKit
set_option linter.unusedSimpArgs false
set_option linter.unusedVariables false
set_option maxRecDepth 4000
set_option maxHeartbeats 4000000
def dd43 : Nat → List (List Nat)
  | 0 => [[], [2]]
  | 1 => [[], [], [3], [4], [0], [6], [5, 7], [8]]
  | _ => []
theorem isTime_c (t : Int) : ACall Tryz.prog 43 [.lit (.int .i64 t)] (.lit (.bool (isTimeB t))) := by
  unfold isTimeB
  refine acall_of (n := 9) (rs := [.tmp 2]) Tryz.func43 rfl (by kernel_rfl) rfl rfl rfl ?_; simp only [argsE, Nat.reduceAdd]
  repeat (any_goals (first | (refine aops_cons (fun K' h' => ?_); simp only [go_sem, Nat.reduceLT, Nat.reduceLeDiff, Nat.reduceEqDiff, reduceIte, Nat.reduceAdd, Nat.reduceMul, Nat.reduceSub, Int.reduceLT, Int.reduceLE, Int.reduceToNat, Int.reduceNeg, reduceCtorEq, hgs, Ev.cells]; (try simp (disch := omega) only [wrap_id, getD_map_in, Int.toNat_natCast, Ev.cells]); (repeat (refine And.intro (by (omega)) ?_)); refine h' _ ?_; clear h' K') | (refine aops_nil (hK _ ?_); clear hK K hgs gs; try simp only [aThen, aBlock]) | ((refine AWp.sreg (id := 1) dd43 rfl (fun gs K hgs hK => ?_)); replace hgs : gs 2 = some 5 := hgs 2) | (refine AWp.sreg  dd43 rfl (fun gs K hgs hK => ?_); replace hgs : Nat.succ 0 = 1 := rfl) | (refine AWp.ret ?_; try simp only [aThen, aBlock])))
  simp only [Out, outA, outL, resA, go_sem, Nat.reduceLT, Nat.reduceLeDiff, Nat.reduceEqDiff, reduceIte, Nat.reduceAdd, Nat.reduceMul, Nat.reduceSub, Int.reduceLT, Int.reduceLE, Int.reduceToNat, Int.reduceNeg, reduceCtorEq]
  exact AVle.of_eq (by simp)
def dd42 : Nat → List (List Nat)
  | 0 => [[], [2]]
  | 1 => [[], [], [3], [4], [0], [6], [5, 7], [8]]
  | _ => []
theorem isMark_c (t : Int) : ACall Tryz.prog 42 [.lit (.int .i64 t)] (.lit (.bool (markB t))) := by
  unfold markB
  refine acall_of (n := 9) (rs := [.tmp 2]) Tryz.func42 rfl (by kernel_rfl) rfl rfl rfl ?_; simp only [argsE, Nat.reduceAdd]
  repeat (any_goals (first | (refine aops_cons (fun K' h' => ?_); simp only [go_sem, Nat.reduceLT, Nat.reduceLeDiff, Nat.reduceEqDiff, reduceIte, Nat.reduceAdd, Nat.reduceMul, Nat.reduceSub, Int.reduceLT, Int.reduceLE, Int.reduceToNat, Int.reduceNeg, reduceCtorEq, hgs, Ev.cells]; (try ((refine ⟨_, isTime_c _, ?_⟩); (try simp only [go_sem, Nat.reduceLT, Nat.reduceLeDiff, Nat.reduceEqDiff, reduceIte, Nat.reduceAdd, Nat.reduceMul, Nat.reduceSub, Int.reduceLT, Int.reduceLE, Int.reduceToNat, Int.reduceNeg, reduceCtorEq, hgs, Ev.cells]))); (try simp (disch := omega) only [wrap_id, getD_map_in, Int.toNat_natCast, Ev.cells]); (repeat (refine And.intro (by (omega)) ?_)); refine h' _ ?_; clear h' K') | (refine aops_nil (hK _ ?_); clear hK K hgs gs; try simp only [aThen, aBlock]) | ((refine AWp.sreg (id := 1) dd42 rfl (fun gs K hgs hK => ?_)); replace hgs : gs 2 = some 5 := hgs 2) | (refine AWp.sreg  dd42 rfl (fun gs K hgs hK => ?_); replace hgs : Nat.succ 0 = 1 := rfl) | (refine AWp.ret ?_; try simp only [aThen, aBlock])))
  simp only [Out, outA, outL, resA, go_sem, Nat.reduceLT, Nat.reduceLeDiff, Nat.reduceEqDiff, reduceIte, Nat.reduceAdd, Nat.reduceMul, Nat.reduceSub, Int.reduceLT, Int.reduceLE, Int.reduceToNat, Int.reduceNeg, reduceCtorEq]
  exact AVle.of_eq (by simp)
def dd22 : Nat → List (List Nat)
  | 0 => [[], [0], [], [3]]
  | 1 => [[], [], [4]]
  | 2 => [[5], [], [6], [7], [8], [9], [], [11], [], [12, 13], [10, 14]]
  | 3 => [[1, 15], [], [16], []]
  | 4 => [[15], [1], [17], [18], [19], []]
  | 5 => [[5], [], [20], [21], [22], [], [24], [25], [26], [27], [23, 28]]
  | 6 => [[1, 29], [], [30], []]
  | 7 => [[29], [1], [31], [32], [33], []]
  | _ => []
theorem of_c (e : Ev) : ACall Tryz.prog 22 [.agg e.cells] (.tup [.agg (msgE e).cells, .lit (.int .i64 (errE e))]) := by
  have hm : ∀ b, okE e = b → (errE e = if b = true then 0 else 8) := fun b h => by unfold errE; rw [h]
  have hr : okE e = (if e.mark = true then markB e.time && (e.key == 0 && (e.rt == 0 && e.value == 0)) else e.time == 0 && isTimeB e.rt) := rfl
  obtain ⟨m, t, k, rt, v⟩ := e
  unfold Ev.cells
  simp only at hr
  generalize ho : okE ⟨m, t, k, rt, v⟩ = ok at hr
  have he := hm _ ho
  clear hm
  simp only
  refine acall_of (n := 34) (rs := [.cell 2 62, .tmp 3]) Tryz.func22 rfl (by kernel_rfl) rfl rfl rfl ?_; simp only [argsE, Nat.reduceAdd]
  repeat (any_goals (first | (refine aops_cons (fun K' h' => ?_); simp only [go_sem, Nat.reduceLT, Nat.reduceLeDiff, Nat.reduceEqDiff, reduceIte, Nat.reduceAdd, Nat.reduceMul, Nat.reduceSub, Int.reduceLT, Int.reduceLE, Int.reduceToNat, Int.reduceNeg, reduceCtorEq, hgs, Ev.cells]; (try ((first | refine ⟨_, fun _ => isTime_c _, ?_⟩ | refine ⟨_, isMark_c _, ?_⟩); (try simp only [go_sem, Nat.reduceLT, Nat.reduceLeDiff, Nat.reduceEqDiff, reduceIte, Nat.reduceAdd, Nat.reduceMul, Nat.reduceSub, Int.reduceLT, Int.reduceLE, Int.reduceToNat, Int.reduceNeg, reduceCtorEq, hgs, Ev.cells]))); (try simp (disch := omega) only [wrap_id, getD_map_in, Int.toNat_natCast, Ev.cells]); (repeat (refine And.intro (by (omega)) ?_)); refine h' _ ?_; clear h' K') | (refine aops_nil (hK _ ?_); clear hK K hgs gs; try simp only [aThen, aBlock]) | ((refine AWp.sreg (id := 2) dd22 rfl (fun gs K hgs hK => ?_)); replace hgs : gs 4 = some 10 := hgs 4) | ((refine AWp.sreg (id := 5) dd22 rfl (fun gs K hgs hK => ?_)); replace hgs : gs 3 = some 23 := hgs 3) | (refine AWp.sreg  dd22 rfl (fun gs K hgs hK => ?_); replace hgs : Nat.succ 0 = 1 := rfl) | refine AWp.seq ?_ | (refine AWp.ret ?_; try simp only [aThen, aBlock]) | (refine AWp.skip ?_; try simp only [aThen, aBlock]) | (refine AWp.cond rfl (fun h => ?_) (fun h => ?_) <;> (try simp only [decide_eq_true_eq, decide_eq_false_iff_not, beq_iff_eq, bne_iff_ne, ne_eq, Bool.not_eq_true', Bool.not_eq_false', beq_eq_false_iff_ne, Bool.true_eq_false, Bool.false_eq_true, Int.not_le, Int.not_lt, Bool.and_eq_true, Bool.and_eq_false_iff, Bool.or_eq_true, Bool.or_eq_false_iff, bne_eq_false_iff_eq, reduceCtorEq] at h))))
  all_goals simp only [Out, outA, outL, resA, go_sem, Nat.reduceLT, Nat.reduceLeDiff, Nat.reduceEqDiff, reduceIte, Nat.reduceAdd, Nat.reduceMul, Nat.reduceSub, Int.reduceLT, Int.reduceLE, Int.reduceToNat, Int.reduceNeg, reduceCtorEq]
  all_goals
    refine AVle.of_eq ?_
    have key : ok = true ∨ ok = false := by cases ok <;> simp
    rw [he]
    unfold msgE Msg.cells
    rw [ho]
    rcases key with key | key <;> rw [key] at hr ⊢ <;> clear he ho <;> first
      | (exfalso; grind)
      | (simp_all; done)
def dd17 : Nat → List (List Nat)
  | 0 => [[], [0], [2]]
  | 1 => [[], [1], [6], [7], [], [5], [], [3, 8], [9]]
  | 2 => [[], [4], [10]]
  | _ => []
theorem event_c (e : Ev) : ACall Tryz.prog 17 [.agg e.cells] (.lit (.int .i64 (errE e))) := by
  have hc := of_c e
  unfold Ev.cells Msg.cells at hc
  unfold Ev.cells
  refine acall_of (n := 11) (rs := [.tmp 2]) Tryz.func17 rfl (by kernel_rfl) rfl rfl rfl ?_; simp only [argsE, Nat.reduceAdd]
  repeat (any_goals (first | (refine aops_cons (fun K' h' => ?_); simp only [go_sem, Nat.reduceLT, Nat.reduceLeDiff, Nat.reduceEqDiff, reduceIte, Nat.reduceAdd, Nat.reduceMul, Nat.reduceSub, Int.reduceLT, Int.reduceLE, Int.reduceToNat, Int.reduceNeg, reduceCtorEq, Ev.cells]; (try ((refine ⟨_, hc, ?_⟩); (try simp only [go_sem, Nat.reduceLT, Nat.reduceLeDiff, Nat.reduceEqDiff, reduceIte, Nat.reduceAdd, Nat.reduceMul, Nat.reduceSub, Int.reduceLT, Int.reduceLE, Int.reduceToNat, Int.reduceNeg, reduceCtorEq, Ev.cells]))); (try simp (disch := omega) only [wrap_id, getD_map_in, Int.toNat_natCast, Ev.cells]); (repeat (refine And.intro (by (omega)) ?_)); refine h' _ ?_; clear h' K') | (refine aops_nil (hK _ ?_); clear hK K gs; try simp only [aThen, aBlock]) | (refine AWp.sreg  dd17 rfl (fun gs K hgs hK => ?_); clear hgs) | (refine AWp.ret ?_; try simp only [aThen, aBlock])))
  simp only [Out, outA, outL, resA, go_sem, Nat.reduceLT, Nat.reduceLeDiff, Nat.reduceEqDiff, reduceIte, Nat.reduceAdd, Nat.reduceMul, Nat.reduceSub, Int.reduceLT, Int.reduceLE, Int.reduceToNat, Int.reduceNeg, reduceCtorEq]
  exact AVle.refl _
end Go.Proofs.YtjeehkdepoiegaaGreat
