/-
  The law SourceSteps.
-/
import Derived.Test.YtbciabkniljjgaaStpX
import Derived.Test.YtbciabkniljjgaaTskS
namespace Go.Proofs.Ytbciabkniljjgaa
open Go.AL Go.RowKit
set_option linter.unusedSimpArgs false
set_option linter.unusedVariables false
set_option maxRecDepth 10000
set_option maxHeartbeats 8000000

theorem great_few2 {t : Tsk} (h : greatT t = false) : t.few := by
  unfold greatT gN at h
  simp only [Bool.or_eq_false_iff, decide_eq_false_iff_not] at h
  obtain ⟨h1, h2, h3, h4, h5, h6⟩ := h
  exact ⟨by omega, by omega, by omega, by omega, by omega, by omega⟩
theorem stepT_ok {t : Tsk} (hok : t.ok) : (stepT t).ok := by
  obtain ⟨h1, h2, h3, h4, h5, h6⟩ := hok
  unfold maxLen at h1 h2 h3 h4 h5 h6
  unfold stepT
  split
  · exact ⟨by simp [maxLen], h2, h3, by simp [maxLen]; omega, h5, h6⟩
  · exact ⟨by simp [zeroT], by simp [zeroT], by simp [zeroT], by simp [zeroT], by simp [zeroT], by simp [zeroT]⟩
theorem sentR_len {t : Tsk} (hf : t.few) : (sentR t).length ≤ maxLen := by
  obtain ⟨h1, h2, h3, h4, h5, h6⟩ := hf
  unfold sentR sentL maxLen
  split
  · simp only [List.length_append, List.length_map]; omega
  · simp

def dd10 : Nat → List (List Nat)
  | 0 => [[], [0], [2]]
  | 1 => [[], [], [12]]
  | 2 => [[1, 13], []]
  | 3 => [[13], [], [14], [], [15]]
  | 4 => [[], [], [17], [18], [], [16], [], [19], [20]]
  | 5 => [[], [], [22], [23], [], [21], [], [24], [25]]
  | 6 => [[], [], [27], [28], [], [26], [29], [30]]
  | 7 => [[], [], [32], [33], [], [31], [34], [35]]
  | 8 => [[], [4], [6], [36, 37], [38], [5], [7], [40, 41], [39, 42], [43], [8], [10], [45, 46], [44, 47], [48], [9], [11], [50, 51], [49, 52], [53], [1], [3], [55, 56], [54, 57], [58]]
  | _ => []
theorem ssteps_law (t : Tsk) (hok : t.ok) : ACall Try.prog 10 [.agg t.cells] (.lit (.bool true)) := by
  have hGr := greatT_c t hok
  by_cases hg : greatT t = true
  · rw [hg] at hGr
    clear hg
    obtain ⟨kd, nn, tn, pe, mk, st, ev, rw_, lt⟩ := t
    unfold Tsk.cells sndsV mksV entsV evsV rowsV rcdsV at hGr ⊢
    simp only at hGr ⊢
    refine acall_of (n := 59) (rs := [.tmp 2]) Try.func10 rfl (by kernel_rfl) rfl rfl rfl ?_; simp only [argsE, Nat.reduceAdd]
    repeat (any_goals (first | (refine aops_cons (fun K' h' => ?_); simp only [go_sem, Nat.reduceLT, Nat.reduceLeDiff, Nat.reduceEqDiff, reduceIte, Nat.reduceAdd, Nat.reduceMul, Nat.reduceSub, Int.reduceLT, Int.reduceLE, Int.reduceToNat, Int.reduceNeg, reduceCtorEq, hgs, aopG, beq_self_eq_true, Option.toArray_none, Option.toArray_some, List.toList_toArray]; (try simp (disch := omega) only [wrap_id, getD_map_in, Int.toNat_natCast, aopG, beq_self_eq_true, Option.toArray_none, Option.toArray_some, List.toList_toArray]); (repeat (refine And.intro (by (first | omega | (simp; done) | (simp; omega) | assumption)) ?_)); refine h' _ ?_; clear h' K') | (refine aops_nil (hK _ ?_); clear hK K hgs gs; try simp only [aThen, aBlock]) | ((first | refine aops_cons (fun K' h' => ?_) | refine aopsD_cons (fun K' h' => ?_)); simp only [go_sem, Nat.reduceLT, Nat.reduceLeDiff, Nat.reduceEqDiff, reduceIte, Nat.reduceAdd, Nat.reduceMul, Nat.reduceSub, Int.reduceLT, Int.reduceLE, Int.reduceToNat, Int.reduceNeg, reduceCtorEq, hgs, aopG, beq_self_eq_true, Option.toArray_none, Option.toArray_some, List.toList_toArray]; (first | refine ⟨_, hGr, ?_⟩ | refine ⟨_, fun _ => hGr, ?_⟩ | refine ⟨_, hTw, ?_⟩ | refine ⟨_, fun _ => hTw, ?_⟩ | refine ⟨_, hP1, ?_⟩ | refine ⟨_, fun _ => hP1, ?_⟩ | refine ⟨_, hP2, ?_⟩ | refine ⟨_, fun _ => hP2, ?_⟩ | refine ⟨_, hN1, ?_⟩ | refine ⟨_, fun _ => hN1, ?_⟩ | refine ⟨_, hN2, ?_⟩ | refine ⟨_, fun _ => hN2, ?_⟩ | refine ⟨_, hL, ?_⟩ | refine ⟨_, fun _ => hL, ?_⟩ | refine ⟨_, hS1, ?_⟩ | refine ⟨_, fun _ => hS1, ?_⟩ | refine ⟨_, hS2, ?_⟩ | refine ⟨_, fun _ => hS2, ?_⟩); (try simp only [go_sem, Nat.reduceLT, Nat.reduceLeDiff, Nat.reduceEqDiff, reduceIte, Nat.reduceAdd, Nat.reduceMul, Nat.reduceSub, Int.reduceLT, Int.reduceLE, Int.reduceToNat, Int.reduceNeg, reduceCtorEq, hgs, aopG, beq_self_eq_true, Option.toArray_none, Option.toArray_some, List.toList_toArray]); (repeat (refine And.intro (by (first | omega | (simp; done) | (simp; omega) | assumption)) ?_)); refine h' _ ?_; clear h' K') | (refine AWp.sreg (id := 8) dd10 rfl (fun gs K hgs hK => ?_); replace hgs : gs 3 = some 39 ∧ gs 8 = some 44 ∧ gs 13 = some 49 ∧ gs 18 = some 54 := ⟨hgs 3, hgs 8, hgs 13, hgs 18⟩) | (refine AWp.reg (id := 8) dd10 rfl (fun gs K hgs hK => ?_); replace hgs : gs 3 = some 39 ∧ gs 8 = some 44 ∧ gs 13 = some 49 ∧ gs 18 = some 54 := ⟨hgs 3, hgs 8, hgs 13, hgs 18⟩) | (refine AWp.sreg  dd10 rfl (fun gs K hgs hK => ?_); replace hgs : Nat.succ 0 = 1 := rfl) | refine AWp.seq ?_ | refine ARounds.step ?_ | refine AWp.block ?_ | refine AWp.label ?_ | (refine AWp.ret ?_; try simp only [aThen, aBlock]) | (refine AWp.skip ?_; try simp only [aThen, aBlock]) | (refine AWp.exit ?_; try simp only [aThen, aBlock, Nat.reduceEqDiff, reduceIte]) | (refine AWp.reg  dd10 rfl (fun gs K hgs hK => ?_); replace hgs : Nat.succ 0 = 1 := rfl) | (refine aops_consG (fun K' h' => ?_); simp only [go_sem, Nat.reduceLT, Nat.reduceLeDiff, Nat.reduceEqDiff, reduceIte, Nat.reduceAdd, Nat.reduceMul, Nat.reduceSub, Int.reduceLT, Int.reduceLE, Int.reduceToNat, Int.reduceNeg, reduceCtorEq, hgs, aopG, beq_self_eq_true, Option.toArray_none, Option.toArray_some, List.toList_toArray]; (try simp (disch := omega) only [wrap_id, getD_map_in, Int.toNat_natCast, aopG, beq_self_eq_true, Option.toArray_none, Option.toArray_some, List.toList_toArray]); (repeat (refine And.intro (by (first | omega | (simp; done) | (simp; omega) | assumption)) ?_)); refine h' _ ?_; clear h' K') | (refine AWp.cond rfl (fun h => ?_) (fun h => ?_) <;> (try simp only [decide_eq_true_eq, decide_eq_false_iff_not, beq_iff_eq, bne_iff_ne, ne_eq, Bool.not_eq_true', Bool.not_eq_false', beq_eq_false_iff_ne, Bool.true_eq_false, Bool.false_eq_true, Int.not_le, Int.not_lt, Bool.and_eq_true, Bool.and_eq_false_iff, Bool.or_eq_true, Bool.or_eq_false_iff, bne_eq_false_iff_eq, reduceCtorEq] at h) <;> (try first | contradiction | (exfalso; omega) | (exfalso; revert h; simp; done) | (exfalso; revert h; simp; omega)))))
    all_goals simp only [Out, outA, outL, resA, go_sem, Nat.reduceLT, Nat.reduceLeDiff, Nat.reduceEqDiff, reduceIte, Nat.reduceAdd, Nat.reduceMul, Nat.reduceSub, Int.reduceLT, Int.reduceLE, Int.reduceToNat, Int.reduceNeg, reduceCtorEq]
    all_goals exact AVle.refl _
  · rw [Bool.not_eq_true] at hg
    have hf := great_few2 hg
    rw [hg] at hGr
    have hTw := (fun (f : t.few) => match f with | ⟨f1, f2, f3, f4, f5, f6⟩ => twinT_c t f1 f2 f3 f4 f5 f6) hf
    have hP1 := step_c t hok
    have hP2 := step28_c t hok
    have hN1 := sent_c t hok
    have hN2 := sent28_c t hok
    have hL := sameList_c (sentR t) (sentR t) (sentR_len hf) (sentR_len hf)
    have hS1 := sameT_c (stepT t) (stepT t) (stepT_ok hok) (stepT_ok hok)
    have hS2 := sameT_c t t hok hok
    rw [decide_eq_true rfl] at hS1 hS2 hL
    generalize stepT t = tt at hP1 hP2 hS1
    generalize stepE t = te at hP1 hP2
    generalize askE t = ae at hN1 hN2
    generalize sentR t = sl at hN1 hN2 hL
    clear hg hf hok
    obtain ⟨kd, nn, tn1, pe, mk, st, ev, rw_, lt⟩ := t
    obtain ⟨kd3, nn3, tn3, pe3, mk3, st3, ev3, rw_3, lt3⟩ := tt
    unfold Tsk.cells sndsV mksV entsV evsV rowsV rcdsV at hGr hTw hP1 hP2 hN1 hN2 hS1 hS2 ⊢
    simp only at hGr hTw hP1 hP2 hN1 hN2 hS1 hS2 ⊢
    refine acall_of (n := 59) (rs := [.tmp 2]) Try.func10 rfl (by kernel_rfl) rfl rfl rfl ?_; simp only [argsE, Nat.reduceAdd]
    repeat (any_goals (first | (refine aops_cons (fun K' h' => ?_); simp only [go_sem, Nat.reduceLT, Nat.reduceLeDiff, Nat.reduceEqDiff, reduceIte, Nat.reduceAdd, Nat.reduceMul, Nat.reduceSub, Int.reduceLT, Int.reduceLE, Int.reduceToNat, Int.reduceNeg, reduceCtorEq, hgs, aopG, beq_self_eq_true, Option.toArray_none, Option.toArray_some, List.toList_toArray]; (try simp (disch := omega) only [wrap_id, getD_map_in, Int.toNat_natCast, aopG, beq_self_eq_true, Option.toArray_none, Option.toArray_some, List.toList_toArray]); (repeat (refine And.intro (by (first | omega | (simp; done) | (simp; omega) | assumption)) ?_)); refine h' _ ?_; clear h' K') | (refine aops_nil (hK _ ?_); clear hK K hgs gs; try simp only [aThen, aBlock]) | ((first | refine aops_cons (fun K' h' => ?_) | refine aopsD_cons (fun K' h' => ?_)); simp only [go_sem, Nat.reduceLT, Nat.reduceLeDiff, Nat.reduceEqDiff, reduceIte, Nat.reduceAdd, Nat.reduceMul, Nat.reduceSub, Int.reduceLT, Int.reduceLE, Int.reduceToNat, Int.reduceNeg, reduceCtorEq, hgs, aopG, beq_self_eq_true, Option.toArray_none, Option.toArray_some, List.toList_toArray]; (first | refine ⟨_, hGr, ?_⟩ | refine ⟨_, fun _ => hGr, ?_⟩ | refine ⟨_, hTw, ?_⟩ | refine ⟨_, fun _ => hTw, ?_⟩ | refine ⟨_, hP1, ?_⟩ | refine ⟨_, fun _ => hP1, ?_⟩ | refine ⟨_, hP2, ?_⟩ | refine ⟨_, fun _ => hP2, ?_⟩ | refine ⟨_, hN1, ?_⟩ | refine ⟨_, fun _ => hN1, ?_⟩ | refine ⟨_, hN2, ?_⟩ | refine ⟨_, fun _ => hN2, ?_⟩ | refine ⟨_, hL, ?_⟩ | refine ⟨_, fun _ => hL, ?_⟩ | refine ⟨_, hS1, ?_⟩ | refine ⟨_, fun _ => hS1, ?_⟩ | refine ⟨_, hS2, ?_⟩ | refine ⟨_, fun _ => hS2, ?_⟩); (try simp only [go_sem, Nat.reduceLT, Nat.reduceLeDiff, Nat.reduceEqDiff, reduceIte, Nat.reduceAdd, Nat.reduceMul, Nat.reduceSub, Int.reduceLT, Int.reduceLE, Int.reduceToNat, Int.reduceNeg, reduceCtorEq, hgs, aopG, beq_self_eq_true, Option.toArray_none, Option.toArray_some, List.toList_toArray]); (repeat (refine And.intro (by (first | omega | (simp; done) | (simp; omega) | assumption)) ?_)); refine h' _ ?_; clear h' K') | (refine AWp.sreg (id := 8) dd10 rfl (fun gs K hgs hK => ?_); replace hgs : gs 3 = some 39 ∧ gs 8 = some 44 ∧ gs 13 = some 49 ∧ gs 18 = some 54 := ⟨hgs 3, hgs 8, hgs 13, hgs 18⟩) | (refine AWp.reg (id := 8) dd10 rfl (fun gs K hgs hK => ?_); replace hgs : gs 3 = some 39 ∧ gs 8 = some 44 ∧ gs 13 = some 49 ∧ gs 18 = some 54 := ⟨hgs 3, hgs 8, hgs 13, hgs 18⟩) | (refine AWp.sreg  dd10 rfl (fun gs K hgs hK => ?_); replace hgs : Nat.succ 0 = 1 := rfl) | refine AWp.seq ?_ | refine ARounds.step ?_ | refine AWp.block ?_ | refine AWp.label ?_ | (refine AWp.ret ?_; try simp only [aThen, aBlock]) | (refine AWp.skip ?_; try simp only [aThen, aBlock]) | (refine AWp.exit ?_; try simp only [aThen, aBlock, Nat.reduceEqDiff, reduceIte]) | (refine AWp.reg  dd10 rfl (fun gs K hgs hK => ?_); replace hgs : Nat.succ 0 = 1 := rfl) | (refine aops_consG (fun K' h' => ?_); simp only [go_sem, Nat.reduceLT, Nat.reduceLeDiff, Nat.reduceEqDiff, reduceIte, Nat.reduceAdd, Nat.reduceMul, Nat.reduceSub, Int.reduceLT, Int.reduceLE, Int.reduceToNat, Int.reduceNeg, reduceCtorEq, hgs, aopG, beq_self_eq_true, Option.toArray_none, Option.toArray_some, List.toList_toArray]; (try simp (disch := omega) only [wrap_id, getD_map_in, Int.toNat_natCast, aopG, beq_self_eq_true, Option.toArray_none, Option.toArray_some, List.toList_toArray]); (repeat (refine And.intro (by (first | omega | (simp; done) | (simp; omega) | assumption)) ?_)); refine h' _ ?_; clear h' K') | (refine AWp.cond rfl (fun h => ?_) (fun h => ?_) <;> (try simp only [decide_eq_true_eq, decide_eq_false_iff_not, beq_iff_eq, bne_iff_ne, ne_eq, Bool.not_eq_true', Bool.not_eq_false', beq_eq_false_iff_ne, Bool.true_eq_false, Bool.false_eq_true, Int.not_le, Int.not_lt, Bool.and_eq_true, Bool.and_eq_false_iff, Bool.or_eq_true, Bool.or_eq_false_iff, bne_eq_false_iff_eq, reduceCtorEq] at h) <;> (try first | contradiction | (exfalso; omega) | (exfalso; revert h; simp; done) | (exfalso; revert h; simp; omega)))))
    all_goals simp only [Out, outA, outL, resA, go_sem, Nat.reduceLT, Nat.reduceLeDiff, Nat.reduceEqDiff, reduceIte, Nat.reduceAdd, Nat.reduceMul, Nat.reduceSub, Int.reduceLT, Int.reduceLE, Int.reduceToNat, Int.reduceNeg, reduceCtorEq]
    all_goals exact AVle.of_eq (by simp)
theorem ssteps_all : ∀ xs, ShpAs Try.prog 8 Try.f10.params.toList xs → ACall Try.prog 10 xs (.lit (.bool true)) := by
  intro xs h
  have hp : Try.f10.params.toList = [31] := by kernel_rfl
  rw [hp] at h
  obtain ⟨a, r, rfl, ha, h⟩ := h
  obtain rfl : r = [] := h
  obtain ⟨t, rfl, hok⟩ := tsk_shape ha
  exact ssteps_law t hok
end Go.Proofs.Ytbciabkniljjgaa
