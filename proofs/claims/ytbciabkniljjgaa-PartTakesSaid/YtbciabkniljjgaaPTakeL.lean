/-
  The law PartTakes.
-/
import Derived.Test.YtbciabkniljjgaaPrtW2
import Derived.Test.YtbciabkniljjgaaPrtW3
import Derived.Test.YtbciabkniljjgaaTskS
namespace Go.Proofs.Ytbciabkniljjgaa
open Go.AL Go.RowKit
set_option linter.unusedSimpArgs false
set_option linter.unusedVariables false
set_option maxRecDepth 10000
set_option maxHeartbeats 8000000

theorem great_few {t : Tsk} (hok : t.ok) (h : greatT t = false) : t.few := by
  unfold greatT gN at h
  simp only [Bool.or_eq_false_iff, decide_eq_false_iff_not] at h
  obtain ⟨h1, h2, h3, h4, h5, h6⟩ := h
  exact ⟨by omega, by omega, by omega, by omega, by omega, by omega⟩
theorem takeT_ok {t : Tsk} {m : Msg} {p : Int} (hok : t.ok) : (takeT t m p).ok := by
  obtain ⟨h1, h2, h3, h4, h5, h6⟩ := hok
  unfold maxLen at h1 h2 h3 h4 h5 h6
  unfold takeT
  split
  · refine ⟨?_, h2, h3, h4, h5, h6⟩
    unfold outsL maxLen
    simp only
    repeat' split
    all_goals simp
  · exact ⟨by simp [zeroT], by simp [zeroT], by simp [zeroT], by simp [zeroT], by simp [zeroT], by simp [zeroT]⟩
theorem newT_ok (n : Int) : (newT n).ok := by
  unfold newT
  repeat' split
  all_goals exact ⟨by simp [zeroT], by simp [zeroT], by simp [zeroT], by simp [zeroT], by simp [zeroT], by simp [zeroT]⟩

def dd7 : Nat → List (List Nat)
  | 0 => [[], [2], [3], [10]]
  | 1 => [[], [], [24]]
  | 2 => [[0, 1, 4, 7, 8, 25], []]
  | 3 => [[25], [], [26], [], [27]]
  | 4 => [[], [], [], [29, 30], [31], [], [28], [32], [33]]
  | 5 => [[], [0], [], [35, 36], [37], [], [34], [38], [39]]
  | 6 => [[], [], [41], [42], [], [40], [], [43], [44]]
  | 7 => [[], [1], [46], [47], [], [45], [], [48], [49]]
  | 8 => [[], [], [], [], [51, 52, 53], [54], [], [50], [], [55], [56]]
  | 9 => [[], [], [8], [4], [58, 59, 60], [61], [], [57], [], [62], [63]]
  | 10 => [[], [12], [14], [64, 65], [66], [13], [15], [68, 69], [67, 70], [71], [16], [18], [73, 74], [72, 75], [76], [17], [19], [78, 79], [77, 80], [81], [20], [22], [83, 84], [82, 85], [86], [21], [23], [88, 89], [87, 90], [91], [7], [11], [93, 94], [92, 95], [96]]
  | _ => []
theorem ptakes_law (k n : Int) (t : Tsk) (m : Msg) (p : Int) (hok : t.ok) : ACall Try.prog 7 [.lit (.int .i64 k), .lit (.int .i64 n), .agg t.cells, .agg m.cells, .lit (.int .i64 p)] (.lit (.bool true)) := by
  have hGr := greatT_c t hok
  by_cases hg : greatT t = true
  · rw [hg] at hGr
    clear hg
    obtain ⟨kd, nn, tn, pe, mk, st, ev, rw_, lt⟩ := t
    obtain ⟨mkd, mkk, mrt, mvv, mtt, p1, p2, p3, p4, p5⟩ := m
    unfold Tsk.cells sndsV mksV entsV evsV rowsV rcdsV at *
    unfold Msg.cells
    simp only at *
    refine acall_of (n := 97) (rs := [.tmp 10]) Try.func7 rfl (by kernel_rfl) rfl rfl rfl ?_; simp only [argsE, Nat.reduceAdd]
    repeat (any_goals (first | (refine aops_cons (fun K' h' => ?_); simp only [go_sem, Nat.reduceLT, Nat.reduceLeDiff, Nat.reduceEqDiff, reduceIte, Nat.reduceAdd, Nat.reduceMul, Nat.reduceSub, Int.reduceLT, Int.reduceLE, Int.reduceToNat, Int.reduceNeg, reduceCtorEq, hgs, aopG, beq_self_eq_true, Option.toArray_none, Option.toArray_some, List.toList_toArray]; (try simp (disch := omega) only [wrap_id, getD_map_in, Int.toNat_natCast, aopG, beq_self_eq_true, Option.toArray_none, Option.toArray_some, List.toList_toArray]); (repeat (refine And.intro (by (first | omega | (simp; done) | (simp; omega) | assumption)) ?_)); refine h' _ ?_; clear h' K') | (refine aops_nil (hK _ ?_); clear hK K hgs gs; try simp only [aThen, aBlock]) | ((first | refine aops_cons (fun K' h' => ?_) | refine aopsD_cons (fun K' h' => ?_)); simp only [go_sem, Nat.reduceLT, Nat.reduceLeDiff, Nat.reduceEqDiff, reduceIte, Nat.reduceAdd, Nat.reduceMul, Nat.reduceSub, Int.reduceLT, Int.reduceLE, Int.reduceToNat, Int.reduceNeg, reduceCtorEq, hgs, aopG, beq_self_eq_true, Option.toArray_none, Option.toArray_some, List.toList_toArray]; (first | refine ⟨_, hGr, ?_⟩ | refine ⟨_, fun _ => hGr, ?_⟩ | refine ⟨_, hTw, ?_⟩ | refine ⟨_, fun _ => hTw, ?_⟩ | refine ⟨_, hO1, ?_⟩ | refine ⟨_, fun _ => hO1, ?_⟩ | refine ⟨_, hO2, ?_⟩ | refine ⟨_, fun _ => hO2, ?_⟩ | refine ⟨_, hN1, ?_⟩ | refine ⟨_, fun _ => hN1, ?_⟩ | refine ⟨_, hN2, ?_⟩ | refine ⟨_, fun _ => hN2, ?_⟩ | refine ⟨_, hT1, ?_⟩ | refine ⟨_, fun _ => hT1, ?_⟩ | refine ⟨_, hT2, ?_⟩ | refine ⟨_, fun _ => hT2, ?_⟩ | refine ⟨_, hS1, ?_⟩ | refine ⟨_, fun _ => hS1, ?_⟩ | refine ⟨_, hS2, ?_⟩ | refine ⟨_, fun _ => hS2, ?_⟩ | refine ⟨_, hS3, ?_⟩ | refine ⟨_, fun _ => hS3, ?_⟩); (try simp only [go_sem, Nat.reduceLT, Nat.reduceLeDiff, Nat.reduceEqDiff, reduceIte, Nat.reduceAdd, Nat.reduceMul, Nat.reduceSub, Int.reduceLT, Int.reduceLE, Int.reduceToNat, Int.reduceNeg, reduceCtorEq, hgs, aopG, beq_self_eq_true, Option.toArray_none, Option.toArray_some, List.toList_toArray]); (repeat (refine And.intro (by (first | omega | (simp; done) | (simp; omega) | assumption)) ?_)); refine h' _ ?_; clear h' K') | (refine AWp.sreg (id := 10) dd7 rfl (fun gs K hgs hK => ?_); replace hgs : gs 3 = some 67 ∧ gs 8 = some 72 ∧ gs 13 = some 77 ∧ gs 18 = some 82 ∧ gs 23 = some 87 ∧ gs 28 = some 92 := ⟨hgs 3, hgs 8, hgs 13, hgs 18, hgs 23, hgs 28⟩) | (refine AWp.reg (id := 10) dd7 rfl (fun gs K hgs hK => ?_); replace hgs : gs 3 = some 67 ∧ gs 8 = some 72 ∧ gs 13 = some 77 ∧ gs 18 = some 82 ∧ gs 23 = some 87 ∧ gs 28 = some 92 := ⟨hgs 3, hgs 8, hgs 13, hgs 18, hgs 23, hgs 28⟩) | (refine AWp.sreg  dd7 rfl (fun gs K hgs hK => ?_); replace hgs : Nat.succ 0 = 1 := rfl) | refine AWp.seq ?_ | refine ARounds.step ?_ | refine AWp.block ?_ | refine AWp.label ?_ | (refine AWp.ret ?_; try simp only [aThen, aBlock]) | (refine AWp.skip ?_; try simp only [aThen, aBlock]) | (refine AWp.exit ?_; try simp only [aThen, aBlock, Nat.reduceEqDiff, reduceIte]) | (refine AWp.reg  dd7 rfl (fun gs K hgs hK => ?_); replace hgs : Nat.succ 0 = 1 := rfl) | (refine aops_consG (fun K' h' => ?_); simp only [go_sem, Nat.reduceLT, Nat.reduceLeDiff, Nat.reduceEqDiff, reduceIte, Nat.reduceAdd, Nat.reduceMul, Nat.reduceSub, Int.reduceLT, Int.reduceLE, Int.reduceToNat, Int.reduceNeg, reduceCtorEq, hgs, aopG, beq_self_eq_true, Option.toArray_none, Option.toArray_some, List.toList_toArray]; (try simp (disch := omega) only [wrap_id, getD_map_in, Int.toNat_natCast, aopG, beq_self_eq_true, Option.toArray_none, Option.toArray_some, List.toList_toArray]); (repeat (refine And.intro (by (first | omega | (simp; done) | (simp; omega) | assumption)) ?_)); refine h' _ ?_; clear h' K') | (refine AWp.cond rfl (fun h => ?_) (fun h => ?_) <;> (try simp only [decide_eq_true_eq, decide_eq_false_iff_not, beq_iff_eq, bne_iff_ne, ne_eq, Bool.not_eq_true', Bool.not_eq_false', beq_eq_false_iff_ne, Bool.true_eq_false, Bool.false_eq_true, Int.not_le, Int.not_lt, Bool.and_eq_true, Bool.and_eq_false_iff, Bool.or_eq_true, Bool.or_eq_false_iff, bne_eq_false_iff_eq, reduceCtorEq] at h) <;> (try first | contradiction | (exfalso; omega) | (exfalso; revert h; simp; done) | (exfalso; revert h; simp; omega)))))
    all_goals simp only [Out, outA, outL, resA, go_sem, Nat.reduceLT, Nat.reduceLeDiff, Nat.reduceEqDiff, reduceIte, Nat.reduceAdd, Nat.reduceMul, Nat.reduceSub, Int.reduceLT, Int.reduceLE, Int.reduceToNat, Int.reduceNeg, reduceCtorEq]
    all_goals exact AVle.refl _
  · rw [Bool.not_eq_true] at hg
    have hf := great_few hok hg
    rw [hg] at hGr
    have hTw := (fun (f : t.few) => match f with | ⟨f1, f2, f3, f4, f5, f6⟩ => twinT_c t f1 f2 f3 f4 f5 f6) hf
    have hO1 := ofP_c k p
    have hO2 := of30_c k p
    have hN1 := newP_c n
    have hN2 := newP30_c n
    have hT1 := takeP_c t m p hok
    have hT2 := take30_c t m p hok
    have hS1 := sameT_c (newT n) (newT n) (newT_ok n) (newT_ok n)
    have hS2 := sameT_c (takeT t m p) (takeT t m p) (takeT_ok hok) (takeT_ok hok)
    have hS3 := sameT_c t t hok hok
    rw [decide_eq_true rfl] at hS1 hS2 hS3
    generalize newT n = tn at *
    generalize newX n = xn at *
    generalize takeT t m p = tt at *
    generalize takeE t m p = et at *
    generalize ofP k p = op at *
    generalize ofX p = ox at *
    clear hg hf hok
    obtain ⟨kd, nn, tn1, pe, mk, st, ev, rw_, lt⟩ := t
    obtain ⟨kd2, nn2, tn2, pe2, mk2, st2, ev2, rw_2, lt2⟩ := tn
    obtain ⟨kd3, nn3, tn3, pe3, mk3, st3, ev3, rw_3, lt3⟩ := tt
    obtain ⟨mkd, mkk, mrt, mvv, mtt, p1, p2, p3, p4, p5⟩ := m
    unfold Msg.cells at *
    unfold Tsk.cells sndsV mksV entsV evsV rowsV rcdsV at *
    simp only at *
    refine acall_of (n := 97) (rs := [.tmp 10]) Try.func7 rfl (by kernel_rfl) rfl rfl rfl ?_; simp only [argsE, Nat.reduceAdd]
    repeat (any_goals (first | (refine aops_cons (fun K' h' => ?_); simp only [go_sem, Nat.reduceLT, Nat.reduceLeDiff, Nat.reduceEqDiff, reduceIte, Nat.reduceAdd, Nat.reduceMul, Nat.reduceSub, Int.reduceLT, Int.reduceLE, Int.reduceToNat, Int.reduceNeg, reduceCtorEq, hgs, aopG, beq_self_eq_true, Option.toArray_none, Option.toArray_some, List.toList_toArray]; (try simp (disch := omega) only [wrap_id, getD_map_in, Int.toNat_natCast, aopG, beq_self_eq_true, Option.toArray_none, Option.toArray_some, List.toList_toArray]); (repeat (refine And.intro (by (first | omega | (simp; done) | (simp; omega) | assumption)) ?_)); refine h' _ ?_; clear h' K') | (refine aops_nil (hK _ ?_); clear hK K hgs gs; try simp only [aThen, aBlock]) | ((first | refine aops_cons (fun K' h' => ?_) | refine aopsD_cons (fun K' h' => ?_)); simp only [go_sem, Nat.reduceLT, Nat.reduceLeDiff, Nat.reduceEqDiff, reduceIte, Nat.reduceAdd, Nat.reduceMul, Nat.reduceSub, Int.reduceLT, Int.reduceLE, Int.reduceToNat, Int.reduceNeg, reduceCtorEq, hgs, aopG, beq_self_eq_true, Option.toArray_none, Option.toArray_some, List.toList_toArray]; (first | refine ⟨_, hGr, ?_⟩ | refine ⟨_, fun _ => hGr, ?_⟩ | refine ⟨_, hTw, ?_⟩ | refine ⟨_, fun _ => hTw, ?_⟩ | refine ⟨_, hO1, ?_⟩ | refine ⟨_, fun _ => hO1, ?_⟩ | refine ⟨_, hO2, ?_⟩ | refine ⟨_, fun _ => hO2, ?_⟩ | refine ⟨_, hN1, ?_⟩ | refine ⟨_, fun _ => hN1, ?_⟩ | refine ⟨_, hN2, ?_⟩ | refine ⟨_, fun _ => hN2, ?_⟩ | refine ⟨_, hT1, ?_⟩ | refine ⟨_, fun _ => hT1, ?_⟩ | refine ⟨_, hT2, ?_⟩ | refine ⟨_, fun _ => hT2, ?_⟩ | refine ⟨_, hS1, ?_⟩ | refine ⟨_, fun _ => hS1, ?_⟩ | refine ⟨_, hS2, ?_⟩ | refine ⟨_, fun _ => hS2, ?_⟩ | refine ⟨_, hS3, ?_⟩ | refine ⟨_, fun _ => hS3, ?_⟩); (try simp only [go_sem, Nat.reduceLT, Nat.reduceLeDiff, Nat.reduceEqDiff, reduceIte, Nat.reduceAdd, Nat.reduceMul, Nat.reduceSub, Int.reduceLT, Int.reduceLE, Int.reduceToNat, Int.reduceNeg, reduceCtorEq, hgs, aopG, beq_self_eq_true, Option.toArray_none, Option.toArray_some, List.toList_toArray]); (repeat (refine And.intro (by (first | omega | (simp; done) | (simp; omega) | assumption)) ?_)); refine h' _ ?_; clear h' K') | (refine AWp.sreg (id := 10) dd7 rfl (fun gs K hgs hK => ?_); replace hgs : gs 3 = some 67 ∧ gs 8 = some 72 ∧ gs 13 = some 77 ∧ gs 18 = some 82 ∧ gs 23 = some 87 ∧ gs 28 = some 92 := ⟨hgs 3, hgs 8, hgs 13, hgs 18, hgs 23, hgs 28⟩) | (refine AWp.reg (id := 10) dd7 rfl (fun gs K hgs hK => ?_); replace hgs : gs 3 = some 67 ∧ gs 8 = some 72 ∧ gs 13 = some 77 ∧ gs 18 = some 82 ∧ gs 23 = some 87 ∧ gs 28 = some 92 := ⟨hgs 3, hgs 8, hgs 13, hgs 18, hgs 23, hgs 28⟩) | (refine AWp.sreg  dd7 rfl (fun gs K hgs hK => ?_); replace hgs : Nat.succ 0 = 1 := rfl) | refine AWp.seq ?_ | refine ARounds.step ?_ | refine AWp.block ?_ | refine AWp.label ?_ | (refine AWp.ret ?_; try simp only [aThen, aBlock]) | (refine AWp.skip ?_; try simp only [aThen, aBlock]) | (refine AWp.exit ?_; try simp only [aThen, aBlock, Nat.reduceEqDiff, reduceIte]) | (refine AWp.reg  dd7 rfl (fun gs K hgs hK => ?_); replace hgs : Nat.succ 0 = 1 := rfl) | (refine aops_consG (fun K' h' => ?_); simp only [go_sem, Nat.reduceLT, Nat.reduceLeDiff, Nat.reduceEqDiff, reduceIte, Nat.reduceAdd, Nat.reduceMul, Nat.reduceSub, Int.reduceLT, Int.reduceLE, Int.reduceToNat, Int.reduceNeg, reduceCtorEq, hgs, aopG, beq_self_eq_true, Option.toArray_none, Option.toArray_some, List.toList_toArray]; (try simp (disch := omega) only [wrap_id, getD_map_in, Int.toNat_natCast, aopG, beq_self_eq_true, Option.toArray_none, Option.toArray_some, List.toList_toArray]); (repeat (refine And.intro (by (first | omega | (simp; done) | (simp; omega) | assumption)) ?_)); refine h' _ ?_; clear h' K') | (refine AWp.cond rfl (fun h => ?_) (fun h => ?_) <;> (try simp only [decide_eq_true_eq, decide_eq_false_iff_not, beq_iff_eq, bne_iff_ne, ne_eq, Bool.not_eq_true', Bool.not_eq_false', beq_eq_false_iff_ne, Bool.true_eq_false, Bool.false_eq_true, Int.not_le, Int.not_lt, Bool.and_eq_true, Bool.and_eq_false_iff, Bool.or_eq_true, Bool.or_eq_false_iff, bne_eq_false_iff_eq, reduceCtorEq] at h) <;> (try first | contradiction | (exfalso; omega) | (exfalso; revert h; simp; done) | (exfalso; revert h; simp; omega)))))
    all_goals simp only [Out, outA, outL, resA, go_sem, Nat.reduceLT, Nat.reduceLeDiff, Nat.reduceEqDiff, reduceIte, Nat.reduceAdd, Nat.reduceMul, Nat.reduceSub, Int.reduceLT, Int.reduceLE, Int.reduceToNat, Int.reduceNeg, reduceCtorEq]
    all_goals exact AVle.of_eq (by simp)
theorem ptakes_all : ∀ xs, ShpAs Try.prog 8 Try.f7.params.toList xs → ACall Try.prog 7 xs (.lit (.bool true)) := by
  intro xs h
  have hp : Try.f7.params.toList = [2, 3, 31, 55, 3] := by kernel_rfl
  rw [hp] at h
  obtain ⟨a, r, rfl, ha, h⟩ := h
  obtain ⟨b, r, rfl, hb, h⟩ := h
  obtain ⟨c, r, rfl, hc, h⟩ := h
  obtain ⟨d, r, rfl, hd, h⟩ := h
  obtain ⟨e, r, rfl, he, h⟩ := h
  obtain rfl : r = [] := h
  obtain ⟨x, rfl, _⟩ := int_shape2 ha (by kernel_rfl) (by kernel_rfl)
  obtain ⟨y, rfl, _⟩ := int_shape2 hb (by kernel_rfl) (by kernel_rfl)
  obtain ⟨t, rfl, hok⟩ := tsk_shape hc
  obtain ⟨m, rfl⟩ := msg_shape hd
  obtain ⟨z, rfl, _⟩ := int_shape2 he (by kernel_rfl) (by kernel_rfl)
  exact ptakes_law x y t m z hok
end Go.Proofs.Ytbciabkniljjgaa
