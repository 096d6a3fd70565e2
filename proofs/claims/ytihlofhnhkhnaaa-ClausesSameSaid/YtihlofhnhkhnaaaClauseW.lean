/-
  The walks over windows, names and sources: of the program and of the reference.
-/
import Derived.Test.YtihlofhnhkhnaaaFacts
import Derived.Test.YtihlofhnhkhnaaaAbsE
import Derived.Test.YtihlofhnhkhnaaaAbsM
import Derived.Test.YtihlofhnhkhnaaaClauseM
namespace Go.Proofs.Ytihlofhnhkhnaaa
open Go.AL Go.RowKit
set_option linter.unusedSimpArgs false
set_option linter.unusedVariables false
set_option maxRecDepth 10000
set_option maxHeartbeats 4000000

def dd14 : Nat → List (List Nat)
  | 0 => [[], [0], [2]]
  | 1 => [[], [], [3], [4], [5], [], [7], [8], [6, 9]]
  | 2 => [[1, 10], []]
  | 3 => [[10], [], [11]]
  | 4 => [[], [], [14]]
  | 5 => [[13], [], [16]]
  | 6 => [[15], [12], [18]]
  | 7 => [[12, 13], [], [19], [20], [21], [], [23], [], [25], [24, 26], [22, 27], [28], [], [30], [1], [32], [33], [31, 34], [29, 35]]
  | 8 => [[36], []]
  | 9 => [[12, 15, 17], [1], [37], [38]]
  | 10 => [[39], []]
  | 11 => [[1, 17, 36, 39], []]
  | _ => []
theorem window_c (w : Win) : ACall Try.prog 14 [.agg w.cells] (.lit (.int .i64 (winE w))) := by
  obtain ⟨kd, sz, ev⟩ := w
  unfold Win.cells winE
  refine acall_of (n := 40) (rs := [.tmp 2]) Try.func14 rfl (by kernel_rfl) rfl rfl rfl ?_; simp only [argsE, Nat.reduceAdd]
  repeat (any_goals (first | (refine aops_cons (fun K' h' => ?_); simp only [go_sem, Nat.reduceLT, Nat.reduceLeDiff, Nat.reduceEqDiff, reduceIte, Nat.reduceAdd, Nat.reduceMul, Nat.reduceSub, Int.reduceLT, Int.reduceLE, Int.reduceToNat, Int.reduceNeg, reduceCtorEq, hgs, Option.toArray_none, Option.toArray_some, List.toList_toArray]; (try simp (disch := omega) only [wrap_id, getD_map_in, Int.toNat_natCast, Option.toArray_none, Option.toArray_some, List.toList_toArray]); (repeat (refine And.intro (by (first | omega | (simp; done) | (simp; omega) | assumption)) ?_)); refine h' _ ?_; clear h' K') | (refine aops_nil (hK _ ?_); clear hK K hgs gs; try simp only [aThen, aBlock]) | (refine AWp.sreg (id := 1) dd14 rfl (fun gs K hgs hK => ?_); replace hgs : gs 3 = some 6 := hgs 3) | (refine AWp.sreg (id := 7) dd14 rfl (fun gs K hgs hK => ?_); replace hgs : gs 3 = some 22 ∧ gs 10 = some 29 := ⟨hgs 3, hgs 10⟩) | (refine AWp.reg (id := 1) dd14 rfl (fun gs K hgs hK => ?_); replace hgs : gs 3 = some 6 := hgs 3) | (refine AWp.reg (id := 7) dd14 rfl (fun gs K hgs hK => ?_); replace hgs : gs 3 = some 22 ∧ gs 10 = some 29 := ⟨hgs 3, hgs 10⟩) | (refine AWp.sreg  dd14 rfl (fun gs K hgs hK => ?_); replace hgs : Nat.succ 0 = 1 := rfl) | refine AWp.seq ?_ | refine ARounds.step ?_ | refine AWp.block ?_ | refine AWp.label ?_ | (refine AWp.ret ?_; try simp only [aThen, aBlock]) | (refine AWp.skip ?_; try simp only [aThen, aBlock]) | (refine AWp.exit ?_; try simp only [aThen, aBlock, Nat.reduceEqDiff, reduceIte]) | (refine AWp.reg  dd14 rfl (fun gs K hgs hK => ?_); replace hgs : Nat.succ 0 = 1 := rfl) | (refine AWp.cond rfl (fun h => ?_) (fun h => ?_) <;> (try simp only [decide_eq_true_eq, decide_eq_false_iff_not, beq_iff_eq, bne_iff_ne, ne_eq, Bool.not_eq_true', Bool.not_eq_false', beq_eq_false_iff_ne, Bool.true_eq_false, Bool.false_eq_true, Int.not_le, Int.not_lt, Bool.and_eq_true, Bool.and_eq_false_iff, Bool.or_eq_true, Bool.or_eq_false_iff, bne_eq_false_iff_eq, reduceCtorEq] at h) <;> (try first | contradiction | (exfalso; omega) | (exfalso; revert h; simp; done) | (exfalso; revert h; simp; omega)))))
  all_goals simp only [Out, outA, outL, resA, go_sem, Nat.reduceLT, Nat.reduceLeDiff, Nat.reduceEqDiff, reduceIte, Nat.reduceAdd, Nat.reduceMul, Nat.reduceSub, Int.reduceLT, Int.reduceLE, Int.reduceToNat, Int.reduceNeg, reduceCtorEq]
  all_goals refine AVle.of_eq (congrArg (fun n => AV.lit (.int .i64 n)) ?_)
  all_goals (try simp only [IntKind.wrap_i64] at *)
  all_goals first
    | (rw [if_pos (show winP _ by unfold winP; simp only; omega)]; done)
    | (rw [if_neg (show ¬ winP _ by unfold winP; simp only; omega)]; done)

def dd30 : Nat → List (List Nat)
  | 0 => [[], [0], [2]]
  | 1 => [[], [], [3], [4], [5], [], [7], [8], [6, 9]]
  | 2 => [[1, 10], []]
  | 3 => [[10], [], [11], [12]]
  | 4 => [[13], [], [14], [15], [16], [], [18], [], [20], [19, 21], [17, 22], [23], [], [25], [1], [27], [28], [26, 29], [24, 30], [31]]
  | 5 => [[13], [], [32], [33], [34], [], [36], [37], [35, 38], [39], [1], [41], [42], [40, 43], [44]]
  | _ => []
theorem fits_c (w : Win) : ACall Try.prog 30 [.agg w.cells] (.lit (.bool (decide (winP w)))) := by
  obtain ⟨kd, sz, ev⟩ := w
  unfold Win.cells
  refine acall_of (n := 45) (rs := [.tmp 2]) Try.func30 rfl (by kernel_rfl) rfl rfl rfl ?_; simp only [argsE, Nat.reduceAdd]
  repeat (any_goals (first | (refine aops_cons (fun K' h' => ?_); simp only [go_sem, Nat.reduceLT, Nat.reduceLeDiff, Nat.reduceEqDiff, reduceIte, Nat.reduceAdd, Nat.reduceMul, Nat.reduceSub, Int.reduceLT, Int.reduceLE, Int.reduceToNat, Int.reduceNeg, reduceCtorEq, hgs, Option.toArray_none, Option.toArray_some, List.toList_toArray]; (try simp (disch := omega) only [wrap_id, getD_map_in, Int.toNat_natCast, Option.toArray_none, Option.toArray_some, List.toList_toArray]); (repeat (refine And.intro (by (first | omega | (simp; done) | (simp; omega) | assumption)) ?_)); refine h' _ ?_; clear h' K') | (refine aops_nil (hK _ ?_); clear hK K hgs gs; try simp only [aThen, aBlock]) | (refine AWp.sreg (id := 1) dd30 rfl (fun gs K hgs hK => ?_); replace hgs : gs 3 = some 6 := hgs 3) | (refine AWp.sreg (id := 4) dd30 rfl (fun gs K hgs hK => ?_); replace hgs : gs 3 = some 17 ∧ gs 10 = some 24 := ⟨hgs 3, hgs 10⟩) | (refine AWp.sreg (id := 5) dd30 rfl (fun gs K hgs hK => ?_); replace hgs : gs 3 = some 35 ∧ gs 8 = some 40 := ⟨hgs 3, hgs 8⟩) | (refine AWp.reg (id := 1) dd30 rfl (fun gs K hgs hK => ?_); replace hgs : gs 3 = some 6 := hgs 3) | (refine AWp.reg (id := 4) dd30 rfl (fun gs K hgs hK => ?_); replace hgs : gs 3 = some 17 ∧ gs 10 = some 24 := ⟨hgs 3, hgs 10⟩) | (refine AWp.reg (id := 5) dd30 rfl (fun gs K hgs hK => ?_); replace hgs : gs 3 = some 35 ∧ gs 8 = some 40 := ⟨hgs 3, hgs 8⟩) | (refine AWp.sreg  dd30 rfl (fun gs K hgs hK => ?_); replace hgs : Nat.succ 0 = 1 := rfl) | refine AWp.seq ?_ | refine ARounds.step ?_ | refine AWp.block ?_ | refine AWp.label ?_ | (refine AWp.ret ?_; try simp only [aThen, aBlock]) | (refine AWp.skip ?_; try simp only [aThen, aBlock]) | (refine AWp.exit ?_; try simp only [aThen, aBlock, Nat.reduceEqDiff, reduceIte]) | (refine AWp.reg  dd30 rfl (fun gs K hgs hK => ?_); replace hgs : Nat.succ 0 = 1 := rfl) | (refine AWp.cond rfl (fun h => ?_) (fun h => ?_) <;> (try simp only [decide_eq_true_eq, decide_eq_false_iff_not, beq_iff_eq, bne_iff_ne, ne_eq, Bool.not_eq_true', Bool.not_eq_false', beq_eq_false_iff_ne, Bool.true_eq_false, Bool.false_eq_true, Int.not_le, Int.not_lt, Bool.and_eq_true, Bool.and_eq_false_iff, Bool.or_eq_true, Bool.or_eq_false_iff, bne_eq_false_iff_eq, reduceCtorEq] at h) <;> (try first | contradiction | (exfalso; omega) | (exfalso; revert h; simp; done) | (exfalso; revert h; simp; omega)))))
  all_goals simp only [Out, outA, outL, resA, go_sem, Nat.reduceLT, Nat.reduceLeDiff, Nat.reduceEqDiff, reduceIte, Nat.reduceAdd, Nat.reduceMul, Nat.reduceSub, Int.reduceLT, Int.reduceLE, Int.reduceToNat, Int.reduceNeg, reduceCtorEq]
  all_goals refine AVle.of_eq (congrArg (fun b => AV.lit (.bool b)) ?_)
  all_goals (try simp only [IntKind.wrap_i64])
  · rw [decide_eq_false (show ¬ winP _ by unfold winP; simp only; omega)]
  · rw [Bool.eq_iff_iff]
    simp only [Bool.and_eq_true, decide_eq_true_eq]
    unfold winP
    simp only
    omega
  · rw [Bool.eq_iff_iff]
    simp only [Bool.and_eq_true, Bool.or_eq_true, beq_iff_eq, decide_eq_true_eq]
    unfold winP
    simp only
    omega

def dd15 : Nat → List (List Nat)
  | 0 => [[], [0], [2]]
  | 1 => [[], [1], [3], [4]]
  | 2 => [[5], []]
  | 3 => [[5], []]
  | _ => []
theorem rWindow_c (w : Win) : ACall Try.prog 15 [.agg w.cells] (.lit (.int .i64 (winE w))) := by
  have hF := fits_c w
  unfold winE
  obtain ⟨b, hb⟩ : ∃ b, decide (winP w) = b := ⟨_, rfl⟩
  rw [hb] at hF
  obtain ⟨kd, sz, ev⟩ := w
  unfold Win.cells at *
  refine acall_of (n := 6) (rs := [.tmp 2]) Try.func15 rfl (by kernel_rfl) rfl rfl rfl ?_; simp only [argsE, Nat.reduceAdd]
  repeat (any_goals (first | (refine aops_cons (fun K' h' => ?_); simp only [go_sem, Nat.reduceLT, Nat.reduceLeDiff, Nat.reduceEqDiff, reduceIte, Nat.reduceAdd, Nat.reduceMul, Nat.reduceSub, Int.reduceLT, Int.reduceLE, Int.reduceToNat, Int.reduceNeg, reduceCtorEq, Option.toArray_none, Option.toArray_some, List.toList_toArray]; (try simp (disch := omega) only [wrap_id, getD_map_in, Int.toNat_natCast, Option.toArray_none, Option.toArray_some, List.toList_toArray]); (repeat (refine And.intro (by (first | omega | (simp; done) | (simp; omega) | assumption)) ?_)); refine h' _ ?_; clear h' K') | (refine aops_nil (hK _ ?_); clear hK K gs; try simp only [aThen, aBlock]) | ((first | refine aops_cons (fun K' h' => ?_) | refine aopsD_cons (fun K' h' => ?_)); simp only [go_sem, Nat.reduceLT, Nat.reduceLeDiff, Nat.reduceEqDiff, reduceIte, Nat.reduceAdd, Nat.reduceMul, Nat.reduceSub, Int.reduceLT, Int.reduceLE, Int.reduceToNat, Int.reduceNeg, reduceCtorEq, Option.toArray_none, Option.toArray_some, List.toList_toArray]; (first | refine ⟨_, hF, ?_⟩ | refine ⟨_, fun _ => hF, ?_⟩); (try simp only [go_sem, Nat.reduceLT, Nat.reduceLeDiff, Nat.reduceEqDiff, reduceIte, Nat.reduceAdd, Nat.reduceMul, Nat.reduceSub, Int.reduceLT, Int.reduceLE, Int.reduceToNat, Int.reduceNeg, reduceCtorEq, Option.toArray_none, Option.toArray_some, List.toList_toArray]); (repeat (refine And.intro (by (first | omega | (simp; done) | (simp; omega) | assumption)) ?_)); refine h' _ ?_; clear h' K') | (refine AWp.sreg  dd15 rfl (fun gs K hgs hK => ?_); clear hgs) | refine AWp.seq ?_ | refine ARounds.step ?_ | refine AWp.block ?_ | refine AWp.label ?_ | (refine AWp.ret ?_; try simp only [aThen, aBlock]) | (refine AWp.skip ?_; try simp only [aThen, aBlock]) | (refine AWp.exit ?_; try simp only [aThen, aBlock, Nat.reduceEqDiff, reduceIte]) | (refine AWp.reg  dd15 rfl (fun gs K hgs hK => ?_); clear hgs) | (refine AWp.cond rfl (fun h => ?_) (fun h => ?_) <;> (try simp only [decide_eq_true_eq, decide_eq_false_iff_not, beq_iff_eq, bne_iff_ne, ne_eq, Bool.not_eq_true', Bool.not_eq_false', beq_eq_false_iff_ne, Bool.true_eq_false, Bool.false_eq_true, Int.not_le, Int.not_lt, Bool.and_eq_true, Bool.and_eq_false_iff, Bool.or_eq_true, Bool.or_eq_false_iff, bne_eq_false_iff_eq, reduceCtorEq] at h) <;> (try first | contradiction | (exfalso; omega) | (exfalso; revert h; simp; done) | (exfalso; revert h; simp; omega)))))
  · simp only [Out, outA, outL, resA, go_sem, Nat.reduceLT, Nat.reduceLeDiff, Nat.reduceEqDiff, reduceIte, Nat.reduceAdd, Nat.reduceMul, Nat.reduceSub, Int.reduceLT, Int.reduceLE, Int.reduceToNat, Int.reduceNeg, reduceCtorEq]
    rw [if_neg (fun h2 => by rw [decide_eq_true h2] at hb; subst hb; cases h)]
    exact AVle.refl _
  · simp only [Out, outA, outL, resA, go_sem, Nat.reduceLT, Nat.reduceLeDiff, Nat.reduceEqDiff, reduceIte, Nat.reduceAdd, Nat.reduceMul, Nat.reduceSub, Int.reduceLT, Int.reduceLE, Int.reduceToNat, Int.reduceNeg, reduceCtorEq]
    rw [if_pos (by rw [h] at hb; exact of_decide_eq_true hb)]
    exact AVle.refl _

def nameB (i : Nat) : ByteArray := (⟨#[97, 98, 99, 100]⟩ : ByteArray).extract i (i + 1)
theorem nameB_0 : nameB 0 = ⟨#[97]⟩ := by decide
theorem nameB_1 : nameB 1 = ⟨#[98]⟩ := by decide
theorem nameB_2 : nameB 2 = ⟨#[99]⟩ := by decide
theorem nameB_3 : nameB 3 = ⟨#[100]⟩ := by decide

def dd10 : Nat → List (List Nat)
  | 0 => [[], [2], [3]]
  | 1 => [[], [], [4], [5], [], [7], [6, 8]]
  | 2 => [[0, 9], [], []]
  | 3 => [[9], [], [0], [11], [10, 12], [13], []]
  | _ => []
theorem name_ok (i : Nat) (h : i < 4) : ACall Try.prog 10 [.lit (.int .i64 (i : Int))] (.tup [.lit (.string (nameB i)), .lit (.int .i64 0)]) := by
  have hi : ((i : Int) + 1).toNat = i + 1 := by omega
  refine acall_of (n := 14) (rs := [.tmp 2, .tmp 3]) Try.func10 rfl (by kernel_rfl) rfl rfl rfl ?_; simp only [argsE, Nat.reduceAdd]
  repeat (any_goals (first | (refine aops_cons (fun K' h' => ?_); simp only [go_sem, Nat.reduceLT, Nat.reduceLeDiff, Nat.reduceEqDiff, reduceIte, Nat.reduceAdd, Nat.reduceMul, Nat.reduceSub, Int.reduceLT, Int.reduceLE, Int.reduceToNat, Int.reduceNeg, reduceCtorEq, hgs, Option.toArray_none, Option.toArray_some, List.toList_toArray, hi]; (try simp (disch := omega) only [wrap_id, getD_map_in, Int.toNat_natCast, Option.toArray_none, Option.toArray_some, List.toList_toArray, hi]); (repeat (refine And.intro (by (first | omega | (simp; done) | (simp; omega) | assumption)) ?_)); refine h' _ ?_; clear h' K') | (refine aops_nil (hK _ ?_); clear hK K hgs gs; try simp only [aThen, aBlock]) | (refine AWp.sreg (id := 1) dd10 rfl (fun gs K hgs hK => ?_); replace hgs : gs 2 = some 6 := hgs 2) | (refine AWp.reg (id := 1) dd10 rfl (fun gs K hgs hK => ?_); replace hgs : gs 2 = some 6 := hgs 2) | (refine AWp.sreg  dd10 rfl (fun gs K hgs hK => ?_); replace hgs : Nat.succ 0 = 1 := rfl) | refine AWp.seq ?_ | refine ARounds.step ?_ | refine AWp.block ?_ | refine AWp.label ?_ | (refine AWp.ret ?_; try simp only [aThen, aBlock]) | (refine AWp.skip ?_; try simp only [aThen, aBlock]) | (refine AWp.exit ?_; try simp only [aThen, aBlock, Nat.reduceEqDiff, reduceIte]) | (refine AWp.reg  dd10 rfl (fun gs K hgs hK => ?_); replace hgs : Nat.succ 0 = 1 := rfl) | (refine AWp.cond rfl (fun h => ?_) (fun h => ?_) <;> (try simp only [decide_eq_true_eq, decide_eq_false_iff_not, beq_iff_eq, bne_iff_ne, ne_eq, Bool.not_eq_true', Bool.not_eq_false', beq_eq_false_iff_ne, Bool.true_eq_false, Bool.false_eq_true, Int.not_le, Int.not_lt, Bool.and_eq_true, Bool.and_eq_false_iff, Bool.or_eq_true, Bool.or_eq_false_iff, bne_eq_false_iff_eq, reduceCtorEq] at h) <;> (try first | contradiction | (exfalso; omega) | (exfalso; revert h; simp; done) | (exfalso; revert h; simp; omega)))))
  all_goals simp only [Out, outA, outL, resA, go_sem, Nat.reduceLT, Nat.reduceLeDiff, Nat.reduceEqDiff, reduceIte, Nat.reduceAdd, Nat.reduceMul, Nat.reduceSub, Int.reduceLT, Int.reduceLE, Int.reduceToNat, Int.reduceNeg, reduceCtorEq]
  all_goals exact AVle.refl _
theorem name_bad (i : Int) (h : i < 0 ∨ 3 < i) : ACall Try.prog 10 [.lit (.int .i64 i)] (.tup [.lit (.string ⟨#[]⟩), .lit (.int .i64 2)]) := by
  refine acall_of (n := 14) (rs := [.tmp 2, .tmp 3]) Try.func10 rfl (by kernel_rfl) rfl rfl rfl ?_; simp only [argsE, Nat.reduceAdd]
  repeat (any_goals (first | (refine aops_cons (fun K' h' => ?_); simp only [go_sem, Nat.reduceLT, Nat.reduceLeDiff, Nat.reduceEqDiff, reduceIte, Nat.reduceAdd, Nat.reduceMul, Nat.reduceSub, Int.reduceLT, Int.reduceLE, Int.reduceToNat, Int.reduceNeg, reduceCtorEq, hgs, Option.toArray_none, Option.toArray_some, List.toList_toArray]; (try simp (disch := omega) only [wrap_id, getD_map_in, Int.toNat_natCast, Option.toArray_none, Option.toArray_some, List.toList_toArray]); (repeat (refine And.intro (by (first | omega | (simp; done) | (simp; omega) | assumption)) ?_)); refine h' _ ?_; clear h' K') | (refine aops_nil (hK _ ?_); clear hK K hgs gs; try simp only [aThen, aBlock]) | (refine AWp.sreg (id := 1) dd10 rfl (fun gs K hgs hK => ?_); replace hgs : gs 2 = some 6 := hgs 2) | (refine AWp.reg (id := 1) dd10 rfl (fun gs K hgs hK => ?_); replace hgs : gs 2 = some 6 := hgs 2) | (refine AWp.sreg  dd10 rfl (fun gs K hgs hK => ?_); replace hgs : Nat.succ 0 = 1 := rfl) | refine AWp.seq ?_ | refine ARounds.step ?_ | refine AWp.block ?_ | refine AWp.label ?_ | (refine AWp.ret ?_; try simp only [aThen, aBlock]) | (refine AWp.skip ?_; try simp only [aThen, aBlock]) | (refine AWp.exit ?_; try simp only [aThen, aBlock, Nat.reduceEqDiff, reduceIte]) | (refine AWp.reg  dd10 rfl (fun gs K hgs hK => ?_); replace hgs : Nat.succ 0 = 1 := rfl) | (refine AWp.cond rfl (fun h => ?_) (fun h => ?_) <;> (try simp only [decide_eq_true_eq, decide_eq_false_iff_not, beq_iff_eq, bne_iff_ne, ne_eq, Bool.not_eq_true', Bool.not_eq_false', beq_eq_false_iff_ne, Bool.true_eq_false, Bool.false_eq_true, Int.not_le, Int.not_lt, Bool.and_eq_true, Bool.and_eq_false_iff, Bool.or_eq_true, Bool.or_eq_false_iff, bne_eq_false_iff_eq, reduceCtorEq] at h) <;> (try first | contradiction | (exfalso; omega) | (exfalso; revert h; simp; done) | (exfalso; revert h; simp; omega)))))
  all_goals first
    | (exfalso; omega)
    | (simp only [Out, outA, outL, resA, go_sem, Nat.reduceLT, Nat.reduceLeDiff, Nat.reduceEqDiff, reduceIte, Nat.reduceAdd, Nat.reduceMul, Nat.reduceSub, Int.reduceLT, Int.reduceLE, Int.reduceToNat, Int.reduceNeg, reduceCtorEq]
       exact AVle.refl _)

def dd11 : Nat → List (List Nat)
  | 0 => [[], [2], [3]]
  | 1 => [[], [], [4], [5], [], [7], [6, 8]]
  | 2 => [[0, 9], [], []]
  | 3 => [[9], [], [0], [10, 11], [12], [13], []]
  | _ => []
theorem rName_ok (i : Nat) (h : i < 4) : ACall Try.prog 11 [.lit (.int .i64 (i : Int))] (.tup [.lit (.string (nameB i)), .lit (.int .i64 0)]) := by
  rcases (show i = 0 ∨ i = 1 ∨ i = 2 ∨ i = 3 by omega) with rfl | rfl | rfl | rfl
  all_goals refine acall_of (n := 14) (rs := [.tmp 2, .tmp 3]) Try.func11 rfl (by kernel_rfl) rfl rfl rfl ?_; simp only [argsE, Nat.reduceAdd]
  repeat (any_goals (first | (refine aops_cons (fun K' h' => ?_); simp only [go_sem, Nat.reduceLT, Nat.reduceLeDiff, Nat.reduceEqDiff, reduceIte, Nat.reduceAdd, Nat.reduceMul, Nat.reduceSub, Int.reduceLT, Int.reduceLE, Int.reduceToNat, Int.reduceNeg, reduceCtorEq, hgs, Option.toArray_none, Option.toArray_some, List.toList_toArray]; (try simp (disch := omega) only [wrap_id, getD_map_in, Int.toNat_natCast, Option.toArray_none, Option.toArray_some, List.toList_toArray]); (repeat (refine And.intro (by (first | omega | (simp; done) | (simp; omega) | assumption)) ?_)); refine h' _ ?_; clear h' K') | (refine aops_nil (hK _ ?_); clear hK K hgs gs; try simp only [aThen, aBlock]) | (refine AWp.sreg (id := 1) dd11 rfl (fun gs K hgs hK => ?_); replace hgs : gs 2 = some 6 := hgs 2) | (refine AWp.reg (id := 1) dd11 rfl (fun gs K hgs hK => ?_); replace hgs : gs 2 = some 6 := hgs 2) | (refine AWp.sreg  dd11 rfl (fun gs K hgs hK => ?_); replace hgs : Nat.succ 0 = 1 := rfl) | refine AWp.seq ?_ | refine ARounds.step ?_ | refine AWp.block ?_ | refine AWp.label ?_ | (refine AWp.ret ?_; try simp only [aThen, aBlock]) | (refine AWp.skip ?_; try simp only [aThen, aBlock]) | (refine AWp.exit ?_; try simp only [aThen, aBlock, Nat.reduceEqDiff, reduceIte]) | (refine AWp.reg  dd11 rfl (fun gs K hgs hK => ?_); replace hgs : Nat.succ 0 = 1 := rfl) | (refine AWp.cond rfl (fun h => ?_) (fun h => ?_) <;> (try simp only [decide_eq_true_eq, decide_eq_false_iff_not, beq_iff_eq, bne_iff_ne, ne_eq, Bool.not_eq_true', Bool.not_eq_false', beq_eq_false_iff_ne, Bool.true_eq_false, Bool.false_eq_true, Int.not_le, Int.not_lt, Bool.and_eq_true, Bool.and_eq_false_iff, Bool.or_eq_true, Bool.or_eq_false_iff, bne_eq_false_iff_eq, reduceCtorEq] at h) <;> (try first | contradiction | (exfalso; omega) | (exfalso; revert h; simp; done) | (exfalso; revert h; simp; omega)))))
  all_goals simp only [Out, outA, outL, resA, go_sem, Nat.reduceLT, Nat.reduceLeDiff, Nat.reduceEqDiff, reduceIte, Nat.reduceAdd, Nat.reduceMul, Nat.reduceSub, Int.reduceLT, Int.reduceLE, Int.reduceToNat, Int.reduceNeg, reduceCtorEq]
  · rw [nameB_0]; exact AVle.refl _
  · rw [nameB_1]; exact AVle.refl _
  · rw [nameB_2]; exact AVle.refl _
  · rw [nameB_3]; exact AVle.refl _
theorem rName_bad (i : Int) (h : i < 0 ∨ 3 < i) : ACall Try.prog 11 [.lit (.int .i64 i)] (.tup [.lit (.string ⟨#[]⟩), .lit (.int .i64 2)]) := by
  refine acall_of (n := 14) (rs := [.tmp 2, .tmp 3]) Try.func11 rfl (by kernel_rfl) rfl rfl rfl ?_; simp only [argsE, Nat.reduceAdd]
  repeat (any_goals (first | (refine aops_cons (fun K' h' => ?_); simp only [go_sem, Nat.reduceLT, Nat.reduceLeDiff, Nat.reduceEqDiff, reduceIte, Nat.reduceAdd, Nat.reduceMul, Nat.reduceSub, Int.reduceLT, Int.reduceLE, Int.reduceToNat, Int.reduceNeg, reduceCtorEq, hgs, Option.toArray_none, Option.toArray_some, List.toList_toArray]; (try simp (disch := omega) only [wrap_id, getD_map_in, Int.toNat_natCast, Option.toArray_none, Option.toArray_some, List.toList_toArray]); (repeat (refine And.intro (by (first | omega | (simp; done) | (simp; omega) | assumption)) ?_)); refine h' _ ?_; clear h' K') | (refine aops_nil (hK _ ?_); clear hK K hgs gs; try simp only [aThen, aBlock]) | (refine AWp.sreg (id := 1) dd11 rfl (fun gs K hgs hK => ?_); replace hgs : gs 2 = some 6 := hgs 2) | (refine AWp.reg (id := 1) dd11 rfl (fun gs K hgs hK => ?_); replace hgs : gs 2 = some 6 := hgs 2) | (refine AWp.sreg  dd11 rfl (fun gs K hgs hK => ?_); replace hgs : Nat.succ 0 = 1 := rfl) | refine AWp.seq ?_ | refine ARounds.step ?_ | refine AWp.block ?_ | refine AWp.label ?_ | (refine AWp.ret ?_; try simp only [aThen, aBlock]) | (refine AWp.skip ?_; try simp only [aThen, aBlock]) | (refine AWp.exit ?_; try simp only [aThen, aBlock, Nat.reduceEqDiff, reduceIte]) | (refine AWp.reg  dd11 rfl (fun gs K hgs hK => ?_); replace hgs : Nat.succ 0 = 1 := rfl) | (refine AWp.cond rfl (fun h => ?_) (fun h => ?_) <;> (try simp only [decide_eq_true_eq, decide_eq_false_iff_not, beq_iff_eq, bne_iff_ne, ne_eq, Bool.not_eq_true', Bool.not_eq_false', beq_eq_false_iff_ne, Bool.true_eq_false, Bool.false_eq_true, Int.not_le, Int.not_lt, Bool.and_eq_true, Bool.and_eq_false_iff, Bool.or_eq_true, Bool.or_eq_false_iff, bne_eq_false_iff_eq, reduceCtorEq] at h) <;> (try first | contradiction | (exfalso; omega) | (exfalso; revert h; simp; done) | (exfalso; revert h; simp; omega)))))
  all_goals first
    | (exfalso; omega)
    | (simp only [Out, outA, outL, resA, go_sem, Nat.reduceLT, Nat.reduceLeDiff, Nat.reduceEqDiff, reduceIte, Nat.reduceAdd, Nat.reduceMul, Nat.reduceSub, Int.reduceLT, Int.reduceLE, Int.reduceToNat, Int.reduceNeg, reduceCtorEq]
       exact AVle.refl _)
def srcN (s : ByteArray) : Int := if (nameB 0 == s) = true then 0 else if (nameB 1 == s) = true then 1 else if (nameB 2 == s) = true then 2 else if (nameB 3 == s) = true then 3 else 0
def srcX (s : ByteArray) : Int := if (nameB 0 == s) = true then 0 else if (nameB 1 == s) = true then 0 else if (nameB 2 == s) = true then 0 else if (nameB 3 == s) = true then 0 else 2

def dd12 : Nat → List (List Nat)
  | 0 => [[], [2], [3]]
  | 1 => [[], []]
  | 2 => [[], []]
  | 3 => [[6], [], [7]]
  | 4 => [[], [], [], [9], [8, 10], [], [11, 12]]
  | 5 => [[0, 5, 13], [4], [14], []]
  | 6 => [[4, 13], [5], [15]]
  | 7 => [[0, 5, 6], [], []]
  | _ => []
theorem source_c (s : ByteArray) : ACall Try.prog 12 [.lit (.string s)] (.tup [.lit (.int .i64 (srcN s)), .lit (.int .i64 (srcX s))]) := by
  unfold srcN srcX nameB
  simp only [Nat.zero_add, Nat.reduceAdd]
  refine acall_of (n := 16) (rs := [.tmp 2, .tmp 3]) Try.func12 rfl (by kernel_rfl) rfl rfl rfl ?_; simp only [argsE, Nat.reduceAdd]
  repeat (any_goals (first | (refine aops_cons (fun K' h' => ?_); simp only [go_sem, Nat.reduceLT, Nat.reduceLeDiff, Nat.reduceEqDiff, reduceIte, Nat.reduceAdd, Nat.reduceMul, Nat.reduceSub, Int.reduceLT, Int.reduceLE, Int.reduceToNat, Int.reduceNeg, reduceCtorEq, Option.toArray_none, Option.toArray_some, List.toList_toArray]; (try simp (disch := omega) only [wrap_id, getD_map_in, Int.toNat_natCast, Option.toArray_none, Option.toArray_some, List.toList_toArray]); (repeat (refine And.intro (by (first | omega | (simp; done) | (simp; omega) | assumption)) ?_)); refine h' _ ?_; clear h' K') | (refine aops_nil (hK _ ?_); clear hK K gs; try simp only [aThen, aBlock]) | (refine AWp.sreg  dd12 rfl (fun gs K hgs hK => ?_); clear hgs) | refine AWp.seq ?_ | refine ARounds.step ?_ | refine AWp.block ?_ | refine AWp.label ?_ | (refine AWp.ret ?_; try simp only [aThen, aBlock]) | (refine AWp.skip ?_; try simp only [aThen, aBlock]) | (refine AWp.exit ?_; try simp only [aThen, aBlock, Nat.reduceEqDiff, reduceIte]) | (refine AWp.reg  dd12 rfl (fun gs K hgs hK => ?_); clear hgs) | (refine AWp.cond rfl (fun h => ?_) (fun h => ?_) <;> (try simp only [decide_eq_true_eq, decide_eq_false_iff_not, beq_iff_eq, bne_iff_ne, ne_eq, Bool.not_eq_true', Bool.not_eq_false', beq_eq_false_iff_ne, Bool.true_eq_false, Bool.false_eq_true, Int.not_le, Int.not_lt, Bool.and_eq_true, Bool.and_eq_false_iff, Bool.or_eq_true, Bool.or_eq_false_iff, bne_eq_false_iff_eq, reduceCtorEq] at h) <;> (try first | contradiction | (exfalso; omega) | (exfalso; revert h; simp; done) | (exfalso; revert h; simp; omega)))))
  refine AWp.loopR 5 ?_
  repeat (any_goals (first | (refine aops_cons (fun K' h' => ?_); simp only [go_sem, Nat.reduceLT, Nat.reduceLeDiff, Nat.reduceEqDiff, reduceIte, Nat.reduceAdd, Nat.reduceMul, Nat.reduceSub, Int.reduceLT, Int.reduceLE, Int.reduceToNat, Int.reduceNeg, reduceCtorEq, Option.toArray_none, Option.toArray_some, List.toList_toArray, Int.reduceAdd, Int.zero_add]; (try simp (disch := omega) only [wrap_id, getD_map_in, Int.toNat_natCast, Option.toArray_none, Option.toArray_some, List.toList_toArray, Int.reduceAdd, Int.zero_add]); (repeat (refine And.intro (by (first | omega | (simp; done) | (simp; omega) | assumption)) ?_)); refine h' _ ?_; clear h' K') | (refine aops_nil (hK _ ?_); clear hK K gs; try simp only [aThen, aBlock]) | (refine AWp.sreg  dd12 rfl (fun gs K hgs hK => ?_); clear hgs) | refine AWp.seq ?_ | refine ARounds.step ?_ | refine AWp.block ?_ | refine AWp.label ?_ | (refine AWp.ret ?_; try simp only [aThen, aBlock]) | (refine AWp.skip ?_; try simp only [aThen, aBlock]) | (refine AWp.exit ?_; try simp only [aThen, aBlock, Nat.reduceEqDiff, reduceIte]) | (refine AWp.reg  dd12 rfl (fun gs K hgs hK => ?_); clear hgs) | (refine AWp.cond rfl (fun h => ?_) (fun h => ?_) <;> (try simp only [decide_eq_true_eq, decide_eq_false_iff_not, beq_iff_eq, bne_iff_ne, ne_eq, Bool.not_eq_true', Bool.not_eq_false', beq_eq_false_iff_ne, Bool.true_eq_false, Bool.false_eq_true, Int.not_le, Int.not_lt, Bool.and_eq_true, Bool.and_eq_false_iff, Bool.or_eq_true, Bool.or_eq_false_iff, bne_eq_false_iff_eq, reduceCtorEq] at h) <;> (try first | contradiction | (exfalso; omega) | (exfalso; revert h; simp; done) | (exfalso; revert h; simp; omega)))))
  all_goals simp only [Out, outA, outL, resA, go_sem, Nat.reduceLT, Nat.reduceLeDiff, Nat.reduceEqDiff, reduceIte, Nat.reduceAdd, Nat.reduceMul, Nat.reduceSub, Int.reduceLT, Int.reduceLE, Int.reduceToNat, Int.reduceNeg, reduceCtorEq]
  all_goals exact AVle.of_eq (by simp [*])

def dd13 : Nat → List (List Nat)
  | 0 => [[], [2], [3]]
  | 1 => [[], []]
  | 2 => [[], [], [7]]
  | 3 => [[18], [4], [9], [10]]
  | 4 => [[8], [], [12], [13], [], [11], [14], [6, 15]]
  | 5 => [[], [5], [], [16, 17]]
  | 6 => [[0, 18], [4], [19], []]
  | 7 => [[0, 4, 8], [], []]
  | _ => []
theorem rSource_c (s : ByteArray) : ACall Try.prog 13 [.lit (.string s)] (.tup [.lit (.int .i64 (srcN s)), .lit (.int .i64 (srcX s))]) := by
  have hN0 := rName_ok 0 (by omega)
  have hN1 := rName_ok 1 (by omega)
  have hN2 := rName_ok 2 (by omega)
  have hN3 := rName_ok 3 (by omega)
  unfold srcN srcX
  generalize nameB 0 = b0 at *
  generalize nameB 1 = b1 at *
  generalize nameB 2 = b2 at *
  generalize nameB 3 = b3 at *
  refine acall_of (n := 20) (rs := [.tmp 2, .tmp 3]) Try.func13 rfl (by kernel_rfl) rfl rfl rfl ?_; simp only [argsE, Nat.reduceAdd]
  repeat (any_goals (first | (refine aops_cons (fun K' h' => ?_); simp only [go_sem, Nat.reduceLT, Nat.reduceLeDiff, Nat.reduceEqDiff, reduceIte, Nat.reduceAdd, Nat.reduceMul, Nat.reduceSub, Int.reduceLT, Int.reduceLE, Int.reduceToNat, Int.reduceNeg, reduceCtorEq, Option.toArray_none, Option.toArray_some, List.toList_toArray]; (try simp (disch := omega) only [wrap_id, getD_map_in, Int.toNat_natCast, Option.toArray_none, Option.toArray_some, List.toList_toArray]); (repeat (refine And.intro (by (first | omega | (simp; done) | (simp; omega) | assumption)) ?_)); refine h' _ ?_; clear h' K') | (refine aops_nil (hK _ ?_); clear hK K gs; try simp only [aThen, aBlock]) | ((first | refine aops_cons (fun K' h' => ?_) | refine aopsD_cons (fun K' h' => ?_)); simp only [go_sem, Nat.reduceLT, Nat.reduceLeDiff, Nat.reduceEqDiff, reduceIte, Nat.reduceAdd, Nat.reduceMul, Nat.reduceSub, Int.reduceLT, Int.reduceLE, Int.reduceToNat, Int.reduceNeg, reduceCtorEq, Option.toArray_none, Option.toArray_some, List.toList_toArray]; (first | refine ⟨_, hN0, ?_⟩ | refine ⟨_, fun _ => hN0, ?_⟩ | refine ⟨_, hN1, ?_⟩ | refine ⟨_, fun _ => hN1, ?_⟩ | refine ⟨_, hN2, ?_⟩ | refine ⟨_, fun _ => hN2, ?_⟩ | refine ⟨_, hN3, ?_⟩ | refine ⟨_, fun _ => hN3, ?_⟩); (try simp only [go_sem, Nat.reduceLT, Nat.reduceLeDiff, Nat.reduceEqDiff, reduceIte, Nat.reduceAdd, Nat.reduceMul, Nat.reduceSub, Int.reduceLT, Int.reduceLE, Int.reduceToNat, Int.reduceNeg, reduceCtorEq, Option.toArray_none, Option.toArray_some, List.toList_toArray]); (repeat (refine And.intro (by (first | omega | (simp; done) | (simp; omega) | assumption)) ?_)); refine h' _ ?_; clear h' K') | (refine AWp.sreg  dd13 rfl (fun gs K hgs hK => ?_); clear hgs) | refine AWp.seq ?_ | refine ARounds.step ?_ | refine AWp.block ?_ | refine AWp.label ?_ | (refine AWp.ret ?_; try simp only [aThen, aBlock]) | (refine AWp.skip ?_; try simp only [aThen, aBlock]) | (refine AWp.exit ?_; try simp only [aThen, aBlock, Nat.reduceEqDiff, reduceIte]) | (refine AWp.reg  dd13 rfl (fun gs K hgs hK => ?_); clear hgs) | (refine AWp.cond rfl (fun h => ?_) (fun h => ?_) <;> (try simp only [decide_eq_true_eq, decide_eq_false_iff_not, beq_iff_eq, bne_iff_ne, ne_eq, Bool.not_eq_true', Bool.not_eq_false', beq_eq_false_iff_ne, Bool.true_eq_false, Bool.false_eq_true, Int.not_le, Int.not_lt, Bool.and_eq_true, Bool.and_eq_false_iff, Bool.or_eq_true, Bool.or_eq_false_iff, bne_eq_false_iff_eq, reduceCtorEq] at h) <;> (try first | contradiction | (exfalso; omega) | (exfalso; revert h; simp; done) | (exfalso; revert h; simp; omega)))))
  refine AWp.loopR 5 ?_
  repeat (any_goals (first | (refine aops_cons (fun K' h' => ?_); simp only [go_sem, Nat.reduceLT, Nat.reduceLeDiff, Nat.reduceEqDiff, reduceIte, Nat.reduceAdd, Nat.reduceMul, Nat.reduceSub, Int.reduceLT, Int.reduceLE, Int.reduceToNat, Int.reduceNeg, reduceCtorEq, Option.toArray_none, Option.toArray_some, List.toList_toArray, Int.reduceAdd, Int.zero_add]; (try simp (disch := omega) only [wrap_id, getD_map_in, Int.toNat_natCast, Option.toArray_none, Option.toArray_some, List.toList_toArray, Int.reduceAdd, Int.zero_add]); (repeat (refine And.intro (by (first | omega | (simp; done) | (simp; omega) | assumption)) ?_)); refine h' _ ?_; clear h' K') | (refine aops_nil (hK _ ?_); clear hK K gs; try simp only [aThen, aBlock]) | ((first | refine aops_cons (fun K' h' => ?_) | refine aopsD_cons (fun K' h' => ?_)); simp only [go_sem, Nat.reduceLT, Nat.reduceLeDiff, Nat.reduceEqDiff, reduceIte, Nat.reduceAdd, Nat.reduceMul, Nat.reduceSub, Int.reduceLT, Int.reduceLE, Int.reduceToNat, Int.reduceNeg, reduceCtorEq, Option.toArray_none, Option.toArray_some, List.toList_toArray, Int.reduceAdd, Int.zero_add]; (first | refine ⟨_, hN0, ?_⟩ | refine ⟨_, fun _ => hN0, ?_⟩ | refine ⟨_, hN1, ?_⟩ | refine ⟨_, fun _ => hN1, ?_⟩ | refine ⟨_, hN2, ?_⟩ | refine ⟨_, fun _ => hN2, ?_⟩ | refine ⟨_, hN3, ?_⟩ | refine ⟨_, fun _ => hN3, ?_⟩); (try simp only [go_sem, Nat.reduceLT, Nat.reduceLeDiff, Nat.reduceEqDiff, reduceIte, Nat.reduceAdd, Nat.reduceMul, Nat.reduceSub, Int.reduceLT, Int.reduceLE, Int.reduceToNat, Int.reduceNeg, reduceCtorEq, Option.toArray_none, Option.toArray_some, List.toList_toArray, Int.reduceAdd, Int.zero_add]); (repeat (refine And.intro (by (first | omega | (simp; done) | (simp; omega) | assumption)) ?_)); refine h' _ ?_; clear h' K') | (refine AWp.sreg  dd13 rfl (fun gs K hgs hK => ?_); clear hgs) | refine AWp.seq ?_ | refine ARounds.step ?_ | refine AWp.block ?_ | refine AWp.label ?_ | (refine AWp.ret ?_; try simp only [aThen, aBlock]) | (refine AWp.skip ?_; try simp only [aThen, aBlock]) | (refine AWp.exit ?_; try simp only [aThen, aBlock, Nat.reduceEqDiff, reduceIte]) | (refine AWp.reg  dd13 rfl (fun gs K hgs hK => ?_); clear hgs) | (refine AWp.cond rfl (fun h => ?_) (fun h => ?_) <;> (try simp only [decide_eq_true_eq, decide_eq_false_iff_not, beq_iff_eq, bne_iff_ne, ne_eq, Bool.not_eq_true', Bool.not_eq_false', beq_eq_false_iff_ne, Bool.true_eq_false, Bool.false_eq_true, Int.not_le, Int.not_lt, Bool.and_eq_true, Bool.and_eq_false_iff, Bool.or_eq_true, Bool.or_eq_false_iff, bne_eq_false_iff_eq, reduceCtorEq] at h) <;> (try first | contradiction | (exfalso; omega) | (exfalso; revert h; simp; done) | (exfalso; revert h; simp; omega)))))
  all_goals simp only [Out, outA, outL, resA, go_sem, Nat.reduceLT, Nat.reduceLeDiff, Nat.reduceEqDiff, reduceIte, Nat.reduceAdd, Nat.reduceMul, Nat.reduceSub, Int.reduceLT, Int.reduceLE, Int.reduceToNat, Int.reduceNeg, reduceCtorEq]
  all_goals exact AVle.of_eq (by simp [*])
end Go.Proofs.Ytihlofhnhkhnaaa
