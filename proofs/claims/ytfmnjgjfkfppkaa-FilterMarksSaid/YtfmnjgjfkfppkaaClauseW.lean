/-
  The walks over windows, names and sources: of the program and of the reference.
-/
import Derived.Test.YtfmnjgjfkfppkaaFacts
import Derived.Test.YtfmnjgjfkfppkaaAbsS
import Derived.Test.YtfmnjgjfkfppkaaAbsM
import Derived.Test.YtfmnjgjfkfppkaaClauseM
namespace Go.Proofs.Ytfmnjgjfkfppkaa
open Go.AL Go.RowKit
set_option linter.unusedSimpArgs false
set_option linter.unusedVariables false
set_option maxRecDepth 10000
set_option maxHeartbeats 4000000

def dd62 : Nat → List (List Nat)
  | 0 => [[], [0], [2]]
  | 1 => [[], [], [3], [4], [5], [], [7], [8], [6, 9]]
  | 2 => [[1, 10], []]
  | 3 => [[10], [], [11]]
  | 4 => [[], [], [14]]
  | 5 => [[13], [], [16]]
  | 6 => [[15], [12], [18]]
  | 7 => [[12, 13], [], [19], [20], [21], [], [23], [], [25], [24, 26], [22, 27], [28], [], [30], [1], [32], [33], [31, 34], [29, 35]]
  | 8 => [[36], []]
  | 9 => [[12, 15, 17], [1], [37], [38]]
  | 10 => [[39], []]
  | 11 => [[1, 17, 36, 39], []]
  | _ => []
theorem window_c (w : Win) : ACall Try.prog 62 [.agg w.cells] (.lit (.int .i64 (winE w))) := by
  obtain ⟨kd, sz, ev⟩ := w
  unfold Win.cells winE
  refine acall_of (n := 40) (rs := [.tmp 2]) Try.func62 rfl (by kernel_rfl) rfl rfl rfl ?_; simp only [argsE, Nat.reduceAdd]
  repeat (any_goals (first | (refine aops_cons (fun K' h' => ?_); simp only [go_sem, Nat.reduceLT, Nat.reduceLeDiff, Nat.reduceEqDiff, reduceIte, Nat.reduceAdd, Nat.reduceMul, Nat.reduceSub, Int.reduceLT, Int.reduceLE, Int.reduceToNat, Int.reduceNeg, reduceCtorEq, hgs]; (try simp (disch := omega) only [wrap_id, getD_map_in, Int.toNat_natCast]); (repeat (refine And.intro (by (first | omega | (simp; done) | (simp; omega) | assumption)) ?_)); refine h' _ ?_; clear h' K') | (refine aops_nil (hK _ ?_); clear hK K hgs gs; try simp only [aThen, aBlock]) | ((first | refine AWp.sreg (id := 1) dd62 rfl (fun gs K hgs hK => ?_) | refine AWp.reg (id := 1) dd62 rfl (fun gs K hgs hK => ?_)); replace hgs : gs 3 = some 6 := hgs 3) | ((first | refine AWp.sreg (id := 7) dd62 rfl (fun gs K hgs hK => ?_) | refine AWp.reg (id := 7) dd62 rfl (fun gs K hgs hK => ?_)); replace hgs : gs 3 = some 22 ∧ gs 10 = some 29 := ⟨hgs 3, hgs 10⟩) | (refine AWp.sreg  dd62 rfl (fun gs K hgs hK => ?_); replace hgs : Nat.succ 0 = 1 := rfl) | refine AWp.seq ?_ | refine ARounds.step ?_ | refine AWp.block ?_ | refine AWp.label ?_ | (refine AWp.ret ?_; try simp only [aThen, aBlock]) | (refine AWp.skip ?_; try simp only [aThen, aBlock]) | (refine AWp.exit ?_; try simp only [aThen, aBlock, Nat.reduceEqDiff, reduceIte]) | (refine AWp.reg  dd62 rfl (fun gs K hgs hK => ?_); replace hgs : Nat.succ 0 = 1 := rfl) | (refine aops_consG (fun K' h' => ?_); simp only [go_sem, Nat.reduceLT, Nat.reduceLeDiff, Nat.reduceEqDiff, reduceIte, Nat.reduceAdd, Nat.reduceMul, Nat.reduceSub, Int.reduceLT, Int.reduceLE, Int.reduceToNat, Int.reduceNeg, reduceCtorEq, hgs]; (try simp (disch := omega) only [wrap_id, getD_map_in, Int.toNat_natCast]); (repeat (refine And.intro (by (first | omega | (simp; done) | (simp; omega) | assumption)) ?_)); refine h' _ ?_; clear h' K') | (refine AWp.cond rfl (fun h => ?_) (fun h => ?_) <;> (try simp only [decide_eq_true_eq, decide_eq_false_iff_not, beq_iff_eq, bne_iff_ne, ne_eq, Bool.not_eq_true', Bool.not_eq_false', beq_eq_false_iff_ne, Bool.true_eq_false, Bool.false_eq_true, Int.not_le, Int.not_lt, Bool.and_eq_true, Bool.and_eq_false_iff, Bool.or_eq_true, Bool.or_eq_false_iff, bne_eq_false_iff_eq, reduceCtorEq] at h) <;> (try first | contradiction | (exfalso; omega) | (exfalso; revert h; simp; done) | (exfalso; revert h; simp; omega)))))
  all_goals simp only [Out, outA, outL, resA, go_sem, Nat.reduceLT, Nat.reduceLeDiff, Nat.reduceEqDiff, reduceIte, Nat.reduceAdd, Nat.reduceMul, Nat.reduceSub, Int.reduceLT, Int.reduceLE, Int.reduceToNat, Int.reduceNeg, reduceCtorEq]
  all_goals refine AVle.of_eq (congrArg (fun n => AV.lit (.int .i64 n)) ?_)
  all_goals (try simp only [IntKind.wrap_i64] at *)
  all_goals first
    | (rw [if_pos (show winP _ by unfold winP; simp only; omega)]; done)
    | (rw [if_neg (show ¬ winP _ by unfold winP; simp only; omega)]; done)

def dd43 : Nat → List (List Nat)
  | 0 => [[], [0], [2]]
  | 1 => [[], [], [3], [4], [5], [], [7], [8], [6, 9]]
  | 2 => [[1, 10], []]
  | 3 => [[10], [], [11], [12]]
  | 4 => [[13], [], [14], [15], [16], [], [18], [], [20], [19, 21], [17, 22], [23], [], [25], [1], [27], [28], [26, 29], [24, 30], [31]]
  | 5 => [[13], [], [32], [33], [34], [], [36], [37], [35, 38], [39], [1], [41], [42], [40, 43], [44]]
  | _ => []
theorem fits_c (w : Win) : ACall Try.prog 43 [.agg w.cells] (.lit (.bool (decide (winP w)))) := by
  obtain ⟨kd, sz, ev⟩ := w
  unfold Win.cells
  refine acall_of (n := 45) (rs := [.tmp 2]) Try.func43 rfl (by kernel_rfl) rfl rfl rfl ?_; simp only [argsE, Nat.reduceAdd]
  repeat (any_goals (first | (refine aops_cons (fun K' h' => ?_); simp only [go_sem, Nat.reduceLT, Nat.reduceLeDiff, Nat.reduceEqDiff, reduceIte, Nat.reduceAdd, Nat.reduceMul, Nat.reduceSub, Int.reduceLT, Int.reduceLE, Int.reduceToNat, Int.reduceNeg, reduceCtorEq, hgs]; (try simp (disch := omega) only [wrap_id, getD_map_in, Int.toNat_natCast]); (repeat (refine And.intro (by (first | omega | (simp; done) | (simp; omega) | assumption)) ?_)); refine h' _ ?_; clear h' K') | (refine aops_nil (hK _ ?_); clear hK K hgs gs; try simp only [aThen, aBlock]) | ((first | refine AWp.sreg (id := 1) dd43 rfl (fun gs K hgs hK => ?_) | refine AWp.reg (id := 1) dd43 rfl (fun gs K hgs hK => ?_)); replace hgs : gs 3 = some 6 := hgs 3) | ((first | refine AWp.sreg (id := 4) dd43 rfl (fun gs K hgs hK => ?_) | refine AWp.reg (id := 4) dd43 rfl (fun gs K hgs hK => ?_)); replace hgs : gs 3 = some 17 ∧ gs 10 = some 24 := ⟨hgs 3, hgs 10⟩) | ((first | refine AWp.sreg (id := 5) dd43 rfl (fun gs K hgs hK => ?_) | refine AWp.reg (id := 5) dd43 rfl (fun gs K hgs hK => ?_)); replace hgs : gs 3 = some 35 ∧ gs 8 = some 40 := ⟨hgs 3, hgs 8⟩) | (refine AWp.sreg  dd43 rfl (fun gs K hgs hK => ?_); replace hgs : Nat.succ 0 = 1 := rfl) | refine AWp.seq ?_ | refine ARounds.step ?_ | refine AWp.block ?_ | refine AWp.label ?_ | (refine AWp.ret ?_; try simp only [aThen, aBlock]) | (refine AWp.skip ?_; try simp only [aThen, aBlock]) | (refine AWp.exit ?_; try simp only [aThen, aBlock, Nat.reduceEqDiff, reduceIte]) | (refine AWp.reg  dd43 rfl (fun gs K hgs hK => ?_); replace hgs : Nat.succ 0 = 1 := rfl) | (refine aops_consG (fun K' h' => ?_); simp only [go_sem, Nat.reduceLT, Nat.reduceLeDiff, Nat.reduceEqDiff, reduceIte, Nat.reduceAdd, Nat.reduceMul, Nat.reduceSub, Int.reduceLT, Int.reduceLE, Int.reduceToNat, Int.reduceNeg, reduceCtorEq, hgs]; (try simp (disch := omega) only [wrap_id, getD_map_in, Int.toNat_natCast]); (repeat (refine And.intro (by (first | omega | (simp; done) | (simp; omega) | assumption)) ?_)); refine h' _ ?_; clear h' K') | (refine AWp.cond rfl (fun h => ?_) (fun h => ?_) <;> (try simp only [decide_eq_true_eq, decide_eq_false_iff_not, beq_iff_eq, bne_iff_ne, ne_eq, Bool.not_eq_true', Bool.not_eq_false', beq_eq_false_iff_ne, Bool.true_eq_false, Bool.false_eq_true, Int.not_le, Int.not_lt, Bool.and_eq_true, Bool.and_eq_false_iff, Bool.or_eq_true, Bool.or_eq_false_iff, bne_eq_false_iff_eq, reduceCtorEq] at h) <;> (try first | contradiction | (exfalso; omega) | (exfalso; revert h; simp; done) | (exfalso; revert h; simp; omega)))))
  all_goals simp only [Out, outA, outL, resA, go_sem, Nat.reduceLT, Nat.reduceLeDiff, Nat.reduceEqDiff, reduceIte, Nat.reduceAdd, Nat.reduceMul, Nat.reduceSub, Int.reduceLT, Int.reduceLE, Int.reduceToNat, Int.reduceNeg, reduceCtorEq]
  all_goals refine AVle.of_eq (congrArg (fun b => AV.lit (.bool b)) ?_)
  all_goals (try simp only [IntKind.wrap_i64])
  · rw [decide_eq_false (show ¬ winP _ by unfold winP; simp only; omega)]
  · rw [Bool.eq_iff_iff]
    simp only [Bool.and_eq_true, decide_eq_true_eq]
    unfold winP
    simp only
    omega
  · rw [Bool.eq_iff_iff]
    simp only [Bool.and_eq_true, Bool.or_eq_true, beq_iff_eq, decide_eq_true_eq]
    unfold winP
    simp only
    omega

def nameB (i : Nat) : ByteArray := (⟨#[97, 98, 99, 100]⟩ : ByteArray).extract i (i + 1)
theorem nameB_0 : nameB 0 = ⟨#[97]⟩ := by decide
theorem nameB_1 : nameB 1 = ⟨#[98]⟩ := by decide
theorem nameB_2 : nameB 2 = ⟨#[99]⟩ := by decide
theorem nameB_3 : nameB 3 = ⟨#[100]⟩ := by decide

def srcN (s : ByteArray) : Int := if (nameB 0 == s) = true then 0 else if (nameB 1 == s) = true then 1 else if (nameB 2 == s) = true then 2 else if (nameB 3 == s) = true then 3 else 0
def srcX (s : ByteArray) : Int := if (nameB 0 == s) = true then 0 else if (nameB 1 == s) = true then 0 else if (nameB 2 == s) = true then 0 else if (nameB 3 == s) = true then 0 else 2

end Go.Proofs.Ytfmnjgjfkfppkaa
