/-
  The walks over windows, names and sources: of the program and of the reference.
-/
import Derived.Test.YteohklfoggiojaaFacts
import Derived.Test.YteohklfoggiojaaAbsS
import Derived.Test.YteohklfoggiojaaAbsM
import Derived.Test.YteohklfoggiojaaClauseM
namespace Go.Proofs.Yteohklfoggiojaa
open Go.AL Go.RowKit
set_option linter.unusedSimpArgs false
set_option linter.unusedVariables false
set_option maxRecDepth 10000
set_option maxHeartbeats 4000000
def dd87 : Nat → List (List Nat)
  | 0 => [[], [0], [2]]
  | 1 => [[], [], [3], [4], [5], [], [7], [8], [6, 9]]
  | 2 => [[1, 10], []]
  | 3 => [[10], [], [11]]
  | 4 => [[], [], [14]]
  | 5 => [[13], [], [16]]
  | 6 => [[15], [12], [18]]
  | 7 => [[12, 13], [], [19], [20], [21], [], [23], [], [25], [24, 26], [22, 27], [28], [], [30], [1], [32], [33], [31, 34], [29, 35]]
  | 8 => [[36], []]
  | 9 => [[12, 15, 17], [1], [37], [38]]
  | 10 => [[39], []]
  | 11 => [[1, 17, 36, 39], []]
  | _ => []
theorem window_c (w : Win) : ACall Try.prog 87 [.agg w.cells] (.lit (.int .i64 (winE w))) := by
  obtain ⟨kd, sz, ev⟩ := w
  unfold Win.cells winE
  refine acall_of (n := 40) (rs := [.tmp 2]) Try.func87 rfl (by kernel_rfl) rfl rfl rfl ?_; simp only [argsE, Nat.reduceAdd]
  repeat (any_goals (first | (refine aops_cons (fun K' h' => ?_); simp only [go_sem, simprocAttr, hgs]; (try simp (disch := omega) only [wrap_id, getD_map_in, Int.toNat_natCast]); (repeat (refine And.intro (by (first | omega | (simp; done) | (simp; omega) | assumption)) ?_)); refine h' _ ?_; clear h' K') | (refine aops_nil (hK _ ?_); clear hK K hgs gs; try simp only [aThen, aBlock]) | ((first | refine AWp.sreg (id := 1) dd87 rfl (fun gs K hgs hK => ?_) | refine AWp.reg (id := 1) dd87 rfl (fun gs K hgs hK => ?_)); replace hgs : gs 3 = some 6 := hgs 3) | ((first | refine AWp.sreg (id := 7) dd87 rfl (fun gs K hgs hK => ?_) | refine AWp.reg (id := 7) dd87 rfl (fun gs K hgs hK => ?_)); replace hgs : gs 3 = some 22 ∧ gs 10 = some 29 := ⟨hgs 3, hgs 10⟩) | (refine AWp.sreg  dd87 rfl (fun gs K hgs hK => ?_); replace hgs : Nat.succ 0 = 1 := rfl) | refine AWp.seq ?_ | refine ARounds.step ?_ | refine AWp.block ?_ | refine AWp.label ?_ | (refine AWp.ret ?_; try simp only [aThen, aBlock]) | (refine AWp.skip ?_; try simp only [aThen, aBlock]) | (refine AWp.exit ?_; try simp only [aThen, aBlock, Nat.reduceEqDiff, reduceIte]) | (refine AWp.reg  dd87 rfl (fun gs K hgs hK => ?_); replace hgs : Nat.succ 0 = 1 := rfl) | (refine aops_consG (fun K' h' => ?_); simp only [go_sem, simprocAttr, hgs]; (try simp (disch := omega) only [wrap_id, getD_map_in, Int.toNat_natCast]); (repeat (refine And.intro (by (first | omega | (simp; done) | (simp; omega) | assumption)) ?_)); refine h' _ ?_; clear h' K') | (refine AWp.cond rfl (fun h => ?_) (fun h => ?_) <;> (try simp only [decide_eq_true_eq, decide_eq_false_iff_not, beq_iff_eq, bne_iff_ne, ne_eq, Bool.not_eq_true', Bool.not_eq_false', beq_eq_false_iff_ne, Bool.true_eq_false, Bool.false_eq_true, Int.not_le, Int.not_lt, Bool.and_eq_true, Bool.and_eq_false_iff, Bool.or_eq_true, Bool.or_eq_false_iff, bne_eq_false_iff_eq, reduceCtorEq] at h) <;> (try first | contradiction | (exfalso; omega) | (exfalso; revert h; simp; done) | (exfalso; revert h; simp; omega)))))
  all_goals simp only [Out, outA, outL, resA, go_sem, simprocAttr]
  all_goals refine AVle.of_eq (congrArg (fun n => AV.lit (.int .i64 n)) ?_)
  all_goals (try simp only [IntKind.wrap_i64] at *)
  all_goals first
    | (rw [if_pos (show winP _ by unfold winP; simp only; omega)]; done)
    | (rw [if_neg (show ¬ winP _ by unfold winP; simp only; omega)]; done)
def dd84 : Nat → List (List Nat)
  | 0 => [[], [0], [2]]
  | 1 => [[], [], [3], [4], [5], [], [7], [8], [6, 9]]
  | 2 => [[1, 10], []]
  | 3 => [[10], [], [11], [12]]
  | 4 => [[13], [], [14], [15], [16], [], [18], [], [20], [19, 21], [17, 22], [23], [], [25], [1], [27], [28], [26, 29], [24, 30], [31]]
  | 5 => [[13], [], [32], [33], [34], [], [36], [37], [35, 38], [39], [1], [41], [42], [40, 43], [44]]
  | _ => []
theorem fits_c (w : Win) : ACall Try.prog 84 [.agg w.cells] (.lit (.bool (decide (winP w)))) := by
  obtain ⟨kd, sz, ev⟩ := w
  unfold Win.cells
  refine acall_of (n := 45) (rs := [.tmp 2]) Try.func84 rfl (by kernel_rfl) rfl rfl rfl ?_; simp only [argsE, Nat.reduceAdd]
  repeat (any_goals (first | (refine aops_cons (fun K' h' => ?_); simp only [go_sem, simprocAttr, hgs]; (try simp (disch := omega) only [wrap_id, getD_map_in, Int.toNat_natCast]); (repeat (refine And.intro (by (first | omega | (simp; done) | (simp; omega) | assumption)) ?_)); refine h' _ ?_; clear h' K') | (refine aops_nil (hK _ ?_); clear hK K hgs gs; try simp only [aThen, aBlock]) | ((first | refine AWp.sreg (id := 1) dd84 rfl (fun gs K hgs hK => ?_) | refine AWp.reg (id := 1) dd84 rfl (fun gs K hgs hK => ?_)); replace hgs : gs 3 = some 6 := hgs 3) | ((first | refine AWp.sreg (id := 4) dd84 rfl (fun gs K hgs hK => ?_) | refine AWp.reg (id := 4) dd84 rfl (fun gs K hgs hK => ?_)); replace hgs : gs 3 = some 17 ∧ gs 10 = some 24 := ⟨hgs 3, hgs 10⟩) | ((first | refine AWp.sreg (id := 5) dd84 rfl (fun gs K hgs hK => ?_) | refine AWp.reg (id := 5) dd84 rfl (fun gs K hgs hK => ?_)); replace hgs : gs 3 = some 35 ∧ gs 8 = some 40 := ⟨hgs 3, hgs 8⟩) | (refine AWp.sreg  dd84 rfl (fun gs K hgs hK => ?_); replace hgs : Nat.succ 0 = 1 := rfl) | refine AWp.seq ?_ | refine ARounds.step ?_ | refine AWp.block ?_ | refine AWp.label ?_ | (refine AWp.ret ?_; try simp only [aThen, aBlock]) | (refine AWp.skip ?_; try simp only [aThen, aBlock]) | (refine AWp.exit ?_; try simp only [aThen, aBlock, Nat.reduceEqDiff, reduceIte]) | (refine AWp.reg  dd84 rfl (fun gs K hgs hK => ?_); replace hgs : Nat.succ 0 = 1 := rfl) | (refine aops_consG (fun K' h' => ?_); simp only [go_sem, simprocAttr, hgs]; (try simp (disch := omega) only [wrap_id, getD_map_in, Int.toNat_natCast]); (repeat (refine And.intro (by (first | omega | (simp; done) | (simp; omega) | assumption)) ?_)); refine h' _ ?_; clear h' K') | (refine AWp.cond rfl (fun h => ?_) (fun h => ?_) <;> (try simp only [decide_eq_true_eq, decide_eq_false_iff_not, beq_iff_eq, bne_iff_ne, ne_eq, Bool.not_eq_true', Bool.not_eq_false', beq_eq_false_iff_ne, Bool.true_eq_false, Bool.false_eq_true, Int.not_le, Int.not_lt, Bool.and_eq_true, Bool.and_eq_false_iff, Bool.or_eq_true, Bool.or_eq_false_iff, bne_eq_false_iff_eq, reduceCtorEq] at h) <;> (try first | contradiction | (exfalso; omega) | (exfalso; revert h; simp; done) | (exfalso; revert h; simp; omega)))))
  all_goals simp only [Out, outA, outL, resA, go_sem, simprocAttr]
  all_goals refine AVle.of_eq (congrArg (fun b => AV.lit (.bool b)) ?_)
  all_goals (try simp only [IntKind.wrap_i64])
  · rw [decide_eq_false (show ¬ winP _ by unfold winP; simp only; omega)]
  · rw [Bool.eq_iff_iff]
    simp only [Bool.and_eq_true, decide_eq_true_eq]
    unfold winP
    simp only
    omega
  · rw [Bool.eq_iff_iff]
    simp only [Bool.and_eq_true, Bool.or_eq_true, beq_iff_eq, decide_eq_true_eq]
    unfold winP
    simp only
    omega
end Go.Proofs.Yteohklfoggiojaa
