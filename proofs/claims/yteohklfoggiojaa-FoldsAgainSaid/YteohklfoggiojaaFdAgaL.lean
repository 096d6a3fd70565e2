/-
  The law FoldsAgain.
-/
import Derived.Test.YteohklfoggiojaaFdH
namespace Go.Proofs.Yteohklfoggiojaa
open Go.AL Go.RowKit
set_option linter.unusedSimpArgs false
set_option linter.unusedVariables false
set_option maxRecDepth 10000
set_option maxHeartbeats 8000000
def dd7 : Nat → List (List Nat)
  | 0 => [[], [2]]
  | 1 => [[], [], [14]]
  | 2 => [[0, 15], [], [16]]
  | 3 => [[15], [], [18], [19], [], [], [17], [3, 20], [4, 21], [22]]
  | 4 => [[], [5], [23]]
  | 5 => [[0, 24], [], [25]]
  | 6 => [[24], [], [27], [28], [], [26], [29], [30]]
  | 7 => [[], [], [32], [33], [], [31], [34], [35]]
  | 8 => [[], [], [37], [38], [], [36], [39], [40]]
  | 9 => [[], [], [42], [43], [], [41], [44], [45]]
  | 10 => [[], [7], [46], [47], [9], [49], [48, 50], [51], [11], [53], [52, 54], [55], [13], [57], [56, 58], [59], [], [8], [61, 62], [60, 63], [64], [6], [66], [0], [68], [67, 69], [65, 70], [71], [12], [10], [73, 74], [72, 75], [76], [], [77, 78], [79]]
  | _ => []
theorem fdagain_law (l : List Node) (hl : l.length ≤ maxLen) (hn : nodesB l) : ACall Try.prog 7 [nodesV l] (.lit (.bool true)) := by
  have hGr := great_c l
  unfold maxLen at hl
  by_cases hg : l.length ≤ 70
  · rw [decide_eq_false (by omega)] at hGr
    have hO6 := rOf_c l (by omega)
    by_cases h0 : ofE l = 0
    · obtain ⟨e, H⟩ := fld_of h0 hn
      have hF := fold_c l (by omega) hn
      have hxl : (fldR l).length ≤ l.length := by rw [H.out_len, H.len]; exact H.same.sz
      have hF2 := fold_c (fldR l) (by omega) H.out_B
      rw [H.again, H.out_ty] at hF2
      have hEq := rEqual_c (fldR l) (fldR l) (by omega) (by omega)
      rw [decide_eq_true rfl] at hEq
      have hD1 := nDepth_ok (by omega) (ofE_0 h0).1 H.tree
      have hD2 := nDepth_ok (l := fldR l) (e := foldE e) (by omega) (ofE_0 H.out_ty).1 (by rw [H.out]; exact treeO_fl H.same.wf)
      have hdp := H.same.dp
      rw [h0] at *
      clear H h0
      generalize ofB l = b at *
      generalize ofN l = n at *
      generalize fldR l = x at *
      generalize (foldE e).dp = d2 at *
      generalize e.dp = d1 at *
      have hd : decide (((d2 : Nat) : Int) ≤ ((d1 : Nat) : Int)) = true := decide_eq_true (by omega)
      have hx : decide (((x.length : Nat) : Int) ≤ ((l.length : Nat) : Int)) = true := decide_eq_true (by omega)
      unfold nodesV at *
      refine acall_of (n := 80) (rs := [.tmp 2]) Try.func7 rfl (by kernel_rfl) rfl rfl rfl ?_; simp only [argsE, Nat.reduceAdd]
      repeat (any_goals (first | (refine aops_cons (fun K' h' => ?_); simp only [go_sem, Nat.reduceLT, Nat.reduceLeDiff, Nat.reduceEqDiff, reduceIte, Nat.reduceAdd, Nat.reduceMul, Nat.reduceSub, Int.reduceLT, Int.reduceLE, Int.reduceToNat, Int.reduceNeg, reduceCtorEq, hgs, Node.cells, aopG, beq_self_eq_true, hd, hx]; (try ((first | refine ⟨_, hGr, ?_⟩ | refine ⟨_, fun _ => hGr, ?_⟩ | refine ⟨_, hEq, ?_⟩ | refine ⟨_, fun _ => hEq, ?_⟩ | refine ⟨_, hO6, ?_⟩ | refine ⟨_, fun _ => hO6, ?_⟩ | refine ⟨_, hF, ?_⟩ | refine ⟨_, fun _ => hF, ?_⟩ | refine ⟨_, hF2, ?_⟩ | refine ⟨_, fun _ => hF2, ?_⟩ | refine ⟨_, hD1, ?_⟩ | refine ⟨_, fun _ => hD1, ?_⟩ | refine ⟨_, hD2, ?_⟩ | refine ⟨_, fun _ => hD2, ?_⟩ | refine ⟨_, alive12_c, ?_⟩ | refine ⟨_, fun _ => alive12_c, ?_⟩); (try simp only [go_sem, Nat.reduceLT, Nat.reduceLeDiff, Nat.reduceEqDiff, reduceIte, Nat.reduceAdd, Nat.reduceMul, Nat.reduceSub, Int.reduceLT, Int.reduceLE, Int.reduceToNat, Int.reduceNeg, reduceCtorEq, hgs, Node.cells, aopG, beq_self_eq_true, hd, hx]))); (try simp (disch := omega) only [wrap_id, getD_map_in, Int.toNat_natCast, Node.cells, aopG, beq_self_eq_true, hd, hx]); (repeat (refine And.intro (by (first | omega | (simp; done) | (simp; omega) | assumption)) ?_)); refine h' _ ?_; clear h' K') | (refine aops_nil (hK _ ?_); clear hK K hgs gs; try simp only [aThen, aBlock]) | ((first | refine AWp.sreg (id := 10) dd7 rfl (fun gs K hgs hK => ?_) | refine AWp.reg (id := 10) dd7 rfl (fun gs K hgs hK => ?_)); replace hgs : gs 2 = some 48 ∧ gs 6 = some 52 ∧ gs 10 = some 56 ∧ gs 14 = some 60 ∧ gs 19 = some 65 ∧ gs 26 = some 72 ∧ gs 31 = some 77 := ⟨hgs 2, hgs 6, hgs 10, hgs 14, hgs 19, hgs 26, hgs 31⟩) | (refine AWp.sreg  dd7 rfl (fun gs K hgs hK => ?_); replace hgs : Nat.succ 0 = 1 := rfl) | refine AWp.seq ?_ | refine ARounds.step ?_ | refine AWp.block ?_ | refine AWp.label ?_ | (refine AWp.ret ?_; try simp only [aThen, aBlock]) | (refine AWp.skip ?_; try simp only [aThen, aBlock]) | (refine AWp.exit ?_; try simp only [aThen, aBlock, Nat.reduceEqDiff, reduceIte]) | (refine AWp.reg  dd7 rfl (fun gs K hgs hK => ?_); replace hgs : Nat.succ 0 = 1 := rfl) | (refine AWp.cond rfl (fun h => ?_) (fun h => ?_) <;> (try simp only [decide_eq_true_eq, decide_eq_false_iff_not, beq_iff_eq, bne_iff_ne, ne_eq, Bool.not_eq_true', Bool.not_eq_false', beq_eq_false_iff_ne, Bool.true_eq_false, Bool.false_eq_true, Int.not_le, Int.not_lt, Bool.and_eq_true, Bool.and_eq_false_iff, Bool.or_eq_true, Bool.or_eq_false_iff, bne_eq_false_iff_eq, reduceCtorEq] at h) <;> (try first | contradiction | (exfalso; omega) | (exfalso; revert h; simp; done) | (exfalso; revert h; simp; omega)))))
      all_goals simp only [Out, outA, outL, resA, go_sem, Nat.reduceLT, Nat.reduceLeDiff, Nat.reduceEqDiff, reduceIte, Nat.reduceAdd, Nat.reduceMul, Nat.reduceSub, Int.reduceLT, Int.reduceLE, Int.reduceToNat, Int.reduceNeg, reduceCtorEq]
      all_goals exact AVle.of_eq (by simp [hd, hx])
    · clear hn
      generalize ofE l = oe at *
      generalize ofB l = b at *
      generalize ofN l = n at *
      unfold nodesV at *
      refine acall_of (n := 80) (rs := [.tmp 2]) Try.func7 rfl (by kernel_rfl) rfl rfl rfl ?_; simp only [argsE, Nat.reduceAdd]
      repeat (any_goals (first | (refine aops_cons (fun K' h' => ?_); simp only [go_sem, Nat.reduceLT, Nat.reduceLeDiff, Nat.reduceEqDiff, reduceIte, Nat.reduceAdd, Nat.reduceMul, Nat.reduceSub, Int.reduceLT, Int.reduceLE, Int.reduceToNat, Int.reduceNeg, reduceCtorEq, hgs, Node.cells, aopG, beq_self_eq_true]; (try ((first | refine ⟨_, hGr, ?_⟩ | refine ⟨_, fun _ => hGr, ?_⟩ | refine ⟨_, hEq, ?_⟩ | refine ⟨_, fun _ => hEq, ?_⟩ | refine ⟨_, hO6, ?_⟩ | refine ⟨_, fun _ => hO6, ?_⟩ | refine ⟨_, hF, ?_⟩ | refine ⟨_, fun _ => hF, ?_⟩ | refine ⟨_, hF2, ?_⟩ | refine ⟨_, fun _ => hF2, ?_⟩ | refine ⟨_, hD1, ?_⟩ | refine ⟨_, fun _ => hD1, ?_⟩ | refine ⟨_, hD2, ?_⟩ | refine ⟨_, fun _ => hD2, ?_⟩ | refine ⟨_, alive12_c, ?_⟩ | refine ⟨_, fun _ => alive12_c, ?_⟩); (try simp only [go_sem, Nat.reduceLT, Nat.reduceLeDiff, Nat.reduceEqDiff, reduceIte, Nat.reduceAdd, Nat.reduceMul, Nat.reduceSub, Int.reduceLT, Int.reduceLE, Int.reduceToNat, Int.reduceNeg, reduceCtorEq, hgs, Node.cells, aopG, beq_self_eq_true]))); (try simp (disch := omega) only [wrap_id, getD_map_in, Int.toNat_natCast, Node.cells, aopG, beq_self_eq_true]); (repeat (refine And.intro (by (first | omega | (simp; done) | (simp; omega) | assumption)) ?_)); refine h' _ ?_; clear h' K') | (refine aops_nil (hK _ ?_); clear hK K hgs gs; try simp only [aThen, aBlock]) | ((first | refine AWp.sreg (id := 10) dd7 rfl (fun gs K hgs hK => ?_) | refine AWp.reg (id := 10) dd7 rfl (fun gs K hgs hK => ?_)); replace hgs : gs 2 = some 48 ∧ gs 6 = some 52 ∧ gs 10 = some 56 ∧ gs 14 = some 60 ∧ gs 19 = some 65 ∧ gs 26 = some 72 ∧ gs 31 = some 77 := ⟨hgs 2, hgs 6, hgs 10, hgs 14, hgs 19, hgs 26, hgs 31⟩) | (refine AWp.sreg  dd7 rfl (fun gs K hgs hK => ?_); replace hgs : Nat.succ 0 = 1 := rfl) | refine AWp.seq ?_ | refine ARounds.step ?_ | refine AWp.block ?_ | refine AWp.label ?_ | (refine AWp.ret ?_; try simp only [aThen, aBlock]) | (refine AWp.skip ?_; try simp only [aThen, aBlock]) | (refine AWp.exit ?_; try simp only [aThen, aBlock, Nat.reduceEqDiff, reduceIte]) | (refine AWp.reg  dd7 rfl (fun gs K hgs hK => ?_); replace hgs : Nat.succ 0 = 1 := rfl) | (refine AWp.cond rfl (fun h => ?_) (fun h => ?_) <;> (try simp only [decide_eq_true_eq, decide_eq_false_iff_not, beq_iff_eq, bne_iff_ne, ne_eq, Bool.not_eq_true', Bool.not_eq_false', beq_eq_false_iff_ne, Bool.true_eq_false, Bool.false_eq_true, Int.not_le, Int.not_lt, Bool.and_eq_true, Bool.and_eq_false_iff, Bool.or_eq_true, Bool.or_eq_false_iff, bne_eq_false_iff_eq, reduceCtorEq] at h) <;> (try first | contradiction | (exfalso; omega) | (exfalso; revert h; simp; done) | (exfalso; revert h; simp; omega)))))
      all_goals simp only [Out, outA, outL, resA, go_sem, Nat.reduceLT, Nat.reduceLeDiff, Nat.reduceEqDiff, reduceIte, Nat.reduceAdd, Nat.reduceMul, Nat.reduceSub, Int.reduceLT, Int.reduceLE, Int.reduceToNat, Int.reduceNeg, reduceCtorEq]
      all_goals exact AVle.refl _
  · rw [decide_eq_true (by omega)] at hGr
    clear hn
    unfold nodesV at *
    refine acall_of (n := 80) (rs := [.tmp 2]) Try.func7 rfl (by kernel_rfl) rfl rfl rfl ?_; simp only [argsE, Nat.reduceAdd]
    repeat (any_goals (first | (refine aops_cons (fun K' h' => ?_); simp only [go_sem, Nat.reduceLT, Nat.reduceLeDiff, Nat.reduceEqDiff, reduceIte, Nat.reduceAdd, Nat.reduceMul, Nat.reduceSub, Int.reduceLT, Int.reduceLE, Int.reduceToNat, Int.reduceNeg, reduceCtorEq, hgs, Node.cells, aopG, beq_self_eq_true]; (try ((first | refine ⟨_, hGr, ?_⟩ | refine ⟨_, fun _ => hGr, ?_⟩ | refine ⟨_, hEq, ?_⟩ | refine ⟨_, fun _ => hEq, ?_⟩ | refine ⟨_, hO6, ?_⟩ | refine ⟨_, fun _ => hO6, ?_⟩ | refine ⟨_, hF, ?_⟩ | refine ⟨_, fun _ => hF, ?_⟩ | refine ⟨_, hF2, ?_⟩ | refine ⟨_, fun _ => hF2, ?_⟩ | refine ⟨_, hD1, ?_⟩ | refine ⟨_, fun _ => hD1, ?_⟩ | refine ⟨_, hD2, ?_⟩ | refine ⟨_, fun _ => hD2, ?_⟩ | refine ⟨_, alive12_c, ?_⟩ | refine ⟨_, fun _ => alive12_c, ?_⟩); (try simp only [go_sem, Nat.reduceLT, Nat.reduceLeDiff, Nat.reduceEqDiff, reduceIte, Nat.reduceAdd, Nat.reduceMul, Nat.reduceSub, Int.reduceLT, Int.reduceLE, Int.reduceToNat, Int.reduceNeg, reduceCtorEq, hgs, Node.cells, aopG, beq_self_eq_true]))); (try simp (disch := omega) only [wrap_id, getD_map_in, Int.toNat_natCast, Node.cells, aopG, beq_self_eq_true]); (repeat (refine And.intro (by (first | omega | (simp; done) | (simp; omega) | assumption)) ?_)); refine h' _ ?_; clear h' K') | (refine aops_nil (hK _ ?_); clear hK K hgs gs; try simp only [aThen, aBlock]) | ((first | refine AWp.sreg (id := 10) dd7 rfl (fun gs K hgs hK => ?_) | refine AWp.reg (id := 10) dd7 rfl (fun gs K hgs hK => ?_)); replace hgs : gs 2 = some 48 ∧ gs 6 = some 52 ∧ gs 10 = some 56 ∧ gs 14 = some 60 ∧ gs 19 = some 65 ∧ gs 26 = some 72 ∧ gs 31 = some 77 := ⟨hgs 2, hgs 6, hgs 10, hgs 14, hgs 19, hgs 26, hgs 31⟩) | (refine AWp.sreg  dd7 rfl (fun gs K hgs hK => ?_); replace hgs : Nat.succ 0 = 1 := rfl) | refine AWp.seq ?_ | refine ARounds.step ?_ | refine AWp.block ?_ | refine AWp.label ?_ | (refine AWp.ret ?_; try simp only [aThen, aBlock]) | (refine AWp.skip ?_; try simp only [aThen, aBlock]) | (refine AWp.exit ?_; try simp only [aThen, aBlock, Nat.reduceEqDiff, reduceIte]) | (refine AWp.reg  dd7 rfl (fun gs K hgs hK => ?_); replace hgs : Nat.succ 0 = 1 := rfl) | (refine AWp.cond rfl (fun h => ?_) (fun h => ?_) <;> (try simp only [decide_eq_true_eq, decide_eq_false_iff_not, beq_iff_eq, bne_iff_ne, ne_eq, Bool.not_eq_true', Bool.not_eq_false', beq_eq_false_iff_ne, Bool.true_eq_false, Bool.false_eq_true, Int.not_le, Int.not_lt, Bool.and_eq_true, Bool.and_eq_false_iff, Bool.or_eq_true, Bool.or_eq_false_iff, bne_eq_false_iff_eq, reduceCtorEq] at h) <;> (try first | contradiction | (exfalso; omega) | (exfalso; revert h; simp; done) | (exfalso; revert h; simp; omega)))))
    all_goals simp only [Out, outA, outL, resA, go_sem, Nat.reduceLT, Nat.reduceLeDiff, Nat.reduceEqDiff, reduceIte, Nat.reduceAdd, Nat.reduceMul, Nat.reduceSub, Int.reduceLT, Int.reduceLE, Int.reduceToNat, Int.reduceNeg, reduceCtorEq]
    all_goals exact AVle.refl _
theorem fdagain_all : ∀ xs, ShpAs Try.prog 8 Try.f7.params.toList xs → ACall Try.prog 7 xs (.lit (.bool true)) := by
  intro xs h
  have hp : Try.f7.params.toList = [22] := by kernel_rfl
  rw [hp] at h
  obtain ⟨a, r, rfl, ha, h⟩ := h
  obtain rfl : r = [] := h
  obtain ⟨l, rfl, hl, hn⟩ := nodesB_shape ha
  exact fdagain_law l hl hn
end Go.Proofs.Yteohklfoggiojaa
