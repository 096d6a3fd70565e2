/-
  The law FoldsTells.
-/
import Derived.Test.YteohklfoggiojaaFldE
import Derived.Test.YteohklfoggiojaaVShp
namespace Go.Proofs.Yteohklfoggiojaa
open Go.AL Go.RowKit
set_option linter.unusedSimpArgs false
set_option linter.unusedVariables false
set_option maxRecDepth 10000
set_option maxHeartbeats 8000000
theorem fldR_len (l : List Node) (hn : nodesB l) : (fldR l).length ≤ 100 := by
  by_cases h0 : ofE l = 0
  · obtain ⟨e, ht, hx, h2, h3, h4, h5⟩ := ofE_tree h0
    rw [fldR_ex h0 ht]
    have := (foldE_same hx.1 h4 (e.nB_of 0 (hx.2 ▸ hn))).sz
    rw [Ex.fl_length]
    omega
  · rw [show fldR l = [] from if_neg h0]
    simp
def dd3 : Nat → List (List Nat)
  | 0 => [[], [2]]
  | 1 => [[], [], [14]]
  | 2 => [[0, 15], []]
  | 3 => [[15], [], [], [16, 17], [18]]
  | 4 => [[], [], [20], [21], [], [19], [22], [23]]
  | 5 => [[], [], [25], [26], [], [24], [27], [28]]
  | 6 => [[], [], [30], [31], [], [], [29], [32], [33], [34]]
  | 7 => [[], [], [36], [37], [], [], [35], [38], [39], [40]]
  | 8 => [[], [4], [6], [41, 42], [43], [5], [7], [45, 46], [44, 47], [48], [8], [11], [50, 51], [49, 52], [53], [9], [12], [55, 56], [54, 57], [58], [10], [13], [60, 61], [59, 62], [63], [3], [0], [65, 66], [64, 67], [68]]
  | _ => []
theorem fdtells_law (l : List Node) (hl : l.length ≤ maxLen) (hn : nodesB l) : ACall Try.prog 3 [nodesV l] (.lit (.bool true)) := by
  have hGr := great_c l
  unfold maxLen at hl
  by_cases hg : l.length ≤ 70
  · rw [decide_eq_false (by omega)] at hGr
    have hF := fold_c l (by omega) hn
    have hFr := rFold_c l (by omega) hn
    have hV := value_c l (by omega) hn
    have hVr := rValue12_c l (by omega) hn
    have hfl := fldR_len l hn
    have hEq := rEqual_c (fldR l) (fldR l) (by omega) (by omega)
    rw [decide_eq_true rfl] at hEq
    have hEq2 := rEqual_c l l (by omega) (by omega)
    rw [decide_eq_true rfl] at hEq2
    generalize ofE l = e at *
    generalize fldR l = fl at *
    generalize vI l = vi at *
    generalize vB l = vb at *
    unfold nodesV at *
    have htk : List.take l.length (l.map Node.cells) = l.map Node.cells := List.take_of_length_le (by simp)
    refine acall_of (n := 69) (rs := [.tmp 2]) Try.func3 rfl (by kernel_rfl) rfl rfl rfl ?_; simp only [argsE, Nat.reduceAdd]
    repeat (any_goals (first | (refine aops_cons (fun K' h' => ?_); simp only [go_sem, Nat.reduceLT, Nat.reduceLeDiff, Nat.reduceEqDiff, reduceIte, Nat.reduceAdd, Nat.reduceMul, Nat.reduceSub, Int.reduceLT, Int.reduceLE, Int.reduceToNat, Int.reduceNeg, reduceCtorEq, hgs, Node.cells, aopG, beq_self_eq_true, htk]; (try ((first | refine ⟨_, hGr, ?_⟩ | refine ⟨_, fun _ => hGr, ?_⟩ | refine ⟨_, hEq, ?_⟩ | refine ⟨_, fun _ => hEq, ?_⟩ | refine ⟨_, hEq2, ?_⟩ | refine ⟨_, fun _ => hEq2, ?_⟩ | refine ⟨_, hF, ?_⟩ | refine ⟨_, fun _ => hF, ?_⟩ | refine ⟨_, hV, ?_⟩ | refine ⟨_, fun _ => hV, ?_⟩ | refine ⟨_, hFr, ?_⟩ | refine ⟨_, fun _ => hFr, ?_⟩ | refine ⟨_, hVr, ?_⟩ | refine ⟨_, fun _ => hVr, ?_⟩); (try simp only [go_sem, Nat.reduceLT, Nat.reduceLeDiff, Nat.reduceEqDiff, reduceIte, Nat.reduceAdd, Nat.reduceMul, Nat.reduceSub, Int.reduceLT, Int.reduceLE, Int.reduceToNat, Int.reduceNeg, reduceCtorEq, hgs, Node.cells, aopG, beq_self_eq_true, htk]))); (try simp (disch := omega) only [wrap_id, getD_map_in, Int.toNat_natCast, Node.cells, aopG, beq_self_eq_true, htk]); (repeat (refine And.intro (by (first | omega | (simp; done) | (simp; omega) | assumption)) ?_)); refine h' _ ?_; clear h' K') | (refine aops_nil (hK _ ?_); clear hK K hgs gs; try simp only [aThen, aBlock]) | (refine aops_consF [] (fun K' h' => ?_); simp only [go_sem, Nat.reduceLT, Nat.reduceLeDiff, Nat.reduceEqDiff, reduceIte, Nat.reduceAdd, Nat.reduceMul, Nat.reduceSub, Int.reduceLT, Int.reduceLE, Int.reduceToNat, Int.reduceNeg, reduceCtorEq, hgs, Node.cells, aopG, beq_self_eq_true, htk]; refine ⟨_, hF, ?_⟩; (try simp only [go_sem, Nat.reduceLT, Nat.reduceLeDiff, Nat.reduceEqDiff, reduceIte, Nat.reduceAdd, Nat.reduceMul, Nat.reduceSub, Int.reduceLT, Int.reduceLE, Int.reduceToNat, Int.reduceNeg, reduceCtorEq, hgs, Node.cells, aopG, beq_self_eq_true, htk]); (repeat (refine And.intro (by (first | omega | (simp; done) | (simp; omega) | assumption)) ?_)); refine h' _ ?_; clear h' K') | ((first | refine AWp.sreg (id := 8) dd3 rfl (fun gs K hgs hK => ?_) | refine AWp.reg (id := 8) dd3 rfl (fun gs K hgs hK => ?_)); replace hgs : gs 3 = some 44 ∧ gs 8 = some 49 ∧ gs 13 = some 54 ∧ gs 18 = some 59 ∧ gs 23 = some 64 := ⟨hgs 3, hgs 8, hgs 13, hgs 18, hgs 23⟩) | (refine AWp.sreg  dd3 rfl (fun gs K hgs hK => ?_); replace hgs : Nat.succ 0 = 1 := rfl) | refine AWp.seq ?_ | refine ARounds.step ?_ | refine AWp.block ?_ | refine AWp.label ?_ | (refine AWp.ret ?_; try simp only [aThen, aBlock]) | (refine AWp.skip ?_; try simp only [aThen, aBlock]) | (refine AWp.exit ?_; try simp only [aThen, aBlock, Nat.reduceEqDiff, reduceIte]) | (refine AWp.reg  dd3 rfl (fun gs K hgs hK => ?_); replace hgs : Nat.succ 0 = 1 := rfl) | (refine aops_consG (fun K' h' => ?_); simp only [go_sem, Nat.reduceLT, Nat.reduceLeDiff, Nat.reduceEqDiff, reduceIte, Nat.reduceAdd, Nat.reduceMul, Nat.reduceSub, Int.reduceLT, Int.reduceLE, Int.reduceToNat, Int.reduceNeg, reduceCtorEq, hgs, Node.cells, aopG, beq_self_eq_true, htk]; (try simp (disch := omega) only [wrap_id, getD_map_in, Int.toNat_natCast, Node.cells, aopG, beq_self_eq_true, htk]); (repeat (refine And.intro (by (first | omega | (simp; done) | (simp; omega) | assumption)) ?_)); refine h' _ ?_; clear h' K') | (refine AWp.cond rfl (fun h => ?_) (fun h => ?_) <;> (try simp only [decide_eq_true_eq, decide_eq_false_iff_not, beq_iff_eq, bne_iff_ne, ne_eq, Bool.not_eq_true', Bool.not_eq_false', beq_eq_false_iff_ne, Bool.true_eq_false, Bool.false_eq_true, Int.not_le, Int.not_lt, Bool.and_eq_true, Bool.and_eq_false_iff, Bool.or_eq_true, Bool.or_eq_false_iff, bne_eq_false_iff_eq, reduceCtorEq] at h) <;> (try first | contradiction | (exfalso; omega) | (exfalso; revert h; simp; done) | (exfalso; revert h; simp; omega)))))
    all_goals simp only [Out, outA, outL, resA, go_sem, Nat.reduceLT, Nat.reduceLeDiff, Nat.reduceEqDiff, reduceIte, Nat.reduceAdd, Nat.reduceMul, Nat.reduceSub, Int.reduceLT, Int.reduceLE, Int.reduceToNat, Int.reduceNeg, reduceCtorEq]
    all_goals exact AVle.of_eq (by simp)
  · rw [decide_eq_true (by omega)] at hGr
    clear hn
    unfold nodesV at *
    refine acall_of (n := 69) (rs := [.tmp 2]) Try.func3 rfl (by kernel_rfl) rfl rfl rfl ?_; simp only [argsE, Nat.reduceAdd]
    repeat (any_goals (first | (refine aops_cons (fun K' h' => ?_); simp only [go_sem, Nat.reduceLT, Nat.reduceLeDiff, Nat.reduceEqDiff, reduceIte, Nat.reduceAdd, Nat.reduceMul, Nat.reduceSub, Int.reduceLT, Int.reduceLE, Int.reduceToNat, Int.reduceNeg, reduceCtorEq, hgs, Node.cells, aopG, beq_self_eq_true]; (try ((first | refine ⟨_, hGr, ?_⟩ | refine ⟨_, fun _ => hGr, ?_⟩ | refine ⟨_, hEq, ?_⟩ | refine ⟨_, fun _ => hEq, ?_⟩ | refine ⟨_, hEq2, ?_⟩ | refine ⟨_, fun _ => hEq2, ?_⟩ | refine ⟨_, hF, ?_⟩ | refine ⟨_, fun _ => hF, ?_⟩ | refine ⟨_, hV, ?_⟩ | refine ⟨_, fun _ => hV, ?_⟩ | refine ⟨_, hFr, ?_⟩ | refine ⟨_, fun _ => hFr, ?_⟩ | refine ⟨_, hVr, ?_⟩ | refine ⟨_, fun _ => hVr, ?_⟩); (try simp only [go_sem, Nat.reduceLT, Nat.reduceLeDiff, Nat.reduceEqDiff, reduceIte, Nat.reduceAdd, Nat.reduceMul, Nat.reduceSub, Int.reduceLT, Int.reduceLE, Int.reduceToNat, Int.reduceNeg, reduceCtorEq, hgs, Node.cells, aopG, beq_self_eq_true]))); (try simp (disch := omega) only [wrap_id, getD_map_in, Int.toNat_natCast, Node.cells, aopG, beq_self_eq_true]); (repeat (refine And.intro (by (first | omega | (simp; done) | (simp; omega) | assumption)) ?_)); refine h' _ ?_; clear h' K') | (refine aops_nil (hK _ ?_); clear hK K hgs gs; try simp only [aThen, aBlock]) | (refine aops_consF [] (fun K' h' => ?_); simp only [go_sem, Nat.reduceLT, Nat.reduceLeDiff, Nat.reduceEqDiff, reduceIte, Nat.reduceAdd, Nat.reduceMul, Nat.reduceSub, Int.reduceLT, Int.reduceLE, Int.reduceToNat, Int.reduceNeg, reduceCtorEq, hgs, Node.cells, aopG, beq_self_eq_true]; refine ⟨_, hF, ?_⟩; (try simp only [go_sem, Nat.reduceLT, Nat.reduceLeDiff, Nat.reduceEqDiff, reduceIte, Nat.reduceAdd, Nat.reduceMul, Nat.reduceSub, Int.reduceLT, Int.reduceLE, Int.reduceToNat, Int.reduceNeg, reduceCtorEq, hgs, Node.cells, aopG, beq_self_eq_true]); (repeat (refine And.intro (by (first | omega | (simp; done) | (simp; omega) | assumption)) ?_)); refine h' _ ?_; clear h' K') | ((first | refine AWp.sreg (id := 8) dd3 rfl (fun gs K hgs hK => ?_) | refine AWp.reg (id := 8) dd3 rfl (fun gs K hgs hK => ?_)); replace hgs : gs 3 = some 44 ∧ gs 8 = some 49 ∧ gs 13 = some 54 ∧ gs 18 = some 59 ∧ gs 23 = some 64 := ⟨hgs 3, hgs 8, hgs 13, hgs 18, hgs 23⟩) | (refine AWp.sreg  dd3 rfl (fun gs K hgs hK => ?_); replace hgs : Nat.succ 0 = 1 := rfl) | refine AWp.seq ?_ | refine ARounds.step ?_ | refine AWp.block ?_ | refine AWp.label ?_ | (refine AWp.ret ?_; try simp only [aThen, aBlock]) | (refine AWp.skip ?_; try simp only [aThen, aBlock]) | (refine AWp.exit ?_; try simp only [aThen, aBlock, Nat.reduceEqDiff, reduceIte]) | (refine AWp.reg  dd3 rfl (fun gs K hgs hK => ?_); replace hgs : Nat.succ 0 = 1 := rfl) | (refine aops_consG (fun K' h' => ?_); simp only [go_sem, Nat.reduceLT, Nat.reduceLeDiff, Nat.reduceEqDiff, reduceIte, Nat.reduceAdd, Nat.reduceMul, Nat.reduceSub, Int.reduceLT, Int.reduceLE, Int.reduceToNat, Int.reduceNeg, reduceCtorEq, hgs, Node.cells, aopG, beq_self_eq_true]; (try simp (disch := omega) only [wrap_id, getD_map_in, Int.toNat_natCast, Node.cells, aopG, beq_self_eq_true]); (repeat (refine And.intro (by (first | omega | (simp; done) | (simp; omega) | assumption)) ?_)); refine h' _ ?_; clear h' K') | (refine AWp.cond rfl (fun h => ?_) (fun h => ?_) <;> (try simp only [decide_eq_true_eq, decide_eq_false_iff_not, beq_iff_eq, bne_iff_ne, ne_eq, Bool.not_eq_true', Bool.not_eq_false', beq_eq_false_iff_ne, Bool.true_eq_false, Bool.false_eq_true, Int.not_le, Int.not_lt, Bool.and_eq_true, Bool.and_eq_false_iff, Bool.or_eq_true, Bool.or_eq_false_iff, bne_eq_false_iff_eq, reduceCtorEq] at h) <;> (try first | contradiction | (exfalso; omega) | (exfalso; revert h; simp; done) | (exfalso; revert h; simp; omega)))))
    all_goals simp only [Out, outA, outL, resA, go_sem, Nat.reduceLT, Nat.reduceLeDiff, Nat.reduceEqDiff, reduceIte, Nat.reduceAdd, Nat.reduceMul, Nat.reduceSub, Int.reduceLT, Int.reduceLE, Int.reduceToNat, Int.reduceNeg, reduceCtorEq]
    all_goals exact AVle.refl _
theorem fdtells_all : ∀ xs, ShpAs Try.prog 8 Try.f3.params.toList xs → ACall Try.prog 3 xs (.lit (.bool true)) := by
  intro xs h
  have hp : Try.f3.params.toList = [22] := by kernel_rfl
  rw [hp] at h
  obtain ⟨a, r, rfl, ha, h⟩ := h
  obtain rfl : r = [] := h
  obtain ⟨l, rfl, hl, hn⟩ := nodesB_shape ha
  exact fdtells_law l hl hn
end Go.Proofs.Yteohklfoggiojaa
