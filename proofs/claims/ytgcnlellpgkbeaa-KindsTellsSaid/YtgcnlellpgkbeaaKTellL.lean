/-
  The law KindsTells.
-/
import Derived.Test.YtgcnlellpgkbeaaKindX
import Derived.Test.YtgcnlellpgkbeaaSameL
namespace Go.Proofs.Ytgcnlellpgkbeaa
open Go.AL Go.RowKit
set_option linter.unusedSimpArgs false
set_option linter.unusedVariables false
set_option maxRecDepth 10000
set_option maxHeartbeats 4000000

def dd7 : Nat → List (List Nat)
  | 0 => [[], [2]]
  | 1 => [[], [], [22]]
  | 2 => [[0, 23], []]
  | 3 => [[23], [], [], [24, 25], [26]]
  | 4 => [[], [], [28], [29], [], [], [27], [30], [31], [32]]
  | 5 => [[], [], [34], [35], [], [], [33], [36], [37], [38]]
  | 6 => [[], [], [40], [41], [], [39], [42], [43]]
  | 7 => [[], [], [45], [46], [], [44], [47], [48]]
  | 8 => [[], [], [50], [51], [], [49], [52], [53]]
  | 9 => [[], [], [55], [56], [], [54], [57], [58]]
  | 10 => [[], [], [60], [61], [], [59], [62], [63]]
  | 11 => [[], [], [65], [66], [], [64], [67], [68]]
  | 12 => [[], [4], [7], [69, 70], [71], [5], [8], [73, 74], [72, 75], [76], [6], [9], [78, 79], [77, 80], [81], [10], [12], [83, 84], [82, 85], [86], [11], [13], [88, 89], [87, 90], [91], [14], [16], [93, 94], [92, 95], [96], [15], [17], [98, 99], [97, 100], [101], [18], [20], [103, 104], [102, 105], [106], [19], [21], [108, 109], [107, 110], [111], [3], [0], [113, 114], [112, 115], [116]]
  | _ => []
theorem ktells_law (l : List Node) (hm : l.length ≤ maxLen) : ACall Try.prog 7 [nodesV l] (.lit (.bool true)) := by
  unfold maxLen at hm
  have hG := great_c l
  by_cases hg : 70 < l.length
  · rw [show decide (70 < (l.length : Int)) = true from decide_eq_true (by omega)] at hG
    unfold nodesV at *
    refine acall_of (n := 117) (rs := [.tmp 2]) Try.func7 rfl (by kernel_rfl) rfl rfl rfl ?_; simp only [argsE, Nat.reduceAdd]
    repeat (any_goals (first | (refine aops_cons (fun K' h' => ?_); simp only [go_sem, Nat.reduceLT, Nat.reduceLeDiff, Nat.reduceEqDiff, reduceIte, Nat.reduceAdd, Nat.reduceMul, Nat.reduceSub, Int.reduceLT, Int.reduceLE, Int.reduceToNat, Int.reduceNeg, reduceCtorEq, hgs, Node.cells, Option.toArray_none, Option.toArray_some, List.toList_toArray]; (try simp (disch := omega) only [wrap_id, getD_map_in, Int.toNat_natCast, Node.cells, Option.toArray_none, Option.toArray_some, List.toList_toArray]); (repeat (refine And.intro (by (first | omega | (simp; done) | (simp; omega) | assumption)) ?_)); refine h' _ ?_; clear h' K') | (refine aops_nil (hK _ ?_); clear hK K hgs gs; try simp only [aThen, aBlock]) | ((first | refine aops_cons (fun K' h' => ?_) | refine aopsD_cons (fun K' h' => ?_)); simp only [go_sem, Nat.reduceLT, Nat.reduceLeDiff, Nat.reduceEqDiff, reduceIte, Nat.reduceAdd, Nat.reduceMul, Nat.reduceSub, Int.reduceLT, Int.reduceLE, Int.reduceToNat, Int.reduceNeg, reduceCtorEq, hgs, Node.cells, Option.toArray_none, Option.toArray_some, List.toList_toArray]; (first | refine ⟨_, hG, ?_⟩ | refine ⟨_, fun _ => hG, ?_⟩ | refine ⟨_, hO1, ?_⟩ | refine ⟨_, fun _ => hO1, ?_⟩ | refine ⟨_, hO2, ?_⟩ | refine ⟨_, fun _ => hO2, ?_⟩ | refine ⟨_, hA2, ?_⟩ | refine ⟨_, fun _ => hA2, ?_⟩ | refine ⟨_, hN1, ?_⟩ | refine ⟨_, fun _ => hN1, ?_⟩ | refine ⟨_, hT1, ?_⟩ | refine ⟨_, fun _ => hT1, ?_⟩ | refine ⟨_, hW1, ?_⟩ | refine ⟨_, fun _ => hW1, ?_⟩ | refine ⟨_, hW2, ?_⟩ | refine ⟨_, fun _ => hW2, ?_⟩ | refine ⟨_, hS, ?_⟩ | refine ⟨_, fun _ => hS, ?_⟩ | refine ⟨_, hE, ?_⟩ | refine ⟨_, fun _ => hE, ?_⟩); (try simp only [go_sem, Nat.reduceLT, Nat.reduceLeDiff, Nat.reduceEqDiff, reduceIte, Nat.reduceAdd, Nat.reduceMul, Nat.reduceSub, Int.reduceLT, Int.reduceLE, Int.reduceToNat, Int.reduceNeg, reduceCtorEq, hgs, Node.cells, Option.toArray_none, Option.toArray_some, List.toList_toArray]); (repeat (refine And.intro (by (first | omega | (simp; done) | (simp; omega) | assumption)) ?_)); refine h' _ ?_; clear h' K') | (refine aops_consF [] (fun K' h' => ?_); simp only [go_sem, Nat.reduceLT, Nat.reduceLeDiff, Nat.reduceEqDiff, reduceIte, Nat.reduceAdd, Nat.reduceMul, Nat.reduceSub, Int.reduceLT, Int.reduceLE, Int.reduceToNat, Int.reduceNeg, reduceCtorEq, hgs, Node.cells, Option.toArray_none, Option.toArray_some, List.toList_toArray]; refine ⟨_, hO1, ?_⟩; (try simp only [go_sem, Nat.reduceLT, Nat.reduceLeDiff, Nat.reduceEqDiff, reduceIte, Nat.reduceAdd, Nat.reduceMul, Nat.reduceSub, Int.reduceLT, Int.reduceLE, Int.reduceToNat, Int.reduceNeg, reduceCtorEq, hgs, Node.cells, Option.toArray_none, Option.toArray_some, List.toList_toArray]); (repeat (refine And.intro (by (first | omega | (simp; done) | (simp; omega) | assumption)) ?_)); refine h' _ ?_; clear h' K') | (refine aops_consF [] (fun K' h' => ?_); simp only [go_sem, Nat.reduceLT, Nat.reduceLeDiff, Nat.reduceEqDiff, reduceIte, Nat.reduceAdd, Nat.reduceMul, Nat.reduceSub, Int.reduceLT, Int.reduceLE, Int.reduceToNat, Int.reduceNeg, reduceCtorEq, hgs, Node.cells, Option.toArray_none, Option.toArray_some, List.toList_toArray]; refine ⟨_, hA1, ?_⟩; (try simp only [go_sem, Nat.reduceLT, Nat.reduceLeDiff, Nat.reduceEqDiff, reduceIte, Nat.reduceAdd, Nat.reduceMul, Nat.reduceSub, Int.reduceLT, Int.reduceLE, Int.reduceToNat, Int.reduceNeg, reduceCtorEq, hgs, Node.cells, Option.toArray_none, Option.toArray_some, List.toList_toArray]); (repeat (refine And.intro (by (first | omega | (simp; done) | (simp; omega) | assumption)) ?_)); refine h' _ ?_; clear h' K') | (refine AWp.sreg (id := 12) dd7 rfl (fun gs K hgs hK => ?_); replace hgs : gs 3 = some 72 ∧ gs 8 = some 77 ∧ gs 13 = some 82 ∧ gs 18 = some 87 ∧ gs 23 = some 92 ∧ gs 28 = some 97 ∧ gs 33 = some 102 ∧ gs 38 = some 107 ∧ gs 43 = some 112 := ⟨hgs 3, hgs 8, hgs 13, hgs 18, hgs 23, hgs 28, hgs 33, hgs 38, hgs 43⟩) | (refine AWp.reg (id := 12) dd7 rfl (fun gs K hgs hK => ?_); replace hgs : gs 3 = some 72 ∧ gs 8 = some 77 ∧ gs 13 = some 82 ∧ gs 18 = some 87 ∧ gs 23 = some 92 ∧ gs 28 = some 97 ∧ gs 33 = some 102 ∧ gs 38 = some 107 ∧ gs 43 = some 112 := ⟨hgs 3, hgs 8, hgs 13, hgs 18, hgs 23, hgs 28, hgs 33, hgs 38, hgs 43⟩) | (refine AWp.sreg  dd7 rfl (fun gs K hgs hK => ?_); replace hgs : Nat.succ 0 = 1 := rfl) | refine AWp.seq ?_ | refine ARounds.step ?_ | refine AWp.block ?_ | refine AWp.label ?_ | (refine AWp.ret ?_; try simp only [aThen, aBlock]) | (refine AWp.skip ?_; try simp only [aThen, aBlock]) | (refine AWp.exit ?_; try simp only [aThen, aBlock, Nat.reduceEqDiff, reduceIte]) | (refine AWp.reg  dd7 rfl (fun gs K hgs hK => ?_); replace hgs : Nat.succ 0 = 1 := rfl) | (refine AWp.cond rfl (fun h => ?_) (fun h => ?_) <;> (try simp only [decide_eq_true_eq, decide_eq_false_iff_not, beq_iff_eq, bne_iff_ne, ne_eq, Bool.not_eq_true', Bool.not_eq_false', beq_eq_false_iff_ne, Bool.true_eq_false, Bool.false_eq_true, Int.not_le, Int.not_lt, Bool.and_eq_true, Bool.and_eq_false_iff, Bool.or_eq_true, Bool.or_eq_false_iff, bne_eq_false_iff_eq, reduceCtorEq] at h) <;> (try first | contradiction | (exfalso; omega) | (exfalso; revert h; simp; done) | (exfalso; revert h; simp; omega)))))
    simp only [Out, outA, outL, resA, go_sem, Nat.reduceLT, Nat.reduceLeDiff, Nat.reduceEqDiff, reduceIte, Nat.reduceAdd, Nat.reduceMul, Nat.reduceSub, Int.reduceLT, Int.reduceLE, Int.reduceToNat, Int.reduceNeg, reduceCtorEq]
    exact AVle.refl _
  rw [show decide (70 < (l.length : Int)) = false from decide_eq_false (by omega)] at hG
  have hl : l.length ≤ 1000 := by omega
  have hO1 := kOf_c l hl
  have hO2 := rOf_c l hl
  have hA1 := kAll_c l hl
  have hA2 := rAll_c l hl
  have hN1 := kNumber_c l hl
  have hT1 := kTruth_c l hl
  have hW1 := rWant_c l false hl
  have hW2 := rWant_c l true hl
  have hal : (allR l).length ≤ 1000 := by unfold allR; split <;> simp <;> omega
  have hS := same6_c (allR l) (allR l) hal hal rfl
  have hE := rEqual_c l l hl hl
  rw [decide_eq_true rfl] at hE
  have htk : (l.map Node.cells).take l.length = l.map Node.cells := List.take_of_length_le (by simp)
  generalize allR l = al at *
  generalize ofB l = ob at *
  generalize ofN l = on at *
  generalize ofE l = oe at *
  generalize wantE l true = w1 at *
  generalize wantE l false = w2 at *
  unfold nodesV boolsV at *
  refine acall_of (n := 117) (rs := [.tmp 2]) Try.func7 rfl (by kernel_rfl) rfl rfl rfl ?_; simp only [argsE, Nat.reduceAdd]
  repeat (any_goals (first | (refine aops_cons (fun K' h' => ?_); simp only [go_sem, Nat.reduceLT, Nat.reduceLeDiff, Nat.reduceEqDiff, reduceIte, Nat.reduceAdd, Nat.reduceMul, Nat.reduceSub, Int.reduceLT, Int.reduceLE, Int.reduceToNat, Int.reduceNeg, reduceCtorEq, hgs, Node.cells, Option.toArray_none, Option.toArray_some, List.toList_toArray, htk, List.drop_zero]; (try simp (disch := omega) only [wrap_id, getD_map_in, Int.toNat_natCast, Node.cells, Option.toArray_none, Option.toArray_some, List.toList_toArray, htk, List.drop_zero]); (repeat (refine And.intro (by (first | omega | (simp; done) | (simp; omega) | assumption)) ?_)); refine h' _ ?_; clear h' K') | (refine aops_nil (hK _ ?_); clear hK K hgs gs; try simp only [aThen, aBlock]) | ((first | refine aops_cons (fun K' h' => ?_) | refine aopsD_cons (fun K' h' => ?_)); simp only [go_sem, Nat.reduceLT, Nat.reduceLeDiff, Nat.reduceEqDiff, reduceIte, Nat.reduceAdd, Nat.reduceMul, Nat.reduceSub, Int.reduceLT, Int.reduceLE, Int.reduceToNat, Int.reduceNeg, reduceCtorEq, hgs, Node.cells, Option.toArray_none, Option.toArray_some, List.toList_toArray, htk, List.drop_zero]; (first | refine ⟨_, hG, ?_⟩ | refine ⟨_, fun _ => hG, ?_⟩ | refine ⟨_, hO1, ?_⟩ | refine ⟨_, fun _ => hO1, ?_⟩ | refine ⟨_, hO2, ?_⟩ | refine ⟨_, fun _ => hO2, ?_⟩ | refine ⟨_, hA2, ?_⟩ | refine ⟨_, fun _ => hA2, ?_⟩ | refine ⟨_, hN1, ?_⟩ | refine ⟨_, fun _ => hN1, ?_⟩ | refine ⟨_, hT1, ?_⟩ | refine ⟨_, fun _ => hT1, ?_⟩ | refine ⟨_, hW1, ?_⟩ | refine ⟨_, fun _ => hW1, ?_⟩ | refine ⟨_, hW2, ?_⟩ | refine ⟨_, fun _ => hW2, ?_⟩ | refine ⟨_, hS, ?_⟩ | refine ⟨_, fun _ => hS, ?_⟩ | refine ⟨_, hE, ?_⟩ | refine ⟨_, fun _ => hE, ?_⟩); (try simp only [go_sem, Nat.reduceLT, Nat.reduceLeDiff, Nat.reduceEqDiff, reduceIte, Nat.reduceAdd, Nat.reduceMul, Nat.reduceSub, Int.reduceLT, Int.reduceLE, Int.reduceToNat, Int.reduceNeg, reduceCtorEq, hgs, Node.cells, Option.toArray_none, Option.toArray_some, List.toList_toArray, htk, List.drop_zero]); (repeat (refine And.intro (by (first | omega | (simp; done) | (simp; omega) | assumption)) ?_)); refine h' _ ?_; clear h' K') | (refine aops_consF [] (fun K' h' => ?_); simp only [go_sem, Nat.reduceLT, Nat.reduceLeDiff, Nat.reduceEqDiff, reduceIte, Nat.reduceAdd, Nat.reduceMul, Nat.reduceSub, Int.reduceLT, Int.reduceLE, Int.reduceToNat, Int.reduceNeg, reduceCtorEq, hgs, Node.cells, Option.toArray_none, Option.toArray_some, List.toList_toArray, htk, List.drop_zero]; refine ⟨_, hO1, ?_⟩; (try simp only [go_sem, Nat.reduceLT, Nat.reduceLeDiff, Nat.reduceEqDiff, reduceIte, Nat.reduceAdd, Nat.reduceMul, Nat.reduceSub, Int.reduceLT, Int.reduceLE, Int.reduceToNat, Int.reduceNeg, reduceCtorEq, hgs, Node.cells, Option.toArray_none, Option.toArray_some, List.toList_toArray, htk, List.drop_zero]); (repeat (refine And.intro (by (first | omega | (simp; done) | (simp; omega) | assumption)) ?_)); refine h' _ ?_; clear h' K') | (refine aops_consF [] (fun K' h' => ?_); simp only [go_sem, Nat.reduceLT, Nat.reduceLeDiff, Nat.reduceEqDiff, reduceIte, Nat.reduceAdd, Nat.reduceMul, Nat.reduceSub, Int.reduceLT, Int.reduceLE, Int.reduceToNat, Int.reduceNeg, reduceCtorEq, hgs, Node.cells, Option.toArray_none, Option.toArray_some, List.toList_toArray, htk, List.drop_zero]; refine ⟨_, hA1, ?_⟩; (try simp only [go_sem, Nat.reduceLT, Nat.reduceLeDiff, Nat.reduceEqDiff, reduceIte, Nat.reduceAdd, Nat.reduceMul, Nat.reduceSub, Int.reduceLT, Int.reduceLE, Int.reduceToNat, Int.reduceNeg, reduceCtorEq, hgs, Node.cells, Option.toArray_none, Option.toArray_some, List.toList_toArray, htk, List.drop_zero]); (repeat (refine And.intro (by (first | omega | (simp; done) | (simp; omega) | assumption)) ?_)); refine h' _ ?_; clear h' K') | (refine AWp.sreg (id := 12) dd7 rfl (fun gs K hgs hK => ?_); replace hgs : gs 3 = some 72 ∧ gs 8 = some 77 ∧ gs 13 = some 82 ∧ gs 18 = some 87 ∧ gs 23 = some 92 ∧ gs 28 = some 97 ∧ gs 33 = some 102 ∧ gs 38 = some 107 ∧ gs 43 = some 112 := ⟨hgs 3, hgs 8, hgs 13, hgs 18, hgs 23, hgs 28, hgs 33, hgs 38, hgs 43⟩) | (refine AWp.reg (id := 12) dd7 rfl (fun gs K hgs hK => ?_); replace hgs : gs 3 = some 72 ∧ gs 8 = some 77 ∧ gs 13 = some 82 ∧ gs 18 = some 87 ∧ gs 23 = some 92 ∧ gs 28 = some 97 ∧ gs 33 = some 102 ∧ gs 38 = some 107 ∧ gs 43 = some 112 := ⟨hgs 3, hgs 8, hgs 13, hgs 18, hgs 23, hgs 28, hgs 33, hgs 38, hgs 43⟩) | (refine AWp.sreg  dd7 rfl (fun gs K hgs hK => ?_); replace hgs : Nat.succ 0 = 1 := rfl) | refine AWp.seq ?_ | refine ARounds.step ?_ | refine AWp.block ?_ | refine AWp.label ?_ | (refine AWp.ret ?_; try simp only [aThen, aBlock]) | (refine AWp.skip ?_; try simp only [aThen, aBlock]) | (refine AWp.exit ?_; try simp only [aThen, aBlock, Nat.reduceEqDiff, reduceIte]) | (refine AWp.reg  dd7 rfl (fun gs K hgs hK => ?_); replace hgs : Nat.succ 0 = 1 := rfl) | (refine AWp.cond rfl (fun h => ?_) (fun h => ?_) <;> (try simp only [decide_eq_true_eq, decide_eq_false_iff_not, beq_iff_eq, bne_iff_ne, ne_eq, Bool.not_eq_true', Bool.not_eq_false', beq_eq_false_iff_ne, Bool.true_eq_false, Bool.false_eq_true, Int.not_le, Int.not_lt, Bool.and_eq_true, Bool.and_eq_false_iff, Bool.or_eq_true, Bool.or_eq_false_iff, bne_eq_false_iff_eq, reduceCtorEq] at h) <;> (try first | contradiction | (exfalso; omega) | (exfalso; revert h; simp; done) | (exfalso; revert h; simp; omega)))))
  all_goals simp only [Out, outA, outL, resA, go_sem, Nat.reduceLT, Nat.reduceLeDiff, Nat.reduceEqDiff, reduceIte, Nat.reduceAdd, Nat.reduceMul, Nat.reduceSub, Int.reduceLT, Int.reduceLE, Int.reduceToNat, Int.reduceNeg, reduceCtorEq]
  all_goals exact AVle.of_eq (congrArg (fun b => AV.lit (.bool b)) (by simp))
theorem ktells_all : ∀ xs, ShpAs Try.prog 8 Try.f7.params.toList xs → ACall Try.prog 7 xs (.lit (.bool true)) := by
  intro xs h
  have hp : Try.f7.params.toList = [22] := by kernel_rfl
  rw [hp] at h
  obtain ⟨a, r, rfl, ha, h1⟩ := h
  obtain rfl : r = [] := h1
  obtain ⟨l, rfl, hm⟩ := nodes_shape ha
  exact ktells_law l hm
end Go.Proofs.Ytgcnlellpgkbeaa
