/-
  The law EvalsTells.
-/
import Derived.Test.YtmdnhmcmnojlkaaVShp
namespace Go.Proofs.Ytmdnhmcmnojlkaa
open Go.AL Go.RowKit
set_option linter.unusedSimpArgs false
set_option linter.unusedVariables false
set_option maxRecDepth 10000
set_option maxHeartbeats 8000000

theorem valR_len (r : Rcd) (l : List Node) : (valR r l).length ≤ l.length := by
  unfold valR
  split
  · rw [valsL_length]; exact Nat.le_refl _
  · simp

def dd5 : Nat → List (List Nat)
  | 0 => [[], [1], [4]]
  | 1 => [[], [], [22]]
  | 2 => [[0, 3, 23], []]
  | 3 => [[23], [], [], [24, 25], [26]]
  | 4 => [[], [], [], [28, 29], [30], [], [27], [31], [32]]
  | 5 => [[], [], [], [34, 35], [36], [], [33], [37], [38]]
  | 6 => [[], [], [], [40, 41], [42], [], [39], [43], [44]]
  | 7 => [[], [], [3], [46, 47], [48], [], [45], [49], [50]]
  | 8 => [[], [], [52], [53], [], [], [], [51], [54], [55], [56], [57]]
  | 9 => [[], [], [59], [60], [], [], [], [58], [61], [62], [63], [64]]
  | 10 => [[], [6], [8], [65, 66], [67], [7], [9], [69, 70], [68, 71], [72], [10], [12], [74, 75], [73, 76], [77], [11], [13], [79, 80], [78, 81], [82], [14], [18], [84, 85], [83, 86], [87], [15], [19], [89, 90], [88, 91], [92], [16], [20], [94, 95], [93, 96], [97], [17], [21], [99, 100], [98, 101], [102], [5], [0], [104, 105], [103, 106], [107]]
  | _ => []
theorem etells_law (l : List Node) (r : Rcd) (hl : l.length ≤ maxLen) (hn : nodesB l) (hr : r.B) : ACall Try.prog 5 [nodesV l, .agg r.cells] (.lit (.bool true)) := by
  have hGr := great_c l
  have hrc : r.cells = [.lit (.int .i64 r.key), .lit (.int .i64 r.t), .lit (.int .i64 r.v)] := rfl
  unfold maxLen at hl
  by_cases hg : l.length ≤ 70
  · rw [decide_eq_false (by omega)] at hGr
    have hO := eOf_c l r (by omega) hr hn
    have hOb := rOfV_c l r (by omega) hr hn
    have hA := eAll_c l r (by omega) hr hn
    have hU := eUses_c l (by omega)
    have hS := same7_c (valR r l) (valR r l) (by have := valR_len r l; omega) (by have := valR_len r l; omega)
    rw [decide_eq_true rfl] at hS
    have hEq := rEqual_c l l (by omega) (by omega)
    rw [decide_eq_true rfl] at hEq
    have hAb := rAllV_c l r (by omega) hr hn
    have hUb := rUsesV_c l (by omega)
    rw [hrc] at *
    generalize ofE l = e at *
    generalize ofV r l = v at *
    generalize valR r l = vs at *
    generalize usesB 2 l = u2 at *
    generalize usesB 3 l = u3 at *
    generalize usesB 4 l = u4 at *
    clear hrc
    unfold nodesV at *
    have htk : List.take l.length (l.map Node.cells) = l.map Node.cells := List.take_of_length_le (by simp)
    refine acall_of (n := 108) (rs := [.tmp 4]) Try.func5 rfl (by kernel_rfl) rfl rfl rfl ?_; simp only [argsE, Nat.reduceAdd]
    repeat (any_goals (first | (refine aops_cons (fun K' h' => ?_); simp only [go_sem, Nat.reduceLT, Nat.reduceLeDiff, Nat.reduceEqDiff, reduceIte, Nat.reduceAdd, Nat.reduceMul, Nat.reduceSub, Int.reduceLT, Int.reduceLE, Int.reduceToNat, Int.reduceNeg, reduceCtorEq, hgs, Node.cells, aopG, beq_self_eq_true, Option.toArray_none, Option.toArray_some, List.toList_toArray, htk]; (try simp (disch := omega) only [wrap_id, getD_map_in, Int.toNat_natCast, Node.cells, aopG, beq_self_eq_true, Option.toArray_none, Option.toArray_some, List.toList_toArray, htk]); (repeat (refine And.intro (by (first | omega | (simp; done) | (simp; omega) | assumption)) ?_)); refine h' _ ?_; clear h' K') | (refine aops_nil (hK _ ?_); clear hK K hgs gs; try simp only [aThen, aBlock]) | ((first | refine aops_cons (fun K' h' => ?_) | refine aopsD_cons (fun K' h' => ?_)); simp only [go_sem, Nat.reduceLT, Nat.reduceLeDiff, Nat.reduceEqDiff, reduceIte, Nat.reduceAdd, Nat.reduceMul, Nat.reduceSub, Int.reduceLT, Int.reduceLE, Int.reduceToNat, Int.reduceNeg, reduceCtorEq, hgs, Node.cells, aopG, beq_self_eq_true, Option.toArray_none, Option.toArray_some, List.toList_toArray, htk]; (first | refine ⟨_, hGr, ?_⟩ | refine ⟨_, fun _ => hGr, ?_⟩ | refine ⟨_, hEq, ?_⟩ | refine ⟨_, fun _ => hEq, ?_⟩ | refine ⟨_, hO, ?_⟩ | refine ⟨_, fun _ => hO, ?_⟩ | refine ⟨_, hO2, ?_⟩ | refine ⟨_, fun _ => hO2, ?_⟩ | refine ⟨_, hA, ?_⟩ | refine ⟨_, fun _ => hA, ?_⟩ | refine ⟨_, hU, ?_⟩ | refine ⟨_, fun _ => hU, ?_⟩ | refine ⟨_, hOb, ?_⟩ | refine ⟨_, fun _ => hOb, ?_⟩ | refine ⟨_, hAb, ?_⟩ | refine ⟨_, fun _ => hAb, ?_⟩ | refine ⟨_, hUb, ?_⟩ | refine ⟨_, fun _ => hUb, ?_⟩ | refine ⟨_, hS, ?_⟩ | refine ⟨_, fun _ => hS, ?_⟩); (try simp only [go_sem, Nat.reduceLT, Nat.reduceLeDiff, Nat.reduceEqDiff, reduceIte, Nat.reduceAdd, Nat.reduceMul, Nat.reduceSub, Int.reduceLT, Int.reduceLE, Int.reduceToNat, Int.reduceNeg, reduceCtorEq, hgs, Node.cells, aopG, beq_self_eq_true, Option.toArray_none, Option.toArray_some, List.toList_toArray, htk]); (repeat (refine And.intro (by (first | omega | (simp; done) | (simp; omega) | assumption)) ?_)); refine h' _ ?_; clear h' K') | (refine aops_consF [] (fun K' h' => ?_); simp only [go_sem, Nat.reduceLT, Nat.reduceLeDiff, Nat.reduceEqDiff, reduceIte, Nat.reduceAdd, Nat.reduceMul, Nat.reduceSub, Int.reduceLT, Int.reduceLE, Int.reduceToNat, Int.reduceNeg, reduceCtorEq, hgs, Node.cells, aopG, beq_self_eq_true, Option.toArray_none, Option.toArray_some, List.toList_toArray, htk]; refine ⟨_, hA, ?_⟩; (try simp only [go_sem, Nat.reduceLT, Nat.reduceLeDiff, Nat.reduceEqDiff, reduceIte, Nat.reduceAdd, Nat.reduceMul, Nat.reduceSub, Int.reduceLT, Int.reduceLE, Int.reduceToNat, Int.reduceNeg, reduceCtorEq, hgs, Node.cells, aopG, beq_self_eq_true, Option.toArray_none, Option.toArray_some, List.toList_toArray, htk]); (repeat (refine And.intro (by (first | omega | (simp; done) | (simp; omega) | assumption)) ?_)); refine h' _ ?_; clear h' K') | (refine AWp.sreg (id := 10) dd5 rfl (fun gs K hgs hK => ?_); replace hgs : gs 3 = some 68 ∧ gs 8 = some 73 ∧ gs 13 = some 78 ∧ gs 18 = some 83 ∧ gs 23 = some 88 ∧ gs 28 = some 93 ∧ gs 33 = some 98 ∧ gs 38 = some 103 := ⟨hgs 3, hgs 8, hgs 13, hgs 18, hgs 23, hgs 28, hgs 33, hgs 38⟩) | (refine AWp.reg (id := 10) dd5 rfl (fun gs K hgs hK => ?_); replace hgs : gs 3 = some 68 ∧ gs 8 = some 73 ∧ gs 13 = some 78 ∧ gs 18 = some 83 ∧ gs 23 = some 88 ∧ gs 28 = some 93 ∧ gs 33 = some 98 ∧ gs 38 = some 103 := ⟨hgs 3, hgs 8, hgs 13, hgs 18, hgs 23, hgs 28, hgs 33, hgs 38⟩) | (refine AWp.sreg  dd5 rfl (fun gs K hgs hK => ?_); replace hgs : Nat.succ 0 = 1 := rfl) | refine AWp.seq ?_ | refine ARounds.step ?_ | refine AWp.block ?_ | refine AWp.label ?_ | (refine AWp.ret ?_; try simp only [aThen, aBlock]) | (refine AWp.skip ?_; try simp only [aThen, aBlock]) | (refine AWp.exit ?_; try simp only [aThen, aBlock, Nat.reduceEqDiff, reduceIte]) | (refine AWp.reg  dd5 rfl (fun gs K hgs hK => ?_); replace hgs : Nat.succ 0 = 1 := rfl) | (refine aops_consG (fun K' h' => ?_); simp only [go_sem, Nat.reduceLT, Nat.reduceLeDiff, Nat.reduceEqDiff, reduceIte, Nat.reduceAdd, Nat.reduceMul, Nat.reduceSub, Int.reduceLT, Int.reduceLE, Int.reduceToNat, Int.reduceNeg, reduceCtorEq, hgs, Node.cells, aopG, beq_self_eq_true, Option.toArray_none, Option.toArray_some, List.toList_toArray, htk]; (try simp (disch := omega) only [wrap_id, getD_map_in, Int.toNat_natCast, Node.cells, aopG, beq_self_eq_true, Option.toArray_none, Option.toArray_some, List.toList_toArray, htk]); (repeat (refine And.intro (by (first | omega | (simp; done) | (simp; omega) | assumption)) ?_)); refine h' _ ?_; clear h' K') | (refine AWp.cond rfl (fun h => ?_) (fun h => ?_) <;> (try simp only [decide_eq_true_eq, decide_eq_false_iff_not, beq_iff_eq, bne_iff_ne, ne_eq, Bool.not_eq_true', Bool.not_eq_false', beq_eq_false_iff_ne, Bool.true_eq_false, Bool.false_eq_true, Int.not_le, Int.not_lt, Bool.and_eq_true, Bool.and_eq_false_iff, Bool.or_eq_true, Bool.or_eq_false_iff, bne_eq_false_iff_eq, reduceCtorEq] at h) <;> (try first | contradiction | (exfalso; omega) | (exfalso; revert h; simp; done) | (exfalso; revert h; simp; omega)))))
    all_goals simp only [Out, outA, outL, resA, go_sem, Nat.reduceLT, Nat.reduceLeDiff, Nat.reduceEqDiff, reduceIte, Nat.reduceAdd, Nat.reduceMul, Nat.reduceSub, Int.reduceLT, Int.reduceLE, Int.reduceToNat, Int.reduceNeg, reduceCtorEq]
    all_goals exact AVle.of_eq (by simp)
  · rw [decide_eq_true (by omega)] at hGr
    rw [hrc]
    clear hrc hn hr
    unfold nodesV at *
    refine acall_of (n := 108) (rs := [.tmp 4]) Try.func5 rfl (by kernel_rfl) rfl rfl rfl ?_; simp only [argsE, Nat.reduceAdd]
    repeat (any_goals (first | (refine aops_cons (fun K' h' => ?_); simp only [go_sem, Nat.reduceLT, Nat.reduceLeDiff, Nat.reduceEqDiff, reduceIte, Nat.reduceAdd, Nat.reduceMul, Nat.reduceSub, Int.reduceLT, Int.reduceLE, Int.reduceToNat, Int.reduceNeg, reduceCtorEq, hgs, Node.cells, aopG, beq_self_eq_true, Option.toArray_none, Option.toArray_some, List.toList_toArray]; (try simp (disch := omega) only [wrap_id, getD_map_in, Int.toNat_natCast, Node.cells, aopG, beq_self_eq_true, Option.toArray_none, Option.toArray_some, List.toList_toArray]); (repeat (refine And.intro (by (first | omega | (simp; done) | (simp; omega) | assumption)) ?_)); refine h' _ ?_; clear h' K') | (refine aops_nil (hK _ ?_); clear hK K hgs gs; try simp only [aThen, aBlock]) | ((first | refine aops_cons (fun K' h' => ?_) | refine aopsD_cons (fun K' h' => ?_)); simp only [go_sem, Nat.reduceLT, Nat.reduceLeDiff, Nat.reduceEqDiff, reduceIte, Nat.reduceAdd, Nat.reduceMul, Nat.reduceSub, Int.reduceLT, Int.reduceLE, Int.reduceToNat, Int.reduceNeg, reduceCtorEq, hgs, Node.cells, aopG, beq_self_eq_true, Option.toArray_none, Option.toArray_some, List.toList_toArray]; (first | refine ⟨_, hGr, ?_⟩ | refine ⟨_, fun _ => hGr, ?_⟩ | refine ⟨_, hEq, ?_⟩ | refine ⟨_, fun _ => hEq, ?_⟩ | refine ⟨_, hO, ?_⟩ | refine ⟨_, fun _ => hO, ?_⟩ | refine ⟨_, hO2, ?_⟩ | refine ⟨_, fun _ => hO2, ?_⟩ | refine ⟨_, hA, ?_⟩ | refine ⟨_, fun _ => hA, ?_⟩ | refine ⟨_, hU, ?_⟩ | refine ⟨_, fun _ => hU, ?_⟩ | refine ⟨_, hOb, ?_⟩ | refine ⟨_, fun _ => hOb, ?_⟩ | refine ⟨_, hAb, ?_⟩ | refine ⟨_, fun _ => hAb, ?_⟩ | refine ⟨_, hUb, ?_⟩ | refine ⟨_, fun _ => hUb, ?_⟩ | refine ⟨_, hS, ?_⟩ | refine ⟨_, fun _ => hS, ?_⟩); (try simp only [go_sem, Nat.reduceLT, Nat.reduceLeDiff, Nat.reduceEqDiff, reduceIte, Nat.reduceAdd, Nat.reduceMul, Nat.reduceSub, Int.reduceLT, Int.reduceLE, Int.reduceToNat, Int.reduceNeg, reduceCtorEq, hgs, Node.cells, aopG, beq_self_eq_true, Option.toArray_none, Option.toArray_some, List.toList_toArray]); (repeat (refine And.intro (by (first | omega | (simp; done) | (simp; omega) | assumption)) ?_)); refine h' _ ?_; clear h' K') | (refine aops_consF [] (fun K' h' => ?_); simp only [go_sem, Nat.reduceLT, Nat.reduceLeDiff, Nat.reduceEqDiff, reduceIte, Nat.reduceAdd, Nat.reduceMul, Nat.reduceSub, Int.reduceLT, Int.reduceLE, Int.reduceToNat, Int.reduceNeg, reduceCtorEq, hgs, Node.cells, aopG, beq_self_eq_true, Option.toArray_none, Option.toArray_some, List.toList_toArray]; refine ⟨_, hA, ?_⟩; (try simp only [go_sem, Nat.reduceLT, Nat.reduceLeDiff, Nat.reduceEqDiff, reduceIte, Nat.reduceAdd, Nat.reduceMul, Nat.reduceSub, Int.reduceLT, Int.reduceLE, Int.reduceToNat, Int.reduceNeg, reduceCtorEq, hgs, Node.cells, aopG, beq_self_eq_true, Option.toArray_none, Option.toArray_some, List.toList_toArray]); (repeat (refine And.intro (by (first | omega | (simp; done) | (simp; omega) | assumption)) ?_)); refine h' _ ?_; clear h' K') | (refine AWp.sreg (id := 10) dd5 rfl (fun gs K hgs hK => ?_); replace hgs : gs 3 = some 68 ∧ gs 8 = some 73 ∧ gs 13 = some 78 ∧ gs 18 = some 83 ∧ gs 23 = some 88 ∧ gs 28 = some 93 ∧ gs 33 = some 98 ∧ gs 38 = some 103 := ⟨hgs 3, hgs 8, hgs 13, hgs 18, hgs 23, hgs 28, hgs 33, hgs 38⟩) | (refine AWp.reg (id := 10) dd5 rfl (fun gs K hgs hK => ?_); replace hgs : gs 3 = some 68 ∧ gs 8 = some 73 ∧ gs 13 = some 78 ∧ gs 18 = some 83 ∧ gs 23 = some 88 ∧ gs 28 = some 93 ∧ gs 33 = some 98 ∧ gs 38 = some 103 := ⟨hgs 3, hgs 8, hgs 13, hgs 18, hgs 23, hgs 28, hgs 33, hgs 38⟩) | (refine AWp.sreg  dd5 rfl (fun gs K hgs hK => ?_); replace hgs : Nat.succ 0 = 1 := rfl) | refine AWp.seq ?_ | refine ARounds.step ?_ | refine AWp.block ?_ | refine AWp.label ?_ | (refine AWp.ret ?_; try simp only [aThen, aBlock]) | (refine AWp.skip ?_; try simp only [aThen, aBlock]) | (refine AWp.exit ?_; try simp only [aThen, aBlock, Nat.reduceEqDiff, reduceIte]) | (refine AWp.reg  dd5 rfl (fun gs K hgs hK => ?_); replace hgs : Nat.succ 0 = 1 := rfl) | (refine aops_consG (fun K' h' => ?_); simp only [go_sem, Nat.reduceLT, Nat.reduceLeDiff, Nat.reduceEqDiff, reduceIte, Nat.reduceAdd, Nat.reduceMul, Nat.reduceSub, Int.reduceLT, Int.reduceLE, Int.reduceToNat, Int.reduceNeg, reduceCtorEq, hgs, Node.cells, aopG, beq_self_eq_true, Option.toArray_none, Option.toArray_some, List.toList_toArray]; (try simp (disch := omega) only [wrap_id, getD_map_in, Int.toNat_natCast, Node.cells, aopG, beq_self_eq_true, Option.toArray_none, Option.toArray_some, List.toList_toArray]); (repeat (refine And.intro (by (first | omega | (simp; done) | (simp; omega) | assumption)) ?_)); refine h' _ ?_; clear h' K') | (refine AWp.cond rfl (fun h => ?_) (fun h => ?_) <;> (try simp only [decide_eq_true_eq, decide_eq_false_iff_not, beq_iff_eq, bne_iff_ne, ne_eq, Bool.not_eq_true', Bool.not_eq_false', beq_eq_false_iff_ne, Bool.true_eq_false, Bool.false_eq_true, Int.not_le, Int.not_lt, Bool.and_eq_true, Bool.and_eq_false_iff, Bool.or_eq_true, Bool.or_eq_false_iff, bne_eq_false_iff_eq, reduceCtorEq] at h) <;> (try first | contradiction | (exfalso; omega) | (exfalso; revert h; simp; done) | (exfalso; revert h; simp; omega)))))
    all_goals simp only [Out, outA, outL, resA, go_sem, Nat.reduceLT, Nat.reduceLeDiff, Nat.reduceEqDiff, reduceIte, Nat.reduceAdd, Nat.reduceMul, Nat.reduceSub, Int.reduceLT, Int.reduceLE, Int.reduceToNat, Int.reduceNeg, reduceCtorEq]
    all_goals exact AVle.refl _
theorem etells_all : ∀ xs, ShpAs Try.prog 8 Try.f5.params.toList xs → ACall Try.prog 5 xs (.lit (.bool true)) := by
  intro xs h
  have hp : Try.f5.params.toList = [22, 24] := by kernel_rfl
  rw [hp] at h
  obtain ⟨a, r, rfl, ha, h⟩ := h
  obtain ⟨b, r, rfl, hb, h⟩ := h
  obtain rfl : r = [] := h
  obtain ⟨l, rfl, hl, hn⟩ := nodesB_shape ha
  obtain ⟨r, rfl, hr⟩ := recB_shape hb
  exact etells_law l r hl hn hr
end Go.Proofs.Ytmdnhmcmnojlkaa
