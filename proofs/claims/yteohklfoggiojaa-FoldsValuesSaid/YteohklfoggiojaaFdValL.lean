/-
  The law FoldsValues.
-/
import Derived.Test.YteohklfoggiojaaFdH
namespace Go.Proofs.Yteohklfoggiojaa
open Go.AL Go.RowKit
set_option linter.unusedSimpArgs false
set_option linter.unusedVariables false
set_option maxRecDepth 10000
set_option maxHeartbeats 8000000
def dd4 : Nat → List (List Nat)
  | 0 => [[], [1], [4]]
  | 1 => [[], [], [20]]
  | 2 => [[0, 3, 21], [], [22]]
  | 3 => [[21], [], [24], [25], [], [], [23], [5, 26], [6, 27], [28]]
  | 4 => [[], [7], [29]]
  | 5 => [[0, 3, 30], [], [31]]
  | 6 => [[30], [], [33], [34], [], [32], [35], [36]]
  | 7 => [[], [], [], [38, 39], [40], [], [37], [41], [42]]
  | 8 => [[], [], [3], [44, 45], [46], [], [43], [47], [48]]
  | 9 => [[], [0], [50], [51], [], [], [49], [52], [15, 53], [54]]
  | 10 => [[], [8], [56], [57], [], [], [55], [58], [18, 59], [60]]
  | 11 => [[], [9], [61], [62], [11], [64], [63, 65], [66], [13], [68], [67, 69], [70], [16], [72], [71, 73], [74], [19], [76], [75, 77], [78], [10], [12], [80, 81], [79, 82], [83], [14], [17], [85, 86], [84, 87], [88], [], [89, 90], [91]]
  | _ => []
theorem fdvalues_law (l : List Node) (r : Rcd) (hl : l.length ≤ maxLen) (hn : nodesB l) (hr : r.B) : ACall Try.prog 4 [nodesV l, .agg r.cells] (.lit (.bool true)) := by
  have hGr := great_c l
  have hrc : r.cells = [.lit (.int .i64 r.key), .lit (.int .i64 r.t), .lit (.int .i64 r.v)] := rfl
  unfold maxLen at hl
  by_cases hg : l.length ≤ 70
  · rw [decide_eq_false (by omega)] at hGr
    have hO6 := rOf_c l (by omega)
    by_cases h0 : ofE l = 0
    · obtain ⟨e, H⟩ := fld_of h0 hn
      have hF := fold_c l (by omega) hn
      have hE1 := eOf_c l r (by omega) hr hn
      have hxl : (fldR l).length ≤ 1000 := by rw [H.out_len]; have := H.same.sz; have := H.sz; omega
      have hE2 := eOf_c (fldR l) r hxl hr H.out_B
      have hK1 := kOf_c l (by omega)
      have hK2 := kOf_c (fldR l) hxl
      rw [H.val r, H.out_ty] at hE2
      rw [H.kind, H.out_ty] at hK2
      rw [h0] at *
      rw [hrc] at *
      clear hrc hxl H h0
      generalize ofV r l = v at *
      generalize ofB l = b at *
      generalize ofN l = n at *
      generalize ofN (fldR l) = n2 at *
      generalize fldR l = x at *
      unfold nodesV at *
      refine acall_of (n := 92) (rs := [.tmp 4]) Try.func4 rfl (by kernel_rfl) rfl rfl rfl ?_; simp only [argsE, Nat.reduceAdd]
      repeat (any_goals (first | (refine aops_cons (fun K' h' => ?_); simp only [go_sem, Nat.reduceLT, Nat.reduceLeDiff, Nat.reduceEqDiff, reduceIte, Nat.reduceAdd, Nat.reduceMul, Nat.reduceSub, Int.reduceLT, Int.reduceLE, Int.reduceToNat, Int.reduceNeg, reduceCtorEq, hgs, Node.cells, aopG, beq_self_eq_true]; (try ((first | refine ⟨_, hGr, ?_⟩ | refine ⟨_, fun _ => hGr, ?_⟩ | refine ⟨_, hO6, ?_⟩ | refine ⟨_, fun _ => hO6, ?_⟩ | refine ⟨_, hF, ?_⟩ | refine ⟨_, fun _ => hF, ?_⟩ | refine ⟨_, hE1, ?_⟩ | refine ⟨_, fun _ => hE1, ?_⟩ | refine ⟨_, hE2, ?_⟩ | refine ⟨_, fun _ => hE2, ?_⟩ | refine ⟨_, hK1, ?_⟩ | refine ⟨_, fun _ => hK1, ?_⟩ | refine ⟨_, hK2, ?_⟩ | refine ⟨_, fun _ => hK2, ?_⟩ | refine ⟨_, alive12_c, ?_⟩ | refine ⟨_, fun _ => alive12_c, ?_⟩); (try simp only [go_sem, Nat.reduceLT, Nat.reduceLeDiff, Nat.reduceEqDiff, reduceIte, Nat.reduceAdd, Nat.reduceMul, Nat.reduceSub, Int.reduceLT, Int.reduceLE, Int.reduceToNat, Int.reduceNeg, reduceCtorEq, hgs, Node.cells, aopG, beq_self_eq_true]))); (try simp (disch := omega) only [wrap_id, getD_map_in, Int.toNat_natCast, Node.cells, aopG, beq_self_eq_true]); (repeat (refine And.intro (by (first | omega | (simp; done) | (simp; omega) | assumption)) ?_)); refine h' _ ?_; clear h' K') | (refine aops_nil (hK _ ?_); clear hK K hgs gs; try simp only [aThen, aBlock]) | ((first | refine AWp.sreg (id := 11) dd4 rfl (fun gs K hgs hK => ?_) | refine AWp.reg (id := 11) dd4 rfl (fun gs K hgs hK => ?_)); replace hgs : gs 2 = some 63 ∧ gs 6 = some 67 ∧ gs 10 = some 71 ∧ gs 14 = some 75 ∧ gs 18 = some 79 ∧ gs 23 = some 84 ∧ gs 28 = some 89 := ⟨hgs 2, hgs 6, hgs 10, hgs 14, hgs 18, hgs 23, hgs 28⟩) | (refine AWp.sreg  dd4 rfl (fun gs K hgs hK => ?_); replace hgs : Nat.succ 0 = 1 := rfl) | refine AWp.seq ?_ | refine ARounds.step ?_ | refine AWp.block ?_ | refine AWp.label ?_ | (refine AWp.ret ?_; try simp only [aThen, aBlock]) | (refine AWp.skip ?_; try simp only [aThen, aBlock]) | (refine AWp.exit ?_; try simp only [aThen, aBlock, Nat.reduceEqDiff, reduceIte]) | (refine AWp.reg  dd4 rfl (fun gs K hgs hK => ?_); replace hgs : Nat.succ 0 = 1 := rfl) | (refine aops_consG (fun K' h' => ?_); simp only [go_sem, Nat.reduceLT, Nat.reduceLeDiff, Nat.reduceEqDiff, reduceIte, Nat.reduceAdd, Nat.reduceMul, Nat.reduceSub, Int.reduceLT, Int.reduceLE, Int.reduceToNat, Int.reduceNeg, reduceCtorEq, hgs, Node.cells, aopG, beq_self_eq_true]; (try simp (disch := omega) only [wrap_id, getD_map_in, Int.toNat_natCast, Node.cells, aopG, beq_self_eq_true]); (repeat (refine And.intro (by (first | omega | (simp; done) | (simp; omega) | assumption)) ?_)); refine h' _ ?_; clear h' K') | (refine AWp.cond rfl (fun h => ?_) (fun h => ?_) <;> (try simp only [decide_eq_true_eq, decide_eq_false_iff_not, beq_iff_eq, bne_iff_ne, ne_eq, Bool.not_eq_true', Bool.not_eq_false', beq_eq_false_iff_ne, Bool.true_eq_false, Bool.false_eq_true, Int.not_le, Int.not_lt, Bool.and_eq_true, Bool.and_eq_false_iff, Bool.or_eq_true, Bool.or_eq_false_iff, bne_eq_false_iff_eq, reduceCtorEq] at h) <;> (try first | contradiction | (exfalso; omega) | (exfalso; revert h; simp; done) | (exfalso; revert h; simp; omega)))))
      all_goals simp only [Out, outA, outL, resA, go_sem, Nat.reduceLT, Nat.reduceLeDiff, Nat.reduceEqDiff, reduceIte, Nat.reduceAdd, Nat.reduceMul, Nat.reduceSub, Int.reduceLT, Int.reduceLE, Int.reduceToNat, Int.reduceNeg, reduceCtorEq]
      all_goals exact AVle.of_eq (by simp)
    · rw [hrc]
      clear hrc hn hr
      generalize ofE l = oe at *
      generalize ofB l = b at *
      generalize ofN l = n at *
      unfold nodesV at *
      refine acall_of (n := 92) (rs := [.tmp 4]) Try.func4 rfl (by kernel_rfl) rfl rfl rfl ?_; simp only [argsE, Nat.reduceAdd]
      repeat (any_goals (first | (refine aops_cons (fun K' h' => ?_); simp only [go_sem, Nat.reduceLT, Nat.reduceLeDiff, Nat.reduceEqDiff, reduceIte, Nat.reduceAdd, Nat.reduceMul, Nat.reduceSub, Int.reduceLT, Int.reduceLE, Int.reduceToNat, Int.reduceNeg, reduceCtorEq, hgs, Node.cells, aopG, beq_self_eq_true]; (try ((first | refine ⟨_, hGr, ?_⟩ | refine ⟨_, fun _ => hGr, ?_⟩ | refine ⟨_, hO6, ?_⟩ | refine ⟨_, fun _ => hO6, ?_⟩ | refine ⟨_, hF, ?_⟩ | refine ⟨_, fun _ => hF, ?_⟩ | refine ⟨_, hE1, ?_⟩ | refine ⟨_, fun _ => hE1, ?_⟩ | refine ⟨_, hE2, ?_⟩ | refine ⟨_, fun _ => hE2, ?_⟩ | refine ⟨_, hK1, ?_⟩ | refine ⟨_, fun _ => hK1, ?_⟩ | refine ⟨_, hK2, ?_⟩ | refine ⟨_, fun _ => hK2, ?_⟩ | refine ⟨_, alive12_c, ?_⟩ | refine ⟨_, fun _ => alive12_c, ?_⟩); (try simp only [go_sem, Nat.reduceLT, Nat.reduceLeDiff, Nat.reduceEqDiff, reduceIte, Nat.reduceAdd, Nat.reduceMul, Nat.reduceSub, Int.reduceLT, Int.reduceLE, Int.reduceToNat, Int.reduceNeg, reduceCtorEq, hgs, Node.cells, aopG, beq_self_eq_true]))); (try simp (disch := omega) only [wrap_id, getD_map_in, Int.toNat_natCast, Node.cells, aopG, beq_self_eq_true]); (repeat (refine And.intro (by (first | omega | (simp; done) | (simp; omega) | assumption)) ?_)); refine h' _ ?_; clear h' K') | (refine aops_nil (hK _ ?_); clear hK K hgs gs; try simp only [aThen, aBlock]) | ((first | refine AWp.sreg (id := 11) dd4 rfl (fun gs K hgs hK => ?_) | refine AWp.reg (id := 11) dd4 rfl (fun gs K hgs hK => ?_)); replace hgs : gs 2 = some 63 ∧ gs 6 = some 67 ∧ gs 10 = some 71 ∧ gs 14 = some 75 ∧ gs 18 = some 79 ∧ gs 23 = some 84 ∧ gs 28 = some 89 := ⟨hgs 2, hgs 6, hgs 10, hgs 14, hgs 18, hgs 23, hgs 28⟩) | (refine AWp.sreg  dd4 rfl (fun gs K hgs hK => ?_); replace hgs : Nat.succ 0 = 1 := rfl) | refine AWp.seq ?_ | refine ARounds.step ?_ | refine AWp.block ?_ | refine AWp.label ?_ | (refine AWp.ret ?_; try simp only [aThen, aBlock]) | (refine AWp.skip ?_; try simp only [aThen, aBlock]) | (refine AWp.exit ?_; try simp only [aThen, aBlock, Nat.reduceEqDiff, reduceIte]) | (refine AWp.reg  dd4 rfl (fun gs K hgs hK => ?_); replace hgs : Nat.succ 0 = 1 := rfl) | (refine aops_consG (fun K' h' => ?_); simp only [go_sem, Nat.reduceLT, Nat.reduceLeDiff, Nat.reduceEqDiff, reduceIte, Nat.reduceAdd, Nat.reduceMul, Nat.reduceSub, Int.reduceLT, Int.reduceLE, Int.reduceToNat, Int.reduceNeg, reduceCtorEq, hgs, Node.cells, aopG, beq_self_eq_true]; (try simp (disch := omega) only [wrap_id, getD_map_in, Int.toNat_natCast, Node.cells, aopG, beq_self_eq_true]); (repeat (refine And.intro (by (first | omega | (simp; done) | (simp; omega) | assumption)) ?_)); refine h' _ ?_; clear h' K') | (refine AWp.cond rfl (fun h => ?_) (fun h => ?_) <;> (try simp only [decide_eq_true_eq, decide_eq_false_iff_not, beq_iff_eq, bne_iff_ne, ne_eq, Bool.not_eq_true', Bool.not_eq_false', beq_eq_false_iff_ne, Bool.true_eq_false, Bool.false_eq_true, Int.not_le, Int.not_lt, Bool.and_eq_true, Bool.and_eq_false_iff, Bool.or_eq_true, Bool.or_eq_false_iff, bne_eq_false_iff_eq, reduceCtorEq] at h) <;> (try first | contradiction | (exfalso; omega) | (exfalso; revert h; simp; done) | (exfalso; revert h; simp; omega)))))
      all_goals simp only [Out, outA, outL, resA, go_sem, Nat.reduceLT, Nat.reduceLeDiff, Nat.reduceEqDiff, reduceIte, Nat.reduceAdd, Nat.reduceMul, Nat.reduceSub, Int.reduceLT, Int.reduceLE, Int.reduceToNat, Int.reduceNeg, reduceCtorEq]
      all_goals exact AVle.refl _
  · rw [decide_eq_true (by omega)] at hGr
    rw [hrc]
    clear hrc hn hr
    unfold nodesV at *
    refine acall_of (n := 92) (rs := [.tmp 4]) Try.func4 rfl (by kernel_rfl) rfl rfl rfl ?_; simp only [argsE, Nat.reduceAdd]
    repeat (any_goals (first | (refine aops_cons (fun K' h' => ?_); simp only [go_sem, Nat.reduceLT, Nat.reduceLeDiff, Nat.reduceEqDiff, reduceIte, Nat.reduceAdd, Nat.reduceMul, Nat.reduceSub, Int.reduceLT, Int.reduceLE, Int.reduceToNat, Int.reduceNeg, reduceCtorEq, hgs, Node.cells, aopG, beq_self_eq_true]; (try ((first | refine ⟨_, hGr, ?_⟩ | refine ⟨_, fun _ => hGr, ?_⟩ | refine ⟨_, hO6, ?_⟩ | refine ⟨_, fun _ => hO6, ?_⟩ | refine ⟨_, hF, ?_⟩ | refine ⟨_, fun _ => hF, ?_⟩ | refine ⟨_, hE1, ?_⟩ | refine ⟨_, fun _ => hE1, ?_⟩ | refine ⟨_, hE2, ?_⟩ | refine ⟨_, fun _ => hE2, ?_⟩ | refine ⟨_, hK1, ?_⟩ | refine ⟨_, fun _ => hK1, ?_⟩ | refine ⟨_, hK2, ?_⟩ | refine ⟨_, fun _ => hK2, ?_⟩ | refine ⟨_, alive12_c, ?_⟩ | refine ⟨_, fun _ => alive12_c, ?_⟩); (try simp only [go_sem, Nat.reduceLT, Nat.reduceLeDiff, Nat.reduceEqDiff, reduceIte, Nat.reduceAdd, Nat.reduceMul, Nat.reduceSub, Int.reduceLT, Int.reduceLE, Int.reduceToNat, Int.reduceNeg, reduceCtorEq, hgs, Node.cells, aopG, beq_self_eq_true]))); (try simp (disch := omega) only [wrap_id, getD_map_in, Int.toNat_natCast, Node.cells, aopG, beq_self_eq_true]); (repeat (refine And.intro (by (first | omega | (simp; done) | (simp; omega) | assumption)) ?_)); refine h' _ ?_; clear h' K') | (refine aops_nil (hK _ ?_); clear hK K hgs gs; try simp only [aThen, aBlock]) | ((first | refine AWp.sreg (id := 11) dd4 rfl (fun gs K hgs hK => ?_) | refine AWp.reg (id := 11) dd4 rfl (fun gs K hgs hK => ?_)); replace hgs : gs 2 = some 63 ∧ gs 6 = some 67 ∧ gs 10 = some 71 ∧ gs 14 = some 75 ∧ gs 18 = some 79 ∧ gs 23 = some 84 ∧ gs 28 = some 89 := ⟨hgs 2, hgs 6, hgs 10, hgs 14, hgs 18, hgs 23, hgs 28⟩) | (refine AWp.sreg  dd4 rfl (fun gs K hgs hK => ?_); replace hgs : Nat.succ 0 = 1 := rfl) | refine AWp.seq ?_ | refine ARounds.step ?_ | refine AWp.block ?_ | refine AWp.label ?_ | (refine AWp.ret ?_; try simp only [aThen, aBlock]) | (refine AWp.skip ?_; try simp only [aThen, aBlock]) | (refine AWp.exit ?_; try simp only [aThen, aBlock, Nat.reduceEqDiff, reduceIte]) | (refine AWp.reg  dd4 rfl (fun gs K hgs hK => ?_); replace hgs : Nat.succ 0 = 1 := rfl) | (refine aops_consG (fun K' h' => ?_); simp only [go_sem, Nat.reduceLT, Nat.reduceLeDiff, Nat.reduceEqDiff, reduceIte, Nat.reduceAdd, Nat.reduceMul, Nat.reduceSub, Int.reduceLT, Int.reduceLE, Int.reduceToNat, Int.reduceNeg, reduceCtorEq, hgs, Node.cells, aopG, beq_self_eq_true]; (try simp (disch := omega) only [wrap_id, getD_map_in, Int.toNat_natCast, Node.cells, aopG, beq_self_eq_true]); (repeat (refine And.intro (by (first | omega | (simp; done) | (simp; omega) | assumption)) ?_)); refine h' _ ?_; clear h' K') | (refine AWp.cond rfl (fun h => ?_) (fun h => ?_) <;> (try simp only [decide_eq_true_eq, decide_eq_false_iff_not, beq_iff_eq, bne_iff_ne, ne_eq, Bool.not_eq_true', Bool.not_eq_false', beq_eq_false_iff_ne, Bool.true_eq_false, Bool.false_eq_true, Int.not_le, Int.not_lt, Bool.and_eq_true, Bool.and_eq_false_iff, Bool.or_eq_true, Bool.or_eq_false_iff, bne_eq_false_iff_eq, reduceCtorEq] at h) <;> (try first | contradiction | (exfalso; omega) | (exfalso; revert h; simp; done) | (exfalso; revert h; simp; omega)))))
    all_goals simp only [Out, outA, outL, resA, go_sem, Nat.reduceLT, Nat.reduceLeDiff, Nat.reduceEqDiff, reduceIte, Nat.reduceAdd, Nat.reduceMul, Nat.reduceSub, Int.reduceLT, Int.reduceLE, Int.reduceToNat, Int.reduceNeg, reduceCtorEq]
    all_goals exact AVle.refl _
theorem fdvalues_all : ∀ xs, ShpAs Try.prog 8 Try.f4.params.toList xs → ACall Try.prog 4 xs (.lit (.bool true)) := by
  intro xs h
  have hp : Try.f4.params.toList = [22, 35] := by kernel_rfl
  rw [hp] at h
  obtain ⟨a, r, rfl, ha, h⟩ := h
  obtain ⟨b, r, rfl, hb, h⟩ := h
  obtain rfl : r = [] := h
  obtain ⟨l, rfl, hl, hn⟩ := nodesB_shape ha
  obtain ⟨r, rfl, hr⟩ := recB_shape hb
  exact fdvalues_law l r hl hn hr
end Go.Proofs.Yteohklfoggiojaa
