/-
  The law KindsPlaces.
-/
import Derived.Test.YtgcnlellpgkbeaaRunK
import Derived.Test.YtgcnlellpgkbeaaOtherL
import Derived.Test.YtgcnlellpgkbeaaTellsL
namespace Go.Proofs.Ytgcnlellpgkbeaa
open Go.AL Go.RowKit
set_option linter.unusedSimpArgs false
set_option linter.unusedVariables false
set_option maxRecDepth 10000
set_option maxHeartbeats 4000000

theorem mapf_cells {l : List Node} {f : Node → Node} {k : Nat} {y : Node} (hk : k < l.length) (hy : l.getD k default = y) :
    ((l.take (k + 1)).map f ++ l.drop (k + 1)).map Node.cells = (((l.take k).map f ++ l.drop k).map Node.cells).set k (f y).cells := by
  have e : l.drop k = y :: l.drop (k + 1) := by
    rw [List.drop_eq_getElem_cons hk]
    rw [List.getD_eq_getElem?_getD, List.getElem?_eq_getElem hk] at hy
    rw [show l[k] = y from hy]
  have e2 : l.take (k + 1) = l.take k ++ [y] := by
    rw [List.take_add_one, List.getElem?_eq_getElem hk]
    rw [List.getD_eq_getElem?_getD, List.getElem?_eq_getElem hk] at hy
    rw [show l[k] = y from hy]; rfl
  rw [← List.map_set]
  congr 1
  rw [e2, e, List.map_append, List.append_assoc, List.set_append_right _ _ (by simp; omega)]
  have : k - ((l.take k).map f).length = 0 := by simp; omega
  rw [this]; rfl

def dd5 : Nat → List (List Nat)
  | 0 => [[], [6]]
  | 1 => [[], [], [15], [16], [], [18], [19], [17, 20], [21], [], [23], [22, 24], [25], [], [27], [26, 28], [29], [], [31], [30, 32], [33], [], [35], [34, 36]]
  | 2 => [[0, 1, 2, 37], [], [38]]
  | 3 => [[37], [], [], [39, 40], [41]]
  | 4 => [[], []]
  | 5 => [[], [], [], [43], [42, 44]]
  | 6 => [[58], [8], [46], [47]]
  | 7 => [[45], [], [], [], [48, 49], [51], [50, 52]]
  | 8 => [[], [], [], [53, 54], [55], [56], [57]]
  | 9 => [[58], [], [], [], [], [], [59, 60], [64], [63, 65], [61, 62], [66], [67]]
  | 10 => [[1, 2, 8, 45], [0], [69], [70], [], [], [68], [71], [72], [73]]
  | 11 => [[], [7], [75], [76], [], [], [74], [77], [78], [79]]
  | 12 => [[], [9], [12], [80, 81], [82], [10], [13], [84, 85], [83, 86], [87], [11], [14], [89, 90], [88, 91], [92], [], [93, 94], [95]]
  | _ => []
theorem kplace_law (l : List Node) (p lf : Int) (hma : l.length ≤ maxLen) (hp1 : -9223372036854775808 ≤ p) (hp2 : p ≤ 9223372036854775807) : ACall Try.prog 5 [nodesV l, .lit (.int .i64 p), .lit (.int .u8 lf)] (.lit (.bool true)) := by
  have hG := great_c l
  have hC := rCheck_all l hma
  unfold maxLen at hma
  by_cases hv : l.length ≤ 70 ∧ errL l = 0 ∧ 0 ≤ p ∧ p ≤ 400 ∧ 1 ≤ lf ∧ lf ≤ 4
  · obtain ⟨hl, h0, hp, hq, hf1, hf2⟩ := hv
    obtain ⟨e, ht, hx, hsz, hdp⟩ := errL_ok h0
    have hxm := hx.leafy hp hq hf1 hf2
    have hem := errL_of hxm (by rw [e.leafy_sz]; exact hsz) (by rw [e.leafy_dp]; exact hdp)
    have hO1 := kOf_c l (by omega)
    have hO2 := kOf_c (l.map (Node.leafy p lf)) (by simp; omega)
    have hw := wrong_leafy hx (p := p) hf2
    have hlen : (l.map (Node.leafy p lf)).length = l.length := by simp
    have hpos : 0 < l.length := by rw [hx.len]; exact e.sz_pos
    have hB : ofB (l.map (Node.leafy p lf)) = ofB l := by
      unfold ofB
      rw [hem, h0, hw, hlen, getD_leafy (by omega), gives_leafy hf2]
    have hN : ofN (l.map (Node.leafy p lf)) = ofN l := by
      unfold ofN
      rw [hem, h0, hw, hlen]
    have hE : ofE (l.map (Node.leafy p lf)) = ofE l := by
      unfold ofE
      rw [hem, h0, hw, hlen]
    rw [hB, hN, hE] at hO2
    rw [h0] at hC
    generalize ofB l = ob at *
    generalize ofN l = on at *
    generalize ofE l = oe at *
    unfold nodesV at *
    refine acall_of (n := 96) (rs := [.tmp 6]) Try.func5 rfl (by kernel_rfl) rfl rfl rfl ?_; simp only [argsE, Nat.reduceAdd]
    repeat (any_goals (first | (refine aops_cons (fun K' h' => ?_); simp only [go_sem, Nat.reduceLT, Nat.reduceLeDiff, Nat.reduceEqDiff, reduceIte, Nat.reduceAdd, Nat.reduceMul, Nat.reduceSub, Int.reduceLT, Int.reduceLE, Int.reduceToNat, Int.reduceNeg, reduceCtorEq, hgs, Node.cells, Option.toArray_none, Option.toArray_some, List.toList_toArray]; (try simp (disch := omega) only [wrap_id, getD_map_in, Int.toNat_natCast, Node.cells, Option.toArray_none, Option.toArray_some, List.toList_toArray]); (repeat (refine And.intro (by (first | omega | (simp; done) | (simp; omega) | assumption)) ?_)); refine h' _ ?_; clear h' K') | (refine aops_nil (hK _ ?_); clear hK K hgs gs; try simp only [aThen, aBlock]) | ((first | refine aops_cons (fun K' h' => ?_) | refine aopsD_cons (fun K' h' => ?_)); simp only [go_sem, Nat.reduceLT, Nat.reduceLeDiff, Nat.reduceEqDiff, reduceIte, Nat.reduceAdd, Nat.reduceMul, Nat.reduceSub, Int.reduceLT, Int.reduceLE, Int.reduceToNat, Int.reduceNeg, reduceCtorEq, hgs, Node.cells, Option.toArray_none, Option.toArray_some, List.toList_toArray]; (first | refine ⟨_, hG, ?_⟩ | refine ⟨_, fun _ => hG, ?_⟩ | refine ⟨_, hC, ?_⟩ | refine ⟨_, fun _ => hC, ?_⟩ | refine ⟨_, alive6_c, ?_⟩ | refine ⟨_, fun _ => alive6_c, ?_⟩ | refine ⟨_, hO1, ?_⟩ | refine ⟨_, fun _ => hO1, ?_⟩ | refine ⟨_, hO2, ?_⟩ | refine ⟨_, fun _ => hO2, ?_⟩); (try simp only [go_sem, Nat.reduceLT, Nat.reduceLeDiff, Nat.reduceEqDiff, reduceIte, Nat.reduceAdd, Nat.reduceMul, Nat.reduceSub, Int.reduceLT, Int.reduceLE, Int.reduceToNat, Int.reduceNeg, reduceCtorEq, hgs, Node.cells, Option.toArray_none, Option.toArray_some, List.toList_toArray]); (repeat (refine And.intro (by (first | omega | (simp; done) | (simp; omega) | assumption)) ?_)); refine h' _ ?_; clear h' K') | (refine AWp.sreg (id := 1) dd5 rfl (fun gs K hgs hK => ?_); replace hgs : gs 2 = some 17 ∧ gs 7 = some 22 ∧ gs 11 = some 26 ∧ gs 15 = some 30 ∧ gs 19 = some 34 := ⟨hgs 2, hgs 7, hgs 11, hgs 15, hgs 19⟩) | (refine AWp.sreg (id := 12) dd5 rfl (fun gs K hgs hK => ?_); replace hgs : gs 3 = some 83 ∧ gs 8 = some 88 ∧ gs 13 = some 93 := ⟨hgs 3, hgs 8, hgs 13⟩) | (refine AWp.reg (id := 1) dd5 rfl (fun gs K hgs hK => ?_); replace hgs : gs 2 = some 17 ∧ gs 7 = some 22 ∧ gs 11 = some 26 ∧ gs 15 = some 30 ∧ gs 19 = some 34 := ⟨hgs 2, hgs 7, hgs 11, hgs 15, hgs 19⟩) | (refine AWp.reg (id := 12) dd5 rfl (fun gs K hgs hK => ?_); replace hgs : gs 3 = some 83 ∧ gs 8 = some 88 ∧ gs 13 = some 93 := ⟨hgs 3, hgs 8, hgs 13⟩) | (refine AWp.sreg  dd5 rfl (fun gs K hgs hK => ?_); replace hgs : Nat.succ 0 = 1 := rfl) | refine AWp.seq ?_ | refine ARounds.step ?_ | refine AWp.block ?_ | refine AWp.label ?_ | (refine AWp.ret ?_; try simp only [aThen, aBlock]) | (refine AWp.skip ?_; try simp only [aThen, aBlock]) | (refine AWp.exit ?_; try simp only [aThen, aBlock, Nat.reduceEqDiff, reduceIte]) | (refine AWp.reg  dd5 rfl (fun gs K hgs hK => ?_); replace hgs : Nat.succ 0 = 1 := rfl) | (refine AWp.cond rfl (fun h => ?_) (fun h => ?_) <;> (try simp only [decide_eq_true_eq, decide_eq_false_iff_not, beq_iff_eq, bne_iff_ne, ne_eq, Bool.not_eq_true', Bool.not_eq_false', beq_eq_false_iff_ne, Bool.true_eq_false, Bool.false_eq_true, Int.not_le, Int.not_lt, Bool.and_eq_true, Bool.and_eq_false_iff, Bool.or_eq_true, Bool.or_eq_false_iff, bne_eq_false_iff_eq, reduceCtorEq] at h) <;> (try first | contradiction | (exfalso; omega) | (exfalso; revert h; simp; done) | (exfalso; revert h; simp; omega)))))
    refine AWp.loop (I := fun k : Nat => k ≤ l.length) (fun k => ⟨[(0, .ro 5 (l.map Node.cells)), (1, .lit (.int .i64 p)), (2, .lit (.int .u8 lf)), (7, .own 0 5 0 l.length), (8, .lit (.int .i64 (k : Int)))], [], [some ⟨31, 5, ((l.take k).map (Node.leafy p lf) ++ l.drop k).map Node.cells⟩]⟩) (fun k => l.length - k) 0 ?_ ?_ ?_
    · exact Nat.zero_le _
    · refine Wk.of rfl (by simp [ASt.drop]) ?_
      simp [subE, eget, ASt.drop, dropE, keepR, lowE, AV.lowB, lowL, Nat.blt, Nat.ble]
    · rintro k hk
      repeat ((first | (refine aops_cons (fun K' h' => ?_); simp only [go_sem, Nat.reduceLT, Nat.reduceLeDiff, Nat.reduceEqDiff, reduceIte, Nat.reduceAdd, Nat.reduceMul, Nat.reduceSub, Int.reduceLT, Int.reduceLE, Int.reduceToNat, Int.reduceNeg, reduceCtorEq, hgs, Node.cells, Option.toArray_none, Option.toArray_some, List.toList_toArray]; (try simp (disch := omega) only [wrap_id, getD_map_in, Int.toNat_natCast, Node.cells, Option.toArray_none, Option.toArray_some, List.toList_toArray]); (repeat (refine And.intro (by (first | omega | (simp; done) | (simp; omega) | assumption)) ?_)); refine h' _ ?_; clear h' K') | (refine aops_nil (hK _ ?_); clear hK K hgs gs; try simp only [aThen, aBlock]) | ((first | refine aops_cons (fun K' h' => ?_) | refine aopsD_cons (fun K' h' => ?_)); simp only [go_sem, Nat.reduceLT, Nat.reduceLeDiff, Nat.reduceEqDiff, reduceIte, Nat.reduceAdd, Nat.reduceMul, Nat.reduceSub, Int.reduceLT, Int.reduceLE, Int.reduceToNat, Int.reduceNeg, reduceCtorEq, hgs, Node.cells, Option.toArray_none, Option.toArray_some, List.toList_toArray]; (first | refine ⟨_, hG, ?_⟩ | refine ⟨_, fun _ => hG, ?_⟩ | refine ⟨_, hC, ?_⟩ | refine ⟨_, fun _ => hC, ?_⟩ | refine ⟨_, alive6_c, ?_⟩ | refine ⟨_, fun _ => alive6_c, ?_⟩ | refine ⟨_, hO1, ?_⟩ | refine ⟨_, fun _ => hO1, ?_⟩ | refine ⟨_, hO2, ?_⟩ | refine ⟨_, fun _ => hO2, ?_⟩); (try simp only [go_sem, Nat.reduceLT, Nat.reduceLeDiff, Nat.reduceEqDiff, reduceIte, Nat.reduceAdd, Nat.reduceMul, Nat.reduceSub, Int.reduceLT, Int.reduceLE, Int.reduceToNat, Int.reduceNeg, reduceCtorEq, hgs, Node.cells, Option.toArray_none, Option.toArray_some, List.toList_toArray]); (repeat (refine And.intro (by (first | omega | (simp; done) | (simp; omega) | assumption)) ?_)); refine h' _ ?_; clear h' K') | (refine AWp.sreg (id := 1) dd5 rfl (fun gs K hgs hK => ?_); replace hgs : gs 2 = some 17 ∧ gs 7 = some 22 ∧ gs 11 = some 26 ∧ gs 15 = some 30 ∧ gs 19 = some 34 := ⟨hgs 2, hgs 7, hgs 11, hgs 15, hgs 19⟩) | (refine AWp.sreg (id := 12) dd5 rfl (fun gs K hgs hK => ?_); replace hgs : gs 3 = some 83 ∧ gs 8 = some 88 ∧ gs 13 = some 93 := ⟨hgs 3, hgs 8, hgs 13⟩) | (refine AWp.reg (id := 1) dd5 rfl (fun gs K hgs hK => ?_); replace hgs : gs 2 = some 17 ∧ gs 7 = some 22 ∧ gs 11 = some 26 ∧ gs 15 = some 30 ∧ gs 19 = some 34 := ⟨hgs 2, hgs 7, hgs 11, hgs 15, hgs 19⟩) | (refine AWp.reg (id := 12) dd5 rfl (fun gs K hgs hK => ?_); replace hgs : gs 3 = some 83 ∧ gs 8 = some 88 ∧ gs 13 = some 93 := ⟨hgs 3, hgs 8, hgs 13⟩) | (refine AWp.sreg  dd5 rfl (fun gs K hgs hK => ?_); replace hgs : Nat.succ 0 = 1 := rfl) | refine AWp.seq ?_ | refine ARounds.step ?_ | refine AWp.block ?_ | refine AWp.label ?_ | (refine AWp.ret ?_; try simp only [aThen, aBlock]) | (refine AWp.skip ?_; try simp only [aThen, aBlock]) | (refine AWp.exit ?_; try simp only [aThen, aBlock, Nat.reduceEqDiff, reduceIte]) | (refine AWp.reg  dd5 rfl (fun gs K hgs hK => ?_); replace hgs : Nat.succ 0 = 1 := rfl)))
      (refine AWp.cond rfl (fun h => ?_) (fun h => ?_) <;> (try simp only [decide_eq_true_eq, decide_eq_false_iff_not, beq_iff_eq, bne_iff_ne, ne_eq, Bool.not_eq_true', Bool.not_eq_false', beq_eq_false_iff_ne, Bool.true_eq_false, Bool.false_eq_true, Int.not_le, Int.not_lt, Bool.and_eq_true, Bool.and_eq_false_iff, Bool.or_eq_true, Bool.or_eq_false_iff, bne_eq_false_iff_eq, reduceCtorEq] at h) <;> (try first | contradiction | (exfalso; omega) | (exfalso; revert h; simp; done) | (exfalso; revert h; simp; omega)))
      · obtain ⟨y, hy⟩ : ∃ y, l.getD k default = y := ⟨_, rfl⟩
        have hg : ((l.take k).map (Node.leafy p lf) ++ l.drop k).getD k default = y := by
          rw [List.getD_eq_getElem?_getD, List.getElem?_append_right (by simp; omega)]
          simp only [List.length_map, List.length_take, List.getElem?_drop]
          rw [← hy, List.getD_eq_getElem?_getD, show k + (k - min k l.length) = k by omega]
        have hgl : ((l.take k).map (Node.leafy p lf) ++ l.drop k).length = l.length := by simp; omega
        have hset := mapf_cells (f := Node.leafy p lf) (by omega) hy
        obtain ⟨M, hM⟩ : ∃ M, (l.take k).map (Node.leafy p lf) ++ l.drop k = M := ⟨_, rfl⟩
        rw [hM] at hg hgl hset
        rw [hM]
        have hst2 : ∀ v, ((M.map Node.cells).set k v).getD k [] = v := fun v => by
          rw [List.getD_eq_getElem?_getD, List.getElem?_set_self (by rw [List.length_map, hgl]; omega)]; rfl
        obtain ⟨kd, nn, xa, xb, xp⟩ := y
        repeat (any_goals (first | (refine aops_cons (fun K' h' => ?_); simp only [go_sem, Nat.reduceLT, Nat.reduceLeDiff, Nat.reduceEqDiff, reduceIte, Nat.reduceAdd, Nat.reduceMul, Nat.reduceSub, Int.reduceLT, Int.reduceLE, Int.reduceToNat, Int.reduceNeg, reduceCtorEq, hgs, Node.cells, Option.toArray_none, Option.toArray_some, List.toList_toArray, hg, hgl, hst2, List.set_set]; (try simp (disch := omega) only [wrap_id, getD_map_in, Int.toNat_natCast, Node.cells, Option.toArray_none, Option.toArray_some, List.toList_toArray, hg, hgl, hst2, List.set_set]); (repeat (refine And.intro (by (first | omega | (simp; done) | (simp; omega) | assumption)) ?_)); refine h' _ ?_; clear h' K') | (refine aops_nil (hK _ ?_); clear hK K hgs gs; try simp only [aThen, aBlock]) | ((first | refine aops_cons (fun K' h' => ?_) | refine aopsD_cons (fun K' h' => ?_)); simp only [go_sem, Nat.reduceLT, Nat.reduceLeDiff, Nat.reduceEqDiff, reduceIte, Nat.reduceAdd, Nat.reduceMul, Nat.reduceSub, Int.reduceLT, Int.reduceLE, Int.reduceToNat, Int.reduceNeg, reduceCtorEq, hgs, Node.cells, Option.toArray_none, Option.toArray_some, List.toList_toArray, hg, hgl, hst2, List.set_set]; (first | refine ⟨_, hG, ?_⟩ | refine ⟨_, fun _ => hG, ?_⟩ | refine ⟨_, hC, ?_⟩ | refine ⟨_, fun _ => hC, ?_⟩ | refine ⟨_, alive6_c, ?_⟩ | refine ⟨_, fun _ => alive6_c, ?_⟩ | refine ⟨_, hO1, ?_⟩ | refine ⟨_, fun _ => hO1, ?_⟩ | refine ⟨_, hO2, ?_⟩ | refine ⟨_, fun _ => hO2, ?_⟩); (try simp only [go_sem, Nat.reduceLT, Nat.reduceLeDiff, Nat.reduceEqDiff, reduceIte, Nat.reduceAdd, Nat.reduceMul, Nat.reduceSub, Int.reduceLT, Int.reduceLE, Int.reduceToNat, Int.reduceNeg, reduceCtorEq, hgs, Node.cells, Option.toArray_none, Option.toArray_some, List.toList_toArray, hg, hgl, hst2, List.set_set]); (repeat (refine And.intro (by (first | omega | (simp; done) | (simp; omega) | assumption)) ?_)); refine h' _ ?_; clear h' K') | (refine AWp.sreg (id := 1) dd5 rfl (fun gs K hgs hK => ?_); replace hgs : gs 2 = some 17 ∧ gs 7 = some 22 ∧ gs 11 = some 26 ∧ gs 15 = some 30 ∧ gs 19 = some 34 := ⟨hgs 2, hgs 7, hgs 11, hgs 15, hgs 19⟩) | (refine AWp.sreg (id := 12) dd5 rfl (fun gs K hgs hK => ?_); replace hgs : gs 3 = some 83 ∧ gs 8 = some 88 ∧ gs 13 = some 93 := ⟨hgs 3, hgs 8, hgs 13⟩) | (refine AWp.reg (id := 1) dd5 rfl (fun gs K hgs hK => ?_); replace hgs : gs 2 = some 17 ∧ gs 7 = some 22 ∧ gs 11 = some 26 ∧ gs 15 = some 30 ∧ gs 19 = some 34 := ⟨hgs 2, hgs 7, hgs 11, hgs 15, hgs 19⟩) | (refine AWp.reg (id := 12) dd5 rfl (fun gs K hgs hK => ?_); replace hgs : gs 3 = some 83 ∧ gs 8 = some 88 ∧ gs 13 = some 93 := ⟨hgs 3, hgs 8, hgs 13⟩) | (refine AWp.sreg  dd5 rfl (fun gs K hgs hK => ?_); replace hgs : Nat.succ 0 = 1 := rfl) | refine AWp.seq ?_ | refine ARounds.step ?_ | refine AWp.block ?_ | refine AWp.label ?_ | (refine AWp.ret ?_; try simp only [aThen, aBlock]) | (refine AWp.skip ?_; try simp only [aThen, aBlock]) | (refine AWp.exit ?_; try simp only [aThen, aBlock, Nat.reduceEqDiff, reduceIte]) | (refine AWp.reg  dd5 rfl (fun gs K hgs hK => ?_); replace hgs : Nat.succ 0 = 1 := rfl) | (refine AWp.cond rfl (fun h => ?_) (fun h => ?_) <;> (try simp only [decide_eq_true_eq, decide_eq_false_iff_not, beq_iff_eq, bne_iff_ne, ne_eq, Bool.not_eq_true', Bool.not_eq_false', beq_eq_false_iff_ne, Bool.true_eq_false, Bool.false_eq_true, Int.not_le, Int.not_lt, Bool.and_eq_true, Bool.and_eq_false_iff, Bool.or_eq_true, Bool.or_eq_false_iff, bne_eq_false_iff_eq, reduceCtorEq] at h) <;> (try first | contradiction | (exfalso; omega) | (exfalso; revert h; simp; done) | (exfalso; revert h; simp; omega)))))
        all_goals refine ⟨k + 1, by omega, Wk.of rfl ?_ ?_, by omega⟩
        all_goals first
          | (simp [subE, eget, ASt.drop, dropE, keepR, lowE, AV.lowB, lowL, Nat.blt, Nat.ble]; done)
          | (simp [subE, eget, ASt.drop, dropE, keepR, lowE, AV.lowB, lowL, Nat.blt, Nat.ble]; omega)
          | (simp only [ASt.drop]; rw [hset]; simp [Node.leafy, Node.cells, show kd ≤ 4 by omega]; done)
          | (simp only [ASt.drop]; rw [hset]; simp [Node.leafy, Node.cells, show ¬ kd ≤ 4 by omega]; done)
      · have ek : k = l.length := by omega
        subst ek
        have htk : (((l.map (Node.leafy p lf)).map Node.cells)).take l.length = (l.map (Node.leafy p lf)).map Node.cells := List.take_of_length_le (by simp)
        repeat (any_goals (first | (refine aops_cons (fun K' h' => ?_); simp only [go_sem, Nat.reduceLT, Nat.reduceLeDiff, Nat.reduceEqDiff, reduceIte, Nat.reduceAdd, Nat.reduceMul, Nat.reduceSub, Int.reduceLT, Int.reduceLE, Int.reduceToNat, Int.reduceNeg, reduceCtorEq, hgs, Node.cells, Option.toArray_none, Option.toArray_some, List.toList_toArray, List.take_length, List.drop_length, List.append_nil, List.drop_zero, htk]; (try simp (disch := omega) only [wrap_id, getD_map_in, Int.toNat_natCast, Node.cells, Option.toArray_none, Option.toArray_some, List.toList_toArray, List.take_length, List.drop_length, List.append_nil, List.drop_zero, htk]); (repeat (refine And.intro (by (first | omega | (simp; done) | (simp; omega) | assumption)) ?_)); refine h' _ ?_; clear h' K') | (refine aops_nil (hK _ ?_); clear hK K hgs gs; try simp only [aThen, aBlock]) | ((first | refine aops_cons (fun K' h' => ?_) | refine aopsD_cons (fun K' h' => ?_)); simp only [go_sem, Nat.reduceLT, Nat.reduceLeDiff, Nat.reduceEqDiff, reduceIte, Nat.reduceAdd, Nat.reduceMul, Nat.reduceSub, Int.reduceLT, Int.reduceLE, Int.reduceToNat, Int.reduceNeg, reduceCtorEq, hgs, Node.cells, Option.toArray_none, Option.toArray_some, List.toList_toArray, List.take_length, List.drop_length, List.append_nil, List.drop_zero, htk]; (first | refine ⟨_, hG, ?_⟩ | refine ⟨_, fun _ => hG, ?_⟩ | refine ⟨_, hC, ?_⟩ | refine ⟨_, fun _ => hC, ?_⟩ | refine ⟨_, alive6_c, ?_⟩ | refine ⟨_, fun _ => alive6_c, ?_⟩ | refine ⟨_, hO1, ?_⟩ | refine ⟨_, fun _ => hO1, ?_⟩ | refine ⟨_, hO2, ?_⟩ | refine ⟨_, fun _ => hO2, ?_⟩); (try simp only [go_sem, Nat.reduceLT, Nat.reduceLeDiff, Nat.reduceEqDiff, reduceIte, Nat.reduceAdd, Nat.reduceMul, Nat.reduceSub, Int.reduceLT, Int.reduceLE, Int.reduceToNat, Int.reduceNeg, reduceCtorEq, hgs, Node.cells, Option.toArray_none, Option.toArray_some, List.toList_toArray, List.take_length, List.drop_length, List.append_nil, List.drop_zero, htk]); (repeat (refine And.intro (by (first | omega | (simp; done) | (simp; omega) | assumption)) ?_)); refine h' _ ?_; clear h' K') | (refine AWp.sreg (id := 1) dd5 rfl (fun gs K hgs hK => ?_); replace hgs : gs 2 = some 17 ∧ gs 7 = some 22 ∧ gs 11 = some 26 ∧ gs 15 = some 30 ∧ gs 19 = some 34 := ⟨hgs 2, hgs 7, hgs 11, hgs 15, hgs 19⟩) | (refine AWp.sreg (id := 12) dd5 rfl (fun gs K hgs hK => ?_); replace hgs : gs 3 = some 83 ∧ gs 8 = some 88 ∧ gs 13 = some 93 := ⟨hgs 3, hgs 8, hgs 13⟩) | (refine AWp.reg (id := 1) dd5 rfl (fun gs K hgs hK => ?_); replace hgs : gs 2 = some 17 ∧ gs 7 = some 22 ∧ gs 11 = some 26 ∧ gs 15 = some 30 ∧ gs 19 = some 34 := ⟨hgs 2, hgs 7, hgs 11, hgs 15, hgs 19⟩) | (refine AWp.reg (id := 12) dd5 rfl (fun gs K hgs hK => ?_); replace hgs : gs 3 = some 83 ∧ gs 8 = some 88 ∧ gs 13 = some 93 := ⟨hgs 3, hgs 8, hgs 13⟩) | (refine AWp.sreg  dd5 rfl (fun gs K hgs hK => ?_); replace hgs : Nat.succ 0 = 1 := rfl) | refine AWp.seq ?_ | refine ARounds.step ?_ | refine AWp.block ?_ | refine AWp.label ?_ | (refine AWp.ret ?_; try simp only [aThen, aBlock]) | (refine AWp.skip ?_; try simp only [aThen, aBlock]) | (refine AWp.exit ?_; try simp only [aThen, aBlock, Nat.reduceEqDiff, reduceIte]) | (refine AWp.reg  dd5 rfl (fun gs K hgs hK => ?_); replace hgs : Nat.succ 0 = 1 := rfl) | (refine AWp.cond rfl (fun h => ?_) (fun h => ?_) <;> (try simp only [decide_eq_true_eq, decide_eq_false_iff_not, beq_iff_eq, bne_iff_ne, ne_eq, Bool.not_eq_true', Bool.not_eq_false', beq_eq_false_iff_ne, Bool.true_eq_false, Bool.false_eq_true, Int.not_le, Int.not_lt, Bool.and_eq_true, Bool.and_eq_false_iff, Bool.or_eq_true, Bool.or_eq_false_iff, bne_eq_false_iff_eq, reduceCtorEq] at h) <;> (try first | contradiction | (exfalso; omega) | (exfalso; revert h; simp; done) | (exfalso; revert h; simp; omega)))))
        all_goals simp only [Out, outA, outL, resA, go_sem, Nat.reduceLT, Nat.reduceLeDiff, Nat.reduceEqDiff, reduceIte, Nat.reduceAdd, Nat.reduceMul, Nat.reduceSub, Int.reduceLT, Int.reduceLE, Int.reduceToNat, Int.reduceNeg, reduceCtorEq]
        all_goals exact AVle.of_eq (congrArg (fun b => AV.lit (.bool b)) (by simp))
  · generalize errL l = ea at *
    unfold nodesV at *
    refine acall_of (n := 96) (rs := [.tmp 6]) Try.func5 rfl (by kernel_rfl) rfl rfl rfl ?_; simp only [argsE, Nat.reduceAdd]
    repeat (any_goals (first | (refine aops_cons (fun K' h' => ?_); simp only [go_sem, Nat.reduceLT, Nat.reduceLeDiff, Nat.reduceEqDiff, reduceIte, Nat.reduceAdd, Nat.reduceMul, Nat.reduceSub, Int.reduceLT, Int.reduceLE, Int.reduceToNat, Int.reduceNeg, reduceCtorEq, hgs, Node.cells, Option.toArray_none, Option.toArray_some, List.toList_toArray]; (try simp (disch := omega) only [wrap_id, getD_map_in, Int.toNat_natCast, Node.cells, Option.toArray_none, Option.toArray_some, List.toList_toArray]); (repeat (refine And.intro (by (first | omega | (simp; done) | (simp; omega) | assumption)) ?_)); refine h' _ ?_; clear h' K') | (refine aops_nil (hK _ ?_); clear hK K hgs gs; try simp only [aThen, aBlock]) | ((first | refine aops_cons (fun K' h' => ?_) | refine aopsD_cons (fun K' h' => ?_)); simp only [go_sem, Nat.reduceLT, Nat.reduceLeDiff, Nat.reduceEqDiff, reduceIte, Nat.reduceAdd, Nat.reduceMul, Nat.reduceSub, Int.reduceLT, Int.reduceLE, Int.reduceToNat, Int.reduceNeg, reduceCtorEq, hgs, Node.cells, Option.toArray_none, Option.toArray_some, List.toList_toArray]; (first | refine ⟨_, hG, ?_⟩ | refine ⟨_, fun _ => hG, ?_⟩ | refine ⟨_, hC, ?_⟩ | refine ⟨_, fun _ => hC, ?_⟩ | refine ⟨_, alive6_c, ?_⟩ | refine ⟨_, fun _ => alive6_c, ?_⟩ | refine ⟨_, hO1, ?_⟩ | refine ⟨_, fun _ => hO1, ?_⟩ | refine ⟨_, hO2, ?_⟩ | refine ⟨_, fun _ => hO2, ?_⟩); (try simp only [go_sem, Nat.reduceLT, Nat.reduceLeDiff, Nat.reduceEqDiff, reduceIte, Nat.reduceAdd, Nat.reduceMul, Nat.reduceSub, Int.reduceLT, Int.reduceLE, Int.reduceToNat, Int.reduceNeg, reduceCtorEq, hgs, Node.cells, Option.toArray_none, Option.toArray_some, List.toList_toArray]); (repeat (refine And.intro (by (first | omega | (simp; done) | (simp; omega) | assumption)) ?_)); refine h' _ ?_; clear h' K') | (refine AWp.sreg (id := 1) dd5 rfl (fun gs K hgs hK => ?_); replace hgs : gs 2 = some 17 ∧ gs 7 = some 22 ∧ gs 11 = some 26 ∧ gs 15 = some 30 ∧ gs 19 = some 34 := ⟨hgs 2, hgs 7, hgs 11, hgs 15, hgs 19⟩) | (refine AWp.sreg (id := 12) dd5 rfl (fun gs K hgs hK => ?_); replace hgs : gs 3 = some 83 ∧ gs 8 = some 88 ∧ gs 13 = some 93 := ⟨hgs 3, hgs 8, hgs 13⟩) | (refine AWp.reg (id := 1) dd5 rfl (fun gs K hgs hK => ?_); replace hgs : gs 2 = some 17 ∧ gs 7 = some 22 ∧ gs 11 = some 26 ∧ gs 15 = some 30 ∧ gs 19 = some 34 := ⟨hgs 2, hgs 7, hgs 11, hgs 15, hgs 19⟩) | (refine AWp.reg (id := 12) dd5 rfl (fun gs K hgs hK => ?_); replace hgs : gs 3 = some 83 ∧ gs 8 = some 88 ∧ gs 13 = some 93 := ⟨hgs 3, hgs 8, hgs 13⟩) | (refine AWp.sreg  dd5 rfl (fun gs K hgs hK => ?_); replace hgs : Nat.succ 0 = 1 := rfl) | refine AWp.seq ?_ | refine ARounds.step ?_ | refine AWp.block ?_ | refine AWp.label ?_ | (refine AWp.ret ?_; try simp only [aThen, aBlock]) | (refine AWp.skip ?_; try simp only [aThen, aBlock]) | (refine AWp.exit ?_; try simp only [aThen, aBlock, Nat.reduceEqDiff, reduceIte]) | (refine AWp.reg  dd5 rfl (fun gs K hgs hK => ?_); replace hgs : Nat.succ 0 = 1 := rfl) | (refine AWp.cond rfl (fun h => ?_) (fun h => ?_) <;> (try simp only [decide_eq_true_eq, decide_eq_false_iff_not, beq_iff_eq, bne_iff_ne, ne_eq, Bool.not_eq_true', Bool.not_eq_false', beq_eq_false_iff_ne, Bool.true_eq_false, Bool.false_eq_true, Int.not_le, Int.not_lt, Bool.and_eq_true, Bool.and_eq_false_iff, Bool.or_eq_true, Bool.or_eq_false_iff, bne_eq_false_iff_eq, reduceCtorEq] at h) <;> (try first | contradiction | (exfalso; omega) | (exfalso; revert h; simp; done) | (exfalso; revert h; simp; omega)))))
    all_goals first
      | (exfalso; omega)
      | (simp only [Out, outA, outL, resA, go_sem, Nat.reduceLT, Nat.reduceLeDiff, Nat.reduceEqDiff, reduceIte, Nat.reduceAdd, Nat.reduceMul, Nat.reduceSub, Int.reduceLT, Int.reduceLE, Int.reduceToNat, Int.reduceNeg, reduceCtorEq]
         exact AVle.refl _)
theorem kplace_all : ∀ xs, ShpAs Try.prog 8 Try.f5.params.toList xs → ACall Try.prog 5 xs (.lit (.bool true)) := by
  intro xs h
  have hp : Try.f5.params.toList = [22, 3, 5] := by kernel_rfl
  rw [hp] at h
  obtain ⟨a, r, rfl, ha, h1⟩ := h
  obtain ⟨b, r, rfl, hb, h2⟩ := h1
  obtain ⟨c, r, rfl, hc, h3⟩ := h2
  obtain rfl : r = [] := h3
  obtain ⟨l, rfl, hm⟩ := nodes_shape ha
  obtain ⟨n, rfl, h1, h2⟩ := int_shape hb
  obtain ⟨k, rfl⟩ := u8_shape hc
  exact kplace_law l n k hm h1 h2
end Go.Proofs.Ytgcnlellpgkbeaa
