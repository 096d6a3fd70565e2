/-
  The law EvalsUses.
-/
import Derived.Test.YtmdnhmcmnojlkaaVShp
namespace Go.Proofs.Ytmdnhmcmnojlkaa
open Go.AL Go.RowKit
set_option linter.unusedSimpArgs false
set_option linter.unusedVariables false
set_option maxRecDepth 10000
set_option maxHeartbeats 8000000

def dd6 : Nat → List (List Nat)
  | 0 => [[], [1], [2], [6]]
  | 1 => [[], [], [18]]
  | 2 => [[0, 4, 5, 19], [], [20]]
  | 3 => [[19], [], [22], [23], [], [], [21], [7, 24], [8, 25], [26]]
  | 4 => [[], [9], [27]]
  | 5 => [[0, 4, 5, 28], [], [29]]
  | 6 => [[28], [], [31], [32], [], [], [], [30], [33], [34], [35], [36]]
  | 7 => [[], [10]]
  | 8 => [[37], [], [38], [], [39, 40]]
  | 9 => [[37], [11]]
  | 10 => [[41], [], [42], [], [43, 44]]
  | 11 => [[41], [12]]
  | 12 => [[45], [], [46], [], [47, 48]]
  | 13 => [[45], [], [4], [50, 51], [52], [], [49], [53], [54]]
  | 14 => [[], [0], [5], [56, 57], [58], [], [55], [59], [60]]
  | 15 => [[], [13], [61], [62], [15], [64], [63, 65], [66], [17], [68], [67, 69], [70], [14], [16], [72, 73], [71, 74], [75], [], [76, 77], [78]]
  | _ => []
theorem euses_law (l : List Node) (r s : Rcd) (hl : l.length ≤ maxLen) (hn : nodesB l) (hr : r.B) (hs : s.B) : ACall Try.prog 6 [nodesV l, .agg r.cells, .agg s.cells] (.lit (.bool true)) := by
  have hGr := great_c l
  have hrc : r.cells = [.lit (.int .i64 r.key), .lit (.int .i64 r.t), .lit (.int .i64 r.v)] := rfl
  have hsc : s.cells = [.lit (.int .i64 s.key), .lit (.int .i64 s.t), .lit (.int .i64 s.v)] := rfl
  unfold maxLen at hl
  by_cases hg : l.length ≤ 70
  · rw [decide_eq_false (by omega)] at hGr
    have hO6 := rOf_c l (by omega)
    by_cases h0 : ofE l = 0
    · obtain ⟨e, hx, hlen, hp⟩ := ofE_ex h0
      have hO := eOf_c l r (by omega) hr hn
      have hU := eUses_c l (by omega)
      unfold usesB at hU
      rw [if_pos h0, if_pos h0, if_pos h0, h0] at hU
      rw [h0] at hO hO6
      have hv : ∀ s' : Rcd, (hasK 2 l = true → r.key = s'.key) → (hasK 3 l = true → r.t = s'.t) → (hasK 4 l = true → r.v = s'.v) → s'.B → ACall Try.prog 13 [nodesV l, .agg s'.cells] (.tup [.lit (.int .i64 (ofV r l)), .lit (.int .i64 0)]) := fun s' q1 q2 q3 hb => by
        have h1 := eOf_c l s' (by omega) hb hn
        rw [h0] at h1
        have : ofV r l = ofV s' l := by
          unfold ofV
          rw [if_pos h0, if_pos h0]
          exact valAt_uses hx q1 q2 q3 _ (by omega)
        rw [this]; exact h1
      have hO2 := hv ⟨if hasK 2 l = true then r.key else s.key, if hasK 3 l = true then r.t else s.t, if hasK 4 l = true then r.v else s.v⟩ (fun h => by simp [h]) (fun h => by simp [h]) (fun h => by simp [h])
        ⟨by simp only; split; exact hr.1; exact hs.1, by simp only; split; exact hr.2.1; exact hs.2.1, by simp only; split; exact hr.2.2; exact hs.2.2⟩
      clear hv
      rw [hrc] at hO ⊢
      rw [hsc]
      unfold Rcd.cells at hO2
      generalize ofB l = ob at *
      generalize ofN l = on at *
      generalize ofV r l = v at *
      clear hrc hsc hn hr hs hx
      unfold nodesV at *
      generalize hasK 2 l = u2 at *
      generalize hasK 3 l = u3 at *
      generalize hasK 4 l = u4 at *
      cases u2 <;> cases u3 <;> cases u4
      all_goals simp only [Bool.false_eq_true, reduceIte] at hO2
      all_goals
        refine acall_of (n := 79) (rs := [.tmp 6]) Try.func6 rfl (by kernel_rfl) rfl rfl rfl ?_; simp only [argsE, Nat.reduceAdd]
        repeat (any_goals (first | (refine aops_cons (fun K' h' => ?_); simp only [go_sem, Nat.reduceLT, Nat.reduceLeDiff, Nat.reduceEqDiff, reduceIte, Nat.reduceAdd, Nat.reduceMul, Nat.reduceSub, Int.reduceLT, Int.reduceLE, Int.reduceToNat, Int.reduceNeg, reduceCtorEq, hgs, Node.cells, intC, aopG, bne_self_eq_false, Bool.not_false, beq_self_eq_true, Option.toArray_none, Option.toArray_some, List.toList_toArray]; (try simp (disch := omega) only [wrap_id, getD_map_in, Int.toNat_natCast, Node.cells, intC, aopG, bne_self_eq_false, Bool.not_false, beq_self_eq_true, Option.toArray_none, Option.toArray_some, List.toList_toArray]); (repeat (refine And.intro (by (first | omega | (simp; done) | (simp; omega) | assumption)) ?_)); refine h' _ ?_; clear h' K') | (refine aops_nil (hK _ ?_); clear hK K hgs gs; try simp only [aThen, aBlock]) | ((first | refine aops_cons (fun K' h' => ?_) | refine aopsD_cons (fun K' h' => ?_)); simp only [go_sem, Nat.reduceLT, Nat.reduceLeDiff, Nat.reduceEqDiff, reduceIte, Nat.reduceAdd, Nat.reduceMul, Nat.reduceSub, Int.reduceLT, Int.reduceLE, Int.reduceToNat, Int.reduceNeg, reduceCtorEq, hgs, Node.cells, intC, aopG, bne_self_eq_false, Bool.not_false, beq_self_eq_true, Option.toArray_none, Option.toArray_some, List.toList_toArray]; (first | refine ⟨_, hGr, ?_⟩ | refine ⟨_, fun _ => hGr, ?_⟩ | refine ⟨_, hGr2, ?_⟩ | refine ⟨_, fun _ => hGr2, ?_⟩ | refine ⟨_, hO6, ?_⟩ | refine ⟨_, fun _ => hO6, ?_⟩ | refine ⟨_, hO, ?_⟩ | refine ⟨_, fun _ => hO, ?_⟩ | refine ⟨_, hO2, ?_⟩ | refine ⟨_, fun _ => hO2, ?_⟩ | refine ⟨_, hO3, ?_⟩ | refine ⟨_, fun _ => hO3, ?_⟩ | refine ⟨_, hU, ?_⟩ | refine ⟨_, fun _ => hU, ?_⟩ | refine ⟨_, alive7_c, ?_⟩ | refine ⟨_, fun _ => alive7_c, ?_⟩); (try simp only [go_sem, Nat.reduceLT, Nat.reduceLeDiff, Nat.reduceEqDiff, reduceIte, Nat.reduceAdd, Nat.reduceMul, Nat.reduceSub, Int.reduceLT, Int.reduceLE, Int.reduceToNat, Int.reduceNeg, reduceCtorEq, hgs, Node.cells, intC, aopG, bne_self_eq_false, Bool.not_false, beq_self_eq_true, Option.toArray_none, Option.toArray_some, List.toList_toArray]); (repeat (refine And.intro (by (first | omega | (simp; done) | (simp; omega) | assumption)) ?_)); refine h' _ ?_; clear h' K') | (refine AWp.sreg (id := 15) dd6 rfl (fun gs K hgs hK => ?_); replace hgs : gs 2 = some 63 ∧ gs 6 = some 67 ∧ gs 10 = some 71 ∧ gs 15 = some 76 := ⟨hgs 2, hgs 6, hgs 10, hgs 15⟩) | (refine AWp.reg (id := 15) dd6 rfl (fun gs K hgs hK => ?_); replace hgs : gs 2 = some 63 ∧ gs 6 = some 67 ∧ gs 10 = some 71 ∧ gs 15 = some 76 := ⟨hgs 2, hgs 6, hgs 10, hgs 15⟩) | (refine AWp.sreg  dd6 rfl (fun gs K hgs hK => ?_); replace hgs : Nat.succ 0 = 1 := rfl) | refine AWp.seq ?_ | refine ARounds.step ?_ | refine AWp.block ?_ | refine AWp.label ?_ | (refine AWp.ret ?_; try simp only [aThen, aBlock]) | (refine AWp.skip ?_; try simp only [aThen, aBlock]) | (refine AWp.exit ?_; try simp only [aThen, aBlock, Nat.reduceEqDiff, reduceIte]) | (refine AWp.reg  dd6 rfl (fun gs K hgs hK => ?_); replace hgs : Nat.succ 0 = 1 := rfl) | (refine aops_consG (fun K' h' => ?_); simp only [go_sem, Nat.reduceLT, Nat.reduceLeDiff, Nat.reduceEqDiff, reduceIte, Nat.reduceAdd, Nat.reduceMul, Nat.reduceSub, Int.reduceLT, Int.reduceLE, Int.reduceToNat, Int.reduceNeg, reduceCtorEq, hgs, Node.cells, intC, aopG, bne_self_eq_false, Bool.not_false, beq_self_eq_true, Option.toArray_none, Option.toArray_some, List.toList_toArray]; (try simp (disch := omega) only [wrap_id, getD_map_in, Int.toNat_natCast, Node.cells, intC, aopG, bne_self_eq_false, Bool.not_false, beq_self_eq_true, Option.toArray_none, Option.toArray_some, List.toList_toArray]); (repeat (refine And.intro (by (first | omega | (simp; done) | (simp; omega) | assumption)) ?_)); refine h' _ ?_; clear h' K') | (refine AWp.cond rfl (fun h => ?_) (fun h => ?_) <;> (try simp only [decide_eq_true_eq, decide_eq_false_iff_not, beq_iff_eq, bne_iff_ne, ne_eq, Bool.not_eq_true', Bool.not_eq_false', beq_eq_false_iff_ne, Bool.true_eq_false, Bool.false_eq_true, Int.not_le, Int.not_lt, Bool.and_eq_true, Bool.and_eq_false_iff, Bool.or_eq_true, Bool.or_eq_false_iff, bne_eq_false_iff_eq, reduceCtorEq] at h) <;> (try first | contradiction | (exfalso; omega) | (exfalso; revert h; simp; done) | (exfalso; revert h; simp; omega)))))
        simp only [Out, outA, outL, resA, go_sem, Nat.reduceLT, Nat.reduceLeDiff, Nat.reduceEqDiff, reduceIte, Nat.reduceAdd, Nat.reduceMul, Nat.reduceSub, Int.reduceLT, Int.reduceLE, Int.reduceToNat, Int.reduceNeg, reduceCtorEq]
        exact AVle.of_eq (by simp)
    · rw [hrc, hsc]
      generalize ofB l = ob at *
      generalize ofN l = on at *
      generalize ofE l = oe at *
      clear hrc hsc hn hr hs
      unfold nodesV at *
      refine acall_of (n := 79) (rs := [.tmp 6]) Try.func6 rfl (by kernel_rfl) rfl rfl rfl ?_; simp only [argsE, Nat.reduceAdd]
      repeat (any_goals (first | (refine aops_cons (fun K' h' => ?_); simp only [go_sem, Nat.reduceLT, Nat.reduceLeDiff, Nat.reduceEqDiff, reduceIte, Nat.reduceAdd, Nat.reduceMul, Nat.reduceSub, Int.reduceLT, Int.reduceLE, Int.reduceToNat, Int.reduceNeg, reduceCtorEq, hgs, Node.cells, intC, aopG, bne_self_eq_false, Bool.not_false, beq_self_eq_true, Option.toArray_none, Option.toArray_some, List.toList_toArray]; (try simp (disch := omega) only [wrap_id, getD_map_in, Int.toNat_natCast, Node.cells, intC, aopG, bne_self_eq_false, Bool.not_false, beq_self_eq_true, Option.toArray_none, Option.toArray_some, List.toList_toArray]); (repeat (refine And.intro (by (first | omega | (simp; done) | (simp; omega) | assumption)) ?_)); refine h' _ ?_; clear h' K') | (refine aops_nil (hK _ ?_); clear hK K hgs gs; try simp only [aThen, aBlock]) | ((first | refine aops_cons (fun K' h' => ?_) | refine aopsD_cons (fun K' h' => ?_)); simp only [go_sem, Nat.reduceLT, Nat.reduceLeDiff, Nat.reduceEqDiff, reduceIte, Nat.reduceAdd, Nat.reduceMul, Nat.reduceSub, Int.reduceLT, Int.reduceLE, Int.reduceToNat, Int.reduceNeg, reduceCtorEq, hgs, Node.cells, intC, aopG, bne_self_eq_false, Bool.not_false, beq_self_eq_true, Option.toArray_none, Option.toArray_some, List.toList_toArray]; (first | refine ⟨_, hGr, ?_⟩ | refine ⟨_, fun _ => hGr, ?_⟩ | refine ⟨_, hGr2, ?_⟩ | refine ⟨_, fun _ => hGr2, ?_⟩ | refine ⟨_, hO6, ?_⟩ | refine ⟨_, fun _ => hO6, ?_⟩ | refine ⟨_, hO, ?_⟩ | refine ⟨_, fun _ => hO, ?_⟩ | refine ⟨_, hO2, ?_⟩ | refine ⟨_, fun _ => hO2, ?_⟩ | refine ⟨_, hO3, ?_⟩ | refine ⟨_, fun _ => hO3, ?_⟩ | refine ⟨_, hU, ?_⟩ | refine ⟨_, fun _ => hU, ?_⟩ | refine ⟨_, alive7_c, ?_⟩ | refine ⟨_, fun _ => alive7_c, ?_⟩); (try simp only [go_sem, Nat.reduceLT, Nat.reduceLeDiff, Nat.reduceEqDiff, reduceIte, Nat.reduceAdd, Nat.reduceMul, Nat.reduceSub, Int.reduceLT, Int.reduceLE, Int.reduceToNat, Int.reduceNeg, reduceCtorEq, hgs, Node.cells, intC, aopG, bne_self_eq_false, Bool.not_false, beq_self_eq_true, Option.toArray_none, Option.toArray_some, List.toList_toArray]); (repeat (refine And.intro (by (first | omega | (simp; done) | (simp; omega) | assumption)) ?_)); refine h' _ ?_; clear h' K') | (refine AWp.sreg (id := 15) dd6 rfl (fun gs K hgs hK => ?_); replace hgs : gs 2 = some 63 ∧ gs 6 = some 67 ∧ gs 10 = some 71 ∧ gs 15 = some 76 := ⟨hgs 2, hgs 6, hgs 10, hgs 15⟩) | (refine AWp.reg (id := 15) dd6 rfl (fun gs K hgs hK => ?_); replace hgs : gs 2 = some 63 ∧ gs 6 = some 67 ∧ gs 10 = some 71 ∧ gs 15 = some 76 := ⟨hgs 2, hgs 6, hgs 10, hgs 15⟩) | (refine AWp.sreg  dd6 rfl (fun gs K hgs hK => ?_); replace hgs : Nat.succ 0 = 1 := rfl) | refine AWp.seq ?_ | refine ARounds.step ?_ | refine AWp.block ?_ | refine AWp.label ?_ | (refine AWp.ret ?_; try simp only [aThen, aBlock]) | (refine AWp.skip ?_; try simp only [aThen, aBlock]) | (refine AWp.exit ?_; try simp only [aThen, aBlock, Nat.reduceEqDiff, reduceIte]) | (refine AWp.reg  dd6 rfl (fun gs K hgs hK => ?_); replace hgs : Nat.succ 0 = 1 := rfl) | (refine aops_consG (fun K' h' => ?_); simp only [go_sem, Nat.reduceLT, Nat.reduceLeDiff, Nat.reduceEqDiff, reduceIte, Nat.reduceAdd, Nat.reduceMul, Nat.reduceSub, Int.reduceLT, Int.reduceLE, Int.reduceToNat, Int.reduceNeg, reduceCtorEq, hgs, Node.cells, intC, aopG, bne_self_eq_false, Bool.not_false, beq_self_eq_true, Option.toArray_none, Option.toArray_some, List.toList_toArray]; (try simp (disch := omega) only [wrap_id, getD_map_in, Int.toNat_natCast, Node.cells, intC, aopG, bne_self_eq_false, Bool.not_false, beq_self_eq_true, Option.toArray_none, Option.toArray_some, List.toList_toArray]); (repeat (refine And.intro (by (first | omega | (simp; done) | (simp; omega) | assumption)) ?_)); refine h' _ ?_; clear h' K') | (refine AWp.cond rfl (fun h => ?_) (fun h => ?_) <;> (try simp only [decide_eq_true_eq, decide_eq_false_iff_not, beq_iff_eq, bne_iff_ne, ne_eq, Bool.not_eq_true', Bool.not_eq_false', beq_eq_false_iff_ne, Bool.true_eq_false, Bool.false_eq_true, Int.not_le, Int.not_lt, Bool.and_eq_true, Bool.and_eq_false_iff, Bool.or_eq_true, Bool.or_eq_false_iff, bne_eq_false_iff_eq, reduceCtorEq] at h) <;> (try first | contradiction | (exfalso; omega) | (exfalso; revert h; simp; done) | (exfalso; revert h; simp; omega)))))
      all_goals first
        | (exfalso; omega)
        | skip
      all_goals simp only [Out, outA, outL, resA, go_sem, Nat.reduceLT, Nat.reduceLeDiff, Nat.reduceEqDiff, reduceIte, Nat.reduceAdd, Nat.reduceMul, Nat.reduceSub, Int.reduceLT, Int.reduceLE, Int.reduceToNat, Int.reduceNeg, reduceCtorEq]
      all_goals exact AVle.refl _
  · rw [decide_eq_true (by omega)] at hGr
    rw [hrc, hsc]
    clear hrc hsc hn hr hs
    unfold nodesV at *
    refine acall_of (n := 79) (rs := [.tmp 6]) Try.func6 rfl (by kernel_rfl) rfl rfl rfl ?_; simp only [argsE, Nat.reduceAdd]
    repeat (any_goals (first | (refine aops_cons (fun K' h' => ?_); simp only [go_sem, Nat.reduceLT, Nat.reduceLeDiff, Nat.reduceEqDiff, reduceIte, Nat.reduceAdd, Nat.reduceMul, Nat.reduceSub, Int.reduceLT, Int.reduceLE, Int.reduceToNat, Int.reduceNeg, reduceCtorEq, hgs, Node.cells, intC, aopG, bne_self_eq_false, Bool.not_false, beq_self_eq_true, Option.toArray_none, Option.toArray_some, List.toList_toArray]; (try simp (disch := omega) only [wrap_id, getD_map_in, Int.toNat_natCast, Node.cells, intC, aopG, bne_self_eq_false, Bool.not_false, beq_self_eq_true, Option.toArray_none, Option.toArray_some, List.toList_toArray]); (repeat (refine And.intro (by (first | omega | (simp; done) | (simp; omega) | assumption)) ?_)); refine h' _ ?_; clear h' K') | (refine aops_nil (hK _ ?_); clear hK K hgs gs; try simp only [aThen, aBlock]) | ((first | refine aops_cons (fun K' h' => ?_) | refine aopsD_cons (fun K' h' => ?_)); simp only [go_sem, Nat.reduceLT, Nat.reduceLeDiff, Nat.reduceEqDiff, reduceIte, Nat.reduceAdd, Nat.reduceMul, Nat.reduceSub, Int.reduceLT, Int.reduceLE, Int.reduceToNat, Int.reduceNeg, reduceCtorEq, hgs, Node.cells, intC, aopG, bne_self_eq_false, Bool.not_false, beq_self_eq_true, Option.toArray_none, Option.toArray_some, List.toList_toArray]; (first | refine ⟨_, hGr, ?_⟩ | refine ⟨_, fun _ => hGr, ?_⟩ | refine ⟨_, hGr2, ?_⟩ | refine ⟨_, fun _ => hGr2, ?_⟩ | refine ⟨_, hO6, ?_⟩ | refine ⟨_, fun _ => hO6, ?_⟩ | refine ⟨_, hO, ?_⟩ | refine ⟨_, fun _ => hO, ?_⟩ | refine ⟨_, hO2, ?_⟩ | refine ⟨_, fun _ => hO2, ?_⟩ | refine ⟨_, hO3, ?_⟩ | refine ⟨_, fun _ => hO3, ?_⟩ | refine ⟨_, hU, ?_⟩ | refine ⟨_, fun _ => hU, ?_⟩ | refine ⟨_, alive7_c, ?_⟩ | refine ⟨_, fun _ => alive7_c, ?_⟩); (try simp only [go_sem, Nat.reduceLT, Nat.reduceLeDiff, Nat.reduceEqDiff, reduceIte, Nat.reduceAdd, Nat.reduceMul, Nat.reduceSub, Int.reduceLT, Int.reduceLE, Int.reduceToNat, Int.reduceNeg, reduceCtorEq, hgs, Node.cells, intC, aopG, bne_self_eq_false, Bool.not_false, beq_self_eq_true, Option.toArray_none, Option.toArray_some, List.toList_toArray]); (repeat (refine And.intro (by (first | omega | (simp; done) | (simp; omega) | assumption)) ?_)); refine h' _ ?_; clear h' K') | (refine AWp.sreg (id := 15) dd6 rfl (fun gs K hgs hK => ?_); replace hgs : gs 2 = some 63 ∧ gs 6 = some 67 ∧ gs 10 = some 71 ∧ gs 15 = some 76 := ⟨hgs 2, hgs 6, hgs 10, hgs 15⟩) | (refine AWp.reg (id := 15) dd6 rfl (fun gs K hgs hK => ?_); replace hgs : gs 2 = some 63 ∧ gs 6 = some 67 ∧ gs 10 = some 71 ∧ gs 15 = some 76 := ⟨hgs 2, hgs 6, hgs 10, hgs 15⟩) | (refine AWp.sreg  dd6 rfl (fun gs K hgs hK => ?_); replace hgs : Nat.succ 0 = 1 := rfl) | refine AWp.seq ?_ | refine ARounds.step ?_ | refine AWp.block ?_ | refine AWp.label ?_ | (refine AWp.ret ?_; try simp only [aThen, aBlock]) | (refine AWp.skip ?_; try simp only [aThen, aBlock]) | (refine AWp.exit ?_; try simp only [aThen, aBlock, Nat.reduceEqDiff, reduceIte]) | (refine AWp.reg  dd6 rfl (fun gs K hgs hK => ?_); replace hgs : Nat.succ 0 = 1 := rfl) | (refine aops_consG (fun K' h' => ?_); simp only [go_sem, Nat.reduceLT, Nat.reduceLeDiff, Nat.reduceEqDiff, reduceIte, Nat.reduceAdd, Nat.reduceMul, Nat.reduceSub, Int.reduceLT, Int.reduceLE, Int.reduceToNat, Int.reduceNeg, reduceCtorEq, hgs, Node.cells, intC, aopG, bne_self_eq_false, Bool.not_false, beq_self_eq_true, Option.toArray_none, Option.toArray_some, List.toList_toArray]; (try simp (disch := omega) only [wrap_id, getD_map_in, Int.toNat_natCast, Node.cells, intC, aopG, bne_self_eq_false, Bool.not_false, beq_self_eq_true, Option.toArray_none, Option.toArray_some, List.toList_toArray]); (repeat (refine And.intro (by (first | omega | (simp; done) | (simp; omega) | assumption)) ?_)); refine h' _ ?_; clear h' K') | (refine AWp.cond rfl (fun h => ?_) (fun h => ?_) <;> (try simp only [decide_eq_true_eq, decide_eq_false_iff_not, beq_iff_eq, bne_iff_ne, ne_eq, Bool.not_eq_true', Bool.not_eq_false', beq_eq_false_iff_ne, Bool.true_eq_false, Bool.false_eq_true, Int.not_le, Int.not_lt, Bool.and_eq_true, Bool.and_eq_false_iff, Bool.or_eq_true, Bool.or_eq_false_iff, bne_eq_false_iff_eq, reduceCtorEq] at h) <;> (try first | contradiction | (exfalso; omega) | (exfalso; revert h; simp; done) | (exfalso; revert h; simp; omega)))))
    all_goals simp only [Out, outA, outL, resA, go_sem, Nat.reduceLT, Nat.reduceLeDiff, Nat.reduceEqDiff, reduceIte, Nat.reduceAdd, Nat.reduceMul, Nat.reduceSub, Int.reduceLT, Int.reduceLE, Int.reduceToNat, Int.reduceNeg, reduceCtorEq]
    all_goals exact AVle.refl _
theorem euses_all : ∀ xs, ShpAs Try.prog 8 Try.f6.params.toList xs → ACall Try.prog 6 xs (.lit (.bool true)) := by
  intro xs h
  have hp : Try.f6.params.toList = [22, 24, 24] := by kernel_rfl
  rw [hp] at h
  obtain ⟨a, r, rfl, ha, h⟩ := h
  obtain ⟨b, r, rfl, hb, h⟩ := h
  obtain ⟨c, r, rfl, hc, h⟩ := h
  obtain rfl : r = [] := h
  obtain ⟨l, rfl, hl, hn⟩ := nodesB_shape ha
  obtain ⟨r, rfl, hr⟩ := recB_shape hb
  obtain ⟨s, rfl, hs⟩ := recB_shape hc
  exact euses_law l r s hl hn hr hs
end Go.Proofs.Ytmdnhmcmnojlkaa
