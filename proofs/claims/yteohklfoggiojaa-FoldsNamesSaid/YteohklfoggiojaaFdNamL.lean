/-
  The law FoldsNames.
-/
import Derived.Test.YteohklfoggiojaaFdQ
namespace Go.Proofs.Yteohklfoggiojaa
open Go.AL Go.RowKit
set_option linter.unusedSimpArgs false
set_option linter.unusedVariables false
set_option maxRecDepth 10000
set_option maxHeartbeats 8000000
theorem _root_.Go.AL.aops_consFN {P : Program} {n : Nat} (keep : List Nat) {gs : Nat → Option Nat} {d : List Nat} {dd : List (List Nat)} {o : Oper} {os : List Oper} {st : ASt} {K : ASt → Prop} (h : ∀ K' : ASt → Prop, (∀ s, aops P n gs os dd (s.drop d) K → K' s) → aopN P n o (st.freeze keep) K') : aops P n gs (o :: os) (d :: dd) st K :=
  ⟨_, .inr ⟨keep, rfl⟩, .inr (.inl (h _ fun _ h => h))⟩
def nC (n : Int) : List AV := [.lit (.int .u8 1), .lit (.int .i64 n), .lit (.int .i64 0), .lit (.int .i64 0), .lit (.int .i64 0)]
theorem rMade_n : ACallN Try.prog 29 [.lit (.int .u8 8), .lit (.int .i64 0), .lit (.int .i64 0), .ro 1 [[.ro 5 [nC 1]], [.ro 5 [nC 2]]]] (.own 1 5 0 3)
    [none, some ⟨50, 5, [nC 1, nC 2, [.lit (.int .u8 8), .lit (.int .i64 0), .lit (.int .i64 0), .lit (.int .i64 1), .lit (.int .i64 0)]]⟩, none, none] := by
  have hCo1 := count_c 1
  rw [show countI 1 = 0 from rfl] at hCo1
  unfold nC
  refine acallN_of (n := 79) (rs := [.tmp 8]) [1] Try.func29 rfl (by kernel_rfl) rfl rfl rfl ?_; simp only [argsE, Nat.reduceAdd]
  repeat (any_goals (first | (refine aops_cons (fun K' h' => ?_); simp only [go_sem, Nat.reduceLT, Nat.reduceLeDiff, Nat.reduceEqDiff, reduceIte, Nat.reduceAdd, Nat.reduceMul, Nat.reduceSub, Int.reduceLT, Int.reduceLE, Int.reduceToNat, Int.reduceNeg, reduceCtorEq, Node.cells, aopG, beq_self_eq_true, Int.reduceAdd, Int.zero_add]; (try ((first | refine ⟨_, hCo1, ?_⟩ | refine ⟨_, fun _ => hCo1, ?_⟩ | refine ⟨_, hCo2, ?_⟩ | refine ⟨_, fun _ => hCo2, ?_⟩); (try simp only [go_sem, Nat.reduceLT, Nat.reduceLeDiff, Nat.reduceEqDiff, reduceIte, Nat.reduceAdd, Nat.reduceMul, Nat.reduceSub, Int.reduceLT, Int.reduceLE, Int.reduceToNat, Int.reduceNeg, reduceCtorEq, Node.cells, aopG, beq_self_eq_true, Int.reduceAdd, Int.zero_add]))); (try simp (disch := omega) only [wrap_id, getD_map_in, Int.toNat_natCast, Node.cells, aopG, beq_self_eq_true, Int.reduceAdd, Int.zero_add]); (repeat (refine And.intro (by (first | omega | (simp; done) | (simp; omega) | assumption)) ?_)); refine h' _ ?_; clear h' K') | (refine aops_nil (hK _ ?_); clear hK K gs; try simp only [aThen, aBlock]) | (refine AWp.sreg  dd29 rfl (fun gs K hgs hK => ?_); clear hgs) | refine AWp.seq ?_ | refine ARounds.step ?_ | refine AWp.block ?_ | refine AWp.label ?_ | (refine AWp.ret ?_; try simp only [aThen, aBlock]) | (refine AWp.skip ?_; try simp only [aThen, aBlock]) | (refine AWp.exit ?_; try simp only [aThen, aBlock, Nat.reduceEqDiff, reduceIte]) | (refine AWp.reg  dd29 rfl (fun gs K hgs hK => ?_); clear hgs) | (refine AWp.cond rfl (fun h => ?_) (fun h => ?_) <;> (try simp only [decide_eq_true_eq, decide_eq_false_iff_not, beq_iff_eq, bne_iff_ne, ne_eq, Bool.not_eq_true', Bool.not_eq_false', beq_eq_false_iff_ne, Bool.true_eq_false, Bool.false_eq_true, Int.not_le, Int.not_lt, Bool.and_eq_true, Bool.and_eq_false_iff, Bool.or_eq_true, Bool.or_eq_false_iff, bne_eq_false_iff_eq, reduceCtorEq] at h) <;> (try first | contradiction | (exfalso; omega) | (exfalso; revert h; simp; done) | (exfalso; revert h; simp; omega)))))
  refine AWp.loopR 3 ?_
  repeat (any_goals (first | (refine aops_cons (fun K' h' => ?_); simp only [go_sem, Nat.reduceLT, Nat.reduceLeDiff, Nat.reduceEqDiff, reduceIte, Nat.reduceAdd, Nat.reduceMul, Nat.reduceSub, Int.reduceLT, Int.reduceLE, Int.reduceToNat, Int.reduceNeg, reduceCtorEq, Node.cells, aopG, beq_self_eq_true, Int.reduceAdd, Int.zero_add]; (try ((first | refine ⟨_, hCo1, ?_⟩ | refine ⟨_, fun _ => hCo1, ?_⟩ | refine ⟨_, hCo2, ?_⟩ | refine ⟨_, fun _ => hCo2, ?_⟩); (try simp only [go_sem, Nat.reduceLT, Nat.reduceLeDiff, Nat.reduceEqDiff, reduceIte, Nat.reduceAdd, Nat.reduceMul, Nat.reduceSub, Int.reduceLT, Int.reduceLE, Int.reduceToNat, Int.reduceNeg, reduceCtorEq, Node.cells, aopG, beq_self_eq_true, Int.reduceAdd, Int.zero_add]))); (try simp (disch := omega) only [wrap_id, getD_map_in, Int.toNat_natCast, Node.cells, aopG, beq_self_eq_true, Int.reduceAdd, Int.zero_add]); (repeat (refine And.intro (by (first | omega | (simp; done) | (simp; omega) | assumption)) ?_)); refine h' _ ?_; clear h' K') | (refine aops_nil (hK _ ?_); clear hK K gs; try simp only [aThen, aBlock]) | (refine AWp.sreg  dd29 rfl (fun gs K hgs hK => ?_); clear hgs) | refine AWp.seq ?_ | refine ARounds.step ?_ | refine AWp.block ?_ | refine AWp.label ?_ | (refine AWp.ret ?_; try simp only [aThen, aBlock]) | (refine AWp.skip ?_; try simp only [aThen, aBlock]) | (refine AWp.exit ?_; try simp only [aThen, aBlock, Nat.reduceEqDiff, reduceIte]) | (refine AWp.reg  dd29 rfl (fun gs K hgs hK => ?_); clear hgs) | (refine AWp.cond rfl (fun h => ?_) (fun h => ?_) <;> (try simp only [decide_eq_true_eq, decide_eq_false_iff_not, beq_iff_eq, bne_iff_ne, ne_eq, Bool.not_eq_true', Bool.not_eq_false', beq_eq_false_iff_ne, Bool.true_eq_false, Bool.false_eq_true, Int.not_le, Int.not_lt, Bool.and_eq_true, Bool.and_eq_false_iff, Bool.or_eq_true, Bool.or_eq_false_iff, bne_eq_false_iff_eq, reduceCtorEq] at h) <;> (try first | contradiction | (exfalso; omega) | (exfalso; revert h; simp; done) | (exfalso; revert h; simp; omega)))))
  refine AWp.loopR 2 ?_
  repeat (any_goals (first | (refine aops_cons (fun K' h' => ?_); simp only [go_sem, Nat.reduceLT, Nat.reduceLeDiff, Nat.reduceEqDiff, reduceIte, Nat.reduceAdd, Nat.reduceMul, Nat.reduceSub, Int.reduceLT, Int.reduceLE, Int.reduceToNat, Int.reduceNeg, reduceCtorEq, Node.cells, aopG, beq_self_eq_true, Int.reduceAdd, Int.zero_add]; (try ((first | refine ⟨_, hCo1, ?_⟩ | refine ⟨_, fun _ => hCo1, ?_⟩ | refine ⟨_, hCo2, ?_⟩ | refine ⟨_, fun _ => hCo2, ?_⟩); (try simp only [go_sem, Nat.reduceLT, Nat.reduceLeDiff, Nat.reduceEqDiff, reduceIte, Nat.reduceAdd, Nat.reduceMul, Nat.reduceSub, Int.reduceLT, Int.reduceLE, Int.reduceToNat, Int.reduceNeg, reduceCtorEq, Node.cells, aopG, beq_self_eq_true, Int.reduceAdd, Int.zero_add]))); (try simp (disch := omega) only [wrap_id, getD_map_in, Int.toNat_natCast, Node.cells, aopG, beq_self_eq_true, Int.reduceAdd, Int.zero_add]); (repeat (refine And.intro (by (first | omega | (simp; done) | (simp; omega) | assumption)) ?_)); refine h' _ ?_; clear h' K') | (refine aops_nil (hK _ ?_); clear hK K gs; try simp only [aThen, aBlock]) | (refine AWp.sreg  dd29 rfl (fun gs K hgs hK => ?_); clear hgs) | refine AWp.seq ?_ | refine ARounds.step ?_ | refine AWp.block ?_ | refine AWp.label ?_ | (refine AWp.ret ?_; try simp only [aThen, aBlock]) | (refine AWp.skip ?_; try simp only [aThen, aBlock]) | (refine AWp.exit ?_; try simp only [aThen, aBlock, Nat.reduceEqDiff, reduceIte]) | (refine AWp.reg  dd29 rfl (fun gs K hgs hK => ?_); clear hgs) | (refine AWp.cond rfl (fun h => ?_) (fun h => ?_) <;> (try simp only [decide_eq_true_eq, decide_eq_false_iff_not, beq_iff_eq, bne_iff_ne, ne_eq, Bool.not_eq_true', Bool.not_eq_false', beq_eq_false_iff_ne, Bool.true_eq_false, Bool.false_eq_true, Int.not_le, Int.not_lt, Bool.and_eq_true, Bool.and_eq_false_iff, Bool.or_eq_true, Bool.or_eq_false_iff, bne_eq_false_iff_eq, reduceCtorEq] at h) <;> (try first | contradiction | (exfalso; omega) | (exfalso; revert h; simp; done) | (exfalso; revert h; simp; omega)))))
  refine AWp.loopR 2 ?_
  repeat (any_goals (first | (refine aops_cons (fun K' h' => ?_); simp only [go_sem, Nat.reduceLT, Nat.reduceLeDiff, Nat.reduceEqDiff, reduceIte, Nat.reduceAdd, Nat.reduceMul, Nat.reduceSub, Int.reduceLT, Int.reduceLE, Int.reduceToNat, Int.reduceNeg, reduceCtorEq, Node.cells, aopG, beq_self_eq_true, Int.reduceAdd, Int.zero_add]; (try ((first | refine ⟨_, hCo1, ?_⟩ | refine ⟨_, fun _ => hCo1, ?_⟩ | refine ⟨_, hCo2, ?_⟩ | refine ⟨_, fun _ => hCo2, ?_⟩); (try simp only [go_sem, Nat.reduceLT, Nat.reduceLeDiff, Nat.reduceEqDiff, reduceIte, Nat.reduceAdd, Nat.reduceMul, Nat.reduceSub, Int.reduceLT, Int.reduceLE, Int.reduceToNat, Int.reduceNeg, reduceCtorEq, Node.cells, aopG, beq_self_eq_true, Int.reduceAdd, Int.zero_add]))); (try simp (disch := omega) only [wrap_id, getD_map_in, Int.toNat_natCast, Node.cells, aopG, beq_self_eq_true, Int.reduceAdd, Int.zero_add]); (repeat (refine And.intro (by (first | omega | (simp; done) | (simp; omega) | assumption)) ?_)); refine h' _ ?_; clear h' K') | (refine aops_nil (hK _ ?_); clear hK K gs; try simp only [aThen, aBlock]) | (refine AWp.sreg  dd29 rfl (fun gs K hgs hK => ?_); clear hgs) | refine AWp.seq ?_ | refine ARounds.step ?_ | refine AWp.block ?_ | refine AWp.label ?_ | (refine AWp.ret ?_; try simp only [aThen, aBlock]) | (refine AWp.skip ?_; try simp only [aThen, aBlock]) | (refine AWp.exit ?_; try simp only [aThen, aBlock, Nat.reduceEqDiff, reduceIte]) | (refine AWp.reg  dd29 rfl (fun gs K hgs hK => ?_); clear hgs) | (refine AWp.cond rfl (fun h => ?_) (fun h => ?_) <;> (try simp only [decide_eq_true_eq, decide_eq_false_iff_not, beq_iff_eq, bne_iff_ne, ne_eq, Bool.not_eq_true', Bool.not_eq_false', beq_eq_false_iff_ne, Bool.true_eq_false, Bool.false_eq_true, Int.not_le, Int.not_lt, Bool.and_eq_true, Bool.and_eq_false_iff, Bool.or_eq_true, Bool.or_eq_false_iff, bne_eq_false_iff_eq, reduceCtorEq] at h) <;> (try first | contradiction | (exfalso; omega) | (exfalso; revert h; simp; done) | (exfalso; revert h; simp; omega)))))
  simp only [OutN, outA, outL, resA, go_sem, Nat.reduceLT, Nat.reduceLeDiff, Nat.reduceEqDiff, reduceIte, Nat.reduceAdd, Nat.reduceMul, Nat.reduceSub, Int.reduceLT, Int.reduceLE, Int.reduceToNat, Int.reduceNeg, reduceCtorEq]
  refine ⟨AVle.of_eq (by simp [keepR]), ?_, ?_⟩
  · simp [AV.lowB, Nat.blt, Nat.ble]
  · simp [frzRows, keepR]
theorem two12_n : ACallN Try.prog 27 [.lit (.int .u8 8), .ro 5 [nC 1], .ro 5 [nC 2]] (.own 2 5 0 3)
    [none, none, some ⟨50, 5, [nC 1, nC 2, [.lit (.int .u8 8), .lit (.int .i64 0), .lit (.int .i64 0), .lit (.int .i64 1), .lit (.int .i64 0)]]⟩, none, none] := by
  have hMN := rMade_n
  unfold nC at *
  refine acallN_of (n := 12) (rs := [.tmp 6]) [2] Try.func27 rfl (by kernel_rfl) rfl rfl rfl ?_; simp only [argsE, Nat.reduceAdd]
  repeat (any_goals (first | (refine aops_cons (fun K' h' => ?_); simp only [go_sem, Nat.reduceLT, Nat.reduceLeDiff, Nat.reduceEqDiff, reduceIte, Nat.reduceAdd, Nat.reduceMul, Nat.reduceSub, Int.reduceLT, Int.reduceLE, Int.reduceToNat, Int.reduceNeg, reduceCtorEq, Node.cells, aopG, beq_self_eq_true]; (try ((first | refine ⟨_, hM, ?_⟩ | refine ⟨_, fun _ => hM, ?_⟩); (try simp only [go_sem, Nat.reduceLT, Nat.reduceLeDiff, Nat.reduceEqDiff, reduceIte, Nat.reduceAdd, Nat.reduceMul, Nat.reduceSub, Int.reduceLT, Int.reduceLE, Int.reduceToNat, Int.reduceNeg, reduceCtorEq, Node.cells, aopG, beq_self_eq_true]))); (try simp (disch := omega) only [wrap_id, getD_map_in, Int.toNat_natCast, Node.cells, aopG, beq_self_eq_true]); (repeat (refine And.intro (by (first | omega | (simp; done) | (simp; omega) | assumption)) ?_)); refine h' _ ?_; clear h' K') | (refine aops_nil (hK _ ?_); clear hK K gs; try simp only [aThen, aBlock]) | (refine aops_consF [] (fun K' h' => ?_); simp only [go_sem, Nat.reduceLT, Nat.reduceLeDiff, Nat.reduceEqDiff, reduceIte, Nat.reduceAdd, Nat.reduceMul, Nat.reduceSub, Int.reduceLT, Int.reduceLE, Int.reduceToNat, Int.reduceNeg, reduceCtorEq, Node.cells, aopG, beq_self_eq_true]; refine ⟨_, hM, ?_⟩; (try simp only [go_sem, Nat.reduceLT, Nat.reduceLeDiff, Nat.reduceEqDiff, reduceIte, Nat.reduceAdd, Nat.reduceMul, Nat.reduceSub, Int.reduceLT, Int.reduceLE, Int.reduceToNat, Int.reduceNeg, reduceCtorEq, Node.cells, aopG, beq_self_eq_true]); (repeat (refine And.intro (by (first | omega | (simp; done) | (simp; omega) | assumption)) ?_)); refine h' _ ?_; clear h' K') | (refine aops_consFN [] (fun K' h' => ?_); simp only [go_sem, Nat.reduceLT, Nat.reduceLeDiff, Nat.reduceEqDiff, reduceIte, Nat.reduceAdd, Nat.reduceMul, Nat.reduceSub, Int.reduceLT, Int.reduceLE, Int.reduceToNat, Int.reduceNeg, reduceCtorEq, Node.cells, aopG, beq_self_eq_true]; refine ⟨_, _, hMN, ?_⟩; (try simp only [go_sem, Nat.reduceLT, Nat.reduceLeDiff, Nat.reduceEqDiff, reduceIte, Nat.reduceAdd, Nat.reduceMul, Nat.reduceSub, Int.reduceLT, Int.reduceLE, Int.reduceToNat, Int.reduceNeg, reduceCtorEq, Node.cells, aopG, beq_self_eq_true]); (repeat (refine And.intro (by (first | omega | (simp; done) | (simp; omega) | assumption)) ?_)); refine h' _ ?_; clear h' K') | (refine AWp.sreg  dd27 rfl (fun gs K hgs hK => ?_); clear hgs) | refine AWp.seq ?_ | refine ARounds.step ?_ | refine AWp.block ?_ | refine AWp.label ?_ | (refine AWp.ret ?_; try simp only [aThen, aBlock]) | (refine AWp.skip ?_; try simp only [aThen, aBlock]) | (refine AWp.exit ?_; try simp only [aThen, aBlock, Nat.reduceEqDiff, reduceIte]) | (refine AWp.reg  dd27 rfl (fun gs K hgs hK => ?_); clear hgs) | (refine AWp.cond rfl (fun h => ?_) (fun h => ?_) <;> (try simp only [decide_eq_true_eq, decide_eq_false_iff_not, beq_iff_eq, bne_iff_ne, ne_eq, Bool.not_eq_true', Bool.not_eq_false', beq_eq_false_iff_ne, Bool.true_eq_false, Bool.false_eq_true, Int.not_le, Int.not_lt, Bool.and_eq_true, Bool.and_eq_false_iff, Bool.or_eq_true, Bool.or_eq_false_iff, bne_eq_false_iff_eq, reduceCtorEq] at h) <;> (try first | contradiction | (exfalso; omega) | (exfalso; revert h; simp; done) | (exfalso; revert h; simp; omega)))))
  simp only [OutN, outA, outL, resA, go_sem, Nat.reduceLT, Nat.reduceLeDiff, Nat.reduceEqDiff, reduceIte, Nat.reduceAdd, Nat.reduceMul, Nat.reduceSub, Int.reduceLT, Int.reduceLE, Int.reduceToNat, Int.reduceNeg, reduceCtorEq]
  exact ⟨AVle.refl _, by decide⟩
theorem ofE_no {e : Ex} (hw : e.wf) (h1 : e.sz ≤ 60) (h2 : e.dp ≤ 20) (ht : e.typ = false) : ofE (e.fl 0) = 42 := by
  unfold ofE
  have h3 : wrongL (e.fl 0) ≠ (e.fl 0).length := fun h => by rw [(Ex.typ_iff hw).1 h] at ht; cases ht
  have := wrongL_le (e.fl 0)
  rw [errL_of ⟨hw, rfl⟩ h1 h2, if_neg (by decide), if_pos (by omega)]
theorem val_no {l : List Node} (h : ofE l ≠ 0) : vB l = false ∧ vI l = 0 := by
  have : vB l = false := by unfold vB; rw [decide_eq_false h]; rfl
  exact ⟨this, by unfold vI; rw [this]; rfl⟩
theorem vI_fl {e : Ex} (h : okX e = true) : vB (e.fl 0) = e.fixed ∧ vI (e.fl 0) = (if e.fixed = true then e.val rc0 else 0) ∧ ofE (e.fl 0) = 0 := by
  unfold okX at h
  simp only [Bool.and_eq_true, decide_eq_true_eq] at h
  obtain ⟨h1, h2⟩ := okEx_wf h.1.1.1
  have hoe := ofE_ty h1 h.1.1.2 h.1.2 h.2
  have hvB : vB (e.fl 0) = e.fixed := by
    unfold vB
    rw [hoe, Ex.fixL_fl _ 0 h1]; simp
  refine ⟨hvB, ?_, hoe⟩
  unfold vI
  have := e.sz_pos
  rw [hvB, Ex.fl_length, Ex.val_at rc0 h1 _ (by omega), Ex.subE_end]
def wrongQ : Qry := ⟨2, (bi 12 (lf 1 1) (lf 1 2)).fl 0, [0], false, [], ⟨1, 1, 0⟩, false, 1⟩
theorem wrongQ_E : accE wrongQ = 42 := by
  have hw := (okEx_wf (e := bi 12 (lf 1 1) (lf 1 2)) (by decide)).1
  have he : errL wrongQ.arg = 0 := errL_of ⟨hw, rfl⟩ (by decide) (by decide)
  have hc : chkE wrongQ = 0 := by
    unfold chkE
    rw [if_neg (by decide), if_neg (by rw [he]; simp), if_neg (by decide), if_neg (by decide), if_neg (by decide), if_neg (by decide)]
    decide
  have ho := ofE_ty hw (by decide) (by decide) (by decide)
  have hb := ofB_fl hw (by decide) (by decide) (by decide)
  have hwt : wantE wrongQ.arg false = 42 := by
    unfold wantE
    rw [if_pos ⟨ho, by show ofB ((bi 12 (lf 1 1) (lf 1 2)).fl 0) ≠ false; rw [hb]; decide⟩]
  unfold accE fstE
  rw [if_neg (by rw [hc]; simp), hwt, if_pos ⟨by decide, by decide⟩]
theorem zeroQ_E : accE zeroQ = 8 := by
  have hc : chkE zeroQ = 8 := by unfold chkE; rw [if_pos (by decide)]
  unfold accE
  rw [if_pos (by rw [hc]; decide), hc]
theorem fold_is {e w : Ex} (h : okX e = true) (hf : foldE e = w) : ACall Try.prog 12 [nodesV (e.fl 0)] (.tup [nodesV (w.fl 0), .lit (.int .i64 0)]) := by
  unfold okX at h
  simp only [Bool.and_eq_true, decide_eq_true_eq] at h
  obtain ⟨h1, h2⟩ := okEx_wf h.1.1.1
  have hr := fldR_fl h1 h.1.1.2 h.1.2 h.2
  have := fold_c (e.fl 0) (by rw [Ex.fl_length]; omega) (e.nB_fl 0 h1 h2)
  rw [hr, ofE_ty h1 h.1.1.2 h.1.2 h.2, hf] at this
  exact this
theorem value_is {e : Ex} (h : okX e = true) : ACall Try.prog 14 [nodesV (e.fl 0)] (.tup [.lit (.int .i64 (if e.fixed = true then e.val rc0 else 0)), .lit (.bool e.fixed), .lit (.int .i64 0)]) := by
  obtain ⟨q1, q2, q3⟩ := vI_fl h
  unfold okX at h
  simp only [Bool.and_eq_true, decide_eq_true_eq] at h
  obtain ⟨h1, h2⟩ := okEx_wf h.1.1.1
  have := value_c (e.fl 0) (by rw [Ex.fl_length]; omega) (e.nB_fl 0 h1 h2)
  rw [q1, q2, q3] at this
  exact this
def dd8 : Nat → List (List Nat)
  | 0 => [[], [0]]
  | 1 => [[], [], [], [29, 30], [31]]
  | 2 => [[], [], [], [], [33, 34], [32, 35], [36]]
  | 3 => [[], [], [], [37, 38], [39]]
  | 4 => [[], [], [], [40, 41], [42], [43], [44]]
  | 5 => [[], [], [], [45, 46], [47], [2], [], [49, 50], [48, 51], [52], [4], [], [54, 55], [53, 56], [57], [], [], [59, 60], [], [], [62, 63], [61, 64], [58, 65], [66], [], [3], [68, 69], [67, 70], [71], [], [], [73, 74], [72, 75], [76], [], [], [78, 79], [], [80, 81], [], [], [83, 84], [82, 85], [77, 86], [87]]
  | 6 => [[], [], [], [88, 89], [], [90, 91], [92]]
  | 7 => [[], [6], [], [], [94, 95], [93, 96], [97]]
  | 8 => [[], [], [], [98, 99], [100]]
  | 9 => [[], [], [], [], [101], [104], [105], [102], [106], [107], [103], [108], [109]]
  | 10 => [[], [8], [111], [112], [], [110], [113], [114]]
  | 11 => [[], [], [116], [], [115], [11, 117], [118]]
  | 12 => [[], [], [], [120, 121], [122], [123], [], [119], [13, 124], [125]]
  | 13 => [[], [], [], [], [128, 129], [127, 130], [131], [132], [], [], [126], [15, 133], [16, 134], [135]]
  | 14 => [[], [1], [137], [138], [], [], [136], [139], [140], [141]]
  | 15 => [[], [], [143], [144], [], [], [142], [145], [146], [147]]
  | 16 => [[], [], [149], [150], [], [148], [], [24, 151], [152]]
  | 17 => [[], [], [], [153, 154], [], [], [155, 156, 157], [], [158]]
  | 18 => [[], [26], [160], [161], [], [159], [], [27, 162], [163]]
  | 19 => [[], [5], [164], [7], [165, 166], [167], [10], [169], [168, 170], [171], [9], [], [174], [173, 175], [172, 176], [177], [12], [179], [178, 180], [181], [14], [183], [182, 184], [185], [17], [187], [186, 188], [189], [20], [191], [190, 192], [193], [19], [194, 195], [196], [18], [198], [197, 199], [200], [23], [202], [201, 203], [204], [22], [206], [205, 207], [208], [21], [210], [209, 211], [212], [25], [214], [213, 215], [216], [28], [218], [217, 219], [220], [], [221, 222], [223]]
  | _ => []
theorem fdnames_law : ACall Try.prog 8 [] (.lit (.bool true)) := by
  have hT1 := two12_c 10 (e := lf 1 1) (f := lf 1 63) (by decide)
  have hT2 := two12_c 8 (e := lf 1 1) (f := lf 1 1) (by decide)
  have hT3 := two12_c 9 (e := bi 10 (lf 1 1) (lf 1 63)) (f := bi 8 (lf 1 1) (lf 1 1)) (by decide)
  have hT4 := two12_c 17 (e := lf 1 0) (f := lf 1 0) (by decide)
  have hT5 := two12_c 12 (e := lf 1 1) (f := lf 1 2) (by decide)
  have hT6 := two12_c 8 (e := lf 4 0) (f := bi 10 (lf 1 1) (lf 1 63)) (by decide)
  have hT7 := two12_c 7 (e := bi 8 (lf 1 1) (lf 1 1)) (f := lf 4 0) (by decide)
  have hT8 := two12_c 7 (e := lf 1 2) (f := lf 4 0) (by decide)
  have hT9 := two12_c 9 (e := lf 1 3) (f := lf 1 2) (by decide)
  have hT10 := two12_c 10 (e := bi 9 (lf 1 3) (lf 1 2)) (f := lf 1 63) (by decide)
  have hT11 := two12_c 18 (e := lf 1 1) (f := lf 1 1) (by decide)
  have hT12 := two12_c 12 (e := lf 1 1) (f := lf 1 1) (by decide)
  have hT13 := two12_c 8 (e := lf 1 1) (f := bi 12 (lf 1 1) (lf 1 1)) (by decide)
  have hTN := two12_n
  have hM := rMade_1 6 0 0 ((bi 12 (lf 1 1) (lf 1 2)).fl 0) (by decide) (by decide) (ex_NodeB (okEx_wf (by decide)).1 (by decide))
  rw [show made1 6 0 0 ((bi 12 (lf 1 1) (lf 1 2)).fl 0) = (Ex.un ⟨6, 0, 0⟩ (bi 12 (lf 1 1) (lf 1 2))).fl 0 by decide] at hM
  have hB1 := becomes_c (e := bi 10 (lf 1 1) (lf 1 63)) (w := bi 10 (lf 1 1) (lf 1 63)) (by decide) (by decide) (by decide)
  have hB2 := becomes_c (e := bi 9 (bi 10 (lf 1 1) (lf 1 63)) (bi 8 (lf 1 1) (lf 1 1))) (w := lf 1 9223372036854775806) (by decide) (by decide) (by decide)
  have hB3 := becomes_c (e := .un ⟨6, 0, 0⟩ (bi 12 (lf 1 1) (lf 1 2))) (w := bi 17 (lf 1 0) (lf 1 0)) (by decide) (by decide) (by decide)
  have hB4 := becomes_c (e := bi 8 (lf 4 0) (bi 10 (lf 1 1) (lf 1 63))) (w := bi 8 (lf 4 0) (bi 10 (lf 1 1) (lf 1 63))) (by decide) (by decide) (by decide)
  have hB5 := becomes_c (e := bi 17 (lf 1 0) (lf 1 0)) (w := bi 17 (lf 1 0) (lf 1 0)) (by decide) (by decide) (by decide)
  have hB6 := becomes_c (e := lf 1 5) (w := lf 1 5) (by decide) (by decide) (by decide)
  have hB7 := becomes_c (e := bi 7 (bi 8 (lf 1 1) (lf 1 1)) (lf 4 0)) (w := bi 7 (lf 1 2) (lf 4 0)) (by decide) (by decide) (by decide)
  have hB8 := becomes_c (e := bi 10 (bi 9 (lf 1 3) (lf 1 2)) (lf 1 63)) (w := bi 10 (lf 1 1) (lf 1 63)) (by decide) (by decide) (by decide)
  have hF1 := fold_is (e := .bin ⟨8, 0, 5⟩ (.leaf ⟨1, 1, 3⟩) (.leaf ⟨1, 2, 7⟩)) (w := .leaf ⟨1, 3, 5⟩) (by decide) (by decide)
  rw [show (Ex.bin ⟨8, 0, 5⟩ (.leaf ⟨1, 1, 3⟩) (.leaf ⟨1, 2, 7⟩)).fl 0 = [⟨1, 1, 0, 0, 3⟩, ⟨1, 2, 0, 0, 7⟩, ⟨8, 0, 0, 1, 5⟩] by decide, show (Ex.leaf ⟨1, 3, 5⟩).fl 0 = [⟨1, 3, 0, 0, 5⟩] by decide] at hF1
  have hEq := rEqual_c [⟨1, 3, 0, 0, 5⟩] [⟨1, 3, 0, 0, 5⟩] (by simp) (by simp)
  rw [decide_eq_true rfl] at hEq
  have hnil : ofE [] = 8 := by unfold ofE; rw [errL_nil]; rfl
  have hF2 : ACall Try.prog 12 [.lit (.slice none 0 0)] (.tup [nodesV [], .lit (.int .i64 8)]) := by
    have := fold_c [] (by simp) (fun x hx => by cases hx)
    rw [hnil, show fldR [] = [] from if_neg (by rw [hnil]; decide)] at this
    exact ACall.mono this ⟨AVle.nil 5, trivial⟩ (AVle.refl _)
  have hF3 : ACall Try.prog 12 [nodesV ((bi 18 (lf 1 1) (lf 1 1)).fl 0)] (.tup [nodesV [], .lit (.int .i64 42)]) := by
    have hw := okEx_wf (e := bi 18 (lf 1 1) (lf 1 1)) (by decide)
    have ho := ofE_no hw.1 (by decide) (by decide) (by decide)
    have := fold_c ((bi 18 (lf 1 1) (lf 1 1)).fl 0) (by decide) (Ex.nB_fl _ 0 hw.1 hw.2)
    rw [ho, show fldR ((bi 18 (lf 1 1) (lf 1 1)).fl 0) = [] from if_neg (by rw [ho]; decide)] at this
    exact this
  have hV1 : ACall Try.prog 14 [nodesV ((bi 8 (lf 1 1) (bi 12 (lf 1 1) (lf 1 1))).fl 0)] (.tup [.lit (.int .i64 0), .lit (.bool false), .lit (.int .i64 42)]) := by
    have hw := okEx_wf (e := bi 8 (lf 1 1) (bi 12 (lf 1 1) (lf 1 1))) (by decide)
    have ho := ofE_no hw.1 (by decide) (by decide) (by decide)
    have hv := val_no (l := (bi 8 (lf 1 1) (bi 12 (lf 1 1) (lf 1 1))).fl 0) (by rw [ho]; decide)
    have := value_c ((bi 8 (lf 1 1) (bi 12 (lf 1 1) (lf 1 1))).fl 0) (by decide) (Ex.nB_fl _ 0 hw.1 hw.2)
    rw [hv.1, hv.2, ho] at this
    exact this
  have hV2 := value_is (e := bi 10 (lf 1 1) (lf 1 63)) (by decide)
  rw [show (bi 10 (lf 1 1) (lf 1 63)).fixed = true by decide, if_pos rfl, show (bi 10 (lf 1 1) (lf 1 63)).val rc0 = -9223372036854775808 by decide] at hV2
  have hV3 := value_is (e := lf 4 0) (by decide)
  rw [show (lf 4 0).fixed = false by decide, if_neg (by decide)] at hV3
  have hQ1 : ACall Try.prog 31 [.agg [.lit (.int .u8 0), .lit (.slice none 0 0), .lit (.slice none 0 0), .lit (.bool false), .lit (.slice none 0 0), .lit (.int .u8 0), .lit (.int .i64 0), .lit (.int .i64 0), .lit (.bool false), .lit (.int .u8 0)]] (.tup [.agg zeroQ.cells, .lit (.int .i64 8)]) := by
    have := query_c zeroQ ⟨by decide, by decide, by decide, (fun x hx => by cases hx), (fun x hx => by cases hx), (fun x hx => by cases hx)⟩
    rw [show fqR zeroQ = zeroQ from if_neg (by rw [zeroQ_E]; decide), zeroQ_E] at this
    exact ACall.mono this ⟨AVle.agg ⟨AVle.refl _, AVle.nil 5, AVle.nil 1, AVle.refl _, AVle.nil 5, AVle.refl _, AVle.refl _, AVle.refl _, AVle.refl _, AVle.refl _, trivial⟩, trivial⟩ (AVle.refl _)
  have hQ2 : ACall Try.prog 31 [.agg [.lit (.int .u8 2), nodesV ((bi 12 (lf 1 1) (lf 1 2)).fl 0), .ro 1 [[.lit (.int .i64 0)]], .lit (.bool false), .lit (.slice none 0 0), .lit (.int .u8 1), .lit (.int .i64 1), .lit (.int .i64 0), .lit (.bool false), .lit (.int .u8 1)]] (.tup [.agg zeroQ.cells, .lit (.int .i64 42)]) := by
    have hw := okEx_wf (e := bi 12 (lf 1 1) (lf 1 2)) (by decide)
    have := query_c wrongQ ⟨by decide, by decide, by decide, (fun x hx => by simp only [wrongQ, List.mem_singleton] at hx; subst hx; decide), Ex.nB_fl _ 0 hw.1 hw.2, (fun x hx => by cases hx)⟩
    rw [show fqR wrongQ = zeroQ from if_neg (by rw [wrongQ_E]; decide), wrongQ_E] at this
    exact ACall.mono this ⟨AVle.agg ⟨AVle.refl _, AVle.refl _, AVle.refl _, AVle.refl _, AVle.nil 5, AVle.refl _, AVle.refl _, AVle.refl _, AVle.refl _, AVle.refl _, trivial⟩, trivial⟩ (AVle.refl _)
  have hlf : ∀ k n, (lf k n).fl 0 = [⟨k, n, 0, 0, 0⟩] := fun _ _ => rfl
  clear hnil
  simp only [hlf] at *
  generalize (bi 9 (bi 10 (lf 1 1) (lf 1 63)) (bi 8 (lf 1 1) (lf 1 1))).fl 0 = m1 at *
  generalize (bi 8 (lf 4 0) (bi 10 (lf 1 1) (lf 1 63))).fl 0 = m2 at *
  generalize (bi 10 (lf 1 1) (lf 1 63)).fl 0 = m3 at *
  generalize (bi 7 (bi 8 (lf 1 1) (lf 1 1)) (lf 4 0)).fl 0 = m4 at *
  generalize (bi 8 (lf 1 1) (lf 1 1)).fl 0 = m5 at *
  generalize (bi 17 (lf 1 0) (lf 1 0)).fl 0 = m6 at *
  generalize (Ex.un ⟨6, 0, 0⟩ (bi 12 (lf 1 1) (lf 1 2))).fl 0 = m7 at *
  generalize (bi 12 (lf 1 1) (lf 1 2)).fl 0 = m8 at *
  generalize (bi 7 (lf 1 2) (lf 4 0)).fl 0 = m9 at *
  generalize (bi 10 (bi 9 (lf 1 3) (lf 1 2)) (lf 1 63)).fl 0 = m10 at *
  generalize (bi 9 (lf 1 3) (lf 1 2)).fl 0 = m11 at *
  generalize (bi 18 (lf 1 1) (lf 1 1)).fl 0 = m12 at *
  generalize (bi 8 (lf 1 1) (bi 12 (lf 1 1) (lf 1 1))).fl 0 = m13 at *
  generalize (bi 12 (lf 1 1) (lf 1 1)).fl 0 = m14 at *
  clear hlf
  unfold zeroQ Qry.cells intsV nC at *
  simp only [nodesV, List.map_cons, List.map_nil, Node.cells] at *
  refine acall_of (n := 224) (rs := [.tmp 0]) Try.func8 rfl (by kernel_rfl) rfl rfl rfl ?_; simp only [argsE, Nat.reduceAdd]
  repeat (any_goals (first | (refine aops_cons (fun K' h' => ?_); simp only [go_sem, Nat.reduceLT, Nat.reduceLeDiff, Nat.reduceEqDiff, reduceIte, Nat.reduceAdd, Nat.reduceMul, Nat.reduceSub, Int.reduceLT, Int.reduceLE, Int.reduceToNat, Int.reduceNeg, reduceCtorEq, hgs, Node.cells, aopG, beq_self_eq_true]; (try ((first | refine ⟨_, hM, ?_⟩ | refine ⟨_, fun _ => hM, ?_⟩ | refine ⟨_, hEq, ?_⟩ | refine ⟨_, fun _ => hEq, ?_⟩ | refine ⟨_, hF1, ?_⟩ | refine ⟨_, fun _ => hF1, ?_⟩ | refine ⟨_, hF2, ?_⟩ | refine ⟨_, fun _ => hF2, ?_⟩ | refine ⟨_, hF3, ?_⟩ | refine ⟨_, fun _ => hF3, ?_⟩ | refine ⟨_, hV1, ?_⟩ | refine ⟨_, fun _ => hV1, ?_⟩ | refine ⟨_, hV2, ?_⟩ | refine ⟨_, fun _ => hV2, ?_⟩ | refine ⟨_, hV3, ?_⟩ | refine ⟨_, fun _ => hV3, ?_⟩ | refine ⟨_, hQ1, ?_⟩ | refine ⟨_, fun _ => hQ1, ?_⟩ | refine ⟨_, num12_c _, ?_⟩ | refine ⟨_, fun _ => num12_c _, ?_⟩ | refine ⟨_, val12_c, ?_⟩ | refine ⟨_, fun _ => val12_c, ?_⟩ | refine ⟨_, hT1, ?_⟩ | refine ⟨_, fun _ => hT1, ?_⟩ | refine ⟨_, hT2, ?_⟩ | refine ⟨_, fun _ => hT2, ?_⟩ | refine ⟨_, hT3, ?_⟩ | refine ⟨_, fun _ => hT3, ?_⟩ | refine ⟨_, hT4, ?_⟩ | refine ⟨_, fun _ => hT4, ?_⟩ | refine ⟨_, hT5, ?_⟩ | refine ⟨_, fun _ => hT5, ?_⟩ | refine ⟨_, hT6, ?_⟩ | refine ⟨_, fun _ => hT6, ?_⟩ | refine ⟨_, hT7, ?_⟩ | refine ⟨_, fun _ => hT7, ?_⟩ | refine ⟨_, hT8, ?_⟩ | refine ⟨_, fun _ => hT8, ?_⟩ | refine ⟨_, hT9, ?_⟩ | refine ⟨_, fun _ => hT9, ?_⟩ | refine ⟨_, hT10, ?_⟩ | refine ⟨_, fun _ => hT10, ?_⟩ | refine ⟨_, hT11, ?_⟩ | refine ⟨_, fun _ => hT11, ?_⟩ | refine ⟨_, hT12, ?_⟩ | refine ⟨_, fun _ => hT12, ?_⟩ | refine ⟨_, hT13, ?_⟩ | refine ⟨_, fun _ => hT13, ?_⟩ | refine ⟨_, hB1, ?_⟩ | refine ⟨_, fun _ => hB1, ?_⟩ | refine ⟨_, hB2, ?_⟩ | refine ⟨_, fun _ => hB2, ?_⟩ | refine ⟨_, hB3, ?_⟩ | refine ⟨_, fun _ => hB3, ?_⟩ | refine ⟨_, hB4, ?_⟩ | refine ⟨_, fun _ => hB4, ?_⟩ | refine ⟨_, hB5, ?_⟩ | refine ⟨_, fun _ => hB5, ?_⟩ | refine ⟨_, hB6, ?_⟩ | refine ⟨_, fun _ => hB6, ?_⟩ | refine ⟨_, hB7, ?_⟩ | refine ⟨_, fun _ => hB7, ?_⟩ | refine ⟨_, hB8, ?_⟩ | refine ⟨_, fun _ => hB8, ?_⟩ | refine ⟨_, alive12_c, ?_⟩ | refine ⟨_, fun _ => alive12_c, ?_⟩); (try simp only [go_sem, Nat.reduceLT, Nat.reduceLeDiff, Nat.reduceEqDiff, reduceIte, Nat.reduceAdd, Nat.reduceMul, Nat.reduceSub, Int.reduceLT, Int.reduceLE, Int.reduceToNat, Int.reduceNeg, reduceCtorEq, hgs, Node.cells, aopG, beq_self_eq_true]))); (try simp (disch := omega) only [wrap_id, getD_map_in, Int.toNat_natCast, Node.cells, aopG, beq_self_eq_true]); (repeat (refine And.intro (by (first | omega | (simp; done) | (simp; omega) | assumption)) ?_)); refine h' _ ?_; clear h' K') | (refine aops_nil (hK _ ?_); clear hK K hgs gs; try simp only [aThen, aBlock]) | (refine aops_consF [] (fun K' h' => ?_); simp only [go_sem, Nat.reduceLT, Nat.reduceLeDiff, Nat.reduceEqDiff, reduceIte, Nat.reduceAdd, Nat.reduceMul, Nat.reduceSub, Int.reduceLT, Int.reduceLE, Int.reduceToNat, Int.reduceNeg, reduceCtorEq, hgs, Node.cells, aopG, beq_self_eq_true]; refine ⟨_, hM, ?_⟩; (try simp only [go_sem, Nat.reduceLT, Nat.reduceLeDiff, Nat.reduceEqDiff, reduceIte, Nat.reduceAdd, Nat.reduceMul, Nat.reduceSub, Int.reduceLT, Int.reduceLE, Int.reduceToNat, Int.reduceNeg, reduceCtorEq, hgs, Node.cells, aopG, beq_self_eq_true]); (repeat (refine And.intro (by (first | omega | (simp; done) | (simp; omega) | assumption)) ?_)); refine h' _ ?_; clear h' K') | (refine aops_consFN [] (fun K' h' => ?_); simp only [go_sem, Nat.reduceLT, Nat.reduceLeDiff, Nat.reduceEqDiff, reduceIte, Nat.reduceAdd, Nat.reduceMul, Nat.reduceSub, Int.reduceLT, Int.reduceLE, Int.reduceToNat, Int.reduceNeg, reduceCtorEq, hgs, Node.cells, aopG, beq_self_eq_true]; refine ⟨_, _, hMN, ?_⟩; (try simp only [go_sem, Nat.reduceLT, Nat.reduceLeDiff, Nat.reduceEqDiff, reduceIte, Nat.reduceAdd, Nat.reduceMul, Nat.reduceSub, Int.reduceLT, Int.reduceLE, Int.reduceToNat, Int.reduceNeg, reduceCtorEq, hgs, Node.cells, aopG, beq_self_eq_true]); (repeat (refine And.intro (by (first | omega | (simp; done) | (simp; omega) | assumption)) ?_)); refine h' _ ?_; clear h' K') | (refine aops_consF [] (fun K' h' => ?_); simp only [go_sem, Nat.reduceLT, Nat.reduceLeDiff, Nat.reduceEqDiff, reduceIte, Nat.reduceAdd, Nat.reduceMul, Nat.reduceSub, Int.reduceLT, Int.reduceLE, Int.reduceToNat, Int.reduceNeg, reduceCtorEq, hgs, Node.cells, aopG, beq_self_eq_true]; refine ⟨_, hF1, ?_⟩; (try simp only [go_sem, Nat.reduceLT, Nat.reduceLeDiff, Nat.reduceEqDiff, reduceIte, Nat.reduceAdd, Nat.reduceMul, Nat.reduceSub, Int.reduceLT, Int.reduceLE, Int.reduceToNat, Int.reduceNeg, reduceCtorEq, hgs, Node.cells, aopG, beq_self_eq_true]); (repeat (refine And.intro (by (first | omega | (simp; done) | (simp; omega) | assumption)) ?_)); refine h' _ ?_; clear h' K') | (refine aops_consF [] (fun K' h' => ?_); simp only [go_sem, Nat.reduceLT, Nat.reduceLeDiff, Nat.reduceEqDiff, reduceIte, Nat.reduceAdd, Nat.reduceMul, Nat.reduceSub, Int.reduceLT, Int.reduceLE, Int.reduceToNat, Int.reduceNeg, reduceCtorEq, hgs, Node.cells, aopG, beq_self_eq_true]; refine ⟨_, hQ2, ?_⟩; (try simp only [go_sem, Nat.reduceLT, Nat.reduceLeDiff, Nat.reduceEqDiff, reduceIte, Nat.reduceAdd, Nat.reduceMul, Nat.reduceSub, Int.reduceLT, Int.reduceLE, Int.reduceToNat, Int.reduceNeg, reduceCtorEq, hgs, Node.cells, aopG, beq_self_eq_true]); (repeat (refine And.intro (by (first | omega | (simp; done) | (simp; omega) | assumption)) ?_)); refine h' _ ?_; clear h' K') | (refine aops_consN  (fun K' h' => ?_); simp only [go_sem, Nat.reduceLT, Nat.reduceLeDiff, Nat.reduceEqDiff, reduceIte, Nat.reduceAdd, Nat.reduceMul, Nat.reduceSub, Int.reduceLT, Int.reduceLE, Int.reduceToNat, Int.reduceNeg, reduceCtorEq, hgs, Node.cells, aopG, beq_self_eq_true]; refine ⟨_, _, hTN, ?_⟩; (try simp only [go_sem, Nat.reduceLT, Nat.reduceLeDiff, Nat.reduceEqDiff, reduceIte, Nat.reduceAdd, Nat.reduceMul, Nat.reduceSub, Int.reduceLT, Int.reduceLE, Int.reduceToNat, Int.reduceNeg, reduceCtorEq, hgs, Node.cells, aopG, beq_self_eq_true]); (repeat (refine And.intro (by (first | omega | (simp; done) | (simp; omega) | assumption)) ?_)); refine h' _ ?_; clear h' K') | ((first | refine AWp.sreg (id := 5) dd8 rfl (fun gs K hgs hK => ?_) | refine AWp.reg (id := 5) dd8 rfl (fun gs K hgs hK => ?_)); replace hgs : gs 3 = some 48 ∧ gs 8 = some 53 ∧ gs 13 = some 58 ∧ gs 22 = some 67 ∧ gs 27 = some 72 ∧ gs 32 = some 77 := ⟨hgs 3, hgs 8, hgs 13, hgs 22, hgs 27, hgs 32⟩) | ((first | refine AWp.sreg (id := 19) dd8 rfl (fun gs K hgs hK => ?_) | refine AWp.reg (id := 19) dd8 rfl (fun gs K hgs hK => ?_)); replace hgs : gs 1 = some 165 ∧ gs 4 = some 168 ∧ gs 8 = some 172 ∧ gs 14 = some 178 ∧ gs 18 = some 182 ∧ gs 22 = some 186 ∧ gs 26 = some 190 ∧ gs 30 = some 194 ∧ gs 33 = some 197 ∧ gs 37 = some 201 ∧ gs 41 = some 205 ∧ gs 45 = some 209 ∧ gs 49 = some 213 ∧ gs 53 = some 217 ∧ gs 57 = some 221 := ⟨hgs 1, hgs 4, hgs 8, hgs 14, hgs 18, hgs 22, hgs 26, hgs 30, hgs 33, hgs 37, hgs 41, hgs 45, hgs 49, hgs 53, hgs 57⟩) | (refine AWp.sreg  dd8 rfl (fun gs K hgs hK => ?_); replace hgs : Nat.succ 0 = 1 := rfl) | refine AWp.seq ?_ | refine ARounds.step ?_ | refine AWp.block ?_ | refine AWp.label ?_ | (refine AWp.ret ?_; try simp only [aThen, aBlock]) | (refine AWp.skip ?_; try simp only [aThen, aBlock]) | (refine AWp.exit ?_; try simp only [aThen, aBlock, Nat.reduceEqDiff, reduceIte]) | (refine AWp.reg  dd8 rfl (fun gs K hgs hK => ?_); replace hgs : Nat.succ 0 = 1 := rfl) | (refine aops_consG (fun K' h' => ?_); simp only [go_sem, Nat.reduceLT, Nat.reduceLeDiff, Nat.reduceEqDiff, reduceIte, Nat.reduceAdd, Nat.reduceMul, Nat.reduceSub, Int.reduceLT, Int.reduceLE, Int.reduceToNat, Int.reduceNeg, reduceCtorEq, hgs, Node.cells, aopG, beq_self_eq_true]; (try simp (disch := omega) only [wrap_id, getD_map_in, Int.toNat_natCast, Node.cells, aopG, beq_self_eq_true]); (repeat (refine And.intro (by (first | omega | (simp; done) | (simp; omega) | assumption)) ?_)); refine h' _ ?_; clear h' K') | (refine AWp.cond rfl (fun h => ?_) (fun h => ?_) <;> (try simp only [decide_eq_true_eq, decide_eq_false_iff_not, beq_iff_eq, bne_iff_ne, ne_eq, Bool.not_eq_true', Bool.not_eq_false', beq_eq_false_iff_ne, Bool.true_eq_false, Bool.false_eq_true, Int.not_le, Int.not_lt, Bool.and_eq_true, Bool.and_eq_false_iff, Bool.or_eq_true, Bool.or_eq_false_iff, bne_eq_false_iff_eq, reduceCtorEq] at h) <;> (try first | contradiction | (exfalso; omega) | (exfalso; revert h; simp; done) | (exfalso; revert h; simp; omega)))))
  simp only [Out, outA, outL, resA, go_sem, Nat.reduceLT, Nat.reduceLeDiff, Nat.reduceEqDiff, reduceIte, Nat.reduceAdd, Nat.reduceMul, Nat.reduceSub, Int.reduceLT, Int.reduceLE, Int.reduceToNat, Int.reduceNeg, reduceCtorEq]
  exact AVle.refl _
theorem fdnames_all : ∀ xs, ShpAs Try.prog 8 Try.f8.params.toList xs → ACall Try.prog 8 xs (.lit (.bool true)) := by
  intro xs h
  have hp : Try.f8.params.toList = [] := by kernel_rfl
  rw [hp] at h
  obtain rfl : xs = [] := h
  exact fdnames_law
end Go.Proofs.Yteohklfoggiojaa
