/-
  The walks over projections: of the program and of the reference.
-/
import Derived.Test.YtfmnjgjfkfppkaaFltW
namespace Go.Proofs.Ytfmnjgjfkfppkaa
open Go.AL Go.RowKit
set_option linter.unusedSimpArgs false
set_option linter.unusedVariables false
set_option maxRecDepth 10000
set_option maxHeartbeats 8000000

noncomputable def passB (q : Qry) (r : Rcd) : Bool := !(decide (0 < q.wh.length) && ofV r q.wh == 0)
noncomputable def projR (q : Qry) (r : Rcd) : Rcd := if passB q r = true then ⟨if q.byKey = true then r.key else 0, r.t, if q.agg ≠ 1 then ofV r q.arg else 0⟩ else ⟨0, 0, 0⟩
noncomputable def prjE (q : Qry) (r : Rcd) : Int := if accE q = 0 ∧ isTimeB r.t = true then 0 else 8
noncomputable def prjB (q : Qry) (r : Rcd) : Bool := if prjE q r = 0 then passB q r else false
noncomputable def prjR (q : Qry) (r : Rcd) : Rcd := if prjE q r = 0 then projR q r else ⟨0, 0, 0⟩

theorem right_time (r : Rcd) : validM ⟨1, r.key, r.t, r.v, 0, 0, 0, 0, 0, 0⟩ = isTimeB r.t := by
  unfold validM
  simp
def dd22 : Nat → List (List Nat)
  | 0 => [[], [0], [1], [], [5], [6]]
  | 1 => [[], [], [10], [11], [12], [], [14], [15], [16], [13, 17]]
  | 2 => [[2, 3, 18], [], [19], [], []]
  | 3 => [[18], [], [20], [21], [22]]
  | 4 => [[23], [], [25], [], [26, 27], [28], [], [24], [29], [8, 30]]
  | 5 => [[], [7], [31]]
  | 6 => [[2, 3, 32], [], [33], [], []]
  | 7 => [[23, 32], [], [34], [35], [], [36]]
  | 8 => [[], [], [37], [38]]
  | 9 => [[39], [], [41], [], [42, 43], [44], [], [40, 46], [], [45, 47]]
  | 10 => [[39], [2], [48]]
  | 11 => [[49], [3], [50], [], [51, 52]]
  | 12 => [[3, 49], [9], [53], [], []]
  | _ => []
theorem project_c (q : Qry) (r : Rcd) (h : q.fit) (hr : r.B) : ACall Try.prog 22 [.agg q.cells, .agg r.cells] (.tup [.agg (prjR q r).cells, .lit (.bool (prjB q r)), .lit (.int .i64 (prjE q r))]) := by
  have hE1 := eOf_c q.wh r h.w hr h.wn
  have hE2 := eOf_c q.arg r h.a hr h.an
  have hAc := accepted_c q h
  have hM := mCheck_c ⟨1, r.key, r.t, r.v, 0, 0, 0, 0, 0, 0⟩
  unfold errM at hM
  rw [right_time] at hM
  unfold prjR prjB prjE projR passB
  generalize accE q = ac at *
  obtain ⟨r1, r2, r3⟩ := r
  obtain ⟨ag, ar, sr, jn, wh, ⟨kd, sz, ev⟩, bk, lt⟩ := q
  simp only at *
  generalize isTimeB r2 = tb at *
  generalize ofV ⟨r1, r2, r3⟩ wh = vw at *
  generalize ofV ⟨r1, r2, r3⟩ ar = va at *
  generalize ofE wh = ew at *
  generalize ofE ar = ea at *
  have ha := h.a
  have hw := h.w
  clear h hr
  simp only at ha hw
  unfold Qry.cells nodesV intsV Rcd.cells Msg.cells at *
  simp only at *
  by_cases hac : ac = 0
  · rw [decide_eq_true hac] at hAc
    cases tb <;> cases bk
    all_goals simp only [Bool.false_eq_true, reduceIte] at hM
    all_goals
      refine acall_of (n := 54) (rs := [.cell 4 46, .tmp 5, .tmp 6]) Try.func22 rfl (by kernel_rfl) rfl rfl rfl ?_; simp only [argsE, Nat.reduceAdd]
      repeat (any_goals (first | (refine aops_cons (fun K' h' => ?_); simp only [go_sem, Nat.reduceLT, Nat.reduceLeDiff, Nat.reduceEqDiff, reduceIte, Nat.reduceAdd, Nat.reduceMul, Nat.reduceSub, Int.reduceLT, Int.reduceLE, Int.reduceToNat, Int.reduceNeg, reduceCtorEq, hgs, Node.cells, aopG, bne_self_eq_false, Bool.not_false, beq_self_eq_true]; (try ((first | refine ⟨_, hAsk1, ?_⟩ | refine ⟨_, fun _ => hAsk1, ?_⟩ | refine ⟨_, hAsk2, ?_⟩ | refine ⟨_, fun _ => hAsk2, ?_⟩ | refine ⟨_, hAc, ?_⟩ | refine ⟨_, fun _ => hAc, ?_⟩ | refine ⟨_, hM, ?_⟩ | refine ⟨_, fun _ => hM, ?_⟩ | refine ⟨_, hE1, ?_⟩ | refine ⟨_, fun _ => hE1, ?_⟩ | refine ⟨_, hE2, ?_⟩ | refine ⟨_, fun _ => hE2, ?_⟩); (try simp only [go_sem, Nat.reduceLT, Nat.reduceLeDiff, Nat.reduceEqDiff, reduceIte, Nat.reduceAdd, Nat.reduceMul, Nat.reduceSub, Int.reduceLT, Int.reduceLE, Int.reduceToNat, Int.reduceNeg, reduceCtorEq, hgs, Node.cells, aopG, bne_self_eq_false, Bool.not_false, beq_self_eq_true]))); (try simp (disch := omega) only [wrap_id, getD_map_in, Int.toNat_natCast, Node.cells, aopG, bne_self_eq_false, Bool.not_false, beq_self_eq_true]); (repeat (refine And.intro (by (first | omega | (simp; done) | (simp; omega) | assumption)) ?_)); refine h' _ ?_; clear h' K') | (refine aops_nil (hK _ ?_); clear hK K hgs gs; try simp only [aThen, aBlock]) | ((first | refine AWp.sreg (id := 1) dd22 rfl (fun gs K hgs hK => ?_) | refine AWp.reg (id := 1) dd22 rfl (fun gs K hgs hK => ?_)); replace hgs : gs 3 = some 13 := hgs 3) | (refine AWp.sreg  dd22 rfl (fun gs K hgs hK => ?_); replace hgs : Nat.succ 0 = 1 := rfl) | refine AWp.seq ?_ | refine ARounds.step ?_ | refine AWp.block ?_ | refine AWp.label ?_ | (refine AWp.ret ?_; try simp only [aThen, aBlock]) | (refine AWp.skip ?_; try simp only [aThen, aBlock]) | (refine AWp.exit ?_; try simp only [aThen, aBlock, Nat.reduceEqDiff, reduceIte]) | (refine AWp.reg  dd22 rfl (fun gs K hgs hK => ?_); replace hgs : Nat.succ 0 = 1 := rfl) | (refine aops_consG (fun K' h' => ?_); simp only [go_sem, Nat.reduceLT, Nat.reduceLeDiff, Nat.reduceEqDiff, reduceIte, Nat.reduceAdd, Nat.reduceMul, Nat.reduceSub, Int.reduceLT, Int.reduceLE, Int.reduceToNat, Int.reduceNeg, reduceCtorEq, hgs, Node.cells, aopG, bne_self_eq_false, Bool.not_false, beq_self_eq_true]; (try simp (disch := omega) only [wrap_id, getD_map_in, Int.toNat_natCast, Node.cells, aopG, bne_self_eq_false, Bool.not_false, beq_self_eq_true]); (repeat (refine And.intro (by (first | omega | (simp; done) | (simp; omega) | assumption)) ?_)); refine h' _ ?_; clear h' K') | (refine AWp.cond rfl (fun h => ?_) (fun h => ?_) <;> (try simp only [decide_eq_true_eq, decide_eq_false_iff_not, beq_iff_eq, bne_iff_ne, ne_eq, Bool.not_eq_true', Bool.not_eq_false', beq_eq_false_iff_ne, Bool.true_eq_false, Bool.false_eq_true, Int.not_le, Int.not_lt, Bool.and_eq_true, Bool.and_eq_false_iff, Bool.or_eq_true, Bool.or_eq_false_iff, bne_eq_false_iff_eq, reduceCtorEq] at h) <;> (try first | contradiction | (exfalso; omega) | (exfalso; revert h; simp; done) | (exfalso; revert h; simp; omega)))))
      all_goals first
        | (exfalso; omega)
        | skip
      all_goals simp only [Out, outA, outL, resA, go_sem, Nat.reduceLT, Nat.reduceLeDiff, Nat.reduceEqDiff, reduceIte, Nat.reduceAdd, Nat.reduceMul, Nat.reduceSub, Int.reduceLT, Int.reduceLE, Int.reduceToNat, Int.reduceNeg, reduceCtorEq]
      all_goals clear hE1 hE2 hAc hM
      all_goals refine AVle.of_eq ?_
      all_goals first
        | (have e : decide (0 < wh.length) = true := decide_eq_true (by omega); simp [e, *]; done)
        | (have e : decide (0 < wh.length) = false := decide_eq_false (by omega); simp [e, *]; done)
        | (simp [*]; done)
  · rw [decide_eq_false hac] at hAc
    refine acall_of (n := 54) (rs := [.cell 4 46, .tmp 5, .tmp 6]) Try.func22 rfl (by kernel_rfl) rfl rfl rfl ?_; simp only [argsE, Nat.reduceAdd]
    repeat (any_goals (first | (refine aops_cons (fun K' h' => ?_); simp only [go_sem, Nat.reduceLT, Nat.reduceLeDiff, Nat.reduceEqDiff, reduceIte, Nat.reduceAdd, Nat.reduceMul, Nat.reduceSub, Int.reduceLT, Int.reduceLE, Int.reduceToNat, Int.reduceNeg, reduceCtorEq, hgs, Node.cells, aopG, bne_self_eq_false, Bool.not_false, beq_self_eq_true]; (try ((first | refine ⟨_, hAsk1, ?_⟩ | refine ⟨_, fun _ => hAsk1, ?_⟩ | refine ⟨_, hAsk2, ?_⟩ | refine ⟨_, fun _ => hAsk2, ?_⟩ | refine ⟨_, hAc, ?_⟩ | refine ⟨_, fun _ => hAc, ?_⟩ | refine ⟨_, hM, ?_⟩ | refine ⟨_, fun _ => hM, ?_⟩ | refine ⟨_, hE1, ?_⟩ | refine ⟨_, fun _ => hE1, ?_⟩ | refine ⟨_, hE2, ?_⟩ | refine ⟨_, fun _ => hE2, ?_⟩); (try simp only [go_sem, Nat.reduceLT, Nat.reduceLeDiff, Nat.reduceEqDiff, reduceIte, Nat.reduceAdd, Nat.reduceMul, Nat.reduceSub, Int.reduceLT, Int.reduceLE, Int.reduceToNat, Int.reduceNeg, reduceCtorEq, hgs, Node.cells, aopG, bne_self_eq_false, Bool.not_false, beq_self_eq_true]))); (try simp (disch := omega) only [wrap_id, getD_map_in, Int.toNat_natCast, Node.cells, aopG, bne_self_eq_false, Bool.not_false, beq_self_eq_true]); (repeat (refine And.intro (by (first | omega | (simp; done) | (simp; omega) | assumption)) ?_)); refine h' _ ?_; clear h' K') | (refine aops_nil (hK _ ?_); clear hK K hgs gs; try simp only [aThen, aBlock]) | ((first | refine AWp.sreg (id := 1) dd22 rfl (fun gs K hgs hK => ?_) | refine AWp.reg (id := 1) dd22 rfl (fun gs K hgs hK => ?_)); replace hgs : gs 3 = some 13 := hgs 3) | (refine AWp.sreg  dd22 rfl (fun gs K hgs hK => ?_); replace hgs : Nat.succ 0 = 1 := rfl) | refine AWp.seq ?_ | refine ARounds.step ?_ | refine AWp.block ?_ | refine AWp.label ?_ | (refine AWp.ret ?_; try simp only [aThen, aBlock]) | (refine AWp.skip ?_; try simp only [aThen, aBlock]) | (refine AWp.exit ?_; try simp only [aThen, aBlock, Nat.reduceEqDiff, reduceIte]) | (refine AWp.reg  dd22 rfl (fun gs K hgs hK => ?_); replace hgs : Nat.succ 0 = 1 := rfl) | (refine aops_consG (fun K' h' => ?_); simp only [go_sem, Nat.reduceLT, Nat.reduceLeDiff, Nat.reduceEqDiff, reduceIte, Nat.reduceAdd, Nat.reduceMul, Nat.reduceSub, Int.reduceLT, Int.reduceLE, Int.reduceToNat, Int.reduceNeg, reduceCtorEq, hgs, Node.cells, aopG, bne_self_eq_false, Bool.not_false, beq_self_eq_true]; (try simp (disch := omega) only [wrap_id, getD_map_in, Int.toNat_natCast, Node.cells, aopG, bne_self_eq_false, Bool.not_false, beq_self_eq_true]); (repeat (refine And.intro (by (first | omega | (simp; done) | (simp; omega) | assumption)) ?_)); refine h' _ ?_; clear h' K') | (refine AWp.cond rfl (fun h => ?_) (fun h => ?_) <;> (try simp only [decide_eq_true_eq, decide_eq_false_iff_not, beq_iff_eq, bne_iff_ne, ne_eq, Bool.not_eq_true', Bool.not_eq_false', beq_eq_false_iff_ne, Bool.true_eq_false, Bool.false_eq_true, Int.not_le, Int.not_lt, Bool.and_eq_true, Bool.and_eq_false_iff, Bool.or_eq_true, Bool.or_eq_false_iff, bne_eq_false_iff_eq, reduceCtorEq] at h) <;> (try first | contradiction | (exfalso; omega) | (exfalso; revert h; simp; done) | (exfalso; revert h; simp; omega)))))
    all_goals simp only [Out, outA, outL, resA, go_sem, Nat.reduceLT, Nat.reduceLeDiff, Nat.reduceEqDiff, reduceIte, Nat.reduceAdd, Nat.reduceMul, Nat.reduceSub, Int.reduceLT, Int.reduceLE, Int.reduceToNat, Int.reduceNeg, reduceCtorEq]
    all_goals clear hE1 hE2 hAc hM
    all_goals exact AVle.of_eq (by simp [hac])
def greatF (q : Qry) : Bool := decide (100 < (q.arg.length : Int)) || (decide (100 < (q.wh.length : Int)) || decide (20 < (q.src.length : Int)))
def dd5 : Nat → List (List Nat)
  | 0 => [[], [0], [2]]
  | 1 => [[], [], [3], [4], [5], [6], [], [8], [9], [10], [7, 11], [12], [1], [14], [15], [16], [13, 17], [18]]
  | _ => []
theorem greatF_c (q : Qry) (h1 : q.arg.length ≤ maxLen) (h2 : q.wh.length ≤ maxLen) (h3 : q.src.length ≤ maxLen) : ACall Try.prog 5 [.agg q.cells] (.lit (.bool (greatF q))) := by
  unfold greatF
  obtain ⟨ag, ar, sr, jn, wh, ⟨kd, sz, ev⟩, bk, lt⟩ := q
  simp only at *
  unfold maxLen at h1 h2 h3
  unfold Qry.cells nodesV intsV
  refine acall_of (n := 19) (rs := [.tmp 2]) Try.func5 rfl (by kernel_rfl) rfl rfl rfl ?_; simp only [argsE, Nat.reduceAdd]
  repeat (any_goals (first | (refine aops_cons (fun K' h' => ?_); simp only [go_sem, Nat.reduceLT, Nat.reduceLeDiff, Nat.reduceEqDiff, reduceIte, Nat.reduceAdd, Nat.reduceMul, Nat.reduceSub, Int.reduceLT, Int.reduceLE, Int.reduceToNat, Int.reduceNeg, reduceCtorEq, hgs, Node.cells, aopG, bne_self_eq_false, Bool.not_false, beq_self_eq_true]; (try ((first | refine ⟨_, hAsk1, ?_⟩ | refine ⟨_, fun _ => hAsk1, ?_⟩ | refine ⟨_, hAsk2, ?_⟩ | refine ⟨_, fun _ => hAsk2, ?_⟩); (try simp only [go_sem, Nat.reduceLT, Nat.reduceLeDiff, Nat.reduceEqDiff, reduceIte, Nat.reduceAdd, Nat.reduceMul, Nat.reduceSub, Int.reduceLT, Int.reduceLE, Int.reduceToNat, Int.reduceNeg, reduceCtorEq, hgs, Node.cells, aopG, bne_self_eq_false, Bool.not_false, beq_self_eq_true]))); (try simp (disch := omega) only [wrap_id, getD_map_in, Int.toNat_natCast, Node.cells, aopG, bne_self_eq_false, Bool.not_false, beq_self_eq_true]); (repeat (refine And.intro (by (first | omega | (simp; done) | (simp; omega) | assumption)) ?_)); refine h' _ ?_; clear h' K') | (refine aops_nil (hK _ ?_); clear hK K hgs gs; try simp only [aThen, aBlock]) | ((first | refine AWp.sreg (id := 1) dd5 rfl (fun gs K hgs hK => ?_) | refine AWp.reg (id := 1) dd5 rfl (fun gs K hgs hK => ?_)); replace hgs : gs 4 = some 7 ∧ gs 10 = some 13 := ⟨hgs 4, hgs 10⟩) | (refine AWp.sreg  dd5 rfl (fun gs K hgs hK => ?_); replace hgs : Nat.succ 0 = 1 := rfl) | refine AWp.seq ?_ | refine ARounds.step ?_ | refine AWp.block ?_ | refine AWp.label ?_ | (refine AWp.ret ?_; try simp only [aThen, aBlock]) | (refine AWp.skip ?_; try simp only [aThen, aBlock]) | (refine AWp.exit ?_; try simp only [aThen, aBlock, Nat.reduceEqDiff, reduceIte]) | (refine AWp.reg  dd5 rfl (fun gs K hgs hK => ?_); replace hgs : Nat.succ 0 = 1 := rfl) | (refine aops_consG (fun K' h' => ?_); simp only [go_sem, Nat.reduceLT, Nat.reduceLeDiff, Nat.reduceEqDiff, reduceIte, Nat.reduceAdd, Nat.reduceMul, Nat.reduceSub, Int.reduceLT, Int.reduceLE, Int.reduceToNat, Int.reduceNeg, reduceCtorEq, hgs, Node.cells, aopG, bne_self_eq_false, Bool.not_false, beq_self_eq_true]; (try simp (disch := omega) only [wrap_id, getD_map_in, Int.toNat_natCast, Node.cells, aopG, bne_self_eq_false, Bool.not_false, beq_self_eq_true]); (repeat (refine And.intro (by (first | omega | (simp; done) | (simp; omega) | assumption)) ?_)); refine h' _ ?_; clear h' K') | (refine AWp.cond rfl (fun h => ?_) (fun h => ?_) <;> (try simp only [decide_eq_true_eq, decide_eq_false_iff_not, beq_iff_eq, bne_iff_ne, ne_eq, Bool.not_eq_true', Bool.not_eq_false', beq_eq_false_iff_ne, Bool.true_eq_false, Bool.false_eq_true, Int.not_le, Int.not_lt, Bool.and_eq_true, Bool.and_eq_false_iff, Bool.or_eq_true, Bool.or_eq_false_iff, bne_eq_false_iff_eq, reduceCtorEq] at h) <;> (try first | contradiction | (exfalso; omega) | (exfalso; revert h; simp; done) | (exfalso; revert h; simp; omega)))))
  all_goals simp only [Out, outA, outL, resA, go_sem, Nat.reduceLT, Nat.reduceLeDiff, Nat.reduceEqDiff, reduceIte, Nat.reduceAdd, Nat.reduceMul, Nat.reduceSub, Int.reduceLT, Int.reduceLE, Int.reduceToNat, Int.reduceNeg, reduceCtorEq]
  all_goals refine AVle.of_eq (congrArg (fun b => AV.lit (.bool b)) ?_)
  all_goals first
    | rfl
    | (by_cases g1 : 100 < (ar.length : Int) <;> by_cases g2 : 100 < (wh.length : Int) <;> by_cases g3 : 20 < (sr.length : Int) <;> simp [g1, g2, g3])
end Go.Proofs.Ytfmnjgjfkfppkaa
