/-
  The chapter's example of filters.
-/
import Derived.Test.YtfmnjgjfkfppkaaFltW2
namespace Go.Proofs.Ytfmnjgjfkfppkaa
open Go.AL Go.RowKit
set_option linter.unusedSimpArgs false
set_option linter.unusedVariables false
set_option maxRecDepth 10000
set_option maxHeartbeats 8000000

def dd10 : Nat → List (List Nat)
  | 0 => [[], [0], [2], [10]]
  | 1 => [[], [5], [], [1], [16], [15, 17], [7], [14, 18, 19], [20], [], [13], [], [21], [22]]
  | 2 => [[], [12], [23], [24], [], [26], [27], [28], [25, 29], [30], [], [32], [33], [34], [3], [35, 36], [31, 37], [38], [11], [40], [4], [41, 42], [39, 43], [44]]
  | _ => []
theorem passes_c (q : Qry) (at_ : Int) (m : Msg) (now : Int) (l : List Snd) (hq : q.fit) (hr : m.rcd.B) (ha : accE q = 0) (hm : carrF m = true) (hlow : lowB at_ = true) (hl : l.length ≤ 100) (h1 : fmark at_ m = now) (h2 : fouts q at_ m = l) :
    ACall Try.prog 10 [.agg q.cells, .lit (.int .i64 at_), .agg m.cells, .lit (.int .i64 now), sndsV l] (.lit (.bool true)) := by
  have ht : tskE ⟨2, 0, 0, [], [at_], [], [], [], []⟩ = 0 := filt_ok [] (by omega) hlow (by simp) rfl
  have hTk := (takeF_good q 0 0 at_ m hq hr ha ht hm).mono (args' := [.agg q.cells, .agg [.lit (.int .u8 2), .lit (.int .i64 0), .lit (.int .i64 0), .lit (.slice none 0 0), .ro 1 [[.lit (.int .i64 at_)]], .lit (.slice none 0 0), .lit (.slice none 0 0), .lit (.slice none 0 0), .lit (.slice none 0 0)], .agg m.cells])
    (.cons (.refl _) (.cons (filtT_le 0 at_) (.refl _))) (AVle.refl _)
  rw [h1, h2] at hTk
  have hSs := sameSends_c l l (by simp [maxLen]; omega) (by simp [maxLen]; omega)
  rw [decide_eq_true rfl] at hSs
  clear hq hr ha hm hlow h1 h2 ht
  obtain ⟨ag, ar, sr, jn, wh, ⟨kd, sz, ev⟩, bk, lt⟩ := q
  obtain ⟨kdm, k, rt, v, tt, r1, r2, r3, r4, r5⟩ := m
  unfold Qry.cells Msg.cells Tsk.cells nodesV intsV sndsV mksV entsV evsV rowsV rcdsV at *
  simp only [List.map_nil, List.map_cons, intC] at *
  refine acall_of (n := 45) (rs := [.tmp 10]) Try.func10 rfl (by kernel_rfl) rfl rfl rfl ?_; simp only [argsE, Nat.reduceAdd]
  repeat (any_goals (first | (refine aops_cons (fun K' h' => ?_); simp only [go_sem, Nat.reduceLT, Nat.reduceLeDiff, Nat.reduceEqDiff, reduceIte, Nat.reduceAdd, Nat.reduceMul, Nat.reduceSub, Int.reduceLT, Int.reduceLE, Int.reduceToNat, Int.reduceNeg, reduceCtorEq, hgs, aopG, bne_self_eq_false, Bool.not_false, beq_self_eq_true]; (try ((first | refine ⟨_, hTk, ?_⟩ | refine ⟨_, fun _ => hTk, ?_⟩ | refine ⟨_, hSs, ?_⟩ | refine ⟨_, fun _ => hSs, ?_⟩); (try simp only [go_sem, Nat.reduceLT, Nat.reduceLeDiff, Nat.reduceEqDiff, reduceIte, Nat.reduceAdd, Nat.reduceMul, Nat.reduceSub, Int.reduceLT, Int.reduceLE, Int.reduceToNat, Int.reduceNeg, reduceCtorEq, hgs, aopG, bne_self_eq_false, Bool.not_false, beq_self_eq_true]))); (try simp (disch := omega) only [wrap_id, getD_map_in, Int.toNat_natCast, aopG, bne_self_eq_false, Bool.not_false, beq_self_eq_true]); (repeat (refine And.intro (by (first | omega | (simp; done) | (simp; omega) | assumption)) ?_)); refine h' _ ?_; clear h' K') | (refine aops_nil (hK _ ?_); clear hK K hgs gs; try simp only [aThen, aBlock]) | (refine aops_consF [] (fun K' h' => ?_); simp only [go_sem, Nat.reduceLT, Nat.reduceLeDiff, Nat.reduceEqDiff, reduceIte, Nat.reduceAdd, Nat.reduceMul, Nat.reduceSub, Int.reduceLT, Int.reduceLE, Int.reduceToNat, Int.reduceNeg, reduceCtorEq, hgs, aopG, bne_self_eq_false, Bool.not_false, beq_self_eq_true]; refine ⟨_, hTk, ?_⟩; (try simp only [go_sem, Nat.reduceLT, Nat.reduceLeDiff, Nat.reduceEqDiff, reduceIte, Nat.reduceAdd, Nat.reduceMul, Nat.reduceSub, Int.reduceLT, Int.reduceLE, Int.reduceToNat, Int.reduceNeg, reduceCtorEq, hgs, aopG, bne_self_eq_false, Bool.not_false, beq_self_eq_true]); (repeat (refine And.intro (by (first | omega | (simp; done) | (simp; omega) | assumption)) ?_)); refine h' _ ?_; clear h' K') | ((first | refine AWp.sreg (id := 2) dd10 rfl (fun gs K hgs hK => ?_) | refine AWp.reg (id := 2) dd10 rfl (fun gs K hgs hK => ?_)); replace hgs : gs 2 = some 25 ∧ gs 8 = some 31 ∧ gs 16 = some 39 := ⟨hgs 2, hgs 8, hgs 16⟩) | (refine AWp.sreg  dd10 rfl (fun gs K hgs hK => ?_); replace hgs : Nat.succ 0 = 1 := rfl) | refine AWp.seq ?_ | refine ARounds.step ?_ | refine AWp.block ?_ | refine AWp.label ?_ | (refine AWp.ret ?_; try simp only [aThen, aBlock]) | (refine AWp.skip ?_; try simp only [aThen, aBlock]) | (refine AWp.exit ?_; try simp only [aThen, aBlock, Nat.reduceEqDiff, reduceIte]) | (refine AWp.reg  dd10 rfl (fun gs K hgs hK => ?_); replace hgs : Nat.succ 0 = 1 := rfl) | (refine aops_consG (fun K' h' => ?_); simp only [go_sem, Nat.reduceLT, Nat.reduceLeDiff, Nat.reduceEqDiff, reduceIte, Nat.reduceAdd, Nat.reduceMul, Nat.reduceSub, Int.reduceLT, Int.reduceLE, Int.reduceToNat, Int.reduceNeg, reduceCtorEq, hgs, aopG, bne_self_eq_false, Bool.not_false, beq_self_eq_true]; (try simp (disch := omega) only [wrap_id, getD_map_in, Int.toNat_natCast, aopG, bne_self_eq_false, Bool.not_false, beq_self_eq_true]); (repeat (refine And.intro (by (first | omega | (simp; done) | (simp; omega) | assumption)) ?_)); refine h' _ ?_; clear h' K') | (refine AWp.cond rfl (fun h => ?_) (fun h => ?_) <;> (try simp only [decide_eq_true_eq, decide_eq_false_iff_not, beq_iff_eq, bne_iff_ne, ne_eq, Bool.not_eq_true', Bool.not_eq_false', beq_eq_false_iff_ne, Bool.true_eq_false, Bool.false_eq_true, Int.not_le, Int.not_lt, Bool.and_eq_true, Bool.and_eq_false_iff, Bool.or_eq_true, Bool.or_eq_false_iff, bne_eq_false_iff_eq, reduceCtorEq] at h) <;> (try first | contradiction | (exfalso; omega) | (exfalso; revert h; simp; done) | (exfalso; revert h; simp; omega)))))
  simp only [Out, outA, outL, resA, go_sem, Nat.reduceLT, Nat.reduceLeDiff, Nat.reduceEqDiff, reduceIte, Nat.reduceAdd, Nat.reduceMul, Nat.reduceSub, Int.reduceLT, Int.reduceLE, Int.reduceToNat, Int.reduceNeg, reduceCtorEq]
  exact AVle.of_eq (by simp)
def countQ : Qry := ⟨1, [], [0], false, [], ⟨1, 10, 0⟩, false, 2⟩
theorem countQ_fit : countQ.fit := ⟨by simp [countQ], by simp [countQ], by simp [countQ], by simp [countQ], fun x h => by simp [countQ] at h, fun x h => by simp [countQ] at h⟩
theorem countQ_acc : accE countQ = 0 := by
  have h1 : srcE [0] false = 0 := by decide
  have h2 : winE ⟨1, 10, 0⟩ = 0 := by unfold winE; rw [if_pos (by unfold winP; simp)]
  have h : chkE countQ = 0 := by
    unfold chkE countQ
    simp [h1, h2]
  unfold accE
  rw [h]
  simp [fstE, countQ]
def markM (t : Int) : Msg := ⟨2, 0, 0, 0, t, 0, 0, 0, 0, 0⟩
def dd11 : Nat → List (List Nat)
  | 0 => [[], []]
  | 1 => [[], [], [], [1, 2], [3]]
  | _ => []
theorem count_q : ACall Try.prog 11 [] (.agg countQ.cells) := by
  unfold Qry.cells countQ nodesV intsV
  simp only [List.map_nil, List.map_cons]
  refine acall_of (n := 4) (rs := [.cell 0 27]) Try.func11 rfl (by kernel_rfl) rfl rfl rfl ?_; simp only [argsE, Nat.reduceAdd]
  repeat (any_goals (first | (refine aops_cons (fun K' h' => ?_); simp only [go_sem, Nat.reduceLT, Nat.reduceLeDiff, Nat.reduceEqDiff, reduceIte, Nat.reduceAdd, Nat.reduceMul, Nat.reduceSub, Int.reduceLT, Int.reduceLE, Int.reduceToNat, Int.reduceNeg, reduceCtorEq, aopG, bne_self_eq_false, Bool.not_false, beq_self_eq_true]; (try simp (disch := omega) only [wrap_id, getD_map_in, Int.toNat_natCast, aopG, bne_self_eq_false, Bool.not_false, beq_self_eq_true]); (repeat (refine And.intro (by (first | omega | (simp; done) | (simp; omega) | assumption)) ?_)); refine h' _ ?_; clear h' K') | (refine aops_nil (hK _ ?_); clear hK K gs; try simp only [aThen, aBlock]) | (refine AWp.sreg  dd11 rfl (fun gs K hgs hK => ?_); clear hgs) | refine AWp.seq ?_ | refine ARounds.step ?_ | refine AWp.block ?_ | refine AWp.label ?_ | (refine AWp.ret ?_; try simp only [aThen, aBlock]) | (refine AWp.skip ?_; try simp only [aThen, aBlock]) | (refine AWp.exit ?_; try simp only [aThen, aBlock, Nat.reduceEqDiff, reduceIte]) | (refine AWp.reg  dd11 rfl (fun gs K hgs hK => ?_); clear hgs) | (refine AWp.cond rfl (fun h => ?_) (fun h => ?_) <;> (try simp only [decide_eq_true_eq, decide_eq_false_iff_not, beq_iff_eq, bne_iff_ne, ne_eq, Bool.not_eq_true', Bool.not_eq_false', beq_eq_false_iff_ne, Bool.true_eq_false, Bool.false_eq_true, Int.not_le, Int.not_lt, Bool.and_eq_true, Bool.and_eq_false_iff, Bool.or_eq_true, Bool.or_eq_false_iff, bne_eq_false_iff_eq, reduceCtorEq] at h) <;> (try first | contradiction | (exfalso; omega) | (exfalso; revert h; simp; done) | (exfalso; revert h; simp; omega)))))
  simp only [Out, outA, outL, resA, go_sem, Nat.reduceLT, Nat.reduceLeDiff, Nat.reduceEqDiff, reduceIte, Nat.reduceAdd, Nat.reduceMul, Nat.reduceSub, Int.reduceLT, Int.reduceLE, Int.reduceToNat, Int.reduceNeg, reduceCtorEq]
  exact AVle.agg ⟨AVle.refl _, AVle.nil 5, AVle.refl _, AVle.refl _, AVle.nil 5, AVle.refl _, AVle.refl _, AVle.refl _, AVle.refl _, AVle.refl _, trivial⟩
def dd12 : Nat → List (List Nat)
  | 0 => [[], []]
  | 1 => [[], [0], [3], [4]]
  | _ => []
theorem markL_c (t : Int) : ACall Try.prog 12 [.lit (.int .i64 t)] (.agg (markM t).cells) := by
  unfold markM Msg.cells
  refine acall_of (n := 5) (rs := [.cell 2 53]) Try.func12 rfl (by kernel_rfl) rfl rfl rfl ?_; simp only [argsE, Nat.reduceAdd]
  repeat (any_goals (first | (refine aops_cons (fun K' h' => ?_); simp only [go_sem, Nat.reduceLT, Nat.reduceLeDiff, Nat.reduceEqDiff, reduceIte, Nat.reduceAdd, Nat.reduceMul, Nat.reduceSub, Int.reduceLT, Int.reduceLE, Int.reduceToNat, Int.reduceNeg, reduceCtorEq, aopG, bne_self_eq_false, Bool.not_false, beq_self_eq_true]; (try simp (disch := omega) only [wrap_id, getD_map_in, Int.toNat_natCast, aopG, bne_self_eq_false, Bool.not_false, beq_self_eq_true]); (repeat (refine And.intro (by (first | omega | (simp; done) | (simp; omega) | assumption)) ?_)); refine h' _ ?_; clear h' K') | (refine aops_nil (hK _ ?_); clear hK K gs; try simp only [aThen, aBlock]) | (refine AWp.sreg  dd12 rfl (fun gs K hgs hK => ?_); clear hgs) | refine AWp.seq ?_ | refine ARounds.step ?_ | refine AWp.block ?_ | refine AWp.label ?_ | (refine AWp.ret ?_; try simp only [aThen, aBlock]) | (refine AWp.skip ?_; try simp only [aThen, aBlock]) | (refine AWp.exit ?_; try simp only [aThen, aBlock, Nat.reduceEqDiff, reduceIte]) | (refine AWp.reg  dd12 rfl (fun gs K hgs hK => ?_); clear hgs) | (refine AWp.cond rfl (fun h => ?_) (fun h => ?_) <;> (try simp only [decide_eq_true_eq, decide_eq_false_iff_not, beq_iff_eq, bne_iff_ne, ne_eq, Bool.not_eq_true', Bool.not_eq_false', beq_eq_false_iff_ne, Bool.true_eq_false, Bool.false_eq_true, Int.not_le, Int.not_lt, Bool.and_eq_true, Bool.and_eq_false_iff, Bool.or_eq_true, Bool.or_eq_false_iff, bne_eq_false_iff_eq, reduceCtorEq] at h) <;> (try first | contradiction | (exfalso; omega) | (exfalso; revert h; simp; done) | (exfalso; revert h; simp; omega)))))
  simp only [Out, outA, outL, resA, go_sem, Nat.reduceLT, Nat.reduceLeDiff, Nat.reduceEqDiff, reduceIte, Nat.reduceAdd, Nat.reduceMul, Nat.reduceSub, Int.reduceLT, Int.reduceLE, Int.reduceToNat, Int.reduceNeg, reduceCtorEq]
  exact AVle.refl _
def dd14 : Nat → List (List Nat)
  | 0 => [[], []]
  | 1 => [[], [0], [1], [2], [7, 8, 9], [10], [11]]
  | _ => []
theorem recL_c (k t v : Int) : ACall Try.prog 14 [.lit (.int .i64 k), .lit (.int .i64 t), .lit (.int .i64 v)] (.agg (recM ⟨k, t, v⟩).cells) := by
  unfold recM Msg.cells
  refine acall_of (n := 12) (rs := [.cell 6 53]) Try.func14 rfl (by kernel_rfl) rfl rfl rfl ?_; simp only [argsE, Nat.reduceAdd]
  repeat (any_goals (first | (refine aops_cons (fun K' h' => ?_); simp only [go_sem, Nat.reduceLT, Nat.reduceLeDiff, Nat.reduceEqDiff, reduceIte, Nat.reduceAdd, Nat.reduceMul, Nat.reduceSub, Int.reduceLT, Int.reduceLE, Int.reduceToNat, Int.reduceNeg, reduceCtorEq, aopG, bne_self_eq_false, Bool.not_false, beq_self_eq_true]; (try simp (disch := omega) only [wrap_id, getD_map_in, Int.toNat_natCast, aopG, bne_self_eq_false, Bool.not_false, beq_self_eq_true]); (repeat (refine And.intro (by (first | omega | (simp; done) | (simp; omega) | assumption)) ?_)); refine h' _ ?_; clear h' K') | (refine aops_nil (hK _ ?_); clear hK K gs; try simp only [aThen, aBlock]) | (refine AWp.sreg  dd14 rfl (fun gs K hgs hK => ?_); clear hgs) | refine AWp.seq ?_ | refine ARounds.step ?_ | refine AWp.block ?_ | refine AWp.label ?_ | (refine AWp.ret ?_; try simp only [aThen, aBlock]) | (refine AWp.skip ?_; try simp only [aThen, aBlock]) | (refine AWp.exit ?_; try simp only [aThen, aBlock, Nat.reduceEqDiff, reduceIte]) | (refine AWp.reg  dd14 rfl (fun gs K hgs hK => ?_); clear hgs) | (refine AWp.cond rfl (fun h => ?_) (fun h => ?_) <;> (try simp only [decide_eq_true_eq, decide_eq_false_iff_not, beq_iff_eq, bne_iff_ne, ne_eq, Bool.not_eq_true', Bool.not_eq_false', beq_eq_false_iff_ne, Bool.true_eq_false, Bool.false_eq_true, Int.not_le, Int.not_lt, Bool.and_eq_true, Bool.and_eq_false_iff, Bool.or_eq_true, Bool.or_eq_false_iff, bne_eq_false_iff_eq, reduceCtorEq] at h) <;> (try first | contradiction | (exfalso; omega) | (exfalso; revert h; simp; done) | (exfalso; revert h; simp; omega)))))
  simp only [Out, outA, outL, resA, go_sem, Nat.reduceLT, Nat.reduceLeDiff, Nat.reduceEqDiff, reduceIte, Nat.reduceAdd, Nat.reduceMul, Nat.reduceSub, Int.reduceLT, Int.reduceLE, Int.reduceToNat, Int.reduceNeg, reduceCtorEq]
  exact AVle.refl _
def dd15 : Nat → List (List Nat)
  | 0 => [[], []]
  | 1 => [[], [0], [1], [2], [7, 8, 9], [10], [11]]
  | _ => []
theorem lateL_c (k t v : Int) : ACall Try.prog 15 [.lit (.int .i64 k), .lit (.int .i64 t), .lit (.int .i64 v)] (.agg (lateM ⟨k, t, v⟩).cells) := by
  unfold lateM Msg.cells
  refine acall_of (n := 12) (rs := [.cell 6 53]) Try.func15 rfl (by kernel_rfl) rfl rfl rfl ?_; simp only [argsE, Nat.reduceAdd]
  repeat (any_goals (first | (refine aops_cons (fun K' h' => ?_); simp only [go_sem, Nat.reduceLT, Nat.reduceLeDiff, Nat.reduceEqDiff, reduceIte, Nat.reduceAdd, Nat.reduceMul, Nat.reduceSub, Int.reduceLT, Int.reduceLE, Int.reduceToNat, Int.reduceNeg, reduceCtorEq, aopG, bne_self_eq_false, Bool.not_false, beq_self_eq_true]; (try simp (disch := omega) only [wrap_id, getD_map_in, Int.toNat_natCast, aopG, bne_self_eq_false, Bool.not_false, beq_self_eq_true]); (repeat (refine And.intro (by (first | omega | (simp; done) | (simp; omega) | assumption)) ?_)); refine h' _ ?_; clear h' K') | (refine aops_nil (hK _ ?_); clear hK K gs; try simp only [aThen, aBlock]) | (refine AWp.sreg  dd15 rfl (fun gs K hgs hK => ?_); clear hgs) | refine AWp.seq ?_ | refine ARounds.step ?_ | refine AWp.block ?_ | refine AWp.label ?_ | (refine AWp.ret ?_; try simp only [aThen, aBlock]) | (refine AWp.skip ?_; try simp only [aThen, aBlock]) | (refine AWp.exit ?_; try simp only [aThen, aBlock, Nat.reduceEqDiff, reduceIte]) | (refine AWp.reg  dd15 rfl (fun gs K hgs hK => ?_); clear hgs) | (refine AWp.cond rfl (fun h => ?_) (fun h => ?_) <;> (try simp only [decide_eq_true_eq, decide_eq_false_iff_not, beq_iff_eq, bne_iff_ne, ne_eq, Bool.not_eq_true', Bool.not_eq_false', beq_eq_false_iff_ne, Bool.true_eq_false, Bool.false_eq_true, Int.not_le, Int.not_lt, Bool.and_eq_true, Bool.and_eq_false_iff, Bool.or_eq_true, Bool.or_eq_false_iff, bne_eq_false_iff_eq, reduceCtorEq] at h) <;> (try first | contradiction | (exfalso; omega) | (exfalso; revert h; simp; done) | (exfalso; revert h; simp; omega)))))
  simp only [Out, outA, outL, resA, go_sem, Nat.reduceLT, Nat.reduceLeDiff, Nat.reduceEqDiff, reduceIte, Nat.reduceAdd, Nat.reduceMul, Nat.reduceSub, Int.reduceLT, Int.reduceLE, Int.reduceToNat, Int.reduceNeg, reduceCtorEq]
  exact AVle.refl _
def dd13 : Nat → List (List Nat)
  | 0 => [[], [1], []]
  | 1 => [[], [0], [3], [5, 6], [7]]
  | _ => []
theorem toL_c (o : Int) (m : Msg) : ACall Try.prog 13 [.lit (.int .i64 o), .agg m.cells] (.agg (Snd.mk o m).cells) := by
  unfold Snd.cells
  obtain ⟨kdm, k, rt, v, tt, r1, r2, r3, r4, r5⟩ := m
  unfold Msg.cells
  refine acall_of (n := 8) (rs := [.cell 4 56]) Try.func13 rfl (by kernel_rfl) rfl rfl rfl ?_; simp only [argsE, Nat.reduceAdd]
  repeat (any_goals (first | (refine aops_cons (fun K' h' => ?_); simp only [go_sem, Nat.reduceLT, Nat.reduceLeDiff, Nat.reduceEqDiff, reduceIte, Nat.reduceAdd, Nat.reduceMul, Nat.reduceSub, Int.reduceLT, Int.reduceLE, Int.reduceToNat, Int.reduceNeg, reduceCtorEq, aopG, bne_self_eq_false, Bool.not_false, beq_self_eq_true]; (try simp (disch := omega) only [wrap_id, getD_map_in, Int.toNat_natCast, aopG, bne_self_eq_false, Bool.not_false, beq_self_eq_true]); (repeat (refine And.intro (by (first | omega | (simp; done) | (simp; omega) | assumption)) ?_)); refine h' _ ?_; clear h' K') | (refine aops_nil (hK _ ?_); clear hK K gs; try simp only [aThen, aBlock]) | (refine AWp.sreg  dd13 rfl (fun gs K hgs hK => ?_); clear hgs) | refine AWp.seq ?_ | refine ARounds.step ?_ | refine AWp.block ?_ | refine AWp.label ?_ | (refine AWp.ret ?_; try simp only [aThen, aBlock]) | (refine AWp.skip ?_; try simp only [aThen, aBlock]) | (refine AWp.exit ?_; try simp only [aThen, aBlock, Nat.reduceEqDiff, reduceIte]) | (refine AWp.reg  dd13 rfl (fun gs K hgs hK => ?_); clear hgs) | (refine AWp.cond rfl (fun h => ?_) (fun h => ?_) <;> (try simp only [decide_eq_true_eq, decide_eq_false_iff_not, beq_iff_eq, bne_iff_ne, ne_eq, Bool.not_eq_true', Bool.not_eq_false', beq_eq_false_iff_ne, Bool.true_eq_false, Bool.false_eq_true, Int.not_le, Int.not_lt, Bool.and_eq_true, Bool.and_eq_false_iff, Bool.or_eq_true, Bool.or_eq_false_iff, bne_eq_false_iff_eq, reduceCtorEq] at h) <;> (try first | contradiction | (exfalso; omega) | (exfalso; revert h; simp; done) | (exfalso; revert h; simp; omega)))))
  simp only [Out, outA, outL, resA, go_sem, Nat.reduceLT, Nat.reduceLeDiff, Nat.reduceEqDiff, reduceIte, Nat.reduceAdd, Nat.reduceMul, Nat.reduceSub, Int.reduceLT, Int.reduceLE, Int.reduceToNat, Int.reduceNeg, reduceCtorEq]
  exact AVle.refl _
theorem small_rcd {m : Msg} (h1 : -1000 ≤ m.key ∧ m.key ≤ 1000) (h2 : -1000000000000000 ≤ m.rt ∧ m.rt ≤ 1000000000000000) (h3 : -1000 ≤ m.value ∧ m.value ≤ 1000) : m.rcd.B := by
  unfold Rcd.B Msg.rcd i64B
  simp only
  omega
theorem fouts_mark {q : Qry} {mk t : Int} (h : mk < t) : fouts q mk (markM t) = [⟨0, markM t⟩] := by
  unfold fouts
  rw [if_pos (show (markM t).kind = 2 from rfl), if_neg (by show ¬ t ≤ mk; omega)]
theorem fouts_nomark {q : Qry} {mk t : Int} (h : t ≤ mk) : fouts q mk (markM t) = [] := by
  unfold fouts
  rw [if_pos (show (markM t).kind = 2 from rfl), if_pos (show (markM t).time ≤ mk from h)]
theorem fouts_late {q : Qry} {mk : Int} {r : Rcd} (h : r.t < mk) (hq : q.late = 2) : fouts q mk (recM r) = [⟨1, lateM r⟩] := by
  unfold fouts
  rw [if_neg (by show ¬ (1 : Int) = 2; decide), if_pos (show (recM r).rt < mk from h), if_neg (by rw [hq]; simp)]
  rfl
theorem fouts_rec {q : Qry} {mk : Int} {r : Rcd} (h : mk ≤ r.t) (hp : passB q r = true) : fouts q mk (recM r) = [⟨0, recM (projR q r)⟩] := by
  unfold fouts
  have e : (recM r).rcd = r := rfl
  rw [if_neg (by show ¬ (1 : Int) = 2; decide), if_neg (by show ¬ r.t < mk; omega), e, if_pos hp]
theorem pass_count (r : Rcd) : passB countQ r = true ∧ projR countQ r = ⟨0, r.t, 0⟩ := by
  have h : passB countQ r = true := by simp [passB, countQ]
  refine ⟨h, ?_⟩
  unfold projR
  rw [if_pos h]
  simp [countQ]

def dd4 : Nat → List (List Nat)
  | 0 => [[], [0]]
  | 1 => [[], [], [], [], [3], [4], [1, 2, 5], [6], [], [], [], [10], [11], [8, 9, 12], [7, 13], [14], [], [], [], [18], [19], [16, 17, 20], [15, 21], [22], [], [], [24, 25], [23, 26], [27]]
  | _ => []
theorem alive29_c : ACall Try.prog 4 [] (.lit (.bool true)) := by
  have hTo1 := toL_c 0 (markM 10)
  have hTo2 := toL_c 1 (lateM ⟨0, 9, 3⟩)
  have hTo3 := toL_c 0 (recM ⟨0, 10, 0⟩)
  have hP1 := passes_c countQ (-9223372036854775808) (markM 10) 10 [⟨0, markM 10⟩] countQ_fit (small_rcd (by decide) (by decide) (by decide)) countQ_acc (by decide) (by decide) (by simp) (by decide) (fouts_mark (by decide))
  have hP2 := passes_c countQ 10 (recM ⟨0, 9, 3⟩) 10 [⟨1, lateM ⟨0, 9, 3⟩⟩] countQ_fit (small_rcd (by decide) (by decide) (by decide)) countQ_acc (by decide) (by decide) (by simp) (by decide) (fouts_late (by decide) rfl)
  have hP3 := passes_c countQ 10 (recM ⟨0, 10, 3⟩) 10 [⟨0, recM ⟨0, 10, 0⟩⟩] countQ_fit (small_rcd (by decide) (by decide) (by decide)) countQ_acc (by decide) (by decide) (by simp) (by decide) (by rw [fouts_rec (by decide) (pass_count _).1, (pass_count _).2])
  have hP4 := (passes_c countQ 10 (markM 10) 10 [] countQ_fit (small_rcd (by decide) (by decide) (by decide)) countQ_acc (by decide) (by decide) (by simp) (by decide) (fouts_nomark (by decide))).mono (args' := [.agg countQ.cells, .lit (.int .i64 10), .agg (markM 10).cells, .lit (.int .i64 10), .lit (.slice none 0 0)])
    (.cons (.refl _) (.cons (.refl _) (.cons (.refl _) (.cons (.refl _) (.cons (AVle.nil 11) (.refl _)))))) (AVle.refl _)
  have hCt := count_q
  have hMk := fun t => markL_c t
  have hRc := fun k t v => recL_c k t v
  have hLt := fun k t v => lateL_c k t v
  unfold sndsV at *
  simp only [List.map_nil, List.map_cons, Snd.cells] at *
  unfold markM recM lateM Msg.cells Qry.cells countQ nodesV intsV at *
  simp only [List.map_nil, List.map_cons] at *
  refine acall_of (n := 28) (rs := [.tmp 0]) Try.func4 rfl (by kernel_rfl) rfl rfl rfl ?_; simp only [argsE, Nat.reduceAdd]
  repeat (any_goals (first | (refine aops_cons (fun K' h' => ?_); simp only [go_sem, Nat.reduceLT, Nat.reduceLeDiff, Nat.reduceEqDiff, reduceIte, Nat.reduceAdd, Nat.reduceMul, Nat.reduceSub, Int.reduceLT, Int.reduceLE, Int.reduceToNat, Int.reduceNeg, reduceCtorEq, hgs, aopG, bne_self_eq_false, Bool.not_false, beq_self_eq_true]; (try ((first | refine ⟨_, hCt, ?_⟩ | refine ⟨_, fun _ => hCt, ?_⟩ | refine ⟨_, hMk _, ?_⟩ | refine ⟨_, fun _ => hMk _, ?_⟩ | refine ⟨_, hRc _ _ _, ?_⟩ | refine ⟨_, fun _ => hRc _ _ _, ?_⟩ | refine ⟨_, hLt _ _ _, ?_⟩ | refine ⟨_, fun _ => hLt _ _ _, ?_⟩ | refine ⟨_, hTo1, ?_⟩ | refine ⟨_, fun _ => hTo1, ?_⟩ | refine ⟨_, hTo2, ?_⟩ | refine ⟨_, fun _ => hTo2, ?_⟩ | refine ⟨_, hTo3, ?_⟩ | refine ⟨_, fun _ => hTo3, ?_⟩ | refine ⟨_, hP1, ?_⟩ | refine ⟨_, fun _ => hP1, ?_⟩ | refine ⟨_, hP2, ?_⟩ | refine ⟨_, fun _ => hP2, ?_⟩ | refine ⟨_, hP3, ?_⟩ | refine ⟨_, fun _ => hP3, ?_⟩ | refine ⟨_, hP4, ?_⟩ | refine ⟨_, fun _ => hP4, ?_⟩); (try simp only [go_sem, Nat.reduceLT, Nat.reduceLeDiff, Nat.reduceEqDiff, reduceIte, Nat.reduceAdd, Nat.reduceMul, Nat.reduceSub, Int.reduceLT, Int.reduceLE, Int.reduceToNat, Int.reduceNeg, reduceCtorEq, hgs, aopG, bne_self_eq_false, Bool.not_false, beq_self_eq_true]))); (try simp (disch := omega) only [wrap_id, getD_map_in, Int.toNat_natCast, aopG, bne_self_eq_false, Bool.not_false, beq_self_eq_true]); (repeat (refine And.intro (by (first | omega | (simp; done) | (simp; omega) | assumption)) ?_)); refine h' _ ?_; clear h' K') | (refine aops_nil (hK _ ?_); clear hK K hgs gs; try simp only [aThen, aBlock]) | ((first | refine AWp.sreg (id := 1) dd4 rfl (fun gs K hgs hK => ?_) | refine AWp.reg (id := 1) dd4 rfl (fun gs K hgs hK => ?_)); replace hgs : gs 6 = some 7 ∧ gs 14 = some 15 ∧ gs 22 = some 23 := ⟨hgs 6, hgs 14, hgs 22⟩) | (refine AWp.sreg  dd4 rfl (fun gs K hgs hK => ?_); replace hgs : Nat.succ 0 = 1 := rfl) | refine AWp.seq ?_ | refine ARounds.step ?_ | refine AWp.block ?_ | refine AWp.label ?_ | (refine AWp.ret ?_; try simp only [aThen, aBlock]) | (refine AWp.skip ?_; try simp only [aThen, aBlock]) | (refine AWp.exit ?_; try simp only [aThen, aBlock, Nat.reduceEqDiff, reduceIte]) | (refine AWp.reg  dd4 rfl (fun gs K hgs hK => ?_); replace hgs : Nat.succ 0 = 1 := rfl) | (refine aops_consG (fun K' h' => ?_); simp only [go_sem, Nat.reduceLT, Nat.reduceLeDiff, Nat.reduceEqDiff, reduceIte, Nat.reduceAdd, Nat.reduceMul, Nat.reduceSub, Int.reduceLT, Int.reduceLE, Int.reduceToNat, Int.reduceNeg, reduceCtorEq, hgs, aopG, bne_self_eq_false, Bool.not_false, beq_self_eq_true]; (try simp (disch := omega) only [wrap_id, getD_map_in, Int.toNat_natCast, aopG, bne_self_eq_false, Bool.not_false, beq_self_eq_true]); (repeat (refine And.intro (by (first | omega | (simp; done) | (simp; omega) | assumption)) ?_)); refine h' _ ?_; clear h' K') | (refine AWp.cond rfl (fun h => ?_) (fun h => ?_) <;> (try simp only [decide_eq_true_eq, decide_eq_false_iff_not, beq_iff_eq, bne_iff_ne, ne_eq, Bool.not_eq_true', Bool.not_eq_false', beq_eq_false_iff_ne, Bool.true_eq_false, Bool.false_eq_true, Int.not_le, Int.not_lt, Bool.and_eq_true, Bool.and_eq_false_iff, Bool.or_eq_true, Bool.or_eq_false_iff, bne_eq_false_iff_eq, reduceCtorEq] at h) <;> (try first | contradiction | (exfalso; omega) | (exfalso; revert h; simp; done) | (exfalso; revert h; simp; omega)))))
  simp only [Out, outA, outL, resA, go_sem, Nat.reduceLT, Nat.reduceLeDiff, Nat.reduceEqDiff, reduceIte, Nat.reduceAdd, Nat.reduceMul, Nat.reduceSub, Int.reduceLT, Int.reduceLE, Int.reduceToNat, Int.reduceNeg, reduceCtorEq]
  exact AVle.refl _
end Go.Proofs.Ytfmnjgjfkfppkaa
