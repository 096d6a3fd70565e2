/-
  The walks over the comparison of tasks, over clone and Pend.
-/
import Derived.Test.YtfmnjgjfkfppkaaTskW5
namespace Go.Proofs.Ytfmnjgjfkfppkaa
open Go.AL Go.RowKit
set_option linter.unusedSimpArgs false
set_option linter.unusedVariables false
set_option maxRecDepth 10000
set_option maxHeartbeats 8000000

/-- a task whose lists are short -/
structure Tsk.few (t : Tsk) : Prop where
  p : t.pend.length ≤ 4100
  m : t.marks.length ≤ 4100
  s : t.store.length ≤ 4100
  e : t.evs.length ≤ 4100
  r : t.rows.length ≤ 4100
  l : t.late.length ≤ 4100
theorem Tsk.few.ok {t : Tsk} (h : t.few) : t.ok := by
  obtain ⟨h1, h2, h3, h4, h5, h6⟩ := h
  exact ⟨by unfold maxLen; omega, by unfold maxLen; omega, by unfold maxLen; omega, by unfold maxLen; omega, by unfold maxLen; omega, by unfold maxLen; omega⟩

def dd36 : Nat → List (List Nat)
  | 0 => [[], [0], []]
  | 3 => [[], [1], [27]]
  | _ => []
def fo36 : Nat → List Nat
  | 1 => [1, 2]
  | 2 => [1, 2]
  | _ => []
theorem cloneT_n (t : Tsk) (hf : t.few) : ACallN Try.prog 36 [.agg t.cells]
    (.agg [.lit (.int .u8 t.kind), .lit (.int .i64 t.n), .lit (.int .i64 t.turn), .own 0 11 0 t.pend.length, mksV t.marks, entsV t.store, evsV t.evs, rowsV t.rows, rcdsV t.late])
    [some ⟨56, 11, t.pend.map Snd.cells⟩] := by
  obtain ⟨h1, h2, h3, h4, h5, h6⟩ := hf
  obtain ⟨kd, n, tn, pe, mk, st, ev, rw_, lt⟩ := t
  simp only at h1 h2 h3 h4 h5 h6
  have hC1 := cloneSnd_n pe h1
  have hC2 := cloneMk_c mk h2
  have hC3 := cloneEnt_c st h3
  have hC4 := cloneEvt_c ev h4
  have hC5 := cloneRow_c rw_ h5
  have hC6 := cloneRcd_c lt h6
  unfold Tsk.cells sndsV mksV entsV evsV rowsV rcdsV
  simp only
  refine acallN_of (n := 28) (rs := [.cell 2 40]) [0] Try.func36 rfl (by kernel_rfl) rfl rfl rfl ?_; simp only [argsE, Nat.reduceAdd]
  repeat (any_goals (first | ((first | refine aops_cons (fun K' h' => ?_) | refine aopsD_cons (fun K' h' => ?_) | refine aopsM_cons (fun K' h' => ?_) | refine aopsR_cons (fun K' h' => ?_)); simp only [go_sem, Nat.reduceLT, Nat.reduceLeDiff, Nat.reduceEqDiff, reduceIte, Nat.reduceAdd, Nat.reduceMul, Nat.reduceSub, Int.reduceLT, Int.reduceLE, Int.reduceToNat, Int.reduceNeg, reduceCtorEq]; (try ((first | refine ⟨_, hC2, ?_⟩ | refine ⟨_, fun _ => hC2, ?_⟩ | refine ⟨_, hC3, ?_⟩ | refine ⟨_, fun _ => hC3, ?_⟩ | refine ⟨_, hC4, ?_⟩ | refine ⟨_, fun _ => hC4, ?_⟩ | refine ⟨_, hC5, ?_⟩ | refine ⟨_, fun _ => hC5, ?_⟩ | refine ⟨_, hC6, ?_⟩ | refine ⟨_, fun _ => hC6, ?_⟩); (try simp only [go_sem, Nat.reduceLT, Nat.reduceLeDiff, Nat.reduceEqDiff, reduceIte, Nat.reduceAdd, Nat.reduceMul, Nat.reduceSub, Int.reduceLT, Int.reduceLE, Int.reduceToNat, Int.reduceNeg, reduceCtorEq]))); (try simp (disch := omega) only [wrap_id, getD_map_in, Int.toNat_natCast]); (repeat (refine And.intro (by (first | omega | (simp; done) | (simp; omega) | assumption)) ?_)); refine h' _ ?_; clear h' K') | (refine aops_nil (hK _ ?_); clear hK K gs; try simp only [aThen, aBlock]) | (refine aops_consN  (fun K' h' => ?_); simp only [go_sem, Nat.reduceLT, Nat.reduceLeDiff, Nat.reduceEqDiff, reduceIte, Nat.reduceAdd, Nat.reduceMul, Nat.reduceSub, Int.reduceLT, Int.reduceLE, Int.reduceToNat, Int.reduceNeg, reduceCtorEq]; refine ⟨_, _, hC1, ?_⟩; (try simp only [go_sem, Nat.reduceLT, Nat.reduceLeDiff, Nat.reduceEqDiff, reduceIte, Nat.reduceAdd, Nat.reduceMul, Nat.reduceSub, Int.reduceLT, Int.reduceLE, Int.reduceToNat, Int.reduceNeg, reduceCtorEq]); (repeat (refine And.intro (by (first | omega | (simp; done) | (simp; omega) | assumption)) ?_)); refine h' _ ?_; clear h' K') | (refine AWp.sreg  dd36 rfl (fun gs K hgs hK => ?_); clear hgs) | refine AWp.seq ?_ | refine ARounds.step ?_ | refine AWp.block ?_ | refine AWp.label ?_ | (refine AWp.ret ?_; try simp only [aThen, aBlock]) | (refine AWp.skip ?_; try simp only [aThen, aBlock]) | (refine AWp.exit ?_; try simp only [aThen, aBlock, Nat.reduceEqDiff, reduceIte]) | (refine AWp.reg  dd36 rfl (fun gs K hgs hK => ?_); clear hgs) | (refine AWp.sregR (id := 1) fo36 [52] mo_fact (by kernel_rfl) (by kernel_rfl) (fun gs K hgs hK => ?_); clear hgs) | (refine AWp.sregR (id := 2) fo36 [] mo_fact (by kernel_rfl) (by kernel_rfl) (fun gs K hgs hK => ?_); clear hgs) | (refine AWp.regR (id := 1) fo36 [52] mo_fact (by kernel_rfl) (by kernel_rfl) (fun gs K hgs hK => ?_); clear hgs) | (refine AWp.regR (id := 2) fo36 [] mo_fact (by kernel_rfl) (by kernel_rfl) (fun gs K hgs hK => ?_); clear hgs) | (refine aopsR_nil (hK _ ?_); clear hK K gs; simp only [fo36]; simp only [ASt.prune, pruneE, keepB, keepR, Bool.or_false, Bool.or_true, Bool.true_or, Bool.false_or, reduceIte, Bool.or_self, Bool.false_eq_true, aThen, aBlock, Nat.reduceEqDiff]) | (refine aopsR_cons (fun K' h' => ?_); simp only [go_sem, Nat.reduceLT, Nat.reduceLeDiff, Nat.reduceEqDiff, reduceIte, Nat.reduceAdd, Nat.reduceMul, Nat.reduceSub, Int.reduceLT, Int.reduceLE, Int.reduceToNat, Int.reduceNeg, reduceCtorEq]; refine ⟨_, _, hC1, ?_⟩; (try simp only [go_sem, Nat.reduceLT, Nat.reduceLeDiff, Nat.reduceEqDiff, reduceIte, Nat.reduceAdd, Nat.reduceMul, Nat.reduceSub, Int.reduceLT, Int.reduceLE, Int.reduceToNat, Int.reduceNeg, reduceCtorEq]); (repeat (refine And.intro (by (first | omega | (simp; done) | (simp; omega) | assumption)) ?_)); refine h' _ ?_; clear h' K') | (refine AWp.cond rfl (fun h => ?_) (fun h => ?_) <;> (try simp only [decide_eq_true_eq, decide_eq_false_iff_not, beq_iff_eq, bne_iff_ne, ne_eq, Bool.not_eq_true', Bool.not_eq_false', beq_eq_false_iff_ne, Bool.true_eq_false, Bool.false_eq_true, Int.not_le, Int.not_lt, Bool.and_eq_true, Bool.and_eq_false_iff, Bool.or_eq_true, Bool.or_eq_false_iff, bne_eq_false_iff_eq, reduceCtorEq] at h) <;> (try first | contradiction | (exfalso; omega) | (exfalso; revert h; simp; done) | (exfalso; revert h; simp; omega)))))
  simp only [OutN, outA, outL, resA, go_sem, Nat.reduceLT, Nat.reduceLeDiff, Nat.reduceEqDiff, reduceIte, Nat.reduceAdd, Nat.reduceMul, Nat.reduceSub, Int.reduceLT, Int.reduceLE, Int.reduceToNat, Int.reduceNeg, reduceCtorEq]
  first
    | (refine ⟨AVle.of_eq (by simp [keepR]), ?_⟩; simp [frzRows, keepR]; done)
    | (refine ⟨AVle.of_eq (by simp [keepR]), ?_, ?_⟩ <;> simp [AV.lowB, lowL, Nat.blt, Nat.ble, frzRows, keepR]; done)
end Go.Proofs.Ytfmnjgjfkfppkaa
