/-
  The walks over queues: checks, what is left, what is put, copies and comparisons.
-/
import Derived.Test.YtlpmgkillalhbaaQueM
import Derived.Test.YtlpmgkillalhbaaAbsZ
namespace Go.Proofs.Ytlpmgkillalhbaa
open Go.AL Go.RowKit
set_option linter.unusedSimpArgs false
set_option linter.unusedVariables false
set_option maxRecDepth 10000
set_option maxHeartbeats 8000000

theorem queE_room {q : Que} (h : q.room < 1 ∨ 8 < q.room ∨ q.room < (q.list.length : Int)) : queE q = 8 := by
  unfold queE goodQ
  rw [if_neg]
  simp only [Bool.and_eq_true, decide_eq_true_eq, not_and]
  omega
theorem queE_bad {q : Que} {k : Nat} (hk : k < q.list.length) (h : validM (q.list.getD k default) = false) : queE q = 8 := by
  unfold queE goodQ
  rw [if_neg]
  rw [← allL_all]
  unfold allL
  rw [allN_false (k := k) hk h]
  simp
theorem queE_good {q : Que} (h1 : 1 ≤ q.room ∧ q.room ≤ 8 ∧ (q.list.length : Int) ≤ q.room) (h : ∀ j, j < q.list.length → validM (q.list.getD j default) = true) : queE q = 0 := by
  unfold queE goodQ
  rw [← allL_all]
  unfold allL
  rw [allN_true h, if_pos]
  simp only [Bool.and_true, decide_eq_true_eq]
  exact h1

def dd63 : Nat → List (List Nat)
  | 0 => [[], [0], [2]]
  | 1 => [[], [], [6], [7], [8], [], [10], [11], [9, 12], [13], [], [15], [16], [], [18], [17, 19], [14, 20]]
  | 2 => [[1, 21], []]
  | 3 => [[21], [1], [22], [], []]
  | 4 => [[], []]
  | 5 => [[26], [], [27], [], [28]]
  | 6 => [[], [4], [29], [30]]
  | 7 => [[], [], [31]]
  | 8 => [[23, 24, 25, 32], [5], [33]]
  | 9 => [[5, 32], [25], [34]]
  | 10 => [[23, 24, 25, 26], []]
  | _ => []
theorem chk_c (q : Que) : ACall Try.prog 63 [.agg q.cells] (.lit (.int .i64 (queE q))) := by
  have e1 := @queE_room q
  have e2 := @queE_bad q
  have e3 := @queE_good q
  generalize queE q = qe at *
  obtain ⟨rm, l⟩ := q
  simp only at e1 e2 e3
  obtain ⟨B, hB⟩ : ∃ B : List AV, B = [.lit (.int .i64 rm), .ro 10 (l.map Msg.cells)] := ⟨_, rfl⟩
  refine acall_of (n := 35) (rs := [.tmp 2]) Try.func63 rfl (by kernel_rfl) rfl rfl rfl ?_; simp only [argsE, Nat.reduceAdd]
  repeat (any_goals (first | (refine aops_cons (fun K' h' => ?_); simp only [go_sem, Nat.reduceLT, Nat.reduceLeDiff, Nat.reduceEqDiff, reduceIte, Nat.reduceAdd, Nat.reduceMul, Nat.reduceSub, Int.reduceLT, Int.reduceLE, Int.reduceToNat, Int.reduceNeg, reduceCtorEq, hgs, Que.cells]; (try ((first | refine ⟨_, hM, ?_⟩ | refine ⟨_, fun _ => hM, ?_⟩); (try simp only [go_sem, Nat.reduceLT, Nat.reduceLeDiff, Nat.reduceEqDiff, reduceIte, Nat.reduceAdd, Nat.reduceMul, Nat.reduceSub, Int.reduceLT, Int.reduceLE, Int.reduceToNat, Int.reduceNeg, reduceCtorEq, hgs, Que.cells]))); (try simp (disch := omega) only [wrap_id, getD_map_in, Int.toNat_natCast, Que.cells]); (repeat (refine And.intro (by (first | omega | (simp; done) | (simp; omega) | assumption)) ?_)); refine h' _ ?_; clear h' K') | (refine aops_nil (hK _ ?_); clear hK K hgs gs; try simp only [aThen, aBlock]) | ((first | refine AWp.sreg (id := 1) dd63 rfl (fun gs K hgs hK => ?_) | refine AWp.reg (id := 1) dd63 rfl (fun gs K hgs hK => ?_)); replace hgs : gs 3 = some 9 ∧ gs 8 = some 14 := ⟨hgs 3, hgs 8⟩) | (refine AWp.sreg  dd63 rfl (fun gs K hgs hK => ?_); replace hgs : Nat.succ 0 = 1 := rfl) | refine AWp.seq ?_ | refine ARounds.step ?_ | refine AWp.block ?_ | refine AWp.label ?_ | (refine AWp.ret ?_; try simp only [aThen, aBlock]) | (refine AWp.skip ?_; try simp only [aThen, aBlock]) | (refine AWp.exit ?_; try simp only [aThen, aBlock, Nat.reduceEqDiff, reduceIte]) | (refine AWp.reg  dd63 rfl (fun gs K hgs hK => ?_); replace hgs : Nat.succ 0 = 1 := rfl) | (refine aops_consG (fun K' h' => ?_); simp only [go_sem, Nat.reduceLT, Nat.reduceLeDiff, Nat.reduceEqDiff, reduceIte, Nat.reduceAdd, Nat.reduceMul, Nat.reduceSub, Int.reduceLT, Int.reduceLE, Int.reduceToNat, Int.reduceNeg, reduceCtorEq, hgs, Que.cells]; (try simp (disch := omega) only [wrap_id, getD_map_in, Int.toNat_natCast, Que.cells]); (repeat (refine And.intro (by (first | omega | (simp; done) | (simp; omega) | assumption)) ?_)); refine h' _ ?_; clear h' K') | (refine AWp.cond rfl (fun h => ?_) (fun h => ?_) <;> (try simp only [decide_eq_true_eq, decide_eq_false_iff_not, beq_iff_eq, bne_iff_ne, ne_eq, Bool.not_eq_true', Bool.not_eq_false', beq_eq_false_iff_ne, Bool.true_eq_false, Bool.false_eq_true, Int.not_le, Int.not_lt, Bool.and_eq_true, Bool.and_eq_false_iff, Bool.or_eq_true, Bool.or_eq_false_iff, bne_eq_false_iff_eq, reduceCtorEq] at h) <;> (try first | contradiction | (exfalso; omega) | (exfalso; revert h; simp; done) | (exfalso; revert h; simp; omega)))))
  · simp only [Out, outA, outL, resA, go_sem, Nat.reduceLT, Nat.reduceLeDiff, Nat.reduceEqDiff, reduceIte, Nat.reduceAdd, Nat.reduceMul, Nat.reduceSub, Int.reduceLT, Int.reduceLE, Int.reduceToNat, Int.reduceNeg, reduceCtorEq]
    rw [e1 (by omega)]
    exact AVle.refl _
  · refine AWp.loopN l.length (fun k => validM (l.getD k default) = true) (fun k => ⟨[(23, .ro 10 (l.map Msg.cells)), (24, .lit (.int .i64 (l.length : Int))), (25, .lit (.int .i64 (k : Int)))], [B], []⟩) ?_ ?_
    · subst hB
      refine Wk.of rfl rfl ?_
      simp [subE, eget, ASt.drop, dropE, keepR, lowE, AV.lowB, lowL, Nat.blt, Nat.ble]
    · intro k hk hall
      subst hB
      repeat ((first | (refine aops_cons (fun K' h' => ?_); simp only [go_sem, Nat.reduceLT, Nat.reduceLeDiff, Nat.reduceEqDiff, reduceIte, Nat.reduceAdd, Nat.reduceMul, Nat.reduceSub, Int.reduceLT, Int.reduceLE, Int.reduceToNat, Int.reduceNeg, reduceCtorEq, hgs, Que.cells]; (try ((first | refine ⟨_, hM, ?_⟩ | refine ⟨_, fun _ => hM, ?_⟩); (try simp only [go_sem, Nat.reduceLT, Nat.reduceLeDiff, Nat.reduceEqDiff, reduceIte, Nat.reduceAdd, Nat.reduceMul, Nat.reduceSub, Int.reduceLT, Int.reduceLE, Int.reduceToNat, Int.reduceNeg, reduceCtorEq, hgs, Que.cells]))); (try simp (disch := omega) only [wrap_id, getD_map_in, Int.toNat_natCast, Que.cells]); (repeat (refine And.intro (by (first | omega | (simp; done) | (simp; omega) | assumption)) ?_)); refine h' _ ?_; clear h' K') | (refine aops_nil (hK _ ?_); clear hK K hgs gs; try simp only [aThen, aBlock]) | ((first | refine AWp.sreg (id := 1) dd63 rfl (fun gs K hgs hK => ?_) | refine AWp.reg (id := 1) dd63 rfl (fun gs K hgs hK => ?_)); replace hgs : gs 3 = some 9 ∧ gs 8 = some 14 := ⟨hgs 3, hgs 8⟩) | (refine AWp.sreg  dd63 rfl (fun gs K hgs hK => ?_); replace hgs : Nat.succ 0 = 1 := rfl) | refine AWp.seq ?_ | refine ARounds.step ?_ | refine AWp.block ?_ | refine AWp.label ?_ | (refine AWp.ret ?_; try simp only [aThen, aBlock]) | (refine AWp.skip ?_; try simp only [aThen, aBlock]) | (refine AWp.exit ?_; try simp only [aThen, aBlock, Nat.reduceEqDiff, reduceIte]) | (refine AWp.reg  dd63 rfl (fun gs K hgs hK => ?_); replace hgs : Nat.succ 0 = 1 := rfl) | (refine aops_consG (fun K' h' => ?_); simp only [go_sem, Nat.reduceLT, Nat.reduceLeDiff, Nat.reduceEqDiff, reduceIte, Nat.reduceAdd, Nat.reduceMul, Nat.reduceSub, Int.reduceLT, Int.reduceLE, Int.reduceToNat, Int.reduceNeg, reduceCtorEq, hgs, Que.cells]; (try simp (disch := omega) only [wrap_id, getD_map_in, Int.toNat_natCast, Que.cells]); (repeat (refine And.intro (by (first | omega | (simp; done) | (simp; omega) | assumption)) ?_)); refine h' _ ?_; clear h' K')))
      (refine AWp.cond rfl (fun h => ?_) (fun h => ?_) <;> (try simp only [decide_eq_true_eq, decide_eq_false_iff_not, beq_iff_eq, bne_iff_ne, ne_eq, Bool.not_eq_true', Bool.not_eq_false', beq_eq_false_iff_ne, Bool.true_eq_false, Bool.false_eq_true, Int.not_le, Int.not_lt, Bool.and_eq_true, Bool.and_eq_false_iff, Bool.or_eq_true, Bool.or_eq_false_iff, bne_eq_false_iff_eq, reduceCtorEq] at h) <;> (try first | contradiction | (exfalso; omega) | (exfalso; revert h; simp; done) | (exfalso; revert h; simp; omega)))
      · obtain ⟨x, hx⟩ : ∃ x, l.getD k default = x := ⟨_, rfl⟩
        have hM := mCheck_c x
        unfold errM at hM
        have e4 := e2 (k := k) (by omega)
        rw [hx] at e4
        rw [hx]
        generalize validM x = p at *
        obtain ⟨kd, k1, rt, v, t, r1, r2, r3, r4, r5⟩ := x
        unfold Msg.cells at hM
        simp only at hM
        repeat (any_goals (first | (refine aops_cons (fun K' h' => ?_); simp only [go_sem, Nat.reduceLT, Nat.reduceLeDiff, Nat.reduceEqDiff, reduceIte, Nat.reduceAdd, Nat.reduceMul, Nat.reduceSub, Int.reduceLT, Int.reduceLE, Int.reduceToNat, Int.reduceNeg, reduceCtorEq, hgs, Que.cells, hx, Msg.cells]; (try ((first | refine ⟨_, hM, ?_⟩ | refine ⟨_, fun _ => hM, ?_⟩); (try simp only [go_sem, Nat.reduceLT, Nat.reduceLeDiff, Nat.reduceEqDiff, reduceIte, Nat.reduceAdd, Nat.reduceMul, Nat.reduceSub, Int.reduceLT, Int.reduceLE, Int.reduceToNat, Int.reduceNeg, reduceCtorEq, hgs, Que.cells, hx, Msg.cells]))); (try simp (disch := omega) only [wrap_id, getD_map_in, Int.toNat_natCast, Que.cells, hx, Msg.cells]); (repeat (refine And.intro (by (first | omega | (simp; done) | (simp; omega) | assumption)) ?_)); refine h' _ ?_; clear h' K') | (refine aops_nil (hK _ ?_); clear hK K hgs gs; try simp only [aThen, aBlock]) | ((first | refine AWp.sreg (id := 1) dd63 rfl (fun gs K hgs hK => ?_) | refine AWp.reg (id := 1) dd63 rfl (fun gs K hgs hK => ?_)); replace hgs : gs 3 = some 9 ∧ gs 8 = some 14 := ⟨hgs 3, hgs 8⟩) | (refine AWp.sreg  dd63 rfl (fun gs K hgs hK => ?_); replace hgs : Nat.succ 0 = 1 := rfl) | refine AWp.seq ?_ | refine ARounds.step ?_ | refine AWp.block ?_ | refine AWp.label ?_ | (refine AWp.ret ?_; try simp only [aThen, aBlock]) | (refine AWp.skip ?_; try simp only [aThen, aBlock]) | (refine AWp.exit ?_; try simp only [aThen, aBlock, Nat.reduceEqDiff, reduceIte]) | (refine AWp.reg  dd63 rfl (fun gs K hgs hK => ?_); replace hgs : Nat.succ 0 = 1 := rfl) | (refine aops_consG (fun K' h' => ?_); simp only [go_sem, Nat.reduceLT, Nat.reduceLeDiff, Nat.reduceEqDiff, reduceIte, Nat.reduceAdd, Nat.reduceMul, Nat.reduceSub, Int.reduceLT, Int.reduceLE, Int.reduceToNat, Int.reduceNeg, reduceCtorEq, hgs, Que.cells, hx, Msg.cells]; (try simp (disch := omega) only [wrap_id, getD_map_in, Int.toNat_natCast, Que.cells, hx, Msg.cells]); (repeat (refine And.intro (by (first | omega | (simp; done) | (simp; omega) | assumption)) ?_)); refine h' _ ?_; clear h' K') | (refine AWp.cond rfl (fun h => ?_) (fun h => ?_) <;> (try simp only [decide_eq_true_eq, decide_eq_false_iff_not, beq_iff_eq, bne_iff_ne, ne_eq, Bool.not_eq_true', Bool.not_eq_false', beq_eq_false_iff_ne, Bool.true_eq_false, Bool.false_eq_true, Int.not_le, Int.not_lt, Bool.and_eq_true, Bool.and_eq_false_iff, Bool.or_eq_true, Bool.or_eq_false_iff, bne_eq_false_iff_eq, reduceCtorEq] at h) <;> (try first | contradiction | (exfalso; omega) | (exfalso; revert h; simp; done) | (exfalso; revert h; simp; omega)))))
        · simp only [Out, outA, outL, resA, go_sem, Nat.reduceLT, Nat.reduceLeDiff, Nat.reduceEqDiff, reduceIte, Nat.reduceAdd, Nat.reduceMul, Nat.reduceSub, Int.reduceLT, Int.reduceLE, Int.reduceToNat, Int.reduceNeg, reduceCtorEq]
          cases p
          · rw [e4 rfl]
            exact AVle.refl _
          · simp at h
        · refine ⟨by omega, ?_, Wk.ofCut 1 0 rfl rfl ?_⟩
          · cases p <;> simp_all
          · first
            | (simp [subE, eget, ASt.drop, dropE, keepR, lowE, AV.lowB, lowL, Nat.blt, Nat.ble]; done)
            | (simp [subE, eget, ASt.drop, dropE, keepR, lowE, AV.lowB, lowL, Nat.blt, Nat.ble]; omega)
      · rw [e3 (by omega) fun j hj => hall j (by omega)]
        repeat (any_goals (first | (refine aops_cons (fun K' h' => ?_); simp only [go_sem, Nat.reduceLT, Nat.reduceLeDiff, Nat.reduceEqDiff, reduceIte, Nat.reduceAdd, Nat.reduceMul, Nat.reduceSub, Int.reduceLT, Int.reduceLE, Int.reduceToNat, Int.reduceNeg, reduceCtorEq, hgs, Que.cells]; (try ((first | refine ⟨_, hM, ?_⟩ | refine ⟨_, fun _ => hM, ?_⟩); (try simp only [go_sem, Nat.reduceLT, Nat.reduceLeDiff, Nat.reduceEqDiff, reduceIte, Nat.reduceAdd, Nat.reduceMul, Nat.reduceSub, Int.reduceLT, Int.reduceLE, Int.reduceToNat, Int.reduceNeg, reduceCtorEq, hgs, Que.cells]))); (try simp (disch := omega) only [wrap_id, getD_map_in, Int.toNat_natCast, Que.cells]); (repeat (refine And.intro (by (first | omega | (simp; done) | (simp; omega) | assumption)) ?_)); refine h' _ ?_; clear h' K') | (refine aops_nil (hK _ ?_); clear hK K hgs gs; try simp only [aThen, aBlock]) | ((first | refine AWp.sreg (id := 1) dd63 rfl (fun gs K hgs hK => ?_) | refine AWp.reg (id := 1) dd63 rfl (fun gs K hgs hK => ?_)); replace hgs : gs 3 = some 9 ∧ gs 8 = some 14 := ⟨hgs 3, hgs 8⟩) | (refine AWp.sreg  dd63 rfl (fun gs K hgs hK => ?_); replace hgs : Nat.succ 0 = 1 := rfl) | refine AWp.seq ?_ | refine ARounds.step ?_ | refine AWp.block ?_ | refine AWp.label ?_ | (refine AWp.ret ?_; try simp only [aThen, aBlock]) | (refine AWp.skip ?_; try simp only [aThen, aBlock]) | (refine AWp.exit ?_; try simp only [aThen, aBlock, Nat.reduceEqDiff, reduceIte]) | (refine AWp.reg  dd63 rfl (fun gs K hgs hK => ?_); replace hgs : Nat.succ 0 = 1 := rfl) | (refine aops_consG (fun K' h' => ?_); simp only [go_sem, Nat.reduceLT, Nat.reduceLeDiff, Nat.reduceEqDiff, reduceIte, Nat.reduceAdd, Nat.reduceMul, Nat.reduceSub, Int.reduceLT, Int.reduceLE, Int.reduceToNat, Int.reduceNeg, reduceCtorEq, hgs, Que.cells]; (try simp (disch := omega) only [wrap_id, getD_map_in, Int.toNat_natCast, Que.cells]); (repeat (refine And.intro (by (first | omega | (simp; done) | (simp; omega) | assumption)) ?_)); refine h' _ ?_; clear h' K') | (refine AWp.cond rfl (fun h => ?_) (fun h => ?_) <;> (try simp only [decide_eq_true_eq, decide_eq_false_iff_not, beq_iff_eq, bne_iff_ne, ne_eq, Bool.not_eq_true', Bool.not_eq_false', beq_eq_false_iff_ne, Bool.true_eq_false, Bool.false_eq_true, Int.not_le, Int.not_lt, Bool.and_eq_true, Bool.and_eq_false_iff, Bool.or_eq_true, Bool.or_eq_false_iff, bne_eq_false_iff_eq, reduceCtorEq] at h) <;> (try first | contradiction | (exfalso; omega) | (exfalso; revert h; simp; done) | (exfalso; revert h; simp; omega)))))
        simp only [Out, outA, outL, resA, go_sem, Nat.reduceLT, Nat.reduceLeDiff, Nat.reduceEqDiff, reduceIte, Nat.reduceAdd, Nat.reduceMul, Nat.reduceSub, Int.reduceLT, Int.reduceLE, Int.reduceToNat, Int.reduceNeg, reduceCtorEq]
        exact AVle.refl _

def leftI (q : Que) : Int := if queE q = 0 then q.room - q.list.length else 0
def dd39 : Nat → List (List Nat)
  | 0 => [[], [0], [2], [3]]
  | 1 => [[], [], [5], [6]]
  | 2 => [[], [], [7]]
  | 3 => [[1, 8], [4], [], [9]]
  | 4 => [[4, 8], [], [10], [1], [12], [13], [11, 14], [15], []]
  | _ => []
theorem left_c (q : Que) : ACall Try.prog 39 [.agg q.cells] (.tup [.lit (.int .i64 (leftI q)), .lit (.int .i64 (queE q))]) := by
  have hCh := chk_c q
  have hb : queE q = 0 → 1 ≤ q.room ∧ q.room ≤ 8 ∧ (q.list.length : Int) ≤ q.room := fun h => by
    have : goodQ q = true := by
      unfold queE at h
      split at h
      · assumption
      · cases h
    have := goodQ_bd this
    omega
  have hl : leftI q = if queE q = 0 then q.room - q.list.length else 0 := rfl
  generalize leftI q = lf at *
  generalize queE q = qe at *
  obtain ⟨rm, l⟩ := q
  unfold Que.cells at hCh
  simp only at hCh hb hl
  by_cases h0 : qe = 0
  · rw [if_pos h0] at hl
    have hb := hb h0
    subst h0
    subst hl
    refine acall_of (n := 16) (rs := [.tmp 2, .tmp 3]) Try.func39 rfl (by kernel_rfl) rfl rfl rfl ?_; simp only [argsE, Nat.reduceAdd]
    repeat (any_goals (first | (refine aops_cons (fun K' h' => ?_); simp only [go_sem, Nat.reduceLT, Nat.reduceLeDiff, Nat.reduceEqDiff, reduceIte, Nat.reduceAdd, Nat.reduceMul, Nat.reduceSub, Int.reduceLT, Int.reduceLE, Int.reduceToNat, Int.reduceNeg, reduceCtorEq, Que.cells]; (try ((first | refine ⟨_, hCh, ?_⟩ | refine ⟨_, fun _ => hCh, ?_⟩); (try simp only [go_sem, Nat.reduceLT, Nat.reduceLeDiff, Nat.reduceEqDiff, reduceIte, Nat.reduceAdd, Nat.reduceMul, Nat.reduceSub, Int.reduceLT, Int.reduceLE, Int.reduceToNat, Int.reduceNeg, reduceCtorEq, Que.cells]))); (try simp (disch := omega) only [wrap_id, getD_map_in, Int.toNat_natCast, Que.cells]); (repeat (refine And.intro (by (first | omega | (simp; done) | (simp; omega) | assumption)) ?_)); refine h' _ ?_; clear h' K') | (refine aops_nil (hK _ ?_); clear hK K gs; try simp only [aThen, aBlock]) | (refine AWp.sreg  dd39 rfl (fun gs K hgs hK => ?_); clear hgs) | refine AWp.seq ?_ | refine ARounds.step ?_ | refine AWp.block ?_ | refine AWp.label ?_ | (refine AWp.ret ?_; try simp only [aThen, aBlock]) | (refine AWp.skip ?_; try simp only [aThen, aBlock]) | (refine AWp.exit ?_; try simp only [aThen, aBlock, Nat.reduceEqDiff, reduceIte]) | (refine AWp.reg  dd39 rfl (fun gs K hgs hK => ?_); clear hgs) | (refine AWp.cond rfl (fun h => ?_) (fun h => ?_) <;> (try simp only [decide_eq_true_eq, decide_eq_false_iff_not, beq_iff_eq, bne_iff_ne, ne_eq, Bool.not_eq_true', Bool.not_eq_false', beq_eq_false_iff_ne, Bool.true_eq_false, Bool.false_eq_true, Int.not_le, Int.not_lt, Bool.and_eq_true, Bool.and_eq_false_iff, Bool.or_eq_true, Bool.or_eq_false_iff, bne_eq_false_iff_eq, reduceCtorEq] at h) <;> (try first | contradiction | (exfalso; omega) | (exfalso; revert h; simp; done) | (exfalso; revert h; simp; omega)))))
    all_goals simp only [Out, outA, outL, resA, go_sem, Nat.reduceLT, Nat.reduceLeDiff, Nat.reduceEqDiff, reduceIte, Nat.reduceAdd, Nat.reduceMul, Nat.reduceSub, Int.reduceLT, Int.reduceLE, Int.reduceToNat, Int.reduceNeg, reduceCtorEq]
    exact AVle.refl _
  · rw [if_neg h0] at hl
    subst hl
    refine acall_of (n := 16) (rs := [.tmp 2, .tmp 3]) Try.func39 rfl (by kernel_rfl) rfl rfl rfl ?_; simp only [argsE, Nat.reduceAdd]
    repeat (any_goals (first | (refine aops_cons (fun K' h' => ?_); simp only [go_sem, Nat.reduceLT, Nat.reduceLeDiff, Nat.reduceEqDiff, reduceIte, Nat.reduceAdd, Nat.reduceMul, Nat.reduceSub, Int.reduceLT, Int.reduceLE, Int.reduceToNat, Int.reduceNeg, reduceCtorEq, Que.cells]; (try ((first | refine ⟨_, hCh, ?_⟩ | refine ⟨_, fun _ => hCh, ?_⟩); (try simp only [go_sem, Nat.reduceLT, Nat.reduceLeDiff, Nat.reduceEqDiff, reduceIte, Nat.reduceAdd, Nat.reduceMul, Nat.reduceSub, Int.reduceLT, Int.reduceLE, Int.reduceToNat, Int.reduceNeg, reduceCtorEq, Que.cells]))); (try simp (disch := omega) only [wrap_id, getD_map_in, Int.toNat_natCast, Que.cells]); (repeat (refine And.intro (by (first | omega | (simp; done) | (simp; omega) | assumption)) ?_)); refine h' _ ?_; clear h' K') | (refine aops_nil (hK _ ?_); clear hK K gs; try simp only [aThen, aBlock]) | (refine AWp.sreg  dd39 rfl (fun gs K hgs hK => ?_); clear hgs) | refine AWp.seq ?_ | refine ARounds.step ?_ | refine AWp.block ?_ | refine AWp.label ?_ | (refine AWp.ret ?_; try simp only [aThen, aBlock]) | (refine AWp.skip ?_; try simp only [aThen, aBlock]) | (refine AWp.exit ?_; try simp only [aThen, aBlock, Nat.reduceEqDiff, reduceIte]) | (refine AWp.reg  dd39 rfl (fun gs K hgs hK => ?_); clear hgs) | (refine AWp.cond rfl (fun h => ?_) (fun h => ?_) <;> (try simp only [decide_eq_true_eq, decide_eq_false_iff_not, beq_iff_eq, bne_iff_ne, ne_eq, Bool.not_eq_true', Bool.not_eq_false', beq_eq_false_iff_ne, Bool.true_eq_false, Bool.false_eq_true, Int.not_le, Int.not_lt, Bool.and_eq_true, Bool.and_eq_false_iff, Bool.or_eq_true, Bool.or_eq_false_iff, bne_eq_false_iff_eq, reduceCtorEq] at h) <;> (try first | contradiction | (exfalso; omega) | (exfalso; revert h; simp; done) | (exfalso; revert h; simp; omega)))))
    all_goals simp only [Out, outA, outL, resA, go_sem, Nat.reduceLT, Nat.reduceLeDiff, Nat.reduceEqDiff, reduceIte, Nat.reduceAdd, Nat.reduceMul, Nat.reduceSub, Int.reduceLT, Int.reduceLE, Int.reduceToNat, Int.reduceNeg, reduceCtorEq]
    exact AVle.refl _

def dd37 : Nat → List (List Nat)
  | 0 => [[], [0], [2]]
  | 1 => [[], [1], [3], [4], [5], [6]]
  | _ => []
theorem greatQ_c (q : Que) (hl : q.list.length ≤ maxLen) : ACall Try.prog 37 [.agg q.cells] (.lit (.bool (greatQu q))) := by
  obtain ⟨rm, l⟩ := q
  unfold maxLen at hl
  unfold greatQu
  refine acall_of (n := 7) (rs := [.tmp 2]) Try.func37 rfl (by kernel_rfl) rfl rfl rfl ?_; simp only [argsE, Nat.reduceAdd]
  repeat (any_goals (first | (refine aops_cons (fun K' h' => ?_); simp only [go_sem, Nat.reduceLT, Nat.reduceLeDiff, Nat.reduceEqDiff, reduceIte, Nat.reduceAdd, Nat.reduceMul, Nat.reduceSub, Int.reduceLT, Int.reduceLE, Int.reduceToNat, Int.reduceNeg, reduceCtorEq, Que.cells]; (try simp (disch := omega) only [wrap_id, getD_map_in, Int.toNat_natCast, Que.cells]); (repeat (refine And.intro (by (first | omega | (simp; done) | (simp; omega) | assumption)) ?_)); refine h' _ ?_; clear h' K') | (refine aops_nil (hK _ ?_); clear hK K gs; try simp only [aThen, aBlock]) | (refine AWp.sreg  dd37 rfl (fun gs K hgs hK => ?_); clear hgs) | refine AWp.seq ?_ | refine ARounds.step ?_ | refine AWp.block ?_ | refine AWp.label ?_ | (refine AWp.ret ?_; try simp only [aThen, aBlock]) | (refine AWp.skip ?_; try simp only [aThen, aBlock]) | (refine AWp.exit ?_; try simp only [aThen, aBlock, Nat.reduceEqDiff, reduceIte]) | (refine AWp.reg  dd37 rfl (fun gs K hgs hK => ?_); clear hgs) | (refine AWp.cond rfl (fun h => ?_) (fun h => ?_) <;> (try simp only [decide_eq_true_eq, decide_eq_false_iff_not, beq_iff_eq, bne_iff_ne, ne_eq, Bool.not_eq_true', Bool.not_eq_false', beq_eq_false_iff_ne, Bool.true_eq_false, Bool.false_eq_true, Int.not_le, Int.not_lt, Bool.and_eq_true, Bool.and_eq_false_iff, Bool.or_eq_true, Bool.or_eq_false_iff, bne_eq_false_iff_eq, reduceCtorEq] at h) <;> (try first | contradiction | (exfalso; omega) | (exfalso; revert h; simp; done) | (exfalso; revert h; simp; omega)))))
  simp only [Out, outA, outL, resA, go_sem, Nat.reduceLT, Nat.reduceLeDiff, Nat.reduceEqDiff, reduceIte, Nat.reduceAdd, Nat.reduceMul, Nat.reduceSub, Int.reduceLT, Int.reduceLE, Int.reduceToNat, Int.reduceNeg, reduceCtorEq]
  refine AVle.of_eq (congrArg (fun b => AV.lit (.bool b)) ?_)
  rw [Bool.eq_iff_iff]
  simp only [decide_eq_true_eq]
  omega

def dd31 : Nat → List (List Nat)
  | 0 => [[], [0], [1], [4]]
  | 1 => [[], [], [5], [], [7], [6, 8], [9], [2], [11], [3], [13], [12, 14], [10, 15], [16]]
  | _ => []
theorem sameQ_c (a b : Que) (ha : a.list.length ≤ maxLen) (hb : b.list.length ≤ maxLen) : ACall Try.prog 31 [.agg a.cells, .agg b.cells] (.lit (.bool (decide (a = b)))) := by
  have hSL := sameList_c a.list b.list ha hb
  obtain ⟨ra, la⟩ := a
  obtain ⟨rb, lb⟩ := b
  simp only at ha hb hSL
  have e : decide ((⟨ra, la⟩ : Que) = ⟨rb, lb⟩) = (decide (ra = rb) && decide (la = lb)) := by
    rw [Bool.eq_iff_iff]
    simp
  rw [e]
  generalize decide (la = lb) = p at *
  by_cases h : ra = rb
  · subst h
    refine acall_of (n := 17) (rs := [.tmp 4]) Try.func31 rfl (by kernel_rfl) rfl rfl rfl ?_; simp only [argsE, Nat.reduceAdd]
    repeat (any_goals (first | (refine aops_cons (fun K' h' => ?_); simp only [go_sem, Nat.reduceLT, Nat.reduceLeDiff, Nat.reduceEqDiff, reduceIte, Nat.reduceAdd, Nat.reduceMul, Nat.reduceSub, Int.reduceLT, Int.reduceLE, Int.reduceToNat, Int.reduceNeg, reduceCtorEq, hgs, Que.cells]; (try ((first | refine ⟨_, hSL, ?_⟩ | refine ⟨_, fun _ => hSL, ?_⟩); (try simp only [go_sem, Nat.reduceLT, Nat.reduceLeDiff, Nat.reduceEqDiff, reduceIte, Nat.reduceAdd, Nat.reduceMul, Nat.reduceSub, Int.reduceLT, Int.reduceLE, Int.reduceToNat, Int.reduceNeg, reduceCtorEq, hgs, Que.cells]))); (try simp (disch := omega) only [wrap_id, getD_map_in, Int.toNat_natCast, Que.cells]); (repeat (refine And.intro (by (first | omega | (simp; done) | (simp; omega) | assumption)) ?_)); refine h' _ ?_; clear h' K') | (refine aops_nil (hK _ ?_); clear hK K hgs gs; try simp only [aThen, aBlock]) | ((first | refine AWp.sreg (id := 1) dd31 rfl (fun gs K hgs hK => ?_) | refine AWp.reg (id := 1) dd31 rfl (fun gs K hgs hK => ?_)); replace hgs : gs 5 = some 10 := hgs 5) | (refine AWp.sreg  dd31 rfl (fun gs K hgs hK => ?_); replace hgs : Nat.succ 0 = 1 := rfl) | refine AWp.seq ?_ | refine ARounds.step ?_ | refine AWp.block ?_ | refine AWp.label ?_ | (refine AWp.ret ?_; try simp only [aThen, aBlock]) | (refine AWp.skip ?_; try simp only [aThen, aBlock]) | (refine AWp.exit ?_; try simp only [aThen, aBlock, Nat.reduceEqDiff, reduceIte]) | (refine AWp.reg  dd31 rfl (fun gs K hgs hK => ?_); replace hgs : Nat.succ 0 = 1 := rfl) | (refine aops_consG (fun K' h' => ?_); simp only [go_sem, Nat.reduceLT, Nat.reduceLeDiff, Nat.reduceEqDiff, reduceIte, Nat.reduceAdd, Nat.reduceMul, Nat.reduceSub, Int.reduceLT, Int.reduceLE, Int.reduceToNat, Int.reduceNeg, reduceCtorEq, hgs, Que.cells]; (try simp (disch := omega) only [wrap_id, getD_map_in, Int.toNat_natCast, Que.cells]); (repeat (refine And.intro (by (first | omega | (simp; done) | (simp; omega) | assumption)) ?_)); refine h' _ ?_; clear h' K') | (refine AWp.cond rfl (fun h => ?_) (fun h => ?_) <;> (try simp only [decide_eq_true_eq, decide_eq_false_iff_not, beq_iff_eq, bne_iff_ne, ne_eq, Bool.not_eq_true', Bool.not_eq_false', beq_eq_false_iff_ne, Bool.true_eq_false, Bool.false_eq_true, Int.not_le, Int.not_lt, Bool.and_eq_true, Bool.and_eq_false_iff, Bool.or_eq_true, Bool.or_eq_false_iff, bne_eq_false_iff_eq, reduceCtorEq] at h) <;> (try first | contradiction | (exfalso; omega) | (exfalso; revert h; simp; done) | (exfalso; revert h; simp; omega)))))
    all_goals simp only [Out, outA, outL, resA, go_sem, Nat.reduceLT, Nat.reduceLeDiff, Nat.reduceEqDiff, reduceIte, Nat.reduceAdd, Nat.reduceMul, Nat.reduceSub, Int.reduceLT, Int.reduceLE, Int.reduceToNat, Int.reduceNeg, reduceCtorEq]
    exact AVle.of_eq (by simp)
  · rw [decide_eq_false h]
    refine acall_of (n := 17) (rs := [.tmp 4]) Try.func31 rfl (by kernel_rfl) rfl rfl rfl ?_; simp only [argsE, Nat.reduceAdd]
    repeat (any_goals (first | (refine aops_cons (fun K' h' => ?_); simp only [go_sem, Nat.reduceLT, Nat.reduceLeDiff, Nat.reduceEqDiff, reduceIte, Nat.reduceAdd, Nat.reduceMul, Nat.reduceSub, Int.reduceLT, Int.reduceLE, Int.reduceToNat, Int.reduceNeg, reduceCtorEq, hgs, Que.cells, beq_eq_false_iff_ne, h]; (try ((first | refine ⟨_, hSL, ?_⟩ | refine ⟨_, fun _ => hSL, ?_⟩); (try simp only [go_sem, Nat.reduceLT, Nat.reduceLeDiff, Nat.reduceEqDiff, reduceIte, Nat.reduceAdd, Nat.reduceMul, Nat.reduceSub, Int.reduceLT, Int.reduceLE, Int.reduceToNat, Int.reduceNeg, reduceCtorEq, hgs, Que.cells, beq_eq_false_iff_ne, h]))); (try simp (disch := omega) only [wrap_id, getD_map_in, Int.toNat_natCast, Que.cells, beq_eq_false_iff_ne, h]); (repeat (refine And.intro (by (first | omega | (simp; done) | (simp; omega) | assumption)) ?_)); refine h' _ ?_; clear h' K') | (refine aops_nil (hK _ ?_); clear hK K hgs gs; try simp only [aThen, aBlock]) | ((first | refine AWp.sreg (id := 1) dd31 rfl (fun gs K hgs hK => ?_) | refine AWp.reg (id := 1) dd31 rfl (fun gs K hgs hK => ?_)); replace hgs : gs 5 = some 10 := hgs 5) | (refine AWp.sreg  dd31 rfl (fun gs K hgs hK => ?_); replace hgs : Nat.succ 0 = 1 := rfl) | refine AWp.seq ?_ | refine ARounds.step ?_ | refine AWp.block ?_ | refine AWp.label ?_ | (refine AWp.ret ?_; try simp only [aThen, aBlock]) | (refine AWp.skip ?_; try simp only [aThen, aBlock]) | (refine AWp.exit ?_; try simp only [aThen, aBlock, Nat.reduceEqDiff, reduceIte]) | (refine AWp.reg  dd31 rfl (fun gs K hgs hK => ?_); replace hgs : Nat.succ 0 = 1 := rfl) | (refine aops_consG (fun K' h' => ?_); simp only [go_sem, Nat.reduceLT, Nat.reduceLeDiff, Nat.reduceEqDiff, reduceIte, Nat.reduceAdd, Nat.reduceMul, Nat.reduceSub, Int.reduceLT, Int.reduceLE, Int.reduceToNat, Int.reduceNeg, reduceCtorEq, hgs, Que.cells, beq_eq_false_iff_ne, h]; (try simp (disch := omega) only [wrap_id, getD_map_in, Int.toNat_natCast, Que.cells, beq_eq_false_iff_ne, h]); (repeat (refine And.intro (by (first | omega | (simp; done) | (simp; omega) | assumption)) ?_)); refine h' _ ?_; clear h' K') | (refine AWp.cond rfl (fun h => ?_) (fun h => ?_) <;> (try simp only [decide_eq_true_eq, decide_eq_false_iff_not, beq_iff_eq, bne_iff_ne, ne_eq, Bool.not_eq_true', Bool.not_eq_false', beq_eq_false_iff_ne, Bool.true_eq_false, Bool.false_eq_true, Int.not_le, Int.not_lt, Bool.and_eq_true, Bool.and_eq_false_iff, Bool.or_eq_true, Bool.or_eq_false_iff, bne_eq_false_iff_eq, reduceCtorEq] at h) <;> (try first | contradiction | (exfalso; omega) | (exfalso; revert h; simp; done) | (exfalso; revert h; simp; omega)))))
    all_goals simp only [Out, outA, outL, resA, go_sem, Nat.reduceLT, Nat.reduceLeDiff, Nat.reduceEqDiff, reduceIte, Nat.reduceAdd, Nat.reduceMul, Nat.reduceSub, Int.reduceLT, Int.reduceLE, Int.reduceToNat, Int.reduceNeg, reduceCtorEq]
    exact AVle.of_eq (by simp [h])

def Que.ok (q : Que) : Prop := q.list.length ≤ maxLen
theorem greatQs_hit {l : List Que} {k : Nat} (hk : k < l.length) (h10 : k ≤ 10) (h : greatQu (l.getD k default) = true) : greatQs l = true := by
  unfold greatQs
  rw [Bool.or_eq_true, List.any_eq_true]
  refine .inl ⟨l.getD k default, ?_, h⟩
  rw [List.getD_eq_getElem?_getD, List.getElem?_eq_getElem hk]
  have : l[k] ∈ l.take 11 := by
    rw [List.mem_iff_getElem]
    exact ⟨k, by simp; omega, by simp⟩
  exact this
theorem greatQs_none {l : List Que} (h : ∀ j, j < l.length → j ≤ 10 → greatQu (l.getD j default) = false) : greatQs l = decide (10 < l.length) := by
  unfold greatQs
  have : (l.take 11).any greatQu = false := by
    rw [List.any_eq_false]
    intro x hx
    obtain ⟨j, hj, rfl⟩ := List.getElem_of_mem hx
    simp at hj
    have := h j (by omega) (by omega)
    rw [List.getD_eq_getElem?_getD, List.getElem?_eq_getElem (by omega)] at this
    simpa using this
  rw [this, Bool.false_or]
def dd12 : Nat → List (List Nat)
  | 0 => [[], [2]]
  | 1 => [[], []]
  | 2 => [[], [], [], [5], [4, 6], [7], [], [9], [8, 10]]
  | 3 => [[18], [3], [12], [13]]
  | 4 => [[11], [], [], [14, 15], [16], [17]]
  | 5 => [[0, 3, 18], []]
  | 6 => [[3, 11], [0], [19], [20], [21]]
  | _ => []
theorem greatAll_c (l : List Que) (hl : l.length ≤ maxLen) (ol : ∀ q ∈ l, q.ok) : ACall Try.prog 12 [.ro 2 (l.map Que.cells)] (.lit (.bool (greatQs l))) := by
  have e1 := @greatQs_hit l
  have e2 := @greatQs_none l
  generalize greatQs l = g at *
  unfold maxLen at hl
  refine acall_of (n := 22) (rs := [.tmp 2]) Try.func12 rfl (by kernel_rfl) rfl rfl rfl ?_; simp only [argsE, Nat.reduceAdd]
  repeat (any_goals (first | (refine aops_cons (fun K' h' => ?_); simp only [go_sem, Nat.reduceLT, Nat.reduceLeDiff, Nat.reduceEqDiff, reduceIte, Nat.reduceAdd, Nat.reduceMul, Nat.reduceSub, Int.reduceLT, Int.reduceLE, Int.reduceToNat, Int.reduceNeg, reduceCtorEq, hgs, Que.cells]; (try ((first | refine ⟨_, hGq, ?_⟩ | refine ⟨_, fun _ => hGq, ?_⟩); (try simp only [go_sem, Nat.reduceLT, Nat.reduceLeDiff, Nat.reduceEqDiff, reduceIte, Nat.reduceAdd, Nat.reduceMul, Nat.reduceSub, Int.reduceLT, Int.reduceLE, Int.reduceToNat, Int.reduceNeg, reduceCtorEq, hgs, Que.cells]))); (try simp (disch := omega) only [wrap_id, getD_map_in, Int.toNat_natCast, Que.cells]); (repeat (refine And.intro (by (first | omega | (simp; done) | (simp; omega) | assumption)) ?_)); refine h' _ ?_; clear h' K') | (refine aops_nil (hK _ ?_); clear hK K hgs gs; try simp only [aThen, aBlock]) | ((first | refine AWp.sreg (id := 2) dd12 rfl (fun gs K hgs hK => ?_) | refine AWp.reg (id := 2) dd12 rfl (fun gs K hgs hK => ?_)); replace hgs : gs 4 = some 8 := hgs 4) | (refine AWp.sreg  dd12 rfl (fun gs K hgs hK => ?_); replace hgs : Nat.succ 0 = 1 := rfl) | refine AWp.seq ?_ | refine ARounds.step ?_ | refine AWp.block ?_ | refine AWp.label ?_ | (refine AWp.ret ?_; try simp only [aThen, aBlock]) | (refine AWp.skip ?_; try simp only [aThen, aBlock]) | (refine AWp.exit ?_; try simp only [aThen, aBlock, Nat.reduceEqDiff, reduceIte]) | (refine AWp.reg  dd12 rfl (fun gs K hgs hK => ?_); replace hgs : Nat.succ 0 = 1 := rfl) | (refine AWp.cond rfl (fun h => ?_) (fun h => ?_) <;> (try simp only [decide_eq_true_eq, decide_eq_false_iff_not, beq_iff_eq, bne_iff_ne, ne_eq, Bool.not_eq_true', Bool.not_eq_false', beq_eq_false_iff_ne, Bool.true_eq_false, Bool.false_eq_true, Int.not_le, Int.not_lt, Bool.and_eq_true, Bool.and_eq_false_iff, Bool.or_eq_true, Bool.or_eq_false_iff, bne_eq_false_iff_eq, reduceCtorEq] at h) <;> (try first | contradiction | (exfalso; omega) | (exfalso; revert h; simp; done) | (exfalso; revert h; simp; omega)))))
  refine AWp.loopN l.length (fun k => k ≤ 10 ∧ greatQu (l.getD k default) = false) (fun k => ⟨[(0, .ro 2 (l.map Que.cells)), (3, .lit (.int .i64 (k : Int)))], [], []⟩) ?_ ?_
  · refine Wk.of rfl rfl ?_
    simp [subE, eget, ASt.drop, dropE, keepR, lowE, AV.lowB, lowL, Nat.blt, Nat.ble]
  · intro k hk hall
    by_cases hin : k < l.length ∧ k ≤ 10
    · obtain ⟨x, hx⟩ : ∃ x, l.getD k default = x := ⟨_, rfl⟩
      have ox : x.ok := by
        rw [← hx, List.getD_eq_getElem?_getD, List.getElem?_eq_getElem hin.1]
        exact ol _ (List.getElem_mem _)
      have hGq := greatQ_c x ox
      have e3 := e1 hin.1 hin.2
      rw [hx] at e3
      obtain ⟨i1, i2⟩ := hin
      rw [hx]
      generalize greatQu x = p at *
      clear ox ol e1 e2
      obtain ⟨ra, la⟩ := x
      unfold Que.cells at hGq
      simp only at hGq
      repeat (any_goals (first | (refine aops_cons (fun K' h' => ?_); simp only [go_sem, Nat.reduceLT, Nat.reduceLeDiff, Nat.reduceEqDiff, reduceIte, Nat.reduceAdd, Nat.reduceMul, Nat.reduceSub, Int.reduceLT, Int.reduceLE, Int.reduceToNat, Int.reduceNeg, reduceCtorEq, hgs, Que.cells, hx]; (try ((first | refine ⟨_, hGq, ?_⟩ | refine ⟨_, fun _ => hGq, ?_⟩); (try simp only [go_sem, Nat.reduceLT, Nat.reduceLeDiff, Nat.reduceEqDiff, reduceIte, Nat.reduceAdd, Nat.reduceMul, Nat.reduceSub, Int.reduceLT, Int.reduceLE, Int.reduceToNat, Int.reduceNeg, reduceCtorEq, hgs, Que.cells, hx]))); (try simp (disch := omega) only [wrap_id, getD_map_in, Int.toNat_natCast, Que.cells, hx]); (repeat (refine And.intro (by (first | omega | (simp; done) | (simp; omega) | assumption)) ?_)); refine h' _ ?_; clear h' K') | (refine aops_nil (hK _ ?_); clear hK K hgs gs; try simp only [aThen, aBlock]) | ((first | refine AWp.sreg (id := 2) dd12 rfl (fun gs K hgs hK => ?_) | refine AWp.reg (id := 2) dd12 rfl (fun gs K hgs hK => ?_)); replace hgs : gs 4 = some 8 := hgs 4) | (refine AWp.sreg  dd12 rfl (fun gs K hgs hK => ?_); replace hgs : Nat.succ 0 = 1 := rfl) | refine AWp.seq ?_ | refine ARounds.step ?_ | refine AWp.block ?_ | refine AWp.label ?_ | (refine AWp.ret ?_; try simp only [aThen, aBlock]) | (refine AWp.skip ?_; try simp only [aThen, aBlock]) | (refine AWp.exit ?_; try simp only [aThen, aBlock, Nat.reduceEqDiff, reduceIte]) | (refine AWp.reg  dd12 rfl (fun gs K hgs hK => ?_); replace hgs : Nat.succ 0 = 1 := rfl) | (refine AWp.cond rfl (fun h => ?_) (fun h => ?_) <;> (try simp only [decide_eq_true_eq, decide_eq_false_iff_not, beq_iff_eq, bne_iff_ne, ne_eq, Bool.not_eq_true', Bool.not_eq_false', beq_eq_false_iff_ne, Bool.true_eq_false, Bool.false_eq_true, Int.not_le, Int.not_lt, Bool.and_eq_true, Bool.and_eq_false_iff, Bool.or_eq_true, Bool.or_eq_false_iff, bne_eq_false_iff_eq, reduceCtorEq] at h) <;> (try first | contradiction | (exfalso; omega) | (exfalso; revert h; simp; done) | (exfalso; revert h; simp; omega)))))
      · simp only [Out, outA, outL, resA, go_sem, Nat.reduceLT, Nat.reduceLeDiff, Nat.reduceEqDiff, reduceIte, Nat.reduceAdd, Nat.reduceMul, Nat.reduceSub, Int.reduceLT, Int.reduceLE, Int.reduceToNat, Int.reduceNeg, reduceCtorEq]
        rw [e3 (by assumption)]
        exact AVle.refl _
      · refine ⟨by omega, ⟨i2, by assumption⟩, Wk.of rfl rfl ?_⟩
        first
          | (simp [subE, eget, ASt.drop, dropE, keepR, lowE, AV.lowB, lowL, Nat.blt, Nat.ble]; done)
          | (simp [subE, eget, ASt.drop, dropE, keepR, lowE, AV.lowB, lowL, Nat.blt, Nat.ble]; omega)
    · have e3 := e2 fun j h1 h2 => (hall j (by omega)).2
      clear e1 e2
      repeat (any_goals (first | (refine aops_cons (fun K' h' => ?_); simp only [go_sem, Nat.reduceLT, Nat.reduceLeDiff, Nat.reduceEqDiff, reduceIte, Nat.reduceAdd, Nat.reduceMul, Nat.reduceSub, Int.reduceLT, Int.reduceLE, Int.reduceToNat, Int.reduceNeg, reduceCtorEq, hgs, Que.cells]; (try ((first | refine ⟨_, hGq, ?_⟩ | refine ⟨_, fun _ => hGq, ?_⟩); (try simp only [go_sem, Nat.reduceLT, Nat.reduceLeDiff, Nat.reduceEqDiff, reduceIte, Nat.reduceAdd, Nat.reduceMul, Nat.reduceSub, Int.reduceLT, Int.reduceLE, Int.reduceToNat, Int.reduceNeg, reduceCtorEq, hgs, Que.cells]))); (try simp (disch := omega) only [wrap_id, getD_map_in, Int.toNat_natCast, Que.cells]); (repeat (refine And.intro (by (first | omega | (simp; done) | (simp; omega) | assumption)) ?_)); refine h' _ ?_; clear h' K') | (refine aops_nil (hK _ ?_); clear hK K hgs gs; try simp only [aThen, aBlock]) | ((first | refine AWp.sreg (id := 2) dd12 rfl (fun gs K hgs hK => ?_) | refine AWp.reg (id := 2) dd12 rfl (fun gs K hgs hK => ?_)); replace hgs : gs 4 = some 8 := hgs 4) | (refine AWp.sreg  dd12 rfl (fun gs K hgs hK => ?_); replace hgs : Nat.succ 0 = 1 := rfl) | refine AWp.seq ?_ | refine ARounds.step ?_ | refine AWp.block ?_ | refine AWp.label ?_ | (refine AWp.ret ?_; try simp only [aThen, aBlock]) | (refine AWp.skip ?_; try simp only [aThen, aBlock]) | (refine AWp.exit ?_; try simp only [aThen, aBlock, Nat.reduceEqDiff, reduceIte]) | (refine AWp.reg  dd12 rfl (fun gs K hgs hK => ?_); replace hgs : Nat.succ 0 = 1 := rfl) | (refine AWp.cond rfl (fun h => ?_) (fun h => ?_) <;> (try simp only [decide_eq_true_eq, decide_eq_false_iff_not, beq_iff_eq, bne_iff_ne, ne_eq, Bool.not_eq_true', Bool.not_eq_false', beq_eq_false_iff_ne, Bool.true_eq_false, Bool.false_eq_true, Int.not_le, Int.not_lt, Bool.and_eq_true, Bool.and_eq_false_iff, Bool.or_eq_true, Bool.or_eq_false_iff, bne_eq_false_iff_eq, reduceCtorEq] at h) <;> (try first | contradiction | (exfalso; omega) | (exfalso; revert h; simp; done) | (exfalso; revert h; simp; omega)))))
      simp only [Out, outA, outL, resA, go_sem, Nat.reduceLT, Nat.reduceLeDiff, Nat.reduceEqDiff, reduceIte, Nat.reduceAdd, Nat.reduceMul, Nat.reduceSub, Int.reduceLT, Int.reduceLE, Int.reduceToNat, Int.reduceNeg, reduceCtorEq]
      rw [e3]
      refine AVle.of_eq (congrArg (fun b => AV.lit (.bool b)) ?_)
      rw [Bool.eq_iff_iff]
      simp only [decide_eq_true_eq]
      omega
end Go.Proofs.Ytlpmgkillalhbaa
