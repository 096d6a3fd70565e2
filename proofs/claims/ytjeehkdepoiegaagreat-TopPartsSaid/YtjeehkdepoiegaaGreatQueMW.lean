/-
  Queues in plain Lean, and the walks over their checks.
-/
import Derived.Test.YtjeehkdepoiegaaGreatTskW67
import Derived.Test.YtjeehkdepoiegaaGreatAbsZY
namespace Go.Proofs.YtjeehkdepoiegaaGreat
open Go.AL
set_option linter.unusedSimpArgs false
set_option linter.unusedVariables false
structure Que where
  room : Int
  list : List Msg
  deriving DecidableEq, Inhabited
def Que.cells (q : Que) : List AV := [.lit (.int .i64 q.room), .ro 10 (q.list.map Msg.cells)]
def quesV (l : List Que) : AV := .ro 2 (l.map Que.cells)
def goodQ (q : Que) : Bool := decide (1 ≤ q.room ∧ q.room ≤ 8 ∧ (q.list.length : Int) ≤ q.room) && q.list.all validM
def queE (q : Que) : Int := if goodQ q = true then 0 else 8
def askQ (t : Tsk) (ins outs : List Que) : Int := if tskE t ≠ 0 then tskE t else if 4 < ins.length ∨ 3 < outs.length then 4 else if (ins ++ outs).all goodQ = true then 0 else 8
theorem askQ_0 {t : Tsk} {ins outs : List Que} (h : askQ t ins outs = 0) : tskE t = 0 ∧ ins.length ≤ 4 ∧ outs.length ≤ 3 ∧ (∀ q ∈ ins, goodQ q = true) ∧ (∀ q ∈ outs, goodQ q = true) := by
  unfold askQ at h
  split at h
  · omega
  · split at h
    · omega
    · split at h
      · rename_i g1 g2 g3
        rw [List.all_eq_true] at g3
        exact ⟨Classical.not_not.1 g1, by omega, by omega, fun q hq => g3 q (by simp [hq]), fun q hq => g3 q (by simp [hq])⟩
      · omega
theorem goodQ_bd {q : Que} (h : goodQ q = true) : 1 ≤ q.room ∧ q.room ≤ 8 ∧ (q.list.length : Int) ≤ q.room ∧ ∀ m ∈ q.list, validM m = true := by
  unfold goodQ at h
  simp only [Bool.and_eq_true, decide_eq_true_eq, List.all_eq_true] at h
  exact ⟨h.1.1, h.1.2.1, h.1.2.2, h.2⟩
def roomB (q : Que) : Bool := decide ((q.list.length : Int) < q.room)
def sendE (t : Tsk) (outs : List Que) : Int := if askQ t [] outs ≠ 0 then askQ t [] outs else match t.pend with
  | [] => 6
  | s :: _ => if (outs.length : Int) ≤ s.out then 2 else if roomB (outs.getD s.out.toNat default) = true then 0 else 18
def putQ (q : Que) (m : Msg) : Que := ⟨q.room, q.list ++ [m]⟩
def sendT (t : Tsk) (outs : List Que) : Tsk := if sendE t outs = 0 then { t with pend := t.pend.tail } else zeroT
def sendL (t : Tsk) (outs : List Que) : List Que := if sendE t outs = 0 then (match t.pend with
  | [] => []
  | s :: _ => outs.set s.out.toNat (putQ (outs.getD s.out.toNat default) s.m)) else []
end Go.Proofs.YtjeehkdepoiegaaGreat
namespace Go.Proofs.YtjeehkdepoiegaaGreat
open Go.AL Go.RowKit
set_option linter.unusedSimpArgs false
set_option linter.unusedVariables false
set_option maxRecDepth 10000
set_option maxHeartbeats 8000000
theorem queE_room {q : Que} (h : q.room < 1 ∨ 8 < q.room ∨ q.room < (q.list.length : Int)) : queE q = 8 := by
  unfold queE goodQ
  rw [if_neg]
  simp only [Bool.and_eq_true, decide_eq_true_eq, not_and]
  omega
theorem queE_bad {q : Que} {k : Nat} (hk : k < q.list.length) (h : validM (q.list.getD k default) = false) : queE q = 8 := by
  unfold queE goodQ
  rw [if_neg]
  rw [← allL_all]
  unfold allL
  rw [allN_false (k := k) hk h]
  simp
theorem queE_good {q : Que} (h1 : 1 ≤ q.room ∧ q.room ≤ 8 ∧ (q.list.length : Int) ≤ q.room) (h : ∀ j, j < q.list.length → validM (q.list.getD j default) = true) : queE q = 0 := by
  unfold queE goodQ
  rw [← allL_all]
  unfold allL
  rw [allN_true h, if_pos]
  simp only [Bool.and_true, decide_eq_true_eq]
  exact h1
def dd28 : Nat → List (List Nat)
  | 0 => [[], [0], [2]]
  | 1 => [[], [], [6], [7], [8], [], [10], [11], [9, 12], [13], [], [15], [16], [], [18], [17, 19], [14, 20]]
  | 2 => [[1, 21], []]
  | 3 => [[21], [1], [22], [], []]
  | 4 => [[], []]
  | 5 => [[26], [], [27], [], [28]]
  | 6 => [[], [4], [29], [30]]
  | 7 => [[], [], [31]]
  | 8 => [[23, 24, 25, 32], [5], [33]]
  | 9 => [[5, 32], [25], [34]]
  | 10 => [[23, 24, 25, 26], []]
  | _ => []
theorem chk_c (q : Que) : ACall Tryz.prog 28 [.agg q.cells] (.lit (.int .i64 (queE q))) := by
  have e1 := @queE_room q
  have e2 := @queE_bad q
  have e3 := @queE_good q
  generalize queE q = qe at *
  obtain ⟨rm, l⟩ := q
  simp only at e1 e2 e3
  obtain ⟨B, hB⟩ : ∃ B : List AV, B = [.lit (.int .i64 rm), .ro 10 (l.map Msg.cells)] := ⟨_, rfl⟩
  refine acall_of (n := 35) (rs := [.tmp 2]) Tryz.func28 rfl (by kernel_rfl) rfl rfl rfl ?_; simp only [argsE, Nat.reduceAdd]
  repeat (any_goals (first | (refine aops_cons (fun K' h' => ?_); simp only [go_sem, Nat.reduceLT, Nat.reduceLeDiff, Nat.reduceEqDiff, reduceIte, Nat.reduceAdd, Nat.reduceMul, Nat.reduceSub, Int.reduceLT, Int.reduceLE, Int.reduceToNat, Int.reduceNeg, reduceCtorEq, hgs, Que.cells]; (try simp (disch := omega) only [wrap_id, getD_map_in, Int.toNat_natCast, Que.cells]); (repeat (refine And.intro (by (omega)) ?_)); refine h' _ ?_; clear h' K') | (refine aops_nil (hK _ ?_); clear hK K hgs gs; try simp only [aThen, aBlock]) | ((refine AWp.sreg (id := 1) dd28 rfl (fun gs K hgs hK => ?_)); replace hgs : gs 3 = some 9 ∧ gs 8 = some 14 := ⟨hgs 3, hgs 8⟩) | (refine AWp.sreg  dd28 rfl (fun gs K hgs hK => ?_); replace hgs : Nat.succ 0 = 1 := rfl) | refine AWp.seq ?_ | refine AWp.block ?_ | (refine AWp.ret ?_; try simp only [aThen, aBlock]) | (refine AWp.skip ?_; try simp only [aThen, aBlock]) | (refine AWp.cond rfl (fun h => ?_) (fun h => ?_) <;> (try simp only [decide_eq_true_eq, decide_eq_false_iff_not, beq_iff_eq, bne_iff_ne, ne_eq, Bool.not_eq_true', Bool.not_eq_false', beq_eq_false_iff_ne, Bool.true_eq_false, Bool.false_eq_true, Int.not_le, Int.not_lt, Bool.and_eq_true, Bool.and_eq_false_iff, Bool.or_eq_true, Bool.or_eq_false_iff, bne_eq_false_iff_eq, reduceCtorEq] at h))))
  · simp only [Out, outA, outL, resA, go_sem, Nat.reduceLT, Nat.reduceLeDiff, Nat.reduceEqDiff, reduceIte, Nat.reduceAdd, Nat.reduceMul, Nat.reduceSub, Int.reduceLT, Int.reduceLE, Int.reduceToNat, Int.reduceNeg, reduceCtorEq]
    rw [e1 (by omega)]
    exact AVle.refl _
  · refine AWp.loopN l.length (fun k => validM (l.getD k default) = true) (fun k => ⟨[(23, .ro 10 (l.map Msg.cells)), (24, .lit (.int .i64 (l.length : Int))), (25, .lit (.int .i64 (k : Int)))], [B], []⟩) ?_ ?_
    · subst hB
      refine Wk.of rfl rfl ?_
      simp [subE, eget, ASt.drop, dropE, keepR, lowE, AV.lowB, lowL, Nat.blt, Nat.ble]
    · intro k hk hall
      subst hB
      repeat ((first | (refine aops_cons (fun K' h' => ?_); simp only [go_sem, Nat.reduceLT, Nat.reduceLeDiff, Nat.reduceEqDiff, reduceIte, Nat.reduceAdd, Nat.reduceMul, Nat.reduceSub, Int.reduceLT, Int.reduceLE, Int.reduceToNat, Int.reduceNeg, reduceCtorEq, hgs, Que.cells]; (try simp (disch := omega) only [wrap_id, getD_map_in, Int.toNat_natCast, Que.cells]); (repeat (refine And.intro (by (omega)) ?_)); refine h' _ ?_; clear h' K') | (refine aops_nil (hK _ ?_); clear hK K hgs gs; try simp only [aThen, aBlock]) | (refine AWp.sreg  dd28 rfl (fun gs K hgs hK => ?_); replace hgs : Nat.succ 0 = 1 := rfl) | refine AWp.seq ?_))
      (refine AWp.cond rfl (fun h => ?_) (fun h => ?_) <;> (try simp only [decide_eq_true_eq, decide_eq_false_iff_not, beq_iff_eq, bne_iff_ne, ne_eq, Bool.not_eq_true', Bool.not_eq_false', beq_eq_false_iff_ne, Bool.true_eq_false, Bool.false_eq_true, Int.not_le, Int.not_lt, Bool.and_eq_true, Bool.and_eq_false_iff, Bool.or_eq_true, Bool.or_eq_false_iff, bne_eq_false_iff_eq, reduceCtorEq] at h))
      · obtain ⟨x, hx⟩ : ∃ x, l.getD k default = x := ⟨_, rfl⟩
        have hM := mCheck_c x
        unfold errM at hM
        have e4 := e2 (k := k) (by omega)
        rw [hx] at e4
        rw [hx]
        generalize validM x = p at *
        obtain ⟨kd, k1, rt, v, t, r1, r2, r3, r4, r5⟩ := x
        unfold Msg.cells at hM
        simp only at hM
        repeat (any_goals (first | (refine aops_cons (fun K' h' => ?_); simp only [go_sem, Nat.reduceLT, Nat.reduceLeDiff, Nat.reduceEqDiff, reduceIte, Nat.reduceAdd, Nat.reduceMul, Nat.reduceSub, Int.reduceLT, Int.reduceLE, Int.reduceToNat, Int.reduceNeg, reduceCtorEq, hgs, Que.cells, hx, Msg.cells]; (try ((refine ⟨_, hM, ?_⟩); (try simp only [go_sem, Nat.reduceLT, Nat.reduceLeDiff, Nat.reduceEqDiff, reduceIte, Nat.reduceAdd, Nat.reduceMul, Nat.reduceSub, Int.reduceLT, Int.reduceLE, Int.reduceToNat, Int.reduceNeg, reduceCtorEq, hgs, Que.cells, hx, Msg.cells]))); (try simp (disch := omega) only [wrap_id, getD_map_in, Int.toNat_natCast, Que.cells, hx, Msg.cells]); (repeat (refine And.intro (by (omega)) ?_)); refine h' _ ?_; clear h' K') | (refine aops_nil (hK _ ?_); clear hK K hgs gs; try simp only [aThen, aBlock]) | (refine AWp.sreg  dd28 rfl (fun gs K hgs hK => ?_); replace hgs : Nat.succ 0 = 1 := rfl) | refine AWp.seq ?_ | refine AWp.block ?_ | (refine AWp.ret ?_; try simp only [aThen, aBlock]) | (refine AWp.skip ?_; try simp only [aThen, aBlock]) | (refine AWp.reg  dd28 rfl (fun gs K hgs hK => ?_); replace hgs : Nat.succ 0 = 1 := rfl) | (refine AWp.cond rfl (fun h => ?_) (fun h => ?_) <;> (try simp only [decide_eq_true_eq, decide_eq_false_iff_not, beq_iff_eq, bne_iff_ne, ne_eq, Bool.not_eq_true', Bool.not_eq_false', beq_eq_false_iff_ne, Bool.true_eq_false, Bool.false_eq_true, Int.not_le, Int.not_lt, Bool.and_eq_true, Bool.and_eq_false_iff, Bool.or_eq_true, Bool.or_eq_false_iff, bne_eq_false_iff_eq, reduceCtorEq] at h))))
        · simp only [Out, outA, outL, resA, go_sem, Nat.reduceLT, Nat.reduceLeDiff, Nat.reduceEqDiff, reduceIte, Nat.reduceAdd, Nat.reduceMul, Nat.reduceSub, Int.reduceLT, Int.reduceLE, Int.reduceToNat, Int.reduceNeg, reduceCtorEq]
          cases p
          · rw [e4 rfl]
            exact AVle.refl _
          · simp at h
        · refine ⟨by omega, ?_, Wk.ofCut 1 0 rfl rfl ?_⟩
          · cases p <;> simp_all
          · first
            | (simp [subE, eget, ASt.drop, dropE, keepR, lowE, AV.lowB, lowL, Nat.blt, Nat.ble]; done)
            | (simp [subE, eget, ASt.drop, dropE, keepR, lowE, AV.lowB, lowL, Nat.blt, Nat.ble]; omega)
      · rw [e3 (by omega) fun j hj => hall j (by omega)]
        repeat (any_goals (first | (refine aops_cons (fun K' h' => ?_); simp only [go_sem, Nat.reduceLT, Nat.reduceLeDiff, Nat.reduceEqDiff, reduceIte, Nat.reduceAdd, Nat.reduceMul, Nat.reduceSub, Int.reduceLT, Int.reduceLE, Int.reduceToNat, Int.reduceNeg, reduceCtorEq, hgs, Que.cells]; (try simp (disch := omega) only [wrap_id, getD_map_in, Int.toNat_natCast, Que.cells]); (repeat (refine And.intro (by (omega)) ?_)); refine h' _ ?_; clear h' K') | (refine aops_nil (hK _ ?_); clear hK K hgs gs; try simp only [aThen, aBlock]) | (refine AWp.sreg  dd28 rfl (fun gs K hgs hK => ?_); replace hgs : Nat.succ 0 = 1 := rfl) | (refine AWp.ret ?_; try simp only [aThen, aBlock]) | (refine AWp.exit ?_; try simp only [aThen, aBlock, Nat.reduceEqDiff, reduceIte])))
        simp only [Out, outA, outL, resA, go_sem, Nat.reduceLT, Nat.reduceLeDiff, Nat.reduceEqDiff, reduceIte, Nat.reduceAdd, Nat.reduceMul, Nat.reduceSub, Int.reduceLT, Int.reduceLE, Int.reduceToNat, Int.reduceNeg, reduceCtorEq]
        exact AVle.refl _
def Que.ok (q : Que) : Prop := q.list.length ≤ maxLen
end Go.Proofs.YtjeehkdepoiegaaGreat
