/-
  The walks over late events and over late.Split.
-/
import Derived.Test.YtjeehkdepoiegaaGreatFacts
import Derived.Test.YtjeehkdepoiegaaGreatPlnM
import Derived.Test.YtjeehkdepoiegaaGreatAbsPQ
import Derived.Test.YtjeehkdepoiegaaGreatAbsRV
namespace Go.Proofs.YtjeehkdepoiegaaGreat
open Go.AL Go.RowKit
set_option linter.unusedSimpArgs false
set_option linter.unusedVariables false
set_option maxRecDepth 10000
set_option maxHeartbeats 4000000
noncomputable def lateE (l : List Ev) : Int := if 60 < l.length then 4 else if l.all okE = true then 0 else 8
def dd65 : Nat → List (List Nat)
  | 0 => [[], [2]]
  | 1 => [[], [], [3], [4], [0], [6], [5, 7], [8]]
  | _ => []
theorem lateTime_c (t : Int) : ACall Tryz.prog 65 [.lit (.int .i64 t)] (.lit (.bool (isTimeB t))) := by
  unfold isTimeB
  refine acall_of (n := 9) (rs := [.tmp 2]) Tryz.func65 rfl (by kernel_rfl) rfl rfl rfl ?_; simp only [argsE, Nat.reduceAdd]
  repeat (any_goals (first | (refine aops_cons (fun K' h' => ?_); simp only [go_sem, Nat.reduceLT, Nat.reduceLeDiff, Nat.reduceEqDiff, reduceIte, Nat.reduceAdd, Nat.reduceMul, Nat.reduceSub, Int.reduceLT, Int.reduceLE, Int.reduceToNat, Int.reduceNeg, reduceCtorEq, hgs, Ev.cells, Rcd.cells, aopG, beq_self_eq_true]; (try simp (disch := omega) only [wrap_id, getD_map_in, Int.toNat_natCast, Ev.cells, Rcd.cells, aopG, beq_self_eq_true]); (repeat (refine And.intro (by (omega)) ?_)); refine h' _ ?_; clear h' K') | (refine aops_nil (hK _ ?_); clear hK K hgs gs; try simp only [aThen, aBlock]) | ((refine AWp.sreg (id := 1) dd65 rfl (fun gs K hgs hK => ?_)); replace hgs : gs 2 = some 5 := hgs 2) | (refine AWp.sreg  dd65 rfl (fun gs K hgs hK => ?_); replace hgs : Nat.succ 0 = 1 := rfl) | (refine AWp.ret ?_; try simp only [aThen, aBlock])))
  all_goals simp only [Out, outA, outL, resA, go_sem, Nat.reduceLT, Nat.reduceLeDiff, Nat.reduceEqDiff, reduceIte, Nat.reduceAdd, Nat.reduceMul, Nat.reduceSub, Int.reduceLT, Int.reduceLE, Int.reduceToNat, Int.reduceNeg, reduceCtorEq]
  all_goals exact AVle.of_eq (by simp; try omega)
def dd36 : Nat → List (List Nat)
  | 0 => [[], [4]]
  | 1 => [[], [], [6], [], [8], [7, 9]]
  | 2 => [[0, 1, 10], []]
  | 3 => [[10], []]
  | 4 => [[], [], [], [12], [11, 13]]
  | 5 => [[25], [5], [15], [16]]
  | 7 => [[0, 1, 5, 25], []]
  | 8 => [[0, 1, 5, 14], []]
  | _ => []
def fo36 : Nat → List Nat
  | 6 => [0, 1, 5, 25]
  | _ => []
theorem sameRs_c (a b : List Rcd) (ha : a.length ≤ 1000) (hb : b.length ≤ 1000) : ACall Tryz.prog 36 [.ro 3 (a.map Rcd.cells), .ro 3 (b.map Rcd.cells)] (.lit (.bool (decide (a = b)))) := by
  refine acall_of (n := 26) (rs := [.tmp 4]) Tryz.func36 rfl (by kernel_rfl) rfl rfl rfl ?_; simp only [argsE, Nat.reduceAdd]
  repeat (any_goals (first | ((refine aops_cons (fun K' h' => ?_)); simp only [go_sem, Nat.reduceLT, Nat.reduceLeDiff, Nat.reduceEqDiff, reduceIte, Nat.reduceAdd, Nat.reduceMul, Nat.reduceSub, Int.reduceLT, Int.reduceLE, Int.reduceToNat, Int.reduceNeg, reduceCtorEq, Ev.cells, Rcd.cells, aopG, beq_self_eq_true]; (try simp (disch := omega) only [wrap_id, getD_map_in, Int.toNat_natCast, Ev.cells, Rcd.cells, aopG, beq_self_eq_true]); (repeat (refine And.intro (by (omega)) ?_)); refine h' _ ?_; clear h' K') | (refine aops_nil (hK _ ?_); clear hK K gs; try simp only [aThen, aBlock]) | (refine AWp.sreg  dd36 rfl (fun gs K hgs hK => ?_); clear hgs) | refine AWp.seq ?_ | refine AWp.block ?_ | (refine AWp.ret ?_; try simp only [aThen, aBlock]) | (refine AWp.skip ?_; try simp only [aThen, aBlock]) | (refine AWp.cond rfl (fun h => ?_) (fun h => ?_) <;> (try simp only [decide_eq_true_eq, decide_eq_false_iff_not, beq_iff_eq, bne_iff_ne, ne_eq, Bool.not_eq_true', Bool.not_eq_false', beq_eq_false_iff_ne, Bool.true_eq_false, Bool.false_eq_true, Int.not_le, Int.not_lt, Bool.and_eq_true, Bool.and_eq_false_iff, Bool.or_eq_true, Bool.or_eq_false_iff, bne_eq_false_iff_eq, reduceCtorEq] at h))))
  · simp only [Out, outA, outL, resA, go_sem, Nat.reduceLT, Nat.reduceLeDiff, Nat.reduceEqDiff, reduceIte, Nat.reduceAdd, Nat.reduceMul, Nat.reduceSub, Int.reduceLT, Int.reduceLE, Int.reduceToNat, Int.reduceNeg, reduceCtorEq]
    refine AVle.of_eq (congrArg (fun b => AV.lit (.bool b)) ?_)
    have : a ≠ b := fun h => by subst h; omega
    simp [this]
  · refine AWp.loopN a.length (fun k => a.getD k default = b.getD k default) (fun k => ⟨[(0, .ro 3 (a.map Rcd.cells)), (1, .ro 3 (b.map Rcd.cells)), (5, .lit (.int .i64 (k : Int)))], [], []⟩) ?_ ?_
    · refine Wk.of rfl rfl ?_
      simp [subE, eget, ASt.drop, dropE, keepR, lowE, AV.lowB, lowL, Nat.blt, Nat.ble]
    · intro k hk hall
      repeat ((first | ((refine aops_cons (fun K' h' => ?_)); simp only [go_sem, Nat.reduceLT, Nat.reduceLeDiff, Nat.reduceEqDiff, reduceIte, Nat.reduceAdd, Nat.reduceMul, Nat.reduceSub, Int.reduceLT, Int.reduceLE, Int.reduceToNat, Int.reduceNeg, reduceCtorEq, Ev.cells, Rcd.cells, aopG, beq_self_eq_true]; (try simp (disch := omega) only [wrap_id, getD_map_in, Int.toNat_natCast, Ev.cells, Rcd.cells, aopG, beq_self_eq_true]); (repeat (refine And.intro (by (omega)) ?_)); refine h' _ ?_; clear h' K') | (refine aops_nil (hK _ ?_); clear hK K gs; try simp only [aThen, aBlock]) | (refine AWp.sreg  dd36 rfl (fun gs K hgs hK => ?_); clear hgs) | refine AWp.seq ?_))
      (refine AWp.cond rfl (fun h => ?_) (fun h => ?_) <;> (try simp only [decide_eq_true_eq, decide_eq_false_iff_not, beq_iff_eq, bne_iff_ne, ne_eq, Bool.not_eq_true', Bool.not_eq_false', beq_eq_false_iff_ne, Bool.true_eq_false, Bool.false_eq_true, Int.not_le, Int.not_lt, Bool.and_eq_true, Bool.and_eq_false_iff, Bool.or_eq_true, Bool.or_eq_false_iff, bne_eq_false_iff_eq, reduceCtorEq] at h))
      · obtain ⟨x, hx⟩ : ∃ x, a.getD k default = x := ⟨_, rfl⟩
        obtain ⟨y, hy⟩ : ∃ y, b.getD k default = y := ⟨_, rfl⟩
        rw [hx, hy]
        have hne : x ≠ y → a ≠ b := fun h1 h2 => h1 (by rw [← hx, ← hy, h2])
        have hlen : k < b.length := by omega
        obtain ⟨kd, kk, rt⟩ := x
        obtain ⟨kd', kk', rt'⟩ := y
        repeat (any_goals (first | ((first | refine aops_cons (fun K' h' => ?_) | refine aopsD_cons (fun K' h' => ?_)); simp only [go_sem, Nat.reduceLT, Nat.reduceLeDiff, Nat.reduceEqDiff, reduceIte, Nat.reduceAdd, Nat.reduceMul, Nat.reduceSub, Int.reduceLT, Int.reduceLE, Int.reduceToNat, Int.reduceNeg, reduceCtorEq, Ev.cells, Rcd.cells, aopG, beq_self_eq_true, hx, hy, Rcd.cells]; (try simp (disch := omega) only [wrap_id, getD_map_in, Int.toNat_natCast, Ev.cells, Rcd.cells, aopG, beq_self_eq_true, hx, hy, Rcd.cells]); (repeat (refine And.intro (by (omega)) ?_)); refine h' _ ?_; clear h' K') | (refine aops_nil (hK _ ?_); clear hK K gs; try simp only [aThen, aBlock]) | (refine AWp.sreg  dd36 rfl (fun gs K hgs hK => ?_); clear hgs) | refine AWp.seq ?_ | refine AWp.block ?_ | (refine AWp.ret ?_; try simp only [aThen, aBlock]) | (refine AWp.skip ?_; try simp only [aThen, aBlock]) | (refine AWp.reg  dd36 rfl (fun gs K hgs hK => ?_); clear hgs) | ((refine AWp.regD  fo36 mo_fact (by kernel_rfl) (fun gs K hgs hK => ?_)); clear hgs) | (refine aopsD_nil (hK _ ?_); clear hK K gs; simp only [fo36]; simp only [ASt.prune, pruneE, keepB, keepR, Bool.or_false, Bool.or_true, Bool.true_or, Bool.false_or, reduceIte, Bool.or_self, Bool.false_eq_true, aThen, aBlock, Nat.reduceEqDiff]) | (refine AWp.cond rfl (fun h => ?_) (fun h => ?_) <;> (try simp only [decide_eq_true_eq, decide_eq_false_iff_not, beq_iff_eq, bne_iff_ne, ne_eq, Bool.not_eq_true', Bool.not_eq_false', beq_eq_false_iff_ne, Bool.true_eq_false, Bool.false_eq_true, Int.not_le, Int.not_lt, Bool.and_eq_true, Bool.and_eq_false_iff, Bool.or_eq_true, Bool.or_eq_false_iff, bne_eq_false_iff_eq, reduceCtorEq] at h))))
        · simp only [Out, outA, outL, resA, go_sem, Nat.reduceLT, Nat.reduceLeDiff, Nat.reduceEqDiff, reduceIte, Nat.reduceAdd, Nat.reduceMul, Nat.reduceSub, Int.reduceLT, Int.reduceLE, Int.reduceToNat, Int.reduceNeg, reduceCtorEq]
          refine AVle.of_eq (congrArg (fun b => AV.lit (.bool b)) ?_)
          refine (decide_eq_false (hne fun he => ?_)).symm
          simp at he
          omega
        · refine ⟨by omega, by simp; omega, Wk.of rfl rfl ?_⟩
          first
            | (simp [subE, eget, ASt.drop, dropE, keepR, lowE, AV.lowB, lowL, Nat.blt, Nat.ble]; done)
            | (simp [subE, eget, ASt.drop, dropE, keepR, lowE, AV.lowB, lowL, Nat.blt, Nat.ble]; omega)
      · have : a = b := List.ext_getElem (by omega) fun j h1 h2 => by
          have := hall j (by omega)
          simpa [List.getD_eq_getElem?_getD, List.getElem?_eq_getElem h1, List.getElem?_eq_getElem h2] using this
        rw [decide_eq_true this]
        repeat (any_goals (first | ((refine aops_cons (fun K' h' => ?_)); simp only [go_sem, Nat.reduceLT, Nat.reduceLeDiff, Nat.reduceEqDiff, reduceIte, Nat.reduceAdd, Nat.reduceMul, Nat.reduceSub, Int.reduceLT, Int.reduceLE, Int.reduceToNat, Int.reduceNeg, reduceCtorEq, Ev.cells, Rcd.cells, aopG, beq_self_eq_true]; (try simp (disch := omega) only [wrap_id, getD_map_in, Int.toNat_natCast, Ev.cells, Rcd.cells, aopG, beq_self_eq_true]); (repeat (refine And.intro (by (omega)) ?_)); refine h' _ ?_; clear h' K') | (refine aops_nil (hK _ ?_); clear hK K gs; try simp only [aThen, aBlock]) | (refine AWp.sreg  dd36 rfl (fun gs K hgs hK => ?_); clear hgs) | (refine AWp.ret ?_; try simp only [aThen, aBlock]) | (refine AWp.exit ?_; try simp only [aThen, aBlock, Nat.reduceEqDiff, reduceIte])))
        simp only [Out, outA, outL, resA, go_sem, Nat.reduceLT, Nat.reduceLeDiff, Nat.reduceEqDiff, reduceIte, Nat.reduceAdd, Nat.reduceMul, Nat.reduceSub, Int.reduceLT, Int.reduceLE, Int.reduceToNat, Int.reduceNeg, reduceCtorEq]
        exact AVle.refl _
def dd51 : Nat → List (List Nat)
  | 0 => [[], [2]]
  | 1 => [[], [], [7], [8]]
  | 2 => [[0, 9], []]
  | 3 => [[9], [0], [], []]
  | 4 => [[], []]
  | 5 => [[13], [], [14], [], [15]]
  | 6 => [[], [], [16], [], [17, 18], [19], [], [21], [22], [23], [], [25], [26], [24, 27], [20, 28], [29]]
  | 7 => [[], [], [30], [31], [32], [], [34], [35], [36], [33, 37], [38]]
  | 8 => [[], [], [39], [40], [5], [42], [41, 43], [44], [4], [46], [47], [48], [6], [50], [49, 51], [45, 52]]
  | 9 => [[10, 11, 12, 53], []]
  | 10 => [[53], [12], [54]]
  | 11 => [[10, 11, 12, 13], []]
  | _ => []
theorem lateCheck_c (l : List Ev) (hl : l.length ≤ 1000) : ACall Tryz.prog 51 [evsV l] (.lit (.int .i64 (lateE l))) := by
  unfold evsV
  refine acall_of (n := 55) (rs := [.tmp 2]) Tryz.func51 rfl (by kernel_rfl) rfl rfl rfl ?_; simp only [argsE, Nat.reduceAdd]
  repeat (any_goals (first | (refine aops_cons (fun K' h' => ?_); simp only [go_sem, Nat.reduceLT, Nat.reduceLeDiff, Nat.reduceEqDiff, reduceIte, Nat.reduceAdd, Nat.reduceMul, Nat.reduceSub, Int.reduceLT, Int.reduceLE, Int.reduceToNat, Int.reduceNeg, reduceCtorEq, hgs, Ev.cells, Rcd.cells, aopG, beq_self_eq_true]; (try simp (disch := omega) only [wrap_id, getD_map_in, Int.toNat_natCast, Ev.cells, Rcd.cells, aopG, beq_self_eq_true]); (repeat (refine And.intro (by (omega)) ?_)); refine h' _ ?_; clear h' K') | (refine aops_nil (hK _ ?_); clear hK K hgs gs; try simp only [aThen, aBlock]) | (refine AWp.sreg  dd51 rfl (fun gs K hgs hK => ?_); replace hgs : Nat.succ 0 = 1 := rfl) | refine AWp.seq ?_ | refine AWp.block ?_ | (refine AWp.ret ?_; try simp only [aThen, aBlock]) | (refine AWp.skip ?_; try simp only [aThen, aBlock]) | (refine AWp.cond rfl (fun h => ?_) (fun h => ?_) <;> (try simp only [decide_eq_true_eq, decide_eq_false_iff_not, beq_iff_eq, bne_iff_ne, ne_eq, Bool.not_eq_true', Bool.not_eq_false', beq_eq_false_iff_ne, Bool.true_eq_false, Bool.false_eq_true, Int.not_le, Int.not_lt, Bool.and_eq_true, Bool.and_eq_false_iff, Bool.or_eq_true, Bool.or_eq_false_iff, bne_eq_false_iff_eq, reduceCtorEq] at h))))
  · simp only [Out, outA, outL, resA, go_sem, Nat.reduceLT, Nat.reduceLeDiff, Nat.reduceEqDiff, reduceIte, Nat.reduceAdd, Nat.reduceMul, Nat.reduceSub, Int.reduceLT, Int.reduceLE, Int.reduceToNat, Int.reduceNeg, reduceCtorEq]
    refine AVle.of_eq ?_
    unfold lateE
    rw [if_pos (by omega)]
  · refine AWp.loopN l.length (fun k => okE (l.getD k default) = true) (fun k => ⟨[(10, .ro 5 (l.map Ev.cells)), (11, .lit (.int .i64 (l.length : Int))), (12, .lit (.int .i64 (k : Int)))], [], []⟩) ?_ ?_
    · refine Wk.of rfl rfl ?_
      simp [subE, eget, ASt.drop, dropE, keepR, lowE, AV.lowB, lowL, Nat.blt, Nat.ble]
    · intro k hk hall
      repeat ((first | (refine aops_cons (fun K' h' => ?_); simp only [go_sem, Nat.reduceLT, Nat.reduceLeDiff, Nat.reduceEqDiff, reduceIte, Nat.reduceAdd, Nat.reduceMul, Nat.reduceSub, Int.reduceLT, Int.reduceLE, Int.reduceToNat, Int.reduceNeg, reduceCtorEq, hgs, Ev.cells, Rcd.cells, aopG, beq_self_eq_true]; (try simp (disch := omega) only [wrap_id, getD_map_in, Int.toNat_natCast, Ev.cells, Rcd.cells, aopG, beq_self_eq_true]); (repeat (refine And.intro (by (omega)) ?_)); refine h' _ ?_; clear h' K') | (refine aops_nil (hK _ ?_); clear hK K hgs gs; try simp only [aThen, aBlock]) | (refine AWp.sreg  dd51 rfl (fun gs K hgs hK => ?_); replace hgs : Nat.succ 0 = 1 := rfl) | refine AWp.seq ?_))
      (refine AWp.cond rfl (fun h => ?_) (fun h => ?_) <;> (try simp only [decide_eq_true_eq, decide_eq_false_iff_not, beq_iff_eq, bne_iff_ne, ne_eq, Bool.not_eq_true', Bool.not_eq_false', beq_eq_false_iff_ne, Bool.true_eq_false, Bool.false_eq_true, Int.not_le, Int.not_lt, Bool.and_eq_true, Bool.and_eq_false_iff, Bool.or_eq_true, Bool.or_eq_false_iff, bne_eq_false_iff_eq, reduceCtorEq] at h))
      · obtain ⟨x, hx⟩ : ∃ x, l.getD k default = x := ⟨_, rfl⟩
        have hno : okE x = false → lateE l = 8 := fun h => by
          unfold lateE
          rw [if_neg (by omega), if_neg]
          intro h2
          have := List.all_eq_true.1 h2 (l.getD k default) (by rw [List.getD_eq_getElem?_getD, List.getElem?_eq_getElem (by omega : k < l.length)]; simp)
          rw [hx, h] at this; cases this
        rw [hx]
        obtain ⟨mk, tm, ky, rt, vl⟩ := x
        cases mk
        all_goals
          repeat (any_goals (first | (refine aops_cons (fun K' h' => ?_); simp only [go_sem, Nat.reduceLT, Nat.reduceLeDiff, Nat.reduceEqDiff, reduceIte, Nat.reduceAdd, Nat.reduceMul, Nat.reduceSub, Int.reduceLT, Int.reduceLE, Int.reduceToNat, Int.reduceNeg, reduceCtorEq, hgs, Ev.cells, Rcd.cells, aopG, beq_self_eq_true, hx]; (try ((refine ⟨_, fun _ => lateTime_c _, ?_⟩); (try simp only [go_sem, Nat.reduceLT, Nat.reduceLeDiff, Nat.reduceEqDiff, reduceIte, Nat.reduceAdd, Nat.reduceMul, Nat.reduceSub, Int.reduceLT, Int.reduceLE, Int.reduceToNat, Int.reduceNeg, reduceCtorEq, hgs, Ev.cells, Rcd.cells, aopG, beq_self_eq_true, hx]))); (try simp (disch := omega) only [wrap_id, getD_map_in, Int.toNat_natCast, Ev.cells, Rcd.cells, aopG, beq_self_eq_true, hx]); (repeat (refine And.intro (by (omega)) ?_)); refine h' _ ?_; clear h' K') | (refine aops_nil (hK _ ?_); clear hK K hgs gs; try simp only [aThen, aBlock]) | ((refine AWp.sreg (id := 6) dd51 rfl (fun gs K hgs hK => ?_)); replace hgs : gs 4 = some 20 ∧ gs 8 = some 24 := ⟨hgs 4, hgs 8⟩) | ((refine AWp.sreg (id := 7) dd51 rfl (fun gs K hgs hK => ?_)); replace hgs : gs 3 = some 33 := hgs 3) | ((refine AWp.sreg (id := 8) dd51 rfl (fun gs K hgs hK => ?_)); replace hgs : gs 2 = some 41 ∧ gs 6 = some 45 ∧ gs 10 = some 49 := ⟨hgs 2, hgs 6, hgs 10⟩) | (refine AWp.sreg  dd51 rfl (fun gs K hgs hK => ?_); replace hgs : Nat.succ 0 = 1 := rfl) | refine AWp.seq ?_ | refine AWp.block ?_ | (refine AWp.ret ?_; try simp only [aThen, aBlock]) | (refine AWp.skip ?_; try simp only [aThen, aBlock]) | (refine AWp.reg  dd51 rfl (fun gs K hgs hK => ?_); replace hgs : Nat.succ 0 = 1 := rfl) | (refine AWp.cond rfl (fun h => ?_) (fun h => ?_) <;> (try simp only [decide_eq_true_eq, decide_eq_false_iff_not, beq_iff_eq, bne_iff_ne, ne_eq, Bool.not_eq_true', Bool.not_eq_false', beq_eq_false_iff_ne, Bool.true_eq_false, Bool.false_eq_true, Int.not_le, Int.not_lt, Bool.and_eq_true, Bool.and_eq_false_iff, Bool.or_eq_true, Bool.or_eq_false_iff, bne_eq_false_iff_eq, reduceCtorEq] at h))))
        · simp only [Out, outA, outL, resA, go_sem, Nat.reduceLT, Nat.reduceLeDiff, Nat.reduceEqDiff, reduceIte, Nat.reduceAdd, Nat.reduceMul, Nat.reduceSub, Int.reduceLT, Int.reduceLE, Int.reduceToNat, Int.reduceNeg, reduceCtorEq]
          rw [hno (by unfold okE; simp; grind)]
          exact AVle.refl _
        · refine ⟨by omega, by unfold okE; simp; grind, Wk.ofCut 0 0 rfl rfl ?_⟩
          first
            | (simp [subE, eget, ASt.drop, dropE, keepR, lowE, AV.lowB, lowL, Nat.blt, Nat.ble]; done)
            | (simp [subE, eget, ASt.drop, dropE, keepR, lowE, AV.lowB, lowL, Nat.blt, Nat.ble]; omega)
        · simp only [Out, outA, outL, resA, go_sem, Nat.reduceLT, Nat.reduceLeDiff, Nat.reduceEqDiff, reduceIte, Nat.reduceAdd, Nat.reduceMul, Nat.reduceSub, Int.reduceLT, Int.reduceLE, Int.reduceToNat, Int.reduceNeg, reduceCtorEq]
          rw [hno (by unfold okE markB; simp; grind)]
          exact AVle.refl _
        · refine ⟨by omega, by unfold okE markB; simp; grind, Wk.ofCut 0 0 rfl rfl ?_⟩
          first
            | (simp [subE, eget, ASt.drop, dropE, keepR, lowE, AV.lowB, lowL, Nat.blt, Nat.ble]; done)
            | (simp [subE, eget, ASt.drop, dropE, keepR, lowE, AV.lowB, lowL, Nat.blt, Nat.ble]; omega)
      · have hok : l.all okE = true := by
          rw [List.all_eq_true]
          intro x hx
          obtain ⟨j, hj, e⟩ := List.getElem_of_mem hx
          have := hall j (by omega)
          rw [List.getD_eq_getElem?_getD, List.getElem?_eq_getElem hj] at this
          rw [← e]; exact this
        have : lateE l = 0 := by
          unfold lateE
          rw [if_neg (by omega), if_pos hok]
        rw [this]
        repeat (any_goals (first | (refine aops_cons (fun K' h' => ?_); simp only [go_sem, Nat.reduceLT, Nat.reduceLeDiff, Nat.reduceEqDiff, reduceIte, Nat.reduceAdd, Nat.reduceMul, Nat.reduceSub, Int.reduceLT, Int.reduceLE, Int.reduceToNat, Int.reduceNeg, reduceCtorEq, hgs, Ev.cells, Rcd.cells, aopG, beq_self_eq_true]; (try simp (disch := omega) only [wrap_id, getD_map_in, Int.toNat_natCast, Ev.cells, Rcd.cells, aopG, beq_self_eq_true]); (repeat (refine And.intro (by (omega)) ?_)); refine h' _ ?_; clear h' K') | (refine aops_nil (hK _ ?_); clear hK K hgs gs; try simp only [aThen, aBlock]) | (refine AWp.sreg  dd51 rfl (fun gs K hgs hK => ?_); replace hgs : Nat.succ 0 = 1 := rfl) | (refine AWp.ret ?_; try simp only [aThen, aBlock]) | (refine AWp.exit ?_; try simp only [aThen, aBlock, Nat.reduceEqDiff, reduceIte])))
        simp only [Out, outA, outL, resA, go_sem, Nat.reduceLT, Nat.reduceLeDiff, Nat.reduceEqDiff, reduceIte, Nat.reduceAdd, Nat.reduceMul, Nat.reduceSub, Int.reduceLT, Int.reduceLE, Int.reduceToNat, Int.reduceNeg, reduceCtorEq]
        exact AVle.refl _
def dd8 : Nat → List (List Nat)
  | 0 => [[], [], [3]]
  | 1 => [[], [], [4], [5], [], [7], [6, 8]]
  | 2 => [[0, 9], [], [10], []]
  | 3 => [[9], [0], [11], [12], []]
  | _ => []
theorem newCh_1 : ACall Tryz.prog 8 [.lit (.int .i64 1)] (.tup [.agg [.lit (.int .i64 1), .ro 10 []], .lit (.int .i64 0)]) := by
  refine acall_of (n := 13) (rs := [.cell 2 47, .tmp 3]) Tryz.func8 rfl (by kernel_rfl) rfl rfl rfl ?_; simp only [argsE, Nat.reduceAdd]
  repeat (any_goals (first | (refine aops_cons (fun K' h' => ?_); simp only [go_sem, Nat.reduceLT, Nat.reduceLeDiff, Nat.reduceEqDiff, reduceIte, Nat.reduceAdd, Nat.reduceMul, Nat.reduceSub, Int.reduceLT, Int.reduceLE, Int.reduceToNat, Int.reduceNeg, reduceCtorEq, hgs, Ev.cells, Rcd.cells, aopG, beq_self_eq_true]; (try simp (disch := omega) only [wrap_id, getD_map_in, Int.toNat_natCast, Ev.cells, Rcd.cells, aopG, beq_self_eq_true]); (repeat (refine And.intro (by (omega)) ?_)); refine h' _ ?_; clear h' K') | (refine aops_nil (hK _ ?_); clear hK K hgs gs; try simp only [aThen, aBlock]) | ((refine AWp.sreg (id := 1) dd8 rfl (fun gs K hgs hK => ?_)); replace hgs : gs 2 = some 6 := hgs 2) | (refine AWp.sreg  dd8 rfl (fun gs K hgs hK => ?_); replace hgs : Nat.succ 0 = 1 := rfl) | refine AWp.seq ?_ | (refine AWp.ret ?_; try simp only [aThen, aBlock]) | (refine AWp.skip ?_; try simp only [aThen, aBlock]) | (refine AWp.cond rfl (fun h => ?_) (fun h => ?_) <;> (try simp only [decide_eq_true_eq, decide_eq_false_iff_not, beq_iff_eq, bne_iff_ne, ne_eq, Bool.not_eq_true', Bool.not_eq_false', beq_eq_false_iff_ne, Bool.true_eq_false, Bool.false_eq_true, Int.not_le, Int.not_lt, Bool.and_eq_true, Bool.and_eq_false_iff, Bool.or_eq_true, Bool.or_eq_false_iff, bne_eq_false_iff_eq, reduceCtorEq] at h))))
  all_goals first
    | (exfalso; omega)
    | skip
  all_goals simp only [Out, outA, outL, resA, go_sem, Nat.reduceLT, Nat.reduceLeDiff, Nat.reduceEqDiff, reduceIte, Nat.reduceAdd, Nat.reduceMul, Nat.reduceSub, Int.reduceLT, Int.reduceLE, Int.reduceToNat, Int.reduceNeg, reduceCtorEq]
  all_goals exact AVle.tup ⟨AVle.agg ⟨AVle.refl _, AVle.nil 10, trivial⟩, AVle.refl _, trivial⟩
end Go.Proofs.YtjeehkdepoiegaaGreat
namespace Go.Proofs.YtjeehkdepoiegaaGreat
open Go.AL Go.RowKit
set_option linter.unusedSimpArgs false
set_option linter.unusedVariables false
set_option maxRecDepth 10000
set_option maxHeartbeats 4000000
def dd31 : Nat → List (List Nat)
  | 0 => [[], [], [], [4]]
  | 1 => [[], [], [10], [11]]
  | 2 => [[], [], [12]]
  | 3 => [[0, 2, 3, 13], [5], [], [], [14]]
  | 4 => [[5, 13], [], [15]]
  | 5 => [[], [0], [], []]
  | 6 => [[], []]
  | 7 => [[19], [], [20], [], [21]]
  | 8 => [[], [], [], [22, 23], [24]]
  | 9 => [[33], [2], [8], [26], [27], [25, 28], [29]]
  | 10 => [[], [], [31], [32]]
  | 11 => [[30], [], [34], [35], [9], [36, 37], [38]]
  | 12 => [[33], [3], [8], [40], [41], [39, 42], [43]]
  | 13 => [[8, 9, 30], [18], [44]]
  | 14 => [[6, 16, 17, 18, 19], [2], [3], [45], [46], []]
  | _ => []
def dd52 : Nat → List (List Nat)
  | 0 => [[], [0]]
  | 1 => [[], [], []]
  | 2 => [[], [1], [2]]
  | _ => []
def dd66 : Nat → List (List Nat)
  | 0 => [[], [0], [3]]
  | 1 => [[], [], [5]]
  | 2 => [[], [], [6]]
  | 3 => [[7], [], [2], [9], [8, 10], [1, 11]]
  | 4 => [[1, 2, 7], [4], [12]]
  | _ => []
theorem split_c (l : List Ev) (hl : l.length ≤ 1000) (h0 : lateE l = 0) : ACall Tryz.prog 31 [evsV l] (.tup [.ro 3 ((splitG false lowM l).map Rcd.cells), .ro 3 ((splitG true lowM l).map Rcd.cells), .lit (.int .i64 0)]) := by
  have hC := lateCheck_c l hl
  rw [h0] at hC
  unfold evsV at *
  refine acall_of (n := 47) (rs := [.tmp 2, .tmp 3, .tmp 4]) Tryz.func31 rfl (by kernel_rfl) rfl rfl rfl ?_; simp only [argsE, Nat.reduceAdd]
  iterate 16 (any_goals (first | (refine aops_cons (fun K' h' => ?_); simp only [go_sem, Nat.reduceLT, Nat.reduceLeDiff, Nat.reduceEqDiff, reduceIte, Nat.reduceAdd, Nat.reduceMul, Nat.reduceSub, Int.reduceLT, Int.reduceLE, Int.reduceToNat, Int.reduceNeg, reduceCtorEq, Ev.cells, Rcd.cells, aopG, beq_self_eq_true]; (try ((refine ⟨_, hC, ?_⟩); (try simp only [go_sem, Nat.reduceLT, Nat.reduceLeDiff, Nat.reduceEqDiff, reduceIte, Nat.reduceAdd, Nat.reduceMul, Nat.reduceSub, Int.reduceLT, Int.reduceLE, Int.reduceToNat, Int.reduceNeg, reduceCtorEq, Ev.cells, Rcd.cells, aopG, beq_self_eq_true]))); (try simp (disch := omega) only [wrap_id, getD_map_in, Int.toNat_natCast, Ev.cells, Rcd.cells, aopG, beq_self_eq_true]); (repeat (refine And.intro (by (omega)) ?_)); refine h' _ ?_; clear h' K') | (refine aops_nil (hK _ ?_); clear hK K gs; try simp only [aThen, aBlock]) | (refine AWp.sreg  dd31 rfl (fun gs K hgs hK => ?_); clear hgs) | refine AWp.seq ?_ | (refine AWp.cond rfl (fun h => ?_) (fun h => ?_) <;> (try simp only [decide_eq_true_eq, decide_eq_false_iff_not, beq_iff_eq, bne_iff_ne, ne_eq, Bool.not_eq_true', Bool.not_eq_false', beq_eq_false_iff_ne, Bool.true_eq_false, Bool.false_eq_true, Int.not_le, Int.not_lt, Bool.and_eq_true, Bool.and_eq_false_iff, Bool.or_eq_true, Bool.or_eq_false_iff, bne_eq_false_iff_eq, reduceCtorEq] at h) <;> (try first | contradiction))))
  refine AWp.skip ?_
  simp only [aThen, ASt.drop, dropE, keepR, Nat.reduceEqDiff, reduceIte, Bool.or_false, Bool.false_eq_true, Nat.beq, List.any_nil, List.any_cons, cond_true, cond_false]
  refine AWp.seq ?_
  refine AWp.inlineF (cs := []) (m := 3) [] [] _ [[]] rfl Tryz.func52 rfl (by kernel_rfl) rfl rfl rfl (by simp [dok]) ?_
  refine ⟨trivial, rfl, trivial, rfl, fun w0 S0 G hm => ?_⟩
  simp only [ASt.drop, dropE, keepR, Nat.reduceEqDiff, reduceIte, Bool.or_false, Bool.false_eq_true, Nat.beq, List.any_nil, List.any_cons, cond_true, cond_false]
  simp only [go_sem, Nat.reduceLT, Nat.reduceLeDiff, Nat.reduceEqDiff, reduceIte, Nat.reduceAdd, Nat.reduceMul, Nat.reduceSub, Int.reduceLT, Int.reduceLE, Int.reduceToNat, Int.reduceNeg, reduceCtorEq, Ev.cells, Rcd.cells, aopG, beq_self_eq_true]
  repeat (any_goals (first | (refine aops_cons (fun K' h' => ?_); simp only [go_sem, Nat.reduceLT, Nat.reduceLeDiff, Nat.reduceEqDiff, reduceIte, Nat.reduceAdd, Nat.reduceMul, Nat.reduceSub, Int.reduceLT, Int.reduceLE, Int.reduceToNat, Int.reduceNeg, reduceCtorEq, Ev.cells, Rcd.cells, aopG, beq_self_eq_true]; (try simp (disch := omega) only [wrap_id, getD_map_in, Int.toNat_natCast, Ev.cells, Rcd.cells, aopG, beq_self_eq_true]); (repeat (refine And.intro (by (omega)) ?_)); refine h' _ ?_; clear h' K') | (refine aops_nil (hK _ ?_); clear hK K gs; try simp only [aThen, aBlock]) | (refine J.AWp.sreg  dd52 rfl (fun gs K hgs hK => ?_); clear hgs) | (refine J.AWp.ret ?_; try simp only [aThen, aBlock])))
  refine ⟨.inr trivial, ?_⟩
  clear hm G S0 w0
  simp only [ASt.back, backE, ASt.put, eput, eget, Nat.reduceAdd, Nat.reduceSub, Nat.reduceLeDiff, reduceIte, Nat.reduceEqDiff, ASt.drop, dropE, keepR, Nat.beq, List.any_nil, List.any_cons, cond_true, cond_false, Bool.false_eq_true, Bool.or_false, Bool.or_true, Bool.true_or, Bool.or_self]
  generalize gslot _ = gs
  (refine aops_cons (fun K' h' => ?_); simp only [go_sem, Nat.reduceLT, Nat.reduceLeDiff, Nat.reduceEqDiff, reduceIte, Nat.reduceAdd, Nat.reduceMul, Nat.reduceSub, Int.reduceLT, Int.reduceLE, Int.reduceToNat, Int.reduceNeg, reduceCtorEq, Ev.cells, Rcd.cells, aopG, beq_self_eq_true]; (try simp (disch := omega) only [wrap_id, getD_map_in, Int.toNat_natCast, Ev.cells, Rcd.cells, aopG, beq_self_eq_true]); (repeat (refine And.intro (by (omega)) ?_)); refine h' _ ?_; clear h' K')
  refine aops_nil ?_
  clear gs
  try simp only [go_sem, Nat.reduceLT, Nat.reduceLeDiff, Nat.reduceEqDiff, reduceIte, Nat.reduceAdd, Nat.reduceMul, Nat.reduceSub, Int.reduceLT, Int.reduceLE, Int.reduceToNat, Int.reduceNeg, reduceCtorEq, Ev.cells, Rcd.cells, aopG, beq_self_eq_true]
  try simp only [aThen]
  repeat (any_goals (first | (refine aops_cons (fun K' h' => ?_); simp only [go_sem, Nat.reduceLT, Nat.reduceLeDiff, Nat.reduceEqDiff, reduceIte, Nat.reduceAdd, Nat.reduceMul, Nat.reduceSub, Int.reduceLT, Int.reduceLE, Int.reduceToNat, Int.reduceNeg, reduceCtorEq, Ev.cells, Rcd.cells, aopG, beq_self_eq_true]; (try simp (disch := omega) only [wrap_id, getD_map_in, Int.toNat_natCast, Ev.cells, Rcd.cells, aopG, beq_self_eq_true]); (repeat (refine And.intro (by (omega)) ?_)); refine h' _ ?_; clear h' K') | (refine aops_nil (hK _ ?_); clear hK K gs; try simp only [aThen, aBlock]) | (refine AWp.sreg  dd31 rfl (fun gs K hgs hK => ?_); clear hgs) | refine AWp.seq ?_ | refine AWp.block ?_))
  refine AWp.weaken (Wk.nilOwn 2 55 3 rfl (by decide)) ?_
  refine AWp.weaken (Wk.nilOwn 3 55 3 rfl (by decide)) ?_
  clear h
  refine AWp.loopN l.length (fun _ => True) (fun k => ⟨[(2, .own 0 3 0 (splitG false lowM (l.take k)).length), (3, .own 1 3 0 (splitG true lowM (l.take k)).length), (6, .fn 66 [.bp 0 0]), (16, .ro 5 (l.map Ev.cells)), (17, .lit (.int .i64 (l.length : Int))), (18, .lit (.int .i64 (k : Int)))], [[.lit (.int .i64 ((l.take k).foldl markU lowM))]], [some ⟨55, 3, (splitG false lowM (l.take k)).map Rcd.cells⟩, some ⟨55, 3, (splitG true lowM (l.take k)).map Rcd.cells⟩]⟩) ?_ ?_
  · refine Wk.ofCut 1 2 rfl (by simp [ASt.nilOwn, ASt.drop, splitG]) ?_
    simp [ASt.nilOwn, eput, subE, eget, ASt.drop, dropE, keepR, lowE, AV.lowB, lowL, Nat.blt, Nat.ble, splitG, lowM]
  · intro k hk _
    repeat ((first | (refine aops_cons (fun K' h' => ?_); simp only [go_sem, Nat.reduceLT, Nat.reduceLeDiff, Nat.reduceEqDiff, reduceIte, Nat.reduceAdd, Nat.reduceMul, Nat.reduceSub, Int.reduceLT, Int.reduceLE, Int.reduceToNat, Int.reduceNeg, reduceCtorEq, Ev.cells, Rcd.cells, aopG, beq_self_eq_true]; (try simp (disch := omega) only [wrap_id, getD_map_in, Int.toNat_natCast, Ev.cells, Rcd.cells, aopG, beq_self_eq_true]); (repeat (refine And.intro (by (omega)) ?_)); refine h' _ ?_; clear h' K') | (refine aops_nil (hK _ ?_); clear hK K gs; try simp only [aThen, aBlock]) | (refine AWp.sreg  dd31 rfl (fun gs K hgs hK => ?_); clear hgs) | refine AWp.seq ?_))
    (refine AWp.cond rfl (fun h => ?_) (fun h => ?_) <;> (try simp only [decide_eq_true_eq, decide_eq_false_iff_not, beq_iff_eq, bne_iff_ne, ne_eq, Bool.not_eq_true', Bool.not_eq_false', beq_eq_false_iff_ne, Bool.true_eq_false, Bool.false_eq_true, Int.not_le, Int.not_lt, Bool.and_eq_true, Bool.and_eq_false_iff, Bool.or_eq_true, Bool.or_eq_false_iff, bne_eq_false_iff_eq, reduceCtorEq] at h))
    · obtain ⟨x, hx⟩ : ∃ x, l.getD k default = x := ⟨_, rfl⟩
      have hst := take_snocE (by omega) hx
      have hr := splitG_snoc false x (l.take k) lowM
      have hq := splitG_snoc true x (l.take k) lowM
      rw [← hst] at hr hq
      have hf : (l.take (k + 1)).foldl markU lowM = markU ((l.take k).foldl markU lowM) x := by rw [hst, List.foldl_append]; rfl
      obtain ⟨mk, tm, ky, rt, vl⟩ := x
      have b1 : (splitG false lowM (l.take k)).length ≤ 1000 := Nat.le_trans (splitG_len _ _ _) (by simp; omega)
      have b2 : (splitG true lowM (l.take k)).length ≤ 1000 := Nat.le_trans (splitG_len _ _ _) (by simp; omega)
      generalize (l.take k).foldl markU lowM = mark at *
      generalize splitG false lowM (l.take k) = rs at *
      generalize splitG true lowM (l.take k) = ls at *
      iterate 9 (any_goals (first | (refine aops_cons (fun K' h' => ?_); simp only [go_sem, Nat.reduceLT, Nat.reduceLeDiff, Nat.reduceEqDiff, reduceIte, Nat.reduceAdd, Nat.reduceMul, Nat.reduceSub, Int.reduceLT, Int.reduceLE, Int.reduceToNat, Int.reduceNeg, reduceCtorEq, Ev.cells, Rcd.cells, aopG, beq_self_eq_true, hx, Ev.cells]; (try simp (disch := omega) only [wrap_id, getD_map_in, Int.toNat_natCast, Ev.cells, Rcd.cells, aopG, beq_self_eq_true, hx, Ev.cells]); (repeat (refine And.intro (by (omega)) ?_)); refine h' _ ?_; clear h' K') | (refine aops_nil (hK _ ?_); clear hK K gs; try simp only [aThen, aBlock]) | (refine AWp.sreg  dd31 rfl (fun gs K hgs hK => ?_); clear hgs) | refine AWp.seq ?_ | refine AWp.block ?_ | (refine AWp.skip ?_; try simp only [aThen, aBlock])))
      try simp only [aThen]
      refine AWp.seq ?_
      simp only [ASt.drop, dropE, keepR, Nat.reduceEqDiff, reduceIte, Bool.or_false, Bool.false_eq_true, Nat.beq, List.any_nil, List.any_cons, cond_true, cond_false]
      refine AWp.inlineF (cs := [.bp 0 0]) (m := 13) [_, _] [[], []] _ [[]] rfl Tryz.func66 rfl (by kernel_rfl) rfl rfl rfl (by simp [dok]) ?_
      generalize gslot _ = gs
      iterate 2 (refine aops_cons (fun K' h' => ?_); simp only [go_sem, Nat.reduceLT, Nat.reduceLeDiff, Nat.reduceEqDiff, reduceIte, Nat.reduceAdd, Nat.reduceMul, Nat.reduceSub, Int.reduceLT, Int.reduceLE, Int.reduceToNat, Int.reduceNeg, reduceCtorEq, Ev.cells, Rcd.cells, aopG, beq_self_eq_true]; (try simp (disch := omega) only [wrap_id, getD_map_in, Int.toNat_natCast, Ev.cells, Rcd.cells, aopG, beq_self_eq_true]); (repeat (refine And.intro (by (omega)) ?_)); refine h' _ ?_; clear h' K')
      refine aops_nil ?_
      refine ⟨trivial, rfl, ⟨trivial, trivial⟩, rfl, fun w0 S0 G hm => ?_⟩
      simp only [go_sem, Nat.reduceLT, Nat.reduceLeDiff, Nat.reduceEqDiff, reduceIte, Nat.reduceAdd, Nat.reduceMul, Nat.reduceSub, Int.reduceLT, Int.reduceLE, Int.reduceToNat, Int.reduceNeg, reduceCtorEq, Ev.cells, Rcd.cells, aopG, beq_self_eq_true]
      cases mk
      all_goals
        repeat (any_goals (first | (refine aops_cons (fun K' h' => ?_); simp only [go_sem, Nat.reduceLT, Nat.reduceLeDiff, Nat.reduceEqDiff, reduceIte, Nat.reduceAdd, Nat.reduceMul, Nat.reduceSub, Int.reduceLT, Int.reduceLE, Int.reduceToNat, Int.reduceNeg, reduceCtorEq, Ev.cells, Rcd.cells, aopG, beq_self_eq_true]; (try simp (disch := omega) only [wrap_id, getD_map_in, Int.toNat_natCast, Ev.cells, Rcd.cells, aopG, beq_self_eq_true]); (repeat (refine And.intro (by (omega)) ?_)); refine h' _ ?_; clear h' K') | (refine aops_nil (hK _ ?_); clear hK K gs; try simp only [aThen, aBlock]) | (refine J.AWp.sreg  dd66 rfl (fun gs K hgs hK => ?_); clear hgs) | refine J.AWp.seq ?_ | (refine J.AWp.ret ?_; try simp only [aThen, aBlock]) | (refine J.AWp.skip ?_; try simp only [aThen, aBlock]) | (refine J.AWp.reg  dd66 rfl (fun gs K hgs hK => ?_); clear hgs) | (refine J.AWp.cond rfl (fun h => ?_) (fun h => ?_) <;> (try simp only [decide_eq_true_eq, decide_eq_false_iff_not, beq_iff_eq, bne_iff_ne, ne_eq, Bool.not_eq_true', Bool.not_eq_false', beq_eq_false_iff_ne, Bool.true_eq_false, Bool.false_eq_true, Int.not_le, Int.not_lt, Bool.and_eq_true, Bool.and_eq_false_iff, Bool.or_eq_true, Bool.or_eq_false_iff, bne_eq_false_iff_eq, reduceCtorEq] at h))))
      all_goals refine ⟨.inr trivial, ?_⟩
      all_goals clear hm G S0 w0
      all_goals simp only [ASt.back, backE, ASt.put, eput, eget, Nat.reduceAdd, Nat.reduceSub, Nat.reduceLeDiff, reduceIte, Nat.reduceEqDiff, ASt.drop, dropE, keepR, Nat.beq, List.any_nil, List.any_cons, cond_true, cond_false, Bool.false_eq_true, Bool.or_false, Bool.or_true, Bool.true_or, Bool.or_self]
      all_goals
        (refine aops_cons (fun K' h' => ?_); simp only [go_sem, Nat.reduceLT, Nat.reduceLeDiff, Nat.reduceEqDiff, reduceIte, Nat.reduceAdd, Nat.reduceMul, Nat.reduceSub, Int.reduceLT, Int.reduceLE, Int.reduceToNat, Int.reduceNeg, reduceCtorEq, Ev.cells, Rcd.cells, aopG, beq_self_eq_true]; (try simp (disch := omega) only [wrap_id, getD_map_in, Int.toNat_natCast, Ev.cells, Rcd.cells, aopG, beq_self_eq_true]); (repeat (refine And.intro (by (omega)) ?_)); refine h' _ ?_; clear h' K')
      all_goals refine aops_nil ?_
      all_goals try simp only [aThen]
      repeat (any_goals (first | (refine aops_cons (fun K' h' => ?_); simp only [go_sem, Nat.reduceLT, Nat.reduceLeDiff, Nat.reduceEqDiff, reduceIte, Nat.reduceAdd, Nat.reduceMul, Nat.reduceSub, Int.reduceLT, Int.reduceLE, Int.reduceToNat, Int.reduceNeg, reduceCtorEq, Ev.cells, Rcd.cells, aopG, beq_self_eq_true]; (try simp (disch := omega) only [wrap_id, getD_map_in, Int.toNat_natCast, Ev.cells, Rcd.cells, aopG, beq_self_eq_true]); (repeat (refine And.intro (by (omega)) ?_)); refine h' _ ?_; clear h' K') | (refine aops_nil (hK _ ?_); clear hK K gs; try simp only [aThen, aBlock]) | (refine AWp.sreg  dd31 rfl (fun gs K hgs hK => ?_); clear hgs) | refine AWp.block ?_ | (refine AWp.skip ?_; try simp only [aThen, aBlock]) | (refine AWp.reg  dd31 rfl (fun gs K hgs hK => ?_); clear hgs) | (refine AWp.cond rfl (fun h => ?_) (fun h => ?_) <;> (try simp only [decide_eq_true_eq, decide_eq_false_iff_not, beq_iff_eq, bne_iff_ne, ne_eq, Bool.not_eq_true', Bool.not_eq_false', beq_eq_false_iff_ne, Bool.true_eq_false, Bool.false_eq_true, Int.not_le, Int.not_lt, Bool.and_eq_true, Bool.and_eq_false_iff, Bool.or_eq_true, Bool.or_eq_false_iff, bne_eq_false_iff_eq, reduceCtorEq] at h))))
      all_goals try rw [hf, hr, hq]
      all_goals try clear hf hr hq hst gs
      · rw [show oneL false mark ⟨false, tm, ky, rt, vl⟩ = [] by simp [oneL, h], show oneL true mark ⟨false, tm, ky, rt, vl⟩ = [⟨ky, rt, vl⟩] by simp [oneL, h], show markU mark ⟨false, tm, ky, rt, vl⟩ = mark from rfl]
        refine ⟨by omega, Wk.ofCut 1 2 rfl (by simp [ASt.drop, List.take_of_length_le, Rcd.cells]) ?_⟩
        simp only [List.append_nil, List.length_append, List.length_cons, List.length_nil, Nat.zero_add]
        first
          | (simp [subE, eget, ASt.drop, dropE, keepR, lowE, AV.lowB, lowL, Nat.blt, Nat.ble]; done)
          | (simp [subE, eget, ASt.drop, dropE, keepR, lowE, AV.lowB, lowL, Nat.blt, Nat.ble]; omega)
      · rw [show oneL false mark ⟨false, tm, ky, rt, vl⟩ = [⟨ky, rt, vl⟩] by simp [oneL]; omega, show oneL true mark ⟨false, tm, ky, rt, vl⟩ = [] by simp [oneL]; omega, show markU mark ⟨false, tm, ky, rt, vl⟩ = mark from rfl]
        refine ⟨by omega, Wk.ofCut 1 2 rfl (by simp [ASt.drop, List.take_of_length_le, Rcd.cells]) ?_⟩
        simp only [List.append_nil, List.length_append, List.length_cons, List.length_nil, Nat.zero_add]
        first
          | (simp [subE, eget, ASt.drop, dropE, keepR, lowE, AV.lowB, lowL, Nat.blt, Nat.ble]; done)
          | (simp [subE, eget, ASt.drop, dropE, keepR, lowE, AV.lowB, lowL, Nat.blt, Nat.ble]; omega)
      · rw [show oneL false mark ⟨true, tm, ky, rt, vl⟩ = [] from rfl, show oneL true mark ⟨true, tm, ky, rt, vl⟩ = [] from rfl, show markU mark ⟨true, tm, ky, rt, vl⟩ = if tm > mark then tm else mark by unfold markU; simp only [if_true]; omega]
        refine ⟨by omega, Wk.ofCut 1 2 rfl (by simp [ASt.drop]) ?_⟩
        simp only [List.append_nil]
        first
          | (simp [subE, eget, ASt.drop, dropE, keepR, lowE, AV.lowB, lowL, Nat.blt, Nat.ble]; done)
          | (simp [subE, eget, ASt.drop, dropE, keepR, lowE, AV.lowB, lowL, Nat.blt, Nat.ble]; omega)
    · have hk2 : k = l.length := by omega
      subst hk2
      rw [List.take_of_length_le (Nat.le_refl _)]
      repeat (any_goals (first | (refine aops_cons (fun K' h' => ?_); simp only [go_sem, Nat.reduceLT, Nat.reduceLeDiff, Nat.reduceEqDiff, reduceIte, Nat.reduceAdd, Nat.reduceMul, Nat.reduceSub, Int.reduceLT, Int.reduceLE, Int.reduceToNat, Int.reduceNeg, reduceCtorEq, Ev.cells, Rcd.cells, aopG, beq_self_eq_true]; (try simp (disch := omega) only [wrap_id, getD_map_in, Int.toNat_natCast, Ev.cells, Rcd.cells, aopG, beq_self_eq_true]); (repeat (refine And.intro (by (omega)) ?_)); refine h' _ ?_; clear h' K') | (refine aops_nil (hK _ ?_); clear hK K gs; try simp only [aThen, aBlock]) | (refine AWp.sreg  dd31 rfl (fun gs K hgs hK => ?_); clear hgs) | (refine AWp.ret ?_; try simp only [aThen, aBlock]) | (refine AWp.exit ?_; try simp only [aThen, aBlock, Nat.reduceEqDiff, reduceIte])))
      simp only [Out, outA, outL, resA, go_sem, Nat.reduceLT, Nat.reduceLeDiff, Nat.reduceEqDiff, reduceIte, Nat.reduceAdd, Nat.reduceMul, Nat.reduceSub, Int.reduceLT, Int.reduceLE, Int.reduceToNat, Int.reduceNeg, reduceCtorEq]
      exact AVle.tup ⟨AVle.of_eq (by simp [List.take_of_length_le]), AVle.of_eq (by simp [List.take_of_length_le]), AVle.refl _, trivial⟩
end Go.Proofs.YtjeehkdepoiegaaGreat
