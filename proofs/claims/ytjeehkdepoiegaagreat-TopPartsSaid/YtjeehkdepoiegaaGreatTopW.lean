/-
  The walks over what is told of nodes: Parts, tops.
-/
import Derived.Test.YtjeehkdepoiegaaGreatPlnM
import Derived.Test.YtjeehkdepoiegaaGreatPopX
namespace Go.Proofs.YtjeehkdepoiegaaGreat
open Go.AL Go.RowKit
set_option linter.unusedSimpArgs false
set_option linter.unusedVariables false
set_option maxRecDepth 10000
set_option maxHeartbeats 4000000
def dd102 : Nat → List (List Nat)
  | 0 => [[], [2], [3]]
  | 1 => [[], [], [5], [6], [], [8], [7, 9], [10]]
  | 2 => [[0, 4], [], []]
  | 3 => [[4], [], [12], [13], [], [15], [14, 16], [17]]
  | 4 => [[0, 11], [], []]
  | 5 => [[11], [], [19], [20], [0], [22], [21, 23], [24]]
  | 6 => [[18], [], []]
  | 7 => [[18], [], []]
  | _ => []
theorem parts_c (k : Int) : ACall Tryz.prog 102 [.lit (.int .u8 k)] (.tup [.lit (.int .i64 (partsN k)), .lit (.int .i64 (partsE k))]) := by
  refine acall_of (n := 25) (rs := [.tmp 2, .tmp 3]) Tryz.func102 rfl (by kernel_rfl) rfl rfl rfl ?_; simp only [argsE, Nat.reduceAdd]
  repeat (any_goals (first | (refine aops_cons (fun K' h' => ?_); simp only [go_sem, Nat.reduceLT, Nat.reduceLeDiff, Nat.reduceEqDiff, reduceIte, Nat.reduceAdd, Nat.reduceMul, Nat.reduceSub, Int.reduceLT, Int.reduceLE, Int.reduceToNat, Int.reduceNeg, reduceCtorEq, hgs, Node.cells, Top.cells]; (try simp (disch := omega) only [wrap_id, getD_map_in, Int.toNat_natCast, Node.cells, Top.cells]); (repeat (refine And.intro (by (omega)) ?_)); refine h' _ ?_; clear h' K') | (refine aops_nil (hK _ ?_); clear hK K hgs gs; try simp only [aThen, aBlock]) | ((refine AWp.sreg (id := 1) dd102 rfl (fun gs K hgs hK => ?_)); replace hgs : gs 2 = some 7 := hgs 2) | ((refine AWp.sreg (id := 3) dd102 rfl (fun gs K hgs hK => ?_)); replace hgs : gs 2 = some 14 := hgs 2) | ((refine AWp.sreg (id := 5) dd102 rfl (fun gs K hgs hK => ?_)); replace hgs : gs 2 = some 21 := hgs 2) | (refine AWp.sreg  dd102 rfl (fun gs K hgs hK => ?_); replace hgs : Nat.succ 0 = 1 := rfl) | refine AWp.seq ?_ | refine AWp.block ?_ | (refine AWp.ret ?_; try simp only [aThen, aBlock]) | (refine AWp.skip ?_; try simp only [aThen, aBlock]) | (refine AWp.cond rfl (fun h => ?_) (fun h => ?_) <;> (try simp only [decide_eq_true_eq, decide_eq_false_iff_not, beq_iff_eq, bne_iff_ne, ne_eq, Bool.not_eq_true', Bool.not_eq_false', beq_eq_false_iff_ne, Bool.true_eq_false, Bool.false_eq_true, Int.not_le, Int.not_lt, Bool.and_eq_true, Bool.and_eq_false_iff, Bool.or_eq_true, Bool.or_eq_false_iff, bne_eq_false_iff_eq, reduceCtorEq] at h))))
  all_goals simp only [Out, outA, outL, resA, go_sem, Nat.reduceLT, Nat.reduceLeDiff, Nat.reduceEqDiff, reduceIte, Nat.reduceAdd, Nat.reduceMul, Nat.reduceSub, Int.reduceLT, Int.reduceLE, Int.reduceToNat, Int.reduceNeg, reduceCtorEq]
  all_goals
    refine AVle.of_eq ?_
    unfold partsN partsE
    first
      | (rw [if_pos (by omega), if_pos (by omega)]; done)
      | (rw [if_neg (by omega), if_pos (by omega), if_pos (by omega)]; done)
      | (rw [if_neg (by omega), if_neg (by omega), if_pos (by omega), if_pos (by omega)]; done)
      | (rw [if_neg (by omega), if_neg (by omega), if_neg (by omega), if_neg (by omega)]; done)
def topsR (l : List Node) : AV :=
  match topsF l with
  | some (s, a) => .tup [topsV a, .lit (.bool (s.length == 1))]
  | none => .tup [.any, .lit (.bool false)]
def dd99 : Nat → List (List Nat)
  | 0 => [[], [2], [3]]
  | 1 => [[], [], []]
  | 2 => [[], [0], [], []]
  | 3 => [[], []]
  | 4 => [[18], [], [], [20], [], [19], [21]]
  | 5 => [[], [], [23], [24], [25], [], [22], [26], [27]]
  | 6 => [[], [9], [28], [29], [], [], [32], [31, 33], [30, 34]]
  | 7 => [[5, 6, 7, 8, 15, 16, 17, 35], [4], [36], []]
  | 8 => [[35], [10]]
  | 9 => [[], [5], [8], [38, 39], [40], [], [37], [41], [42]]
  | 10 => [[], [], [43], [], [45], [46], [47], [44, 48], [], [49]]
  | 11 => [[], [6], [50], [], [51]]
  | 12 => [[], [10], [], []]
  | 13 => [[], []]
  | 14 => [[55], [], [], [57], [], [56], [58]]
  | 15 => [[], [13], [59]]
  | 16 => [[60], [], [61], [], [62, 63]]
  | 17 => [[60], [], [64], [], [65, 66]]
  | 18 => [[], [], [67], [], [69], [68, 70], [], [71, 72]]
  | 19 => [[], [], [73], [14], [75], [76], [74, 77], [], [78, 79]]
  | 20 => [[], [54], [80]]
  | 21 => [[52, 53, 54, 55], [], [81], [82]]
  | 22 => [[83], [], [84], [85], [], [86, 87]]
  | 23 => [[83], [11], [7], [88, 89]]
  | 24 => [[5, 12, 15, 16, 17, 90], [4], [91], []]
  | 25 => [[90], [5], [], [93], [92, 94], [95]]
  | 26 => [[], [4], [12], [97], [96, 98], [99]]
  | 27 => [[], [17], [100]]
  | 28 => [[15, 16, 17, 18], [4], [5], [102], [103], [101], [104]]
  | _ => []
theorem tops_c (l : List Node) (hl : l.length ≤ 1000) : ACall Tryz.prog 99 [nodesV l] (topsR l) := by
  unfold nodesV
  refine acall_of (n := 105) (rs := [.tmp 2, .tmp 3]) Tryz.func99 rfl (by kernel_rfl) rfl rfl rfl ?_; simp only [argsE, Nat.reduceAdd]
  repeat (any_goals (first | (refine aops_cons (fun K' h' => ?_); simp only [go_sem, Nat.reduceLT, Nat.reduceLeDiff, Nat.reduceEqDiff, reduceIte, Nat.reduceAdd, Nat.reduceMul, Nat.reduceSub, Int.reduceLT, Int.reduceLE, Int.reduceToNat, Int.reduceNeg, reduceCtorEq, hgs, Node.cells, Top.cells]; (try simp (disch := omega) only [wrap_id, getD_map_in, Int.toNat_natCast, Node.cells, Top.cells]); (repeat (refine And.intro (by (omega)) ?_)); refine h' _ ?_; clear h' K') | (refine aops_nil (hK _ ?_); clear hK K hgs gs; try simp only [aThen, aBlock]) | (refine AWp.sreg  dd99 rfl (fun gs K hgs hK => ?_); replace hgs : Nat.succ 0 = 1 := rfl) | refine AWp.seq ?_ | refine AWp.block ?_))
  refine AWp.loop (I := fun x : Nat × List Top × List Top => x.1 ≤ l.length ∧ topsF (l.take x.1) = some (x.2.1, x.2.2) ∧ TopsB x.1 x.2.1 x.2.2) (fun x => ⟨[(4, .own 0 3 0 x.2.2.length), (5, .own 1 3 0 x.2.1.length), (15, .ro 5 (l.map Node.cells)), (16, .lit (.int .i64 (l.length : Int))), (17, .lit (.int .i64 (x.1 : Int)))], [], [some ⟨176, 3, x.2.2.map Top.cells⟩, some ⟨176, 3, x.2.1.map Top.cells⟩]⟩) (fun x => l.length - x.1) (0, [], []) ?_ ?_ ?_
  · exact ⟨by simp, by simp [topsF], ⟨rfl, by simp, by simp, by simp⟩⟩
  · refine (Wk.nilOwn 4 176 3 rfl (by simp)).trans ((Wk.nilOwn 5 176 3 rfl (by simp)).trans (Wk.of rfl rfl ?_))
    simp [ASt.nilOwn, eput, subE, eget, ASt.drop]
  · rintro ⟨k, s, a⟩ ⟨hk, hf, hB⟩
    simp only at hk hf hB ⊢
    have hal := hB.al
    have hsl := hB.sl
    obtain ⟨x, hx⟩ : ∃ x, l.getD k default = x := ⟨_, rfl⟩
    obtain ⟨kd, nn, xa, xb, xp⟩ := x
    have hP := parts_c kd
    have hstop : topStep (s, a) (l.getD k default) = none → k < l.length → topsF l = none := fun h1 h2 => topsF_stop hf h2 h1
    have hnext : ∀ sd, topStep (s, a) (l.getD k default) = some sd → k < l.length → topsF (l.take (k + 1)) = some sd := fun sd h1 h2 => by rw [topsF_next hf h2, h1]
    rw [hx] at hstop hnext
    by_cases hkl : ¬ k < l.length
    · have hke : k = l.length := by omega
      have hr : topsR l = .tup [topsV a, .lit (.bool (s.length == 1))] := by
        unfold topsR
        rw [hke, List.take_length] at hf
        rw [hf]
      repeat (any_goals (first | (refine aops_cons (fun K' h' => ?_); simp only [go_sem, Nat.reduceLT, Nat.reduceLeDiff, Nat.reduceEqDiff, reduceIte, Nat.reduceAdd, Nat.reduceMul, Nat.reduceSub, Int.reduceLT, Int.reduceLE, Int.reduceToNat, Int.reduceNeg, reduceCtorEq, hgs, Node.cells, Top.cells]; (try simp (disch := omega) only [wrap_id, getD_map_in, Int.toNat_natCast, Node.cells, Top.cells]); (repeat (refine And.intro (by (omega)) ?_)); refine h' _ ?_; clear h' K') | (refine aops_nil (hK _ ?_); clear hK K hgs gs; try simp only [aThen, aBlock]) | (refine AWp.sreg  dd99 rfl (fun gs K hgs hK => ?_); replace hgs : Nat.succ 0 = 1 := rfl) | refine AWp.seq ?_ | (refine AWp.ret ?_; try simp only [aThen, aBlock]) | (refine AWp.exit ?_; try simp only [aThen, aBlock, Nat.reduceEqDiff, reduceIte]) | (refine AWp.cond rfl (fun h => ?_) (fun h => ?_) <;> (try simp only [decide_eq_true_eq, decide_eq_false_iff_not, beq_iff_eq, bne_iff_ne, ne_eq, Bool.not_eq_true', Bool.not_eq_false', beq_eq_false_iff_ne, Bool.true_eq_false, Bool.false_eq_true, Int.not_le, Int.not_lt, Bool.and_eq_true, Bool.and_eq_false_iff, Bool.or_eq_true, Bool.or_eq_false_iff, bne_eq_false_iff_eq, reduceCtorEq] at h) <;> (try first | (exfalso; omega)))))
      simp only [Out, outA, outL, resA, go_sem, Nat.reduceLT, Nat.reduceLeDiff, Nat.reduceEqDiff, reduceIte, Nat.reduceAdd, Nat.reduceMul, Nat.reduceSub, Int.reduceLT, Int.reduceLE, Int.reduceToNat, Int.reduceNeg, reduceCtorEq]
      rw [hr]
      refine AVle.of_eq ?_
      have e : ((s.length : Int) == 1) = (s.length == 1) := by rw [Bool.eq_iff_iff]; simp; omega
      simp [topsV, e, List.take_of_length_le]
    have hkl : k < l.length := by omega
    have hno : topStep (s, a) ⟨kd, nn, xa, xb, xp⟩ = none → topsR l = .tup [.any, .lit (.bool false)] := fun h => by
      unfold topsR; rw [hstop h hkl]
    by_cases hbad : kd < 1 ∨ 19 < kd
    · have hz := hno (by unfold topStep; simp only; rw [if_pos hbad])
      rw [show partsE kd = 2 by unfold partsE; rw [if_neg (by omega)]] at hP
      repeat (any_goals (first | (refine aops_cons (fun K' h' => ?_); simp only [go_sem, Nat.reduceLT, Nat.reduceLeDiff, Nat.reduceEqDiff, reduceIte, Nat.reduceAdd, Nat.reduceMul, Nat.reduceSub, Int.reduceLT, Int.reduceLE, Int.reduceToNat, Int.reduceNeg, reduceCtorEq, hgs, Node.cells, Top.cells, hx]; (try ((refine ⟨_, hP, ?_⟩); (try simp only [go_sem, Nat.reduceLT, Nat.reduceLeDiff, Nat.reduceEqDiff, reduceIte, Nat.reduceAdd, Nat.reduceMul, Nat.reduceSub, Int.reduceLT, Int.reduceLE, Int.reduceToNat, Int.reduceNeg, reduceCtorEq, hgs, Node.cells, Top.cells, hx]))); (try simp (disch := omega) only [wrap_id, getD_map_in, Int.toNat_natCast, Node.cells, Top.cells, hx]); (repeat (refine And.intro (by (omega)) ?_)); refine h' _ ?_; clear h' K') | (refine aops_nil (hK _ ?_); clear hK K hgs gs; try simp only [aThen, aBlock]) | ((refine AWp.sreg (id := 6) dd99 rfl (fun gs K hgs hK => ?_)); replace hgs : gs 2 = some 30 := hgs 2) | (refine AWp.sreg  dd99 rfl (fun gs K hgs hK => ?_); replace hgs : Nat.succ 0 = 1 := rfl) | refine AWp.seq ?_ | refine AWp.block ?_ | (refine AWp.ret ?_; try simp only [aThen, aBlock]) | (refine AWp.skip ?_; try simp only [aThen, aBlock]) | (refine AWp.cond rfl (fun h => ?_) (fun h => ?_) <;> (try simp only [decide_eq_true_eq, decide_eq_false_iff_not, beq_iff_eq, bne_iff_ne, ne_eq, Bool.not_eq_true', Bool.not_eq_false', beq_eq_false_iff_ne, Bool.true_eq_false, Bool.false_eq_true, Int.not_le, Int.not_lt, Bool.and_eq_true, Bool.and_eq_false_iff, Bool.or_eq_true, Bool.or_eq_false_iff, bne_eq_false_iff_eq, reduceCtorEq] at h) <;> (try first | (exfalso; omega)))))
      simp only [Out, outA, outL, resA, go_sem, Nat.reduceLT, Nat.reduceLeDiff, Nat.reduceEqDiff, reduceIte, Nat.reduceAdd, Nat.reduceMul, Nat.reduceSub, Int.reduceLT, Int.reduceLE, Int.reduceToNat, Int.reduceNeg, reduceCtorEq]
      rw [hz]
      exact AVle.tup ⟨AVle.any _, AVle.refl _, trivial⟩
    · rw [show partsE kd = 0 by unfold partsE; rw [if_pos (by omega)]] at hP
      by_cases h4 : kd ≤ 4
      · rw [show partsN kd = 0 by unfold partsN; rw [if_pos (by omega)]] at hP
        have hX : ACallX Tryz.prog 103 [.own 1 3 0 s.length, .lit (.int .i64 0)] (.tup [.own 1 3 0 s.length, .own 1 3 s.length 0]) := by simpa using pop_x 1 0 s.length 0 (by omega)
        repeat (any_goals (first | (refine aops_cons (fun K' h' => ?_); simp only [go_sem, Nat.reduceLT, Nat.reduceLeDiff, Nat.reduceEqDiff, reduceIte, Nat.reduceAdd, Nat.reduceMul, Nat.reduceSub, Int.reduceLT, Int.reduceLE, Int.reduceToNat, Int.reduceNeg, reduceCtorEq, hgs, Node.cells, Top.cells, hx]; (try ((refine ⟨_, hP, ?_⟩); (try simp only [go_sem, Nat.reduceLT, Nat.reduceLeDiff, Nat.reduceEqDiff, reduceIte, Nat.reduceAdd, Nat.reduceMul, Nat.reduceSub, Int.reduceLT, Int.reduceLE, Int.reduceToNat, Int.reduceNeg, reduceCtorEq, hgs, Node.cells, Top.cells, hx]))); (try simp (disch := omega) only [wrap_id, getD_map_in, Int.toNat_natCast, Node.cells, Top.cells, hx]); (repeat (refine And.intro (by (omega)) ?_)); refine h' _ ?_; clear h' K') | (refine aops_nil (hK _ ?_); clear hK K hgs gs; try simp only [aThen, aBlock]) | (refine aops_consX  (fun K' h' => ?_); simp only [go_sem, Nat.reduceLT, Nat.reduceLeDiff, Nat.reduceEqDiff, reduceIte, Nat.reduceAdd, Nat.reduceMul, Nat.reduceSub, Int.reduceLT, Int.reduceLE, Int.reduceToNat, Int.reduceNeg, reduceCtorEq, hgs, Node.cells, Top.cells, hx]; refine ⟨_, hX, ?_⟩; (try simp only [go_sem, Nat.reduceLT, Nat.reduceLeDiff, Nat.reduceEqDiff, reduceIte, Nat.reduceAdd, Nat.reduceMul, Nat.reduceSub, Int.reduceLT, Int.reduceLE, Int.reduceToNat, Int.reduceNeg, reduceCtorEq, hgs, Node.cells, Top.cells, hx]); (repeat (refine And.intro (by (omega)) ?_)); refine h' _ ?_; clear h' K') | ((refine AWp.sreg (id := 6) dd99 rfl (fun gs K hgs hK => ?_)); replace hgs : gs 2 = some 30 := hgs 2) | (refine AWp.sreg  dd99 rfl (fun gs K hgs hK => ?_); replace hgs : Nat.succ 0 = 1 := rfl) | refine AWp.seq ?_ | refine AWp.block ?_ | (refine AWp.skip ?_; try simp only [aThen, aBlock]) | (refine AWp.cond rfl (fun h => ?_) (fun h => ?_) <;> (try simp only [decide_eq_true_eq, decide_eq_false_iff_not, beq_iff_eq, bne_iff_ne, ne_eq, Bool.not_eq_true', Bool.not_eq_false', beq_eq_false_iff_ne, Bool.true_eq_false, Bool.false_eq_true, Int.not_le, Int.not_lt, Bool.and_eq_true, Bool.and_eq_false_iff, Bool.or_eq_true, Bool.or_eq_false_iff, bne_eq_false_iff_eq, reduceCtorEq] at h) <;> (try first | (exfalso; omega) | (exfalso; revert h; simp; done)))))
        refine AWp.loopR 1 ?_
        repeat (any_goals (first | (refine aops_cons (fun K' h' => ?_); simp only [go_sem, Nat.reduceLT, Nat.reduceLeDiff, Nat.reduceEqDiff, reduceIte, Nat.reduceAdd, Nat.reduceMul, Nat.reduceSub, Int.reduceLT, Int.reduceLE, Int.reduceToNat, Int.reduceNeg, reduceCtorEq, hgs, Node.cells, Top.cells, hx]; (try simp (disch := omega) only [wrap_id, getD_map_in, Int.toNat_natCast, Node.cells, Top.cells, hx]); (repeat (refine And.intro (by (omega)) ?_)); refine h' _ ?_; clear h' K') | (refine aops_nil (hK _ ?_); clear hK K hgs gs; try simp only [aThen, aBlock]) | (refine AWp.sreg  dd99 rfl (fun gs K hgs hK => ?_); replace hgs : Nat.succ 0 = 1 := rfl) | refine AWp.seq ?_ | (refine AWp.ret ?_; try simp only [aThen, aBlock]) | (refine AWp.skip ?_; try simp only [aThen, aBlock]) | (refine AWp.exit ?_; try simp only [aThen, aBlock, Nat.reduceEqDiff, reduceIte]) | (refine AWp.reg  dd99 rfl (fun gs K hgs hK => ?_); replace hgs : Nat.succ 0 = 1 := rfl) | (refine AWp.cond rfl (fun h => ?_) (fun h => ?_) <;> (try simp only [decide_eq_true_eq, decide_eq_false_iff_not, beq_iff_eq, bne_iff_ne, ne_eq, Bool.not_eq_true', Bool.not_eq_false', beq_eq_false_iff_ne, Bool.true_eq_false, Bool.false_eq_true, Int.not_le, Int.not_lt, Bool.and_eq_true, Bool.and_eq_false_iff, Bool.or_eq_true, Bool.or_eq_false_iff, bne_eq_false_iff_eq, reduceCtorEq] at h))))
        all_goals
          rename_i hkd
          have hq := own_eq kd nn xa xb xp 0 0
          first | rw [if_pos hkd] at hq | rw [if_neg hkd] at hq
          first
            | (have hz := hno (by
                 unfold topStep; simp only; rw [if_neg hbad, if_pos h4, if_neg (by rw [hq]; clear hq hP hX hno hnext hstop hB hf hx; grind)])
               simp only [Out, outA, outL, resA, go_sem, Nat.reduceLT, Nat.reduceLeDiff, Nat.reduceEqDiff, reduceIte, Nat.reduceAdd, Nat.reduceMul, Nat.reduceSub, Int.reduceLT, Int.reduceLE, Int.reduceToNat, Int.reduceNeg, reduceCtorEq]
               rw [hz]
               exact AVle.tup ⟨AVle.any _, AVle.refl _, trivial⟩)
            | (have hs : topStep (s, a) ⟨kd, nn, xa, xb, xp⟩ = some (s ++ [⟨a.length, 1, 1⟩], a ++ [⟨a.length, 1, 1⟩]) := by
                 unfold topStep; simp only; rw [if_neg hbad, if_pos h4, if_pos (hq.2 (by clear hq hP hX hno hnext hstop hB hf hx; grind))]
               refine ⟨(k + 1, _, _), ⟨by show k + 1 ≤ l.length; omega, hnext _ hs hkl, hB.step hs⟩, Wk.ofCut 0 2 rfl ?_ ?_, by show l.length - (k + 1) < l.length - k; omega⟩
               · simp [ASt.drop, hal, List.take_of_length_le, Top.cells]
               · simp [subE, eget, ASt.drop, dropE, keepR, lowE, AV.lowB, lowL, Nat.blt, Nat.ble]
                 all_goals omega)
      · by_cases h6 : kd ≤ 6
        · rw [show partsN kd = 1 by unfold partsN; rw [if_neg (by omega), if_pos (by omega)]] at hP
          by_cases hs1 : s.length < 1
          · have hz := hno (by unfold topStep; simp only; rw [if_neg hbad, if_neg h4, if_pos h6, if_pos hs1])
            repeat (any_goals (first | (refine aops_cons (fun K' h' => ?_); simp only [go_sem, Nat.reduceLT, Nat.reduceLeDiff, Nat.reduceEqDiff, reduceIte, Nat.reduceAdd, Nat.reduceMul, Nat.reduceSub, Int.reduceLT, Int.reduceLE, Int.reduceToNat, Int.reduceNeg, reduceCtorEq, hgs, Node.cells, Top.cells, hx]; (try ((refine ⟨_, hP, ?_⟩); (try simp only [go_sem, Nat.reduceLT, Nat.reduceLeDiff, Nat.reduceEqDiff, reduceIte, Nat.reduceAdd, Nat.reduceMul, Nat.reduceSub, Int.reduceLT, Int.reduceLE, Int.reduceToNat, Int.reduceNeg, reduceCtorEq, hgs, Node.cells, Top.cells, hx]))); (try simp (disch := omega) only [wrap_id, getD_map_in, Int.toNat_natCast, Node.cells, Top.cells, hx]); (repeat (refine And.intro (by (omega)) ?_)); refine h' _ ?_; clear h' K') | (refine aops_nil (hK _ ?_); clear hK K hgs gs; try simp only [aThen, aBlock]) | ((refine AWp.sreg (id := 6) dd99 rfl (fun gs K hgs hK => ?_)); replace hgs : gs 2 = some 30 := hgs 2) | (refine AWp.sreg  dd99 rfl (fun gs K hgs hK => ?_); replace hgs : Nat.succ 0 = 1 := rfl) | refine AWp.seq ?_ | refine AWp.block ?_ | (refine AWp.ret ?_; try simp only [aThen, aBlock]) | (refine AWp.skip ?_; try simp only [aThen, aBlock]) | (refine AWp.cond rfl (fun h => ?_) (fun h => ?_) <;> (try simp only [decide_eq_true_eq, decide_eq_false_iff_not, beq_iff_eq, bne_iff_ne, ne_eq, Bool.not_eq_true', Bool.not_eq_false', beq_eq_false_iff_ne, Bool.true_eq_false, Bool.false_eq_true, Int.not_le, Int.not_lt, Bool.and_eq_true, Bool.and_eq_false_iff, Bool.or_eq_true, Bool.or_eq_false_iff, bne_eq_false_iff_eq, reduceCtorEq] at h) <;> (try first | (exfalso; omega)))))
            simp only [Out, outA, outL, resA, go_sem, Nat.reduceLT, Nat.reduceLeDiff, Nat.reduceEqDiff, reduceIte, Nat.reduceAdd, Nat.reduceMul, Nat.reduceSub, Int.reduceLT, Int.reduceLE, Int.reduceToNat, Int.reduceNeg, reduceCtorEq]
            rw [hz]
            exact AVle.tup ⟨AVle.any _, AVle.refl _, trivial⟩
          · have hX : ACallX Tryz.prog 103 [.own 1 3 0 s.length, .lit (.int .i64 1)] (.tup [.own 1 3 0 (s.length - 1), .own 1 3 (s.length - 1) 1]) := by simpa using pop_x 1 0 s.length 1 (by omega)
            have hpb := hB.get (s.length - 1) (by omega)
            obtain ⟨p, hp⟩ : ∃ p, s.getD (s.length - 1) default = p := ⟨_, rfl⟩
            rw [hp] at hpb
            obtain ⟨pp, ps, pd⟩ := p
            simp only at hpb
            repeat (any_goals (first | (refine aops_cons (fun K' h' => ?_); simp only [go_sem, Nat.reduceLT, Nat.reduceLeDiff, Nat.reduceEqDiff, reduceIte, Nat.reduceAdd, Nat.reduceMul, Nat.reduceSub, Int.reduceLT, Int.reduceLE, Int.reduceToNat, Int.reduceNeg, reduceCtorEq, hgs, Node.cells, Top.cells, hx, hp]; (try ((refine ⟨_, hP, ?_⟩); (try simp only [go_sem, Nat.reduceLT, Nat.reduceLeDiff, Nat.reduceEqDiff, reduceIte, Nat.reduceAdd, Nat.reduceMul, Nat.reduceSub, Int.reduceLT, Int.reduceLE, Int.reduceToNat, Int.reduceNeg, reduceCtorEq, hgs, Node.cells, Top.cells, hx, hp]))); (try simp (disch := omega) only [wrap_id, getD_map_in, Int.toNat_natCast, Node.cells, Top.cells, hx, hp]); (repeat (refine And.intro (by (omega)) ?_)); refine h' _ ?_; clear h' K') | (refine aops_nil (hK _ ?_); clear hK K hgs gs; try simp only [aThen, aBlock]) | (refine aops_consX  (fun K' h' => ?_); simp only [go_sem, Nat.reduceLT, Nat.reduceLeDiff, Nat.reduceEqDiff, reduceIte, Nat.reduceAdd, Nat.reduceMul, Nat.reduceSub, Int.reduceLT, Int.reduceLE, Int.reduceToNat, Int.reduceNeg, reduceCtorEq, hgs, Node.cells, Top.cells, hx, hp]; refine ⟨_, hX, ?_⟩; (try simp only [go_sem, Nat.reduceLT, Nat.reduceLeDiff, Nat.reduceEqDiff, reduceIte, Nat.reduceAdd, Nat.reduceMul, Nat.reduceSub, Int.reduceLT, Int.reduceLE, Int.reduceToNat, Int.reduceNeg, reduceCtorEq, hgs, Node.cells, Top.cells, hx, hp]); (repeat (refine And.intro (by (omega)) ?_)); refine h' _ ?_; clear h' K') | ((refine AWp.sreg (id := 6) dd99 rfl (fun gs K hgs hK => ?_)); replace hgs : gs 2 = some 30 := hgs 2) | (refine AWp.sreg  dd99 rfl (fun gs K hgs hK => ?_); replace hgs : Nat.succ 0 = 1 := rfl) | refine AWp.seq ?_ | refine AWp.block ?_ | (refine AWp.skip ?_; try simp only [aThen, aBlock]) | (refine AWp.cond rfl (fun h => ?_) (fun h => ?_) <;> (try simp only [decide_eq_true_eq, decide_eq_false_iff_not, beq_iff_eq, bne_iff_ne, ne_eq, Bool.not_eq_true', Bool.not_eq_false', beq_eq_false_iff_ne, Bool.true_eq_false, Bool.false_eq_true, Int.not_le, Int.not_lt, Bool.and_eq_true, Bool.and_eq_false_iff, Bool.or_eq_true, Bool.or_eq_false_iff, bne_eq_false_iff_eq, reduceCtorEq] at h) <;> (try first | (exfalso; omega) | (exfalso; revert h; simp; omega)))))
            refine AWp.loopR 2 ?_
            repeat (any_goals (first | (refine aops_cons (fun K' h' => ?_); simp only [go_sem, Nat.reduceLT, Nat.reduceLeDiff, Nat.reduceEqDiff, reduceIte, Nat.reduceAdd, Nat.reduceMul, Nat.reduceSub, Int.reduceLT, Int.reduceLE, Int.reduceToNat, Int.reduceNeg, reduceCtorEq, hgs, Node.cells, Top.cells, hx, hp]; (try simp (disch := omega) only [wrap_id, getD_map_in, Int.toNat_natCast, Node.cells, Top.cells, hx, hp]); (repeat (refine And.intro (by (first | omega | (simp; done))) ?_)); refine h' _ ?_; clear h' K') | (refine aops_nil (hK _ ?_); clear hK K hgs gs; try simp only [aThen, aBlock]) | (refine AWp.sreg  dd99 rfl (fun gs K hgs hK => ?_); replace hgs : Nat.succ 0 = 1 := rfl) | refine AWp.seq ?_ | refine AWp.block ?_ | (refine AWp.ret ?_; try simp only [aThen, aBlock]) | (refine AWp.skip ?_; try simp only [aThen, aBlock]) | (refine AWp.exit ?_; try simp only [aThen, aBlock, Nat.reduceEqDiff, reduceIte]) | (refine AWp.reg  dd99 rfl (fun gs K hgs hK => ?_); replace hgs : Nat.succ 0 = 1 := rfl) | (refine AWp.cond rfl (fun h => ?_) (fun h => ?_) <;> (try simp only [decide_eq_true_eq, decide_eq_false_iff_not, beq_iff_eq, bne_iff_ne, ne_eq, Bool.not_eq_true', Bool.not_eq_false', beq_eq_false_iff_ne, Bool.true_eq_false, Bool.false_eq_true, Int.not_le, Int.not_lt, Bool.and_eq_true, Bool.and_eq_false_iff, Bool.or_eq_true, Bool.or_eq_false_iff, bne_eq_false_iff_eq, reduceCtorEq] at h) <;> (try first | contradiction | (exfalso; omega)))))
            all_goals
              rename_i hkd
              have hq := own_eq kd nn xa xb xp pp 0
              rw [if_neg hkd] at hq
              first
                | (have hz := hno (by
                     unfold topStep; simp only; rw [if_neg hbad, if_neg h4, if_pos h6, if_neg hs1, hp, if_neg (by rw [hq]; clear hq hP hX hno hnext hstop hB hf hx hp; grind)])
                   simp only [Out, outA, outL, resA, go_sem, Nat.reduceLT, Nat.reduceLeDiff, Nat.reduceEqDiff, reduceIte, Nat.reduceAdd, Nat.reduceMul, Nat.reduceSub, Int.reduceLT, Int.reduceLE, Int.reduceToNat, Int.reduceNeg, reduceCtorEq]
                   rw [hz]
                   exact AVle.tup ⟨AVle.any _, AVle.refl _, trivial⟩)
                | (have hs : topStep (s, a) ⟨kd, nn, xa, xb, xp⟩ = some (s.take (s.length - 1) ++ [⟨a.length, 1 + ps, max 1 (pd + 1)⟩], a ++ [⟨a.length, 1 + ps, max 1 (pd + 1)⟩]) := by
                     unfold topStep; simp only; rw [if_neg hbad, if_neg h4, if_pos h6, if_neg hs1, hp, if_pos (hq.2 (by clear hq hP hX hno hnext hstop hB hf hx hp; grind))]
                   refine ⟨(k + 1, _, _), ⟨by show k + 1 ≤ l.length; omega, hnext _ hs hkl, hB.step hs⟩, Wk.ofCut 0 2 rfl ?_ ?_, by show l.length - (k + 1) < l.length - k; omega⟩
                   · simp [ASt.drop, hal, List.take_of_length_le, Top.cells, max_cast, List.map_take]
                     try (repeat' split) <;> omega
                   · simp [subE, eget, ASt.drop, dropE, keepR, lowE, AV.lowB, lowL, Nat.blt, Nat.ble]
                     all_goals omega)
        · rw [show partsN kd = 2 by unfold partsN; rw [if_neg (by omega), if_neg (by omega), if_pos (by omega)]] at hP
          by_cases hs1 : s.length < 2
          · have hz := hno (by unfold topStep; simp only; rw [if_neg hbad, if_neg h4, if_neg h6, if_pos hs1])
            repeat (any_goals (first | (refine aops_cons (fun K' h' => ?_); simp only [go_sem, Nat.reduceLT, Nat.reduceLeDiff, Nat.reduceEqDiff, reduceIte, Nat.reduceAdd, Nat.reduceMul, Nat.reduceSub, Int.reduceLT, Int.reduceLE, Int.reduceToNat, Int.reduceNeg, reduceCtorEq, hgs, Node.cells, Top.cells, hx]; (try ((refine ⟨_, hP, ?_⟩); (try simp only [go_sem, Nat.reduceLT, Nat.reduceLeDiff, Nat.reduceEqDiff, reduceIte, Nat.reduceAdd, Nat.reduceMul, Nat.reduceSub, Int.reduceLT, Int.reduceLE, Int.reduceToNat, Int.reduceNeg, reduceCtorEq, hgs, Node.cells, Top.cells, hx]))); (try simp (disch := omega) only [wrap_id, getD_map_in, Int.toNat_natCast, Node.cells, Top.cells, hx]); (repeat (refine And.intro (by (omega)) ?_)); refine h' _ ?_; clear h' K') | (refine aops_nil (hK _ ?_); clear hK K hgs gs; try simp only [aThen, aBlock]) | ((refine AWp.sreg (id := 6) dd99 rfl (fun gs K hgs hK => ?_)); replace hgs : gs 2 = some 30 := hgs 2) | (refine AWp.sreg  dd99 rfl (fun gs K hgs hK => ?_); replace hgs : Nat.succ 0 = 1 := rfl) | refine AWp.seq ?_ | refine AWp.block ?_ | (refine AWp.ret ?_; try simp only [aThen, aBlock]) | (refine AWp.skip ?_; try simp only [aThen, aBlock]) | (refine AWp.cond rfl (fun h => ?_) (fun h => ?_) <;> (try simp only [decide_eq_true_eq, decide_eq_false_iff_not, beq_iff_eq, bne_iff_ne, ne_eq, Bool.not_eq_true', Bool.not_eq_false', beq_eq_false_iff_ne, Bool.true_eq_false, Bool.false_eq_true, Int.not_le, Int.not_lt, Bool.and_eq_true, Bool.and_eq_false_iff, Bool.or_eq_true, Bool.or_eq_false_iff, bne_eq_false_iff_eq, reduceCtorEq] at h) <;> (try first | (exfalso; omega)))))
            simp only [Out, outA, outL, resA, go_sem, Nat.reduceLT, Nat.reduceLeDiff, Nat.reduceEqDiff, reduceIte, Nat.reduceAdd, Nat.reduceMul, Nat.reduceSub, Int.reduceLT, Int.reduceLE, Int.reduceToNat, Int.reduceNeg, reduceCtorEq]
            rw [hz]
            exact AVle.tup ⟨AVle.any _, AVle.refl _, trivial⟩
          · have hX : ACallX Tryz.prog 103 [.own 1 3 0 s.length, .lit (.int .i64 2)] (.tup [.own 1 3 0 (s.length - 2), .own 1 3 (s.length - 2) 2]) := by simpa using pop_x 1 0 s.length 2 (by omega)
            have hpb := hB.get (s.length - 2) (by omega)
            obtain ⟨p, hp⟩ : ∃ p, s.getD (s.length - 2) default = p := ⟨_, rfl⟩
            rw [hp] at hpb
            obtain ⟨pp, ps, pd⟩ := p
            simp only at hpb
            have hqb := hB.get (s.length - 1) (by omega)
            obtain ⟨q, hq0⟩ : ∃ q, s.getD (s.length - 1) default = q := ⟨_, rfl⟩
            rw [hq0] at hqb
            obtain ⟨qp, qs, qd⟩ := q
            simp only at hqb
            have hq1 : s.getD (s.length - 2 + ((0 : Int) + 1).toNat) default = ⟨qp, qs, qd⟩ := by rw [show s.length - 2 + ((0 : Int) + 1).toNat = s.length - 1 by omega]; exact hq0
            repeat (any_goals (first | (refine aops_cons (fun K' h' => ?_); simp only [go_sem, Nat.reduceLT, Nat.reduceLeDiff, Nat.reduceEqDiff, reduceIte, Nat.reduceAdd, Nat.reduceMul, Nat.reduceSub, Int.reduceLT, Int.reduceLE, Int.reduceToNat, Int.reduceNeg, reduceCtorEq, hgs, Node.cells, Top.cells, hx, hp, hq0, hq1]; (try ((refine ⟨_, hP, ?_⟩); (try simp only [go_sem, Nat.reduceLT, Nat.reduceLeDiff, Nat.reduceEqDiff, reduceIte, Nat.reduceAdd, Nat.reduceMul, Nat.reduceSub, Int.reduceLT, Int.reduceLE, Int.reduceToNat, Int.reduceNeg, reduceCtorEq, hgs, Node.cells, Top.cells, hx, hp, hq0, hq1]))); (try simp (disch := omega) only [wrap_id, getD_map_in, Int.toNat_natCast, Node.cells, Top.cells, hx, hp, hq0, hq1]); (repeat (refine And.intro (by (omega)) ?_)); refine h' _ ?_; clear h' K') | (refine aops_nil (hK _ ?_); clear hK K hgs gs; try simp only [aThen, aBlock]) | (refine aops_consX  (fun K' h' => ?_); simp only [go_sem, Nat.reduceLT, Nat.reduceLeDiff, Nat.reduceEqDiff, reduceIte, Nat.reduceAdd, Nat.reduceMul, Nat.reduceSub, Int.reduceLT, Int.reduceLE, Int.reduceToNat, Int.reduceNeg, reduceCtorEq, hgs, Node.cells, Top.cells, hx, hp, hq0, hq1]; refine ⟨_, hX, ?_⟩; (try simp only [go_sem, Nat.reduceLT, Nat.reduceLeDiff, Nat.reduceEqDiff, reduceIte, Nat.reduceAdd, Nat.reduceMul, Nat.reduceSub, Int.reduceLT, Int.reduceLE, Int.reduceToNat, Int.reduceNeg, reduceCtorEq, hgs, Node.cells, Top.cells, hx, hp, hq0, hq1]); (repeat (refine And.intro (by (omega)) ?_)); refine h' _ ?_; clear h' K') | ((refine AWp.sreg (id := 6) dd99 rfl (fun gs K hgs hK => ?_)); replace hgs : gs 2 = some 30 := hgs 2) | (refine AWp.sreg  dd99 rfl (fun gs K hgs hK => ?_); replace hgs : Nat.succ 0 = 1 := rfl) | refine AWp.seq ?_ | refine AWp.block ?_ | (refine AWp.skip ?_; try simp only [aThen, aBlock]) | (refine AWp.cond rfl (fun h => ?_) (fun h => ?_) <;> (try simp only [decide_eq_true_eq, decide_eq_false_iff_not, beq_iff_eq, bne_iff_ne, ne_eq, Bool.not_eq_true', Bool.not_eq_false', beq_eq_false_iff_ne, Bool.true_eq_false, Bool.false_eq_true, Int.not_le, Int.not_lt, Bool.and_eq_true, Bool.and_eq_false_iff, Bool.or_eq_true, Bool.or_eq_false_iff, bne_eq_false_iff_eq, reduceCtorEq] at h) <;> (try first | (exfalso; omega) | (exfalso; revert h; simp; omega)))))
            refine AWp.loopR 3 ?_
            repeat (any_goals (first | (refine aops_cons (fun K' h' => ?_); simp only [go_sem, Nat.reduceLT, Nat.reduceLeDiff, Nat.reduceEqDiff, reduceIte, Nat.reduceAdd, Nat.reduceMul, Nat.reduceSub, Int.reduceLT, Int.reduceLE, Int.reduceToNat, Int.reduceNeg, reduceCtorEq, hgs, Node.cells, Top.cells, hx, hp, hq0, hq1]; (try simp (disch := omega) only [wrap_id, getD_map_in, Int.toNat_natCast, Node.cells, Top.cells, hx, hp, hq0, hq1]); (repeat (refine And.intro (by (first | omega | (simp; done))) ?_)); refine h' _ ?_; clear h' K') | (refine aops_nil (hK _ ?_); clear hK K hgs gs; try simp only [aThen, aBlock]) | (refine AWp.sreg  dd99 rfl (fun gs K hgs hK => ?_); replace hgs : Nat.succ 0 = 1 := rfl) | refine AWp.seq ?_ | refine AWp.block ?_ | (refine AWp.ret ?_; try simp only [aThen, aBlock]) | (refine AWp.skip ?_; try simp only [aThen, aBlock]) | (refine AWp.exit ?_; try simp only [aThen, aBlock, Nat.reduceEqDiff, reduceIte]) | (refine AWp.reg  dd99 rfl (fun gs K hgs hK => ?_); replace hgs : Nat.succ 0 = 1 := rfl) | (refine AWp.cond rfl (fun h => ?_) (fun h => ?_) <;> (try simp only [decide_eq_true_eq, decide_eq_false_iff_not, beq_iff_eq, bne_iff_ne, ne_eq, Bool.not_eq_true', Bool.not_eq_false', beq_eq_false_iff_ne, Bool.true_eq_false, Bool.false_eq_true, Int.not_le, Int.not_lt, Bool.and_eq_true, Bool.and_eq_false_iff, Bool.or_eq_true, Bool.or_eq_false_iff, bne_eq_false_iff_eq, reduceCtorEq] at h) <;> (try first | contradiction | (exfalso; omega)))))
            all_goals
              rename_i hkd
              have hq := own_eq kd nn xa xb xp pp qp
              rw [if_neg hkd] at hq
              first
                | (have hz := hno (by
                     unfold topStep; simp only; rw [if_neg hbad, if_neg h4, if_neg h6, if_neg hs1, hp, hq0, if_neg (by rw [hq]; clear hq hP hX hno hnext hstop hB hf hx hp hq0 hq1; grind)])
                   simp only [Out, outA, outL, resA, go_sem, Nat.reduceLT, Nat.reduceLeDiff, Nat.reduceEqDiff, reduceIte, Nat.reduceAdd, Nat.reduceMul, Nat.reduceSub, Int.reduceLT, Int.reduceLE, Int.reduceToNat, Int.reduceNeg, reduceCtorEq]
                   rw [hz]
                   exact AVle.tup ⟨AVle.any _, AVle.refl _, trivial⟩)
                | (have hs : topStep (s, a) ⟨kd, nn, xa, xb, xp⟩ = some (s.take (s.length - 2) ++ [⟨a.length, 1 + ps + qs, max (max 1 (pd + 1)) (qd + 1)⟩], a ++ [⟨a.length, 1 + ps + qs, max (max 1 (pd + 1)) (qd + 1)⟩]) := by
                     unfold topStep; simp only; rw [if_neg hbad, if_neg h4, if_neg h6, if_neg hs1, hp, hq0, if_pos (hq.2 (by clear hq hP hX hno hnext hstop hB hf hx hp hq0 hq1; grind))]
                   refine ⟨(k + 1, _, _), ⟨by show k + 1 ≤ l.length; omega, hnext _ hs hkl, hB.step hs⟩, Wk.ofCut 0 2 rfl ?_ ?_, by show l.length - (k + 1) < l.length - k; omega⟩
                   · simp [ASt.drop, hal, List.take_of_length_le, Top.cells, max_cast, List.map_take]
                     try (repeat' split) <;> omega
                   · simp [subE, eget, ASt.drop, dropE, keepR, lowE, AV.lowB, lowL, Nat.blt, Nat.ble]
                     all_goals omega)
end Go.Proofs.YtjeehkdepoiegaaGreat
