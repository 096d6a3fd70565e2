/-
  The walks of the reference of layer 4, over the abstract layer.
-/
import Derived.Test.YtjeehkdepoiegaaGreatFacts
import Derived.Test.YtjeehkdepoiegaaGreatPlnM
namespace Go.Proofs.YtjeehkdepoiegaaGreat
open Go.AL Go.RowKit
set_option linter.unusedSimpArgs false
set_option linter.unusedVariables false
set_option maxRecDepth 4000
set_option maxHeartbeats 4000000
def dd79 : Nat → List (List Nat)
  | 0 => [[], [2]]
  | 1 => [[], [], [3]]
  | 2 => [[0, 4], []]
  | 3 => [[4], [0], [5]]
  | 4 => [[6], []]
  | 5 => [[6], []]
  | _ => []
theorem count_c (k : Int) : ACall Tryz.prog 79 [.lit (.int .u8 k)] (.lit (.int .i64 (countI k))) := by
  unfold countI
  refine acall_of (n := 7) (rs := [.tmp 2]) Tryz.func79 rfl (by kernel_rfl) rfl rfl rfl ?_; simp only [argsE, Nat.reduceAdd]
  repeat (any_goals (first | (refine aops_cons (fun K' h' => ?_); simp only [go_sem, Nat.reduceLT, Nat.reduceLeDiff, Nat.reduceEqDiff, reduceIte, Nat.reduceAdd, Nat.reduceMul, Nat.reduceSub, Int.reduceLT, Int.reduceLE, Int.reduceToNat, Int.reduceNeg, reduceCtorEq, Node.cells]; (try simp (disch := omega) only [wrap_id, getD_map_in, Int.toNat_natCast, Node.cells]); (repeat (refine And.intro (by (omega)) ?_)); refine h' _ ?_; clear h' K') | (refine aops_nil (hK _ ?_); clear hK K gs; try simp only [aThen, aBlock]) | (refine AWp.sreg  dd79 rfl (fun gs K hgs hK => ?_); clear hgs) | refine AWp.seq ?_ | (refine AWp.ret ?_; try simp only [aThen, aBlock]) | (refine AWp.skip ?_; try simp only [aThen, aBlock]) | (refine AWp.cond rfl (fun h => ?_) (fun h => ?_) <;> (try simp only [decide_eq_true_eq, decide_eq_false_iff_not, beq_iff_eq, bne_iff_ne, ne_eq, Bool.not_eq_true', Bool.not_eq_false', beq_eq_false_iff_ne, Bool.true_eq_false, Bool.false_eq_true, Int.not_le, Int.not_lt, Bool.and_eq_true, Bool.and_eq_false_iff, Bool.or_eq_true, Bool.or_eq_false_iff, bne_eq_false_iff_eq, reduceCtorEq] at h))))
  all_goals simp only [Out, outA, outL, resA, go_sem, Nat.reduceLT, Nat.reduceLeDiff, Nat.reduceEqDiff, reduceIte, Nat.reduceAdd, Nat.reduceMul, Nat.reduceSub, Int.reduceLT, Int.reduceLE, Int.reduceToNat, Int.reduceNeg, reduceCtorEq]
  · exact AVle.of_eq (by simp [*])
  · exact AVle.of_eq (by rw [if_neg (by omega), if_pos (by omega)])
  · exact AVle.of_eq (by rw [if_neg (by omega), if_neg (by omega)])
def dd80 : Nat → List (List Nat)
  | 0 => [[], [0], [6]]
  | 1 => [[], [], [7], [8], [9], [], [11], [12], [10, 13], [14], [], [16], [17], [15, 18], [19], [], [21], [22], [23], [], [25], [26], [24, 27], [20, 28], [29], [], [31], [32], [30, 33], [34], [], [36], [37], [35, 38], [39], [], [41], [1], [42, 43], [40, 44], [45], [3], [47], [2], [48, 49], [46, 50], [51]]
  | _ => []
theorem right_c (x : Node) (a b : Int) : ACall Tryz.prog 80 [.agg x.cells, .lit (.int .i64 a), .lit (.int .i64 b)] (.lit (.bool (rightB x a b))) := by
  unfold Node.cells rightB
  refine acall_of (n := 52) (rs := [.tmp 6]) Tryz.func80 rfl (by kernel_rfl) rfl rfl rfl ?_; simp only [argsE, Nat.reduceAdd]
  repeat (any_goals (first | (refine aops_cons (fun K' h' => ?_); simp only [go_sem, Nat.reduceLT, Nat.reduceLeDiff, Nat.reduceEqDiff, reduceIte, Nat.reduceAdd, Nat.reduceMul, Nat.reduceSub, Int.reduceLT, Int.reduceLE, Int.reduceToNat, Int.reduceNeg, reduceCtorEq, hgs, Node.cells]; (try simp (disch := omega) only [wrap_id, getD_map_in, Int.toNat_natCast, Node.cells]); (repeat (refine And.intro (by (omega)) ?_)); refine h' _ ?_; clear h' K') | (refine aops_nil (hK _ ?_); clear hK K hgs gs; try simp only [aThen, aBlock]) | ((refine AWp.sreg (id := 1) dd80 rfl (fun gs K hgs hK => ?_)); replace hgs : gs 3 = some 10 ∧ gs 8 = some 15 ∧ gs 13 = some 20 ∧ gs 17 = some 24 ∧ gs 23 = some 30 ∧ gs 28 = some 35 ∧ gs 33 = some 40 ∧ gs 39 = some 46 := ⟨hgs 3, hgs 8, hgs 13, hgs 17, hgs 23, hgs 28, hgs 33, hgs 39⟩) | (refine AWp.sreg  dd80 rfl (fun gs K hgs hK => ?_); replace hgs : Nat.succ 0 = 1 := rfl) | (refine AWp.ret ?_; try simp only [aThen, aBlock])))
  simp only [Out, outA, outL, resA, go_sem, Nat.reduceLT, Nat.reduceLeDiff, Nat.reduceEqDiff, reduceIte, Nat.reduceAdd, Nat.reduceMul, Nat.reduceSub, Int.reduceLT, Int.reduceLE, Int.reduceToNat, Int.reduceNeg, reduceCtorEq]
  exact AVle.of_eq (by simp)
structure SzI (l : List Node) (x : Nat × List Nat × List Nat) : Prop where
  k : x.1 ≤ l.length
  f : sizesF (l.take x.1) = some (x.2.1, x.2.2)
def sizesR (l : List Node) : AV :=
  match sizesF l with
  | some (s, d) => .tup [natsV s, natsV d, .lit (.bool (decide (0 < l.length) && (s.getD (l.length - 1) default == l.length)))]
  | none => .tup [natsV [], natsV [], .lit (.bool false)]
def dd69 : Nat → List (List Nat)
  | 0 => [[], [2], [3], [4]]
  | 1 => [[], [], []]
  | 2 => [[], []]
  | 3 => [[], [], [], [16], [15, 17]]
  | 4 => [[], [7], [19], [20]]
  | 5 => [[18], [], [], [], []]
  | 6 => [[], [], [], [21, 22], [23], [24], [25], [26]]
  | 7 => [[], [], [27]]
  | 8 => [[8, 11, 28], [], [29], [30]]
  | 9 => [[], [], [31]]
  | 10 => [[0, 5, 6, 7, 9, 10, 12, 13, 32], [], [], []]
  | 11 => [[32], [], [], [], [34, 35], [36], [33, 37], [38]]
  | 12 => [[], [10], [], [], [40, 41], [42], [39, 43], [44]]
  | 13 => [[], [], [], [45, 46], [47], [48], [49]]
  | 14 => [[], [], [50]]
  | 15 => [[], [12], [51]]
  | 16 => [[8, 9, 52], [], [53]]
  | 17 => [[0, 5, 6, 7, 10, 11, 13, 14, 54], [], [], []]
  | 18 => [[54], [], [13], [55], [56]]
  | 19 => [[], [10], [], [], [58, 59], [60], [57, 61], [62]]
  | 20 => [[], [11], [], [14], [64, 65], [66], [67], [63, 68], [69]]
  | 21 => [[12, 13, 14, 28, 52], [], [], [70, 71], [72], [8], [9], [73, 74, 75], [76]]
  | 22 => [[0, 5, 6, 7, 10, 11, 77], [], [], []]
  | 23 => [[77], [5], [10], [79], [78, 80], [81]]
  | 24 => [[], [6], [11], [83], [82, 84], [85]]
  | _ => []
def fo69 : Nat → List Nat
  | 25 => [2, 3, 4]
  | _ => []
theorem sizes_c (l : List Node) (hl : l.length ≤ 1000) : ACall Tryz.prog 69 [nodesV l] (sizesR l) := by
  unfold nodesV
  refine acall_of (n := 102) (rs := [.tmp 2, .tmp 3, .tmp 4]) Tryz.func69 rfl (by kernel_rfl) rfl rfl rfl ?_; simp only [argsE, Nat.reduceAdd]
  repeat ((first | ((refine aops_cons (fun K' h' => ?_)); simp only [go_sem, Nat.reduceLT, Nat.reduceLeDiff, Nat.reduceEqDiff, reduceIte, Nat.reduceAdd, Nat.reduceMul, Nat.reduceSub, Int.reduceLT, Int.reduceLE, Int.reduceToNat, Int.reduceNeg, reduceCtorEq, hgs, Node.cells]; (try simp (disch := omega) only [wrap_id, getD_map_in, Int.toNat_natCast, Node.cells]); (repeat (refine And.intro (by (omega)) ?_)); refine h' _ ?_; clear h' K') | (refine aops_nil (hK _ ?_); clear hK K hgs gs; try simp only [aThen, aBlock]) | (refine AWp.sreg  dd69 rfl (fun gs K hgs hK => ?_); replace hgs : Nat.succ 0 = 1 := rfl) | refine AWp.seq ?_ | refine AWp.block ?_))
  refine AWp.loop (I := SzI l) (fun x => ⟨[(0, .ro 5 (l.map Node.cells)), (5, .own 0 1 0 x.1), (6, .own 1 1 0 x.1), (7, .lit (.int .i64 (x.1 : Int)))], [], [some ⟨3, 1, x.2.1.map fun x : Nat => [.lit (.int .i64 (x : Int))]⟩, some ⟨3, 1, x.2.2.map fun x : Nat => [.lit (.int .i64 (x : Int))]⟩]⟩) (fun x => l.length - x.1) (0, [], []) ?_ ?_ ?_
  · exact ⟨by simp, by simp [sizesF]⟩
  · refine (Wk.nilOwn 5 3 1 rfl (by simp)).trans ((Wk.nilOwn 6 3 1 rfl (by simp)).trans (Wk.of rfl rfl ?_))
    simp [ASt.nilOwn, eput, subE, eget, natsV, ASt.drop]
  · rintro ⟨k, s, d⟩ ⟨hk, hf⟩
    simp only at hk hf ⊢
    obtain ⟨hsl, hdl, hs, hd⟩ := sizesF_bounds hf
    rw [List.length_take_of_le hk] at hsl hdl hs hd
    have hk1 := hs ((k : Int) - 1).toNat
    have hd1 := hd ((k : Int) - 1).toNat
    have hk2 := hs ((k : Int) - 1 - (s.getD ((k : Int) - 1).toNat default : Nat)).toNat
    have hd2 := hd ((k : Int) - 1 - (s.getD ((k : Int) - 1).toNat default : Nat)).toNat
    repeat ((first | ((refine aops_cons (fun K' h' => ?_)); simp only [go_sem, Nat.reduceLT, Nat.reduceLeDiff, Nat.reduceEqDiff, reduceIte, Nat.reduceAdd, Nat.reduceMul, Nat.reduceSub, Int.reduceLT, Int.reduceLE, Int.reduceToNat, Int.reduceNeg, reduceCtorEq, hgs, Node.cells]; (try simp (disch := omega) only [wrap_id, getD_map_in, Int.toNat_natCast, Node.cells]); (repeat (refine And.intro (by (omega)) ?_)); refine h' _ ?_; clear h' K') | (refine aops_nil (hK _ ?_); clear hK K hgs gs; try simp only [aThen, aBlock]) | (refine AWp.sreg  dd69 rfl (fun gs K hgs hK => ?_); replace hgs : Nat.succ 0 = 1 := rfl) | refine AWp.seq ?_))
    (refine AWp.cond rfl (fun h => ?_) (fun h => ?_) <;> (try simp only [decide_eq_true_eq, decide_eq_false_iff_not, beq_iff_eq, bne_iff_ne, ne_eq, Bool.not_eq_true', Bool.not_eq_false', beq_eq_false_iff_ne, Bool.true_eq_false, Bool.false_eq_true, Int.not_le, Int.not_lt, Bool.and_eq_true, Bool.and_eq_false_iff, Bool.or_eq_true, Bool.or_eq_false_iff, bne_eq_false_iff_eq, reduceCtorEq] at h))
    · repeat (any_goals (first | ((refine aops_cons (fun K' h' => ?_)); simp only [go_sem, Nat.reduceLT, Nat.reduceLeDiff, Nat.reduceEqDiff, reduceIte, Nat.reduceAdd, Nat.reduceMul, Nat.reduceSub, Int.reduceLT, Int.reduceLE, Int.reduceToNat, Int.reduceNeg, reduceCtorEq, hgs, Node.cells]; (try ((first | refine ⟨_, count_c _, ?_⟩ | refine ⟨_, right_c _ _ _, ?_⟩); (try simp only [go_sem, Nat.reduceLT, Nat.reduceLeDiff, Nat.reduceEqDiff, reduceIte, Nat.reduceAdd, Nat.reduceMul, Nat.reduceSub, Int.reduceLT, Int.reduceLE, Int.reduceToNat, Int.reduceNeg, reduceCtorEq, hgs, Node.cells]))); (try simp (disch := omega) only [wrap_id, getD_map_in, Int.toNat_natCast, Node.cells]); (repeat (refine And.intro (by (first | omega | (simp; done))) ?_)); refine h' _ ?_; clear h' K') | (refine aops_nil (hK _ ?_); clear hK K hgs gs; try simp only [aThen, aBlock]) | (refine AWp.sreg  dd69 rfl (fun gs K hgs hK => ?_); replace hgs : Nat.succ 0 = 1 := rfl) | refine AWp.seq ?_ | refine AWp.block ?_ | (refine AWp.ret ?_; try simp only [aThen, aBlock]) | (refine AWp.skip ?_; try simp only [aThen, aBlock]) | (refine AWp.reg  dd69 rfl (fun gs K hgs hK => ?_); replace hgs : Nat.succ 0 = 1 := rfl) | (refine AWp.cond rfl (fun h => ?_) (fun h => ?_) <;> (try simp only [decide_eq_true_eq, decide_eq_false_iff_not, beq_iff_eq, bne_iff_ne, ne_eq, Bool.not_eq_true', Bool.not_eq_false', beq_eq_false_iff_ne, Bool.true_eq_false, Bool.false_eq_true, Int.not_le, Int.not_lt, Bool.and_eq_true, Bool.and_eq_false_iff, Bool.or_eq_true, Bool.or_eq_false_iff, bne_eq_false_iff_eq, reduceCtorEq] at h))))
      · rename_i h1 h2
        have hst : stepN (s, d) (l.getD k default) = none := by
          rw [stepN_eq hsl]; repeat' split
          all_goals first | rfl | omega | (simp_all; done)
        have he := sizesF_stop hf (by omega) hst
        simp only [Out, outA, outL, resA, go_sem, Nat.reduceLT, Nat.reduceLeDiff, Nat.reduceEqDiff, reduceIte, Nat.reduceAdd, Nat.reduceMul, Nat.reduceSub, Int.reduceLT, Int.reduceLE, Int.reduceToNat, Int.reduceNeg, reduceCtorEq]
        simp only [sizesR, he]
        exact AVle.tup ⟨AVle.nil 1, AVle.nil 1, AVle.refl _, trivial⟩
      · rename_i h1 h2 h3 h4
        have hst : stepN (s, d) (l.getD k default) = none := by
          rw [stepN_eq hsl]; repeat' split
          all_goals first | rfl | omega | (simp_all; done)
        have he := sizesF_stop hf (by omega) hst
        simp only [Out, outA, outL, resA, go_sem, Nat.reduceLT, Nat.reduceLeDiff, Nat.reduceEqDiff, reduceIte, Nat.reduceAdd, Nat.reduceMul, Nat.reduceSub, Int.reduceLT, Int.reduceLE, Int.reduceToNat, Int.reduceNeg, reduceCtorEq]
        simp only [sizesR, he]
        exact AVle.tup ⟨AVle.nil 1, AVle.nil 1, AVle.refl _, trivial⟩
      · rename_i h1 h2 h3 h4 h5
        have hst : stepN (s, d) (l.getD k default) = none := by
          rw [stepN_eq hsl]; repeat' split
          all_goals first | rfl | omega | (simp_all; done)
        have he := sizesF_stop hf (by omega) hst
        simp only [Out, outA, outL, resA, go_sem, Nat.reduceLT, Nat.reduceLeDiff, Nat.reduceEqDiff, reduceIte, Nat.reduceAdd, Nat.reduceMul, Nat.reduceSub, Int.reduceLT, Int.reduceLE, Int.reduceToNat, Int.reduceNeg, reduceCtorEq]
        simp only [sizesR, he]
        exact AVle.tup ⟨AVle.nil 1, AVle.nil 1, AVle.refl _, trivial⟩
      · rename_i h1 h2 h3 h4 h5
        have e := sizesF_next hf (show k < l.length by omega)
        rw [stepN_eq hsl, if_neg (show ¬ countI (l.getD k default).kind ≤ 0 by omega), if_neg (show ¬ (k : Int) - 1 < 0 by omega), if_pos (show countI (l.getD k default).kind = 2 by omega), if_neg (show ¬ (k : Int) - 1 - (s.getD ((k : Int) - 1).toNat default : Nat) < 0 by omega), if_pos h] at e
        refine ⟨(k + 1, _, _), ⟨by show k + 1 ≤ l.length; omega, e⟩, Wk.ofCut 0 2 rfl ?_ ?_, by show l.length - (k + 1) < l.length - k; omega⟩
        · simp [hsl, hdl, List.take_of_length_le, ASt.drop]
          split <;> simp
        · simp [subE, eget, ASt.drop, dropE, keepR, lowE, AV.lowB, lowL, Nat.blt, Nat.ble]
      · rename_i h1 h2 h3 h4
        have hst : stepN (s, d) (l.getD k default) = none := by
          rw [stepN_eq hsl]; repeat' split
          all_goals first | rfl | omega | (simp_all; done)
        have he := sizesF_stop hf (by omega) hst
        simp only [Out, outA, outL, resA, go_sem, Nat.reduceLT, Nat.reduceLeDiff, Nat.reduceEqDiff, reduceIte, Nat.reduceAdd, Nat.reduceMul, Nat.reduceSub, Int.reduceLT, Int.reduceLE, Int.reduceToNat, Int.reduceNeg, reduceCtorEq]
        simp only [sizesR, he]
        exact AVle.tup ⟨AVle.nil 1, AVle.nil 1, AVle.refl _, trivial⟩
      · rename_i h1 h2 h3 h4
        have e := sizesF_next hf (show k < l.length by omega)
        rw [stepN_eq hsl, if_neg (show ¬ countI (l.getD k default).kind ≤ 0 by omega), if_neg (show ¬ (k : Int) - 1 < 0 by omega), if_neg (show ¬ countI (l.getD k default).kind = 2 by omega), if_pos h] at e
        refine ⟨(k + 1, _, _), ⟨by show k + 1 ≤ l.length; omega, e⟩, Wk.ofCut 0 2 rfl ?_ ?_, by show l.length - (k + 1) < l.length - k; omega⟩
        · simp [hsl, hdl, List.take_of_length_le, ASt.drop]
        · simp [subE, eget, ASt.drop, dropE, keepR, lowE, AV.lowB, lowL, Nat.blt, Nat.ble]
      · rename_i h1 h2
        have hst : stepN (s, d) (l.getD k default) = none := by
          rw [stepN_eq hsl]; repeat' split
          all_goals first | rfl | omega | (simp_all; done)
        have he := sizesF_stop hf (by omega) hst
        simp only [Out, outA, outL, resA, go_sem, Nat.reduceLT, Nat.reduceLeDiff, Nat.reduceEqDiff, reduceIte, Nat.reduceAdd, Nat.reduceMul, Nat.reduceSub, Int.reduceLT, Int.reduceLE, Int.reduceToNat, Int.reduceNeg, reduceCtorEq]
        simp only [sizesR, he]
        exact AVle.tup ⟨AVle.nil 1, AVle.nil 1, AVle.refl _, trivial⟩
      · rename_i h1 h2
        have e := sizesF_next hf (show k < l.length by omega)
        rw [stepN_eq hsl, if_pos (show countI (l.getD k default).kind ≤ 0 by omega), if_pos h] at e
        refine ⟨(k + 1, _, _), ⟨by show k + 1 ≤ l.length; omega, e⟩, Wk.ofCut 0 2 rfl ?_ ?_, by show l.length - (k + 1) < l.length - k; omega⟩
        · simp [hsl, hdl, List.take_of_length_le, ASt.drop]
        · simp [subE, eget, ASt.drop, dropE, keepR, lowE, AV.lowB, lowL, Nat.blt, Nat.ble]
    · have hkl : k = l.length := by omega
      subst hkl
      rw [List.take_length] at hf
      have hr : sizesR l = .tup [natsV s, natsV d, .lit (.bool (decide (0 < l.length) && (s.getD (l.length - 1) default == l.length)))] := by
        unfold sizesR; rw [hf]
      rcases Nat.eq_zero_or_pos l.length with hz | hz
      · have hz2 : (l.length : Int) = 0 := by omega
        repeat (any_goals (first | ((refine aopsD_cons (fun K' h' => ?_)); simp only [go_sem, Nat.reduceLT, Nat.reduceLeDiff, Nat.reduceEqDiff, reduceIte, Nat.reduceAdd, Nat.reduceMul, Nat.reduceSub, Int.reduceLT, Int.reduceLE, Int.reduceToNat, Int.reduceNeg, reduceCtorEq, hgs, Node.cells]; (try simp (disch := omega) only [wrap_id, getD_map_in, Int.toNat_natCast, Node.cells]); (repeat (refine And.intro (by (first | omega | (simp; omega))) ?_)); refine h' _ ?_; clear h' K') | refine AWp.seq ?_ | (refine AWp.ret ?_; try simp only [aThen, aBlock]) | (refine AWp.exit ?_; try simp only [aThen, aBlock, Nat.reduceEqDiff, reduceIte]) | ((refine AWp.regD (id := 25) fo69 mo_fact (by kernel_rfl) (fun gs K hgs hK => ?_)); replace hgs : gs 5 = some 91 := hgs 5) | (refine aopsD_nil (hK _ ?_); clear hK K hgs gs; simp only [fo69]; simp only [ASt.prune, pruneE, keepB, keepR, Bool.or_false, Bool.or_true, Bool.true_or, Bool.false_or, reduceIte, Bool.or_self, Bool.false_eq_true, aThen, aBlock, Nat.reduceEqDiff])))
        all_goals
          simp only [Out, outA, outL, resA, go_sem, Nat.reduceLT, Nat.reduceLeDiff, Nat.reduceEqDiff, reduceIte, Nat.reduceAdd, Nat.reduceMul, Nat.reduceSub, Int.reduceLT, Int.reduceLE, Int.reduceToNat, Int.reduceNeg, reduceCtorEq]
          rw [hr]
          refine AVle.of_eq ?_
          simp [natsV, hsl, hdl, hz]
          exact ⟨List.eq_nil_of_length_eq_zero (by omega), List.eq_nil_of_length_eq_zero (by omega)⟩
      · have hz2 : decide (0 < (l.length : Int)) = true := by simp; omega
        have e1 : ((l.length : Int) - 1).toNat = l.length - 1 := by omega
        have e2 : ((s.getD (l.length - 1) default : Nat) == (l.length : Int)) = (s.getD (l.length - 1) default == l.length) := by rw [Bool.eq_iff_iff]; simp only [beq_iff_eq]; omega
        repeat (any_goals (first | ((refine aopsD_cons (fun K' h' => ?_)); simp only [go_sem, Nat.reduceLT, Nat.reduceLeDiff, Nat.reduceEqDiff, reduceIte, Nat.reduceAdd, Nat.reduceMul, Nat.reduceSub, Int.reduceLT, Int.reduceLE, Int.reduceToNat, Int.reduceNeg, reduceCtorEq, hgs, Node.cells]; (try simp (disch := omega) only [wrap_id, getD_map_in, Int.toNat_natCast, Node.cells]); (repeat (refine And.intro (by (first | omega | (simp; done))) ?_)); refine h' _ ?_; clear h' K') | refine AWp.seq ?_ | (refine AWp.ret ?_; try simp only [aThen, aBlock]) | (refine AWp.exit ?_; try simp only [aThen, aBlock, Nat.reduceEqDiff, reduceIte]) | ((refine AWp.regD (id := 25) fo69 mo_fact (by kernel_rfl) (fun gs K hgs hK => ?_)); replace hgs : gs 5 = some 91 := hgs 5) | (refine aopsD_nil (hK _ ?_); clear hK K hgs gs; simp only [fo69]; simp only [ASt.prune, pruneE, keepB, keepR, Bool.or_false, Bool.or_true, Bool.true_or, Bool.false_or, reduceIte, Bool.or_self, Bool.false_eq_true, aThen, aBlock, Nat.reduceEqDiff])))
        all_goals
          simp only [Out, outA, outL, resA, go_sem, Nat.reduceLT, Nat.reduceLeDiff, Nat.reduceEqDiff, reduceIte, Nat.reduceAdd, Nat.reduceMul, Nat.reduceSub, Int.reduceLT, Int.reduceLE, Int.reduceToNat, Int.reduceNeg, reduceCtorEq]
          rw [hr]
          rw [e1, e2]
          exact AVle.of_eq (by simp [natsV, hsl, hdl, List.take_of_length_le])
end Go.Proofs.YtjeehkdepoiegaaGreat
