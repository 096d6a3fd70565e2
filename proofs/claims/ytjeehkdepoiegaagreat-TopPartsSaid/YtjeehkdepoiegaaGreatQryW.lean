/-
  The walks over checks of queries: of the program and of the reference.
-/
import Derived.Test.YtjeehkdepoiegaaGreatSousW
import Derived.Test.YtjeehkdepoiegaaGreatCheckW
namespace Go.Proofs.YtjeehkdepoiegaaGreat
open Go.AL Go.RowKit
set_option linter.unusedSimpArgs false
set_option linter.unusedVariables false
set_option maxRecDepth 10000
set_option maxHeartbeats 4000000
structure Qry where
  agg : Int
  arg : List Node
  src : List Int
  join : Bool
  wh : List Node
  win : Win
  byKey : Bool
  late : Int
def Qry.cells (q : Qry) : List AV := [.lit (.int .u8 q.agg), nodesV q.arg, intsV q.src, .lit (.bool q.join), nodesV q.wh, .lit (.int .u8 q.win.kind), .lit (.int .i64 q.win.size), .lit (.int .i64 q.win.every), .lit (.bool q.byKey), .lit (.int .u8 q.late)]
open Classical in
noncomputable def chkE (q : Qry) : Int :=
  if q.agg < 1 ∨ 4 < q.agg ∨ (q.late ≠ 1 ∧ q.late ≠ 2) then 8
  else if q.agg ≠ 1 ∧ errL q.arg ≠ 0 then errL q.arg
  else if q.agg = 1 ∧ 0 < q.arg.length then 8
  else if 0 < q.wh.length ∧ errL q.wh ≠ 0 then errL q.wh
  else if srcE q.src q.join ≠ 0 then srcE q.src q.join
  else if q.join = true ∧ q.win.kind ≠ 1 then 8
  else winE q.win
def dd73 : Nat → List (List Nat)
  | 0 => [[], [0], [2]]
  | 1 => [[], [], [6], [7], [8], [], [10], [11], [9, 12], [13], [], [15], [16], [17], [], [19], [20], [18, 21], [14, 22]]
  | 2 => [[1, 23], []]
  | 3 => [[23], [], [24], [25]]
  | 4 => [[26], [], [27], [28], [29]]
  | 5 => [[], [], [30]]
  | 6 => [[1, 31], [3], [32]]
  | 7 => [[26], [], [33], [34], [35]]
  | 8 => [[1, 36], []]
  | 9 => [[3, 31, 36], [], [37], [38], [39]]
  | 10 => [[40], [], [41], [42], [43]]
  | 11 => [[], [], [44]]
  | 12 => [[1, 45], [4], [46]]
  | 13 => [[4, 40, 45], [], [47], [], [49], [48, 50], [51]]
  | 14 => [[], [], [52]]
  | 15 => [[1, 53], [5], [54]]
  | 16 => [[5, 53], [], [55], [56], [], [58], [59], [60], [57, 61]]
  | 17 => [[1, 62], []]
  | 18 => [[62], [1], [63], [64], [65]]
  | _ => []
theorem qCheck_c (q : Qry) (h1 : q.arg.length ≤ 1000) (h2 : q.wh.length ≤ 1000) (h3 : q.src.length ≤ 1000) (hw : ∀ x ∈ q.src, -9223372036854775808 ≤ x ∧ x ≤ 9223372036854775807) :
    ACall Tryz.prog 73 [.agg q.cells] (.lit (.int .i64 (chkE q))) := by
  obtain ⟨ag, ar, sr, jn, wh, ⟨kd, sz, ev⟩, bk, lt⟩ := q
  simp only at h1 h2 h3 hw
  have hA := nCheck_c ar h1
  have hB := nCheck_c wh h2
  have hS := sources_c sr jn h3 hw
  have hW := window_c ⟨kd, sz, ev⟩
  unfold Qry.cells chkE
  simp only
  generalize errL ar = ea at *
  generalize errL wh = eb at *
  generalize srcE sr jn = es at *
  generalize winE ⟨kd, sz, ev⟩ = we at *
  unfold Win.cells at hW
  simp only at hW
  unfold nodesV intsV at *
  refine acall_of (n := 66) (rs := [.tmp 2]) Tryz.func73 rfl (by kernel_rfl) rfl rfl rfl ?_; simp only [argsE, Nat.reduceAdd]
  repeat (any_goals (first | (refine aops_cons (fun K' h' => ?_); simp only [go_sem, Nat.reduceLT, Nat.reduceLeDiff, Nat.reduceEqDiff, reduceIte, Nat.reduceAdd, Nat.reduceMul, Nat.reduceSub, Int.reduceLT, Int.reduceLE, Int.reduceToNat, Int.reduceNeg, reduceCtorEq, hgs]; (try ((first | refine ⟨_, hA, ?_⟩ | refine ⟨_, hB, ?_⟩ | refine ⟨_, hS, ?_⟩ | refine ⟨_, hW, ?_⟩); (try simp only [go_sem, Nat.reduceLT, Nat.reduceLeDiff, Nat.reduceEqDiff, reduceIte, Nat.reduceAdd, Nat.reduceMul, Nat.reduceSub, Int.reduceLT, Int.reduceLE, Int.reduceToNat, Int.reduceNeg, reduceCtorEq, hgs]))); (try simp (disch := omega) only [wrap_id, getD_map_in, Int.toNat_natCast]); (repeat (refine And.intro (by (omega)) ?_)); refine h' _ ?_; clear h' K') | (refine aops_nil (hK _ ?_); clear hK K hgs gs; try simp only [aThen, aBlock]) | ((refine AWp.sreg (id := 1) dd73 rfl (fun gs K hgs hK => ?_)); replace hgs : gs 3 = some 9 ∧ gs 8 = some 14 ∧ gs 12 = some 18 := ⟨hgs 3, hgs 8, hgs 12⟩) | ((refine AWp.sreg (id := 16) dd73 rfl (fun gs K hgs hK => ?_)); replace hgs : gs 2 = some 57 := hgs 2) | (refine AWp.sreg  dd73 rfl (fun gs K hgs hK => ?_); replace hgs : Nat.succ 0 = 1 := rfl) | refine AWp.seq ?_ | (refine AWp.ret ?_; try simp only [aThen, aBlock]) | (refine AWp.skip ?_; try simp only [aThen, aBlock]) | (refine AWp.cond rfl (fun h => ?_) (fun h => ?_) <;> (try simp only [decide_eq_true_eq, decide_eq_false_iff_not, beq_iff_eq, bne_iff_ne, ne_eq, Bool.not_eq_true', Bool.not_eq_false', beq_eq_false_iff_ne, Bool.true_eq_false, Bool.false_eq_true, Int.not_le, Int.not_lt, Bool.and_eq_true, Bool.and_eq_false_iff, Bool.or_eq_true, Bool.or_eq_false_iff, bne_eq_false_iff_eq, reduceCtorEq] at h))))
  all_goals simp only [Out, outA, outL, resA, go_sem, Nat.reduceLT, Nat.reduceLeDiff, Nat.reduceEqDiff, reduceIte, Nat.reduceAdd, Nat.reduceMul, Nat.reduceSub, Int.reduceLT, Int.reduceLE, Int.reduceToNat, Int.reduceNeg, reduceCtorEq]
  all_goals refine AVle.of_eq (congrArg (fun n => AV.lit (.int .i64 n)) ?_)
  all_goals clear hA hB hS hW hw
  all_goals repeat' split
  all_goals first
    | rfl
    | omega
    | (exfalso; omega)
    | (exfalso; simp_all; done)
    | (exfalso; simp_all; omega)
    | (exfalso; cases jn <;> simp_all <;> omega)
theorem rCheck_any (l : List Node) (hl : l.length ≤ maxLen) : ACall Tryz.prog 56 [nodesV l] (.lit (.int .i64 (errL l))) := by
  unfold maxLen at hl
  by_cases h : l.length ≤ 1000
  · exact rCheck_c l h
  · rw [show errL l = 4 by unfold errL; rw [if_pos (by omega)]]
    unfold nodesV
    refine acall_of (n := 24) (rs := [.tmp 2]) Tryz.func56 rfl (by kernel_rfl) rfl rfl rfl ?_; simp only [argsE, Nat.reduceAdd]
    repeat (any_goals (first | (refine aops_cons (fun K' h' => ?_); simp only [go_sem, Nat.reduceLT, Nat.reduceLeDiff, Nat.reduceEqDiff, reduceIte, Nat.reduceAdd, Nat.reduceMul, Nat.reduceSub, Int.reduceLT, Int.reduceLE, Int.reduceToNat, Int.reduceNeg, reduceCtorEq]; (try simp (disch := omega) only [wrap_id, getD_map_in, Int.toNat_natCast]); (repeat (refine And.intro (by (omega)) ?_)); refine h' _ ?_; clear h' K') | (refine aops_nil (hK _ ?_); clear hK K gs; try simp only [aThen, aBlock]) | (refine AWp.sreg  dd56 rfl (fun gs K hgs hK => ?_); clear hgs) | refine AWp.seq ?_ | (refine AWp.ret ?_; try simp only [aThen, aBlock]) | (refine AWp.cond rfl (fun h => ?_) (fun h => ?_) <;> (try simp only [decide_eq_true_eq, decide_eq_false_iff_not, beq_iff_eq, bne_iff_ne, ne_eq, Bool.not_eq_true', Bool.not_eq_false', beq_eq_false_iff_ne, Bool.true_eq_false, Bool.false_eq_true, Int.not_le, Int.not_lt, Bool.and_eq_true, Bool.and_eq_false_iff, Bool.or_eq_true, Bool.or_eq_false_iff, bne_eq_false_iff_eq, reduceCtorEq] at h) <;> (try first | (exfalso; omega)))))
    all_goals first
      | (exfalso; omega)
      | (simp only [Out, outA, outL, resA, go_sem, Nat.reduceLT, Nat.reduceLeDiff, Nat.reduceEqDiff, reduceIte, Nat.reduceAdd, Nat.reduceMul, Nat.reduceSub, Int.reduceLT, Int.reduceLE, Int.reduceToNat, Int.reduceNeg, reduceCtorEq]
         exact AVle.refl _)
theorem rSources_any (l : List Int) (jn : Bool) (hl : l.length ≤ maxLen) : ACall Tryz.prog 57 [intsV l, .lit (.bool jn)] (.lit (.int .i64 (srcE l jn))) := by
  unfold maxLen at hl
  by_cases h : l.length ≤ 1000
  · exact rSources_c l jn h
  · rw [show srcE l jn = 4 by unfold srcE; rw [if_pos (by omega)]]
    unfold intsV
    refine acall_of (n := 60) (rs := [.tmp 4]) Tryz.func57 rfl (by kernel_rfl) rfl rfl rfl ?_; simp only [argsE, Nat.reduceAdd]
    repeat (any_goals (first | ((refine aops_cons (fun K' h' => ?_)); simp only [go_sem, Nat.reduceLT, Nat.reduceLeDiff, Nat.reduceEqDiff, reduceIte, Nat.reduceAdd, Nat.reduceMul, Nat.reduceSub, Int.reduceLT, Int.reduceLE, Int.reduceToNat, Int.reduceNeg, reduceCtorEq, hgs]; (try simp (disch := omega) only [wrap_id, getD_map_in, Int.toNat_natCast]); (repeat (refine And.intro (by (omega)) ?_)); refine h' _ ?_; clear h' K') | (refine aops_nil (hK _ ?_); clear hK K hgs gs; try simp only [aThen, aBlock]) | (refine AWp.sreg  dd57 rfl (fun gs K hgs hK => ?_); replace hgs : Nat.succ 0 = 1 := rfl) | refine AWp.seq ?_ | (refine AWp.ret ?_; try simp only [aThen, aBlock]) | (refine AWp.cond rfl (fun h => ?_) (fun h => ?_) <;> (try simp only [decide_eq_true_eq, decide_eq_false_iff_not, beq_iff_eq, bne_iff_ne, ne_eq, Bool.not_eq_true', Bool.not_eq_false', beq_eq_false_iff_ne, Bool.true_eq_false, Bool.false_eq_true, Int.not_le, Int.not_lt, Bool.and_eq_true, Bool.and_eq_false_iff, Bool.or_eq_true, Bool.or_eq_false_iff, bne_eq_false_iff_eq, reduceCtorEq] at h) <;> (try first | (exfalso; omega)))))
    all_goals first
      | (exfalso; omega)
      | (simp only [Out, outA, outL, resA, go_sem, Nat.reduceLT, Nat.reduceLeDiff, Nat.reduceEqDiff, reduceIte, Nat.reduceAdd, Nat.reduceMul, Nat.reduceSub, Int.reduceLT, Int.reduceLE, Int.reduceToNat, Int.reduceNeg, reduceCtorEq]
         exact AVle.refl _)
def dd38 : Nat → List (List Nat)
  | 0 => [[], [0], [2]]
  | 1 => [[], [], [3], [4], [5], [], [7], [8], [6, 9], [10], [], [12], [13], [11, 14], [15], [], [17], [18], [16, 19]]
  | 2 => [[1, 20], []]
  | 3 => [[20], [], [21], [22], [23], [], [25], [26], [27], [24, 28]]
  | 4 => [[1, 29], []]
  | 5 => [[29], [], [30], [31], [32], [], [34], [35], [36], [33, 37]]
  | 6 => [[38], [1], [39], [40], [41]]
  | 7 => [[38], [], [42], [43], [44], [45], [], [47], [48], [49], [46, 50]]
  | 8 => [[51], [1], [52], [53], [54]]
  | 9 => [[51], [], [55], [], [57], [56, 58], [59]]
  | 10 => [[60], [], [61], [1], [63], [62, 64], [65]]
  | 11 => [[60], [], [66], [67], [68], [69], [], [71], [72], [1], [74], [75], [76], [73, 77], [70, 78]]
  | 12 => [[79], []]
  | 13 => [[79], []]
  | _ => []
theorem rqCheck_c (q : Qry) (h1 : q.arg.length ≤ maxLen) (h2 : q.wh.length ≤ maxLen) (h3 : q.src.length ≤ maxLen) : ACall Tryz.prog 38 [.agg q.cells] (.lit (.int .i64 (chkE q))) := by
  obtain ⟨ag, ar, sr, jn, wh, ⟨kd, sz, ev⟩, bk, lt⟩ := q
  simp only at h1 h2 h3
  have hA := rCheck_any ar h1
  have hB := rCheck_any wh h2
  have hS := rSources_any sr jn h3
  have hF := fits_c ⟨kd, sz, ev⟩
  unfold Qry.cells chkE winE
  simp only
  unfold maxLen at h1 h2 h3
  obtain ⟨wp, hwp⟩ : ∃ wp, decide (winP ⟨kd, sz, ev⟩) = wp := ⟨_, rfl⟩
  have hwe : (if winP ⟨kd, sz, ev⟩ then (0 : Int) else 8) = if wp = true then 0 else 8 := by
    rw [← hwp]; simp only [decide_eq_true_eq]
  rw [hwe]
  rw [hwp] at hF
  clear hwe hwp
  generalize errL ar = ea at *
  generalize errL wh = eb at *
  generalize srcE sr jn = es at *
  unfold Win.cells at hF
  simp only at hF
  unfold nodesV intsV at *
  refine acall_of (n := 80) (rs := [.tmp 2]) Tryz.func38 rfl (by kernel_rfl) rfl rfl rfl ?_; simp only [argsE, Nat.reduceAdd]
  repeat (any_goals (first | (refine aops_cons (fun K' h' => ?_); simp only [go_sem, Nat.reduceLT, Nat.reduceLeDiff, Nat.reduceEqDiff, reduceIte, Nat.reduceAdd, Nat.reduceMul, Nat.reduceSub, Int.reduceLT, Int.reduceLE, Int.reduceToNat, Int.reduceNeg, reduceCtorEq, hgs]; (try ((first | refine ⟨_, hA, ?_⟩ | refine ⟨_, fun _ => hA, ?_⟩ | refine ⟨_, hB, ?_⟩ | refine ⟨_, fun _ => hB, ?_⟩ | refine ⟨_, hS, ?_⟩ | refine ⟨_, hF, ?_⟩); (try simp only [go_sem, Nat.reduceLT, Nat.reduceLeDiff, Nat.reduceEqDiff, reduceIte, Nat.reduceAdd, Nat.reduceMul, Nat.reduceSub, Int.reduceLT, Int.reduceLE, Int.reduceToNat, Int.reduceNeg, reduceCtorEq, hgs]))); (try simp (disch := omega) only [wrap_id, getD_map_in, Int.toNat_natCast]); (repeat (refine And.intro (by (omega)) ?_)); refine h' _ ?_; clear h' K') | (refine aops_nil (hK _ ?_); clear hK K hgs gs; try simp only [aThen, aBlock]) | ((refine AWp.sreg (id := 1) dd38 rfl (fun gs K hgs hK => ?_)); replace hgs : gs 3 = some 6 ∧ gs 8 = some 11 ∧ gs 13 = some 16 := ⟨hgs 3, hgs 8, hgs 13⟩) | ((refine AWp.sreg (id := 3) dd38 rfl (fun gs K hgs hK => ?_)); replace hgs : gs 3 = some 24 := hgs 3) | ((refine AWp.sreg (id := 5) dd38 rfl (fun gs K hgs hK => ?_)); replace hgs : gs 3 = some 33 := hgs 3) | ((refine AWp.sreg (id := 7) dd38 rfl (fun gs K hgs hK => ?_)); replace hgs : gs 4 = some 46 := hgs 4) | ((refine AWp.sreg (id := 11) dd38 rfl (fun gs K hgs hK => ?_)); replace hgs : gs 4 = some 70 ∧ gs 7 = some 73 := ⟨hgs 4, hgs 7⟩) | (refine AWp.sreg  dd38 rfl (fun gs K hgs hK => ?_); replace hgs : Nat.succ 0 = 1 := rfl) | refine AWp.seq ?_ | (refine AWp.ret ?_; try simp only [aThen, aBlock]) | (refine AWp.skip ?_; try simp only [aThen, aBlock]) | (refine AWp.cond rfl (fun h => ?_) (fun h => ?_) <;> (try simp only [decide_eq_true_eq, decide_eq_false_iff_not, beq_iff_eq, bne_iff_ne, ne_eq, Bool.not_eq_true', Bool.not_eq_false', beq_eq_false_iff_ne, Bool.true_eq_false, Bool.false_eq_true, Int.not_le, Int.not_lt, Bool.and_eq_true, Bool.and_eq_false_iff, Bool.or_eq_true, Bool.or_eq_false_iff, bne_eq_false_iff_eq, reduceCtorEq] at h))))
  all_goals simp only [Out, outA, outL, resA, go_sem, Nat.reduceLT, Nat.reduceLeDiff, Nat.reduceEqDiff, reduceIte, Nat.reduceAdd, Nat.reduceMul, Nat.reduceSub, Int.reduceLT, Int.reduceLE, Int.reduceToNat, Int.reduceNeg, reduceCtorEq]
  all_goals refine AVle.of_eq (congrArg (fun n => AV.lit (.int .i64 n)) ?_)
  all_goals clear hA hB hS hF
  all_goals repeat' split
  all_goals first
    | rfl
    | omega
    | (exfalso; omega)
    | (exfalso; simp_all; done)
    | (exfalso; simp_all; omega)
    | (exfalso; cases jn <;> simp_all <;> omega)
end Go.Proofs.YtjeehkdepoiegaaGreat
