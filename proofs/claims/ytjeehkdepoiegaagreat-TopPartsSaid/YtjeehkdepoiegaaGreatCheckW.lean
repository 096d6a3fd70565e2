/-
  The walks over the checks of expressions: of the program and of the reference.
-/
import Derived.Test.YtjeehkdepoiegaaGreatNodeW
import Derived.Test.YtjeehkdepoiegaaGreatTopW
import Derived.Test.YtjeehkdepoiegaaGreatPlnM
namespace Go.Proofs.YtjeehkdepoiegaaGreat
open Go.AL Go.RowKit
set_option linter.unusedSimpArgs false
set_option linter.unusedVariables false
set_option maxRecDepth 10000
set_option maxHeartbeats 4000000
theorem tops_tree {l : List Node} {e : Ex} (hl : l.length ≤ 1000) (h : IsEx l e) : ACall Tryz.prog 99 [nodesV l] (.tup [topsV (e.tops 0), .lit (.bool true)]) := by
  have := tops_c l hl
  unfold topsR at this
  rw [h.tops] at this
  simpa using this
theorem acall_le {P : Program} {f : FuncId} {args : List AV} {r r' : AV} (h : ACall P f args r) (hr : AVle r r') : ACall P f args r' :=
  ⟨h.1, fun w S us h1 h2 h3 => (h.2 w S us h1 h2 h3).mono fun e w' ⟨u, e1, e2, e3⟩ => ⟨u, e1, e2, hr _ _ _ _ _ _ e3⟩⟩
theorem tops_none {l : List Node} (hl : l.length ≤ 1000) (h : treeO l = none) : ACall Tryz.prog 99 [nodesV l] (.tup [.any, .lit (.bool false)]) := by
  refine acall_le (tops_c l hl) ?_
  unfold topsR
  split
  · rename_i s a hs
    rw [tops_no h hs]
    exact AVle.tup ⟨AVle.any _, AVle.refl _, trivial⟩
  · exact AVle.refl _
theorem sizes_tree {l : List Node} {e : Ex} (hl : l.length ≤ 1000) (h : IsEx l e) : ACall Tryz.prog 69 [nodesV l] (.tup [natsV e.szs, natsV e.dps, .lit (.bool true)]) := by
  have := sizes_c l hl
  unfold sizesR at this
  rw [h.sizes] at this
  have hp := e.sz_pos
  have e1 : (decide (0 < l.length) && (e.szs.getD (l.length - 1) default == l.length)) = true := by
    rw [h.len, e.szs_end]; simp [hp]
  simp only [e1] at this
  exact this
theorem sizes_none {l : List Node} (hl : l.length ≤ 1000) (h : treeO l = none) : ACall Tryz.prog 69 [nodesV l] (.tup [.any, .any, .lit (.bool false)]) := by
  refine acall_le (sizes_c l hl) ?_
  unfold sizesR
  split
  · rename_i s a hs
    rw [sizes_no h hs]
    exact AVle.tup ⟨AVle.any _, AVle.any _, AVle.refl _, trivial⟩
  · exact AVle.tup ⟨AVle.any _, AVle.any _, AVle.refl _, trivial⟩
noncomputable def checkV (l : List Node) : AV := match treeO l with
  | some e => if errL l = 0 then topsV (e.tops 0) else .any
  | none => .any
def dd94 : Nat → List (List Nat)
  | 0 => [[], [2], [3]]
  | 1 => [[], [], [6], [7]]
  | 2 => [[0, 8], [], []]
  | 3 => [[8], [0], [10], [11], [], [9], [12], [13]]
  | 4 => [[], [5], [14]]
  | 5 => [[4, 15], [], []]
  | 6 => [[15], [], [], [17], [18], [16, 19], [20], [21], [22]]
  | 7 => [[4, 23], [], []]
  | 8 => [[23], [4], [24], []]
  | _ => []
theorem check_c (l : List Node) (hl : l.length ≤ 1000) : ACall Tryz.prog 94 [nodesV l] (.tup [checkV l, .lit (.int .i64 (errL l))]) := by
  by_cases h60 : 60 < l.length
  · have he : errL l = 4 := by unfold errL; rw [if_pos h60]
    have hv : checkV l = .any := by unfold checkV; split <;> simp [he]
    rw [he, hv]
    unfold nodesV
    refine acall_of (n := 25) (rs := [.tmp 2, .tmp 3]) Tryz.func94 rfl (by kernel_rfl) rfl rfl rfl ?_; simp only [argsE, Nat.reduceAdd]
    repeat (any_goals (first | (refine aops_cons (fun K' h' => ?_); simp only [go_sem, Nat.reduceLT, Nat.reduceLeDiff, Nat.reduceEqDiff, reduceIte, Nat.reduceAdd, Nat.reduceMul, Nat.reduceSub, Int.reduceLT, Int.reduceLE, Int.reduceToNat, Int.reduceNeg, reduceCtorEq, Node.cells, Top.cells]; (try simp (disch := omega) only [wrap_id, getD_map_in, Int.toNat_natCast, Node.cells, Top.cells]); (repeat (refine And.intro (by (omega)) ?_)); refine h' _ ?_; clear h' K') | (refine aops_nil (hK _ ?_); clear hK K gs; try simp only [aThen, aBlock]) | (refine AWp.sreg  dd94 rfl (fun gs K hgs hK => ?_); clear hgs) | refine AWp.seq ?_ | (refine AWp.ret ?_; try simp only [aThen, aBlock]) | (refine AWp.cond rfl (fun h => ?_) (fun h => ?_) <;> (try simp only [decide_eq_true_eq, decide_eq_false_iff_not, beq_iff_eq, bne_iff_ne, ne_eq, Bool.not_eq_true', Bool.not_eq_false', beq_eq_false_iff_ne, Bool.true_eq_false, Bool.false_eq_true, Int.not_le, Int.not_lt, Bool.and_eq_true, Bool.and_eq_false_iff, Bool.or_eq_true, Bool.or_eq_false_iff, bne_eq_false_iff_eq, reduceCtorEq] at h) <;> (try first | (exfalso; omega)))))
    simp only [Out, outA, outL, resA, go_sem, Nat.reduceLT, Nat.reduceLeDiff, Nat.reduceEqDiff, reduceIte, Nat.reduceAdd, Nat.reduceMul, Nat.reduceSub, Int.reduceLT, Int.reduceLE, Int.reduceToNat, Int.reduceNeg, reduceCtorEq]
    exact AVle.tup ⟨AVle.any _, AVle.refl _, trivial⟩
  · cases ht : treeO l with
    | none =>
      have he : errL l = 8 := by unfold errL; rw [if_neg h60, ht]
      have hv : checkV l = .any := by unfold checkV; rw [ht]
      have hT := tops_none hl ht
      rw [he, hv]
      unfold nodesV at hT ⊢
      refine acall_of (n := 25) (rs := [.tmp 2, .tmp 3]) Tryz.func94 rfl (by kernel_rfl) rfl rfl rfl ?_; simp only [argsE, Nat.reduceAdd]
      repeat (any_goals (first | (refine aops_cons (fun K' h' => ?_); simp only [go_sem, Nat.reduceLT, Nat.reduceLeDiff, Nat.reduceEqDiff, reduceIte, Nat.reduceAdd, Nat.reduceMul, Nat.reduceSub, Int.reduceLT, Int.reduceLE, Int.reduceToNat, Int.reduceNeg, reduceCtorEq, Node.cells, Top.cells]; (try ((refine ⟨_, hT, ?_⟩); (try simp only [go_sem, Nat.reduceLT, Nat.reduceLeDiff, Nat.reduceEqDiff, reduceIte, Nat.reduceAdd, Nat.reduceMul, Nat.reduceSub, Int.reduceLT, Int.reduceLE, Int.reduceToNat, Int.reduceNeg, reduceCtorEq, Node.cells, Top.cells]))); (try simp (disch := omega) only [wrap_id, getD_map_in, Int.toNat_natCast, Node.cells, Top.cells]); (repeat (refine And.intro (by (omega)) ?_)); refine h' _ ?_; clear h' K') | (refine aops_nil (hK _ ?_); clear hK K gs; try simp only [aThen, aBlock]) | (refine AWp.sreg  dd94 rfl (fun gs K hgs hK => ?_); clear hgs) | refine AWp.seq ?_ | (refine AWp.ret ?_; try simp only [aThen, aBlock]) | (refine AWp.skip ?_; try simp only [aThen, aBlock]) | (refine AWp.cond rfl (fun h => ?_) (fun h => ?_) <;> (try simp only [decide_eq_true_eq, decide_eq_false_iff_not, beq_iff_eq, bne_iff_ne, ne_eq, Bool.not_eq_true', Bool.not_eq_false', beq_eq_false_iff_ne, Bool.true_eq_false, Bool.false_eq_true, Int.not_le, Int.not_lt, Bool.and_eq_true, Bool.and_eq_false_iff, Bool.or_eq_true, Bool.or_eq_false_iff, bne_eq_false_iff_eq, reduceCtorEq] at h) <;> (try first | (exfalso; omega)))))
      simp only [Out, outA, outL, resA, go_sem, Nat.reduceLT, Nat.reduceLeDiff, Nat.reduceEqDiff, reduceIte, Nat.reduceAdd, Nat.reduceMul, Nat.reduceSub, Int.reduceLT, Int.reduceLE, Int.reduceToNat, Int.reduceNeg, reduceCtorEq]
      exact AVle.tup ⟨AVle.any _, AVle.refl _, trivial⟩
    | some e =>
      have hx := treeO_some ht
      have hT := tops_tree hl hx
      have hlen := e.tops_length 0
      have hle := hx.len
      have hp := e.sz_pos
      have hend := e.tops_end 0
      rw [← hlen] at hend
      have e1 : (((e.tops 0).length : Int) - 1).toNat = (e.tops 0).length - 1 := by omega
      have he : errL l = if 20 < e.dp then 34 else 0 := by unfold errL; rw [if_neg h60, ht]
      have hv : checkV l = if 20 < e.dp then .any else topsV (e.tops 0) := by
        unfold checkV; rw [ht, he]
        simp only
        by_cases h : 20 < e.dp <;> simp [h]
      rw [he, hv]
      unfold nodesV topsV at *
      refine acall_of (n := 25) (rs := [.tmp 2, .tmp 3]) Tryz.func94 rfl (by kernel_rfl) rfl rfl rfl ?_; simp only [argsE, Nat.reduceAdd]
      repeat (any_goals (first | (refine aops_cons (fun K' h' => ?_); simp only [go_sem, Nat.reduceLT, Nat.reduceLeDiff, Nat.reduceEqDiff, reduceIte, Nat.reduceAdd, Nat.reduceMul, Nat.reduceSub, Int.reduceLT, Int.reduceLE, Int.reduceToNat, Int.reduceNeg, reduceCtorEq, Node.cells, Top.cells, e1, hend]; (try ((refine ⟨_, hT, ?_⟩); (try simp only [go_sem, Nat.reduceLT, Nat.reduceLeDiff, Nat.reduceEqDiff, reduceIte, Nat.reduceAdd, Nat.reduceMul, Nat.reduceSub, Int.reduceLT, Int.reduceLE, Int.reduceToNat, Int.reduceNeg, reduceCtorEq, Node.cells, Top.cells, e1, hend]))); (try simp (disch := omega) only [wrap_id, getD_map_in, Int.toNat_natCast, Node.cells, Top.cells, e1, hend]); (repeat (refine And.intro (by (omega)) ?_)); refine h' _ ?_; clear h' K') | (refine aops_nil (hK _ ?_); clear hK K gs; try simp only [aThen, aBlock]) | (refine AWp.sreg  dd94 rfl (fun gs K hgs hK => ?_); clear hgs) | refine AWp.seq ?_ | (refine AWp.ret ?_; try simp only [aThen, aBlock]) | (refine AWp.skip ?_; try simp only [aThen, aBlock]) | (refine AWp.cond rfl (fun h => ?_) (fun h => ?_) <;> (try simp only [decide_eq_true_eq, decide_eq_false_iff_not, beq_iff_eq, bne_iff_ne, ne_eq, Bool.not_eq_true', Bool.not_eq_false', beq_eq_false_iff_ne, Bool.true_eq_false, Bool.false_eq_true, Int.not_le, Int.not_lt, Bool.and_eq_true, Bool.and_eq_false_iff, Bool.or_eq_true, Bool.or_eq_false_iff, bne_eq_false_iff_eq, reduceCtorEq] at h) <;> (try first | (exfalso; omega)))))
      · simp only [Out, outA, outL, resA, go_sem, Nat.reduceLT, Nat.reduceLeDiff, Nat.reduceEqDiff, reduceIte, Nat.reduceAdd, Nat.reduceMul, Nat.reduceSub, Int.reduceLT, Int.reduceLE, Int.reduceToNat, Int.reduceNeg, reduceCtorEq]
        rw [if_pos (by omega), if_pos (by omega)]
        exact AVle.tup ⟨AVle.any _, AVle.refl _, trivial⟩
      · simp only [Out, outA, outL, resA, go_sem, Nat.reduceLT, Nat.reduceLeDiff, Nat.reduceEqDiff, reduceIte, Nat.reduceAdd, Nat.reduceMul, Nat.reduceSub, Int.reduceLT, Int.reduceLE, Int.reduceToNat, Int.reduceNeg, reduceCtorEq]
        rw [if_neg (by omega), if_neg (by omega)]
        exact AVle.refl _
theorem check_ok {l : List Node} {e : Ex} (hl : l.length ≤ 1000) (h : errL l = 0) (ht : treeO l = some e) : ACall Tryz.prog 94 [nodesV l] (.tup [topsV (e.tops 0), .lit (.int .i64 0)]) := by
  have hC := check_c l hl
  have hv : checkV l = topsV (e.tops 0) := by unfold checkV; rw [ht]; simp only; rw [if_pos h]
  rw [hv, h] at hC
  exact hC
theorem check_bad {l : List Node} (hl : l.length ≤ 1000) (h : errL l ≠ 0) : ACall Tryz.prog 94 [nodesV l] (.tup [.any, .lit (.int .i64 (errL l))]) := by
  have hC := check_c l hl
  have hv : checkV l = .any := by
    unfold checkV
    split
    · rw [if_neg h]
    · rfl
  rw [hv] at hC
  exact hC
def dd86 : Nat → List (List Nat)
  | 0 => [[], [2]]
  | 1 => [[], [0], [6], [7], [], [5], [3, 8], [9]]
  | 2 => [[], [4], [10]]
  | _ => []
theorem nCheck_c (l : List Node) (hl : l.length ≤ 1000) : ACall Tryz.prog 86 [nodesV l] (.lit (.int .i64 (errL l))) := by
  by_cases h : errL l = 0
  · obtain ⟨e, ht, _⟩ := errL_ok h
    have hC := check_ok hl h ht
    rw [h]
    unfold nodesV topsV at *
    refine acall_of (n := 11) (rs := [.tmp 2]) Tryz.func86 rfl (by kernel_rfl) rfl rfl rfl ?_; simp only [argsE, Nat.reduceAdd]
    repeat (any_goals (first | (refine aops_cons (fun K' h' => ?_); simp only [go_sem, Nat.reduceLT, Nat.reduceLeDiff, Nat.reduceEqDiff, reduceIte, Nat.reduceAdd, Nat.reduceMul, Nat.reduceSub, Int.reduceLT, Int.reduceLE, Int.reduceToNat, Int.reduceNeg, reduceCtorEq, Node.cells, Top.cells]; (try ((refine ⟨_, hC, ?_⟩); (try simp only [go_sem, Nat.reduceLT, Nat.reduceLeDiff, Nat.reduceEqDiff, reduceIte, Nat.reduceAdd, Nat.reduceMul, Nat.reduceSub, Int.reduceLT, Int.reduceLE, Int.reduceToNat, Int.reduceNeg, reduceCtorEq, Node.cells, Top.cells]))); (try simp (disch := omega) only [wrap_id, getD_map_in, Int.toNat_natCast, Node.cells, Top.cells]); (repeat (refine And.intro (by (omega)) ?_)); refine h' _ ?_; clear h' K') | (refine aops_nil (hK _ ?_); clear hK K gs; try simp only [aThen, aBlock]) | (refine AWp.sreg  dd86 rfl (fun gs K hgs hK => ?_); clear hgs) | (refine AWp.ret ?_; try simp only [aThen, aBlock])))
    simp only [Out, outA, outL, resA, go_sem, Nat.reduceLT, Nat.reduceLeDiff, Nat.reduceEqDiff, reduceIte, Nat.reduceAdd, Nat.reduceMul, Nat.reduceSub, Int.reduceLT, Int.reduceLE, Int.reduceToNat, Int.reduceNeg, reduceCtorEq]
    exact AVle.refl _
  · have hC := check_bad hl h
    unfold nodesV at *
    refine acall_of (n := 11) (rs := [.tmp 2]) Tryz.func86 rfl (by kernel_rfl) rfl rfl rfl ?_; simp only [argsE, Nat.reduceAdd]
    repeat (any_goals (first | (refine aops_cons (fun K' h' => ?_); simp only [go_sem, Nat.reduceLT, Nat.reduceLeDiff, Nat.reduceEqDiff, reduceIte, Nat.reduceAdd, Nat.reduceMul, Nat.reduceSub, Int.reduceLT, Int.reduceLE, Int.reduceToNat, Int.reduceNeg, reduceCtorEq, Node.cells, Top.cells]; (try ((refine ⟨_, hC, ?_⟩); (try simp only [go_sem, Nat.reduceLT, Nat.reduceLeDiff, Nat.reduceEqDiff, reduceIte, Nat.reduceAdd, Nat.reduceMul, Nat.reduceSub, Int.reduceLT, Int.reduceLE, Int.reduceToNat, Int.reduceNeg, reduceCtorEq, Node.cells, Top.cells]))); (try simp (disch := omega) only [wrap_id, getD_map_in, Int.toNat_natCast, Node.cells, Top.cells]); (repeat (refine And.intro (by (omega)) ?_)); refine h' _ ?_; clear h' K') | (refine aops_nil (hK _ ?_); clear hK K gs; try simp only [aThen, aBlock]) | (refine AWp.sreg  dd86 rfl (fun gs K hgs hK => ?_); clear hgs) | (refine AWp.ret ?_; try simp only [aThen, aBlock])))
    simp only [Out, outA, outL, resA, go_sem, Nat.reduceLT, Nat.reduceLeDiff, Nat.reduceEqDiff, reduceIte, Nat.reduceAdd, Nat.reduceMul, Nat.reduceSub, Int.reduceLT, Int.reduceLE, Int.reduceToNat, Int.reduceNeg, reduceCtorEq]
    exact AVle.refl _
def dd56 : Nat → List (List Nat)
  | 0 => [[], [2]]
  | 1 => [[], [], [6], [7]]
  | 2 => [[0, 8], []]
  | 3 => [[8], [], [10], [11], [], [], [9], [3, 12], [13], [14]]
  | 4 => [[], [5], [15]]
  | 5 => [[0, 4, 16], []]
  | 6 => [[16], [4], [0], [18], [19], [17, 20], [21], [22]]
  | 7 => [[23], []]
  | 8 => [[23], []]
  | _ => []
theorem rCheck_c (l : List Node) (hl : l.length ≤ 1000) : ACall Tryz.prog 56 [nodesV l] (.lit (.int .i64 (errL l))) := by
  by_cases h60 : 60 < l.length
  · have he : errL l = 4 := by unfold errL; rw [if_pos h60]
    rw [he]
    unfold nodesV
    refine acall_of (n := 24) (rs := [.tmp 2]) Tryz.func56 rfl (by kernel_rfl) rfl rfl rfl ?_; simp only [argsE, Nat.reduceAdd]
    repeat (any_goals (first | (refine aops_cons (fun K' h' => ?_); simp only [go_sem, Nat.reduceLT, Nat.reduceLeDiff, Nat.reduceEqDiff, reduceIte, Nat.reduceAdd, Nat.reduceMul, Nat.reduceSub, Int.reduceLT, Int.reduceLE, Int.reduceToNat, Int.reduceNeg, reduceCtorEq, Node.cells, Top.cells]; (try simp (disch := omega) only [wrap_id, getD_map_in, Int.toNat_natCast, Node.cells, Top.cells]); (repeat (refine And.intro (by (omega)) ?_)); refine h' _ ?_; clear h' K') | (refine aops_nil (hK _ ?_); clear hK K gs; try simp only [aThen, aBlock]) | (refine AWp.sreg  dd56 rfl (fun gs K hgs hK => ?_); clear hgs) | refine AWp.seq ?_ | (refine AWp.ret ?_; try simp only [aThen, aBlock]) | (refine AWp.cond rfl (fun h => ?_) (fun h => ?_) <;> (try simp only [decide_eq_true_eq, decide_eq_false_iff_not, beq_iff_eq, bne_iff_ne, ne_eq, Bool.not_eq_true', Bool.not_eq_false', beq_eq_false_iff_ne, Bool.true_eq_false, Bool.false_eq_true, Int.not_le, Int.not_lt, Bool.and_eq_true, Bool.and_eq_false_iff, Bool.or_eq_true, Bool.or_eq_false_iff, bne_eq_false_iff_eq, reduceCtorEq] at h) <;> (try first | (exfalso; omega)))))
    simp only [Out, outA, outL, resA, go_sem, Nat.reduceLT, Nat.reduceLeDiff, Nat.reduceEqDiff, reduceIte, Nat.reduceAdd, Nat.reduceMul, Nat.reduceSub, Int.reduceLT, Int.reduceLE, Int.reduceToNat, Int.reduceNeg, reduceCtorEq]
    exact AVle.refl _
  · cases ht : treeO l with
    | none =>
      have he : errL l = 8 := by unfold errL; rw [if_neg h60, ht]
      have hS := sizes_none hl ht
      rw [he]
      unfold nodesV at hS ⊢
      refine acall_of (n := 24) (rs := [.tmp 2]) Tryz.func56 rfl (by kernel_rfl) rfl rfl rfl ?_; simp only [argsE, Nat.reduceAdd]
      repeat (any_goals (first | (refine aops_cons (fun K' h' => ?_); simp only [go_sem, Nat.reduceLT, Nat.reduceLeDiff, Nat.reduceEqDiff, reduceIte, Nat.reduceAdd, Nat.reduceMul, Nat.reduceSub, Int.reduceLT, Int.reduceLE, Int.reduceToNat, Int.reduceNeg, reduceCtorEq, Node.cells, Top.cells]; (try ((refine ⟨_, hS, ?_⟩); (try simp only [go_sem, Nat.reduceLT, Nat.reduceLeDiff, Nat.reduceEqDiff, reduceIte, Nat.reduceAdd, Nat.reduceMul, Nat.reduceSub, Int.reduceLT, Int.reduceLE, Int.reduceToNat, Int.reduceNeg, reduceCtorEq, Node.cells, Top.cells]))); (try simp (disch := omega) only [wrap_id, getD_map_in, Int.toNat_natCast, Node.cells, Top.cells]); (repeat (refine And.intro (by (omega)) ?_)); refine h' _ ?_; clear h' K') | (refine aops_nil (hK _ ?_); clear hK K gs; try simp only [aThen, aBlock]) | (refine AWp.sreg  dd56 rfl (fun gs K hgs hK => ?_); clear hgs) | refine AWp.seq ?_ | (refine AWp.ret ?_; try simp only [aThen, aBlock]) | (refine AWp.skip ?_; try simp only [aThen, aBlock]) | (refine AWp.cond rfl (fun h => ?_) (fun h => ?_) <;> (try simp only [decide_eq_true_eq, decide_eq_false_iff_not, beq_iff_eq, bne_iff_ne, ne_eq, Bool.not_eq_true', Bool.not_eq_false', beq_eq_false_iff_ne, Bool.true_eq_false, Bool.false_eq_true, Int.not_le, Int.not_lt, Bool.and_eq_true, Bool.and_eq_false_iff, Bool.or_eq_true, Bool.or_eq_false_iff, bne_eq_false_iff_eq, reduceCtorEq] at h) <;> (try first | (exfalso; omega)))))
      simp only [Out, outA, outL, resA, go_sem, Nat.reduceLT, Nat.reduceLeDiff, Nat.reduceEqDiff, reduceIte, Nat.reduceAdd, Nat.reduceMul, Nat.reduceSub, Int.reduceLT, Int.reduceLE, Int.reduceToNat, Int.reduceNeg, reduceCtorEq]
      exact AVle.refl _
    | some e =>
      have hx := treeO_some ht
      have hS := sizes_tree hl hx
      have hlen := e.dps_length
      have hle := hx.len
      have hp := e.sz_pos
      have hend := e.dps_end
      rw [← hle] at hend
      have e1 : ((l.length : Int) - 1).toNat = l.length - 1 := by omega
      have he : errL l = if 20 < e.dp then 34 else 0 := by unfold errL; rw [if_neg h60, ht]
      rw [he]
      unfold nodesV natsV at *
      refine acall_of (n := 24) (rs := [.tmp 2]) Tryz.func56 rfl (by kernel_rfl) rfl rfl rfl ?_; simp only [argsE, Nat.reduceAdd]
      repeat (any_goals (first | (refine aops_cons (fun K' h' => ?_); simp only [go_sem, Nat.reduceLT, Nat.reduceLeDiff, Nat.reduceEqDiff, reduceIte, Nat.reduceAdd, Nat.reduceMul, Nat.reduceSub, Int.reduceLT, Int.reduceLE, Int.reduceToNat, Int.reduceNeg, reduceCtorEq, Node.cells, Top.cells, e1, hend]; (try ((refine ⟨_, hS, ?_⟩); (try simp only [go_sem, Nat.reduceLT, Nat.reduceLeDiff, Nat.reduceEqDiff, reduceIte, Nat.reduceAdd, Nat.reduceMul, Nat.reduceSub, Int.reduceLT, Int.reduceLE, Int.reduceToNat, Int.reduceNeg, reduceCtorEq, Node.cells, Top.cells, e1, hend]))); (try simp (disch := omega) only [wrap_id, getD_map_in, Int.toNat_natCast, Node.cells, Top.cells, e1, hend]); (repeat (refine And.intro (by (omega)) ?_)); refine h' _ ?_; clear h' K') | (refine aops_nil (hK _ ?_); clear hK K gs; try simp only [aThen, aBlock]) | (refine AWp.sreg  dd56 rfl (fun gs K hgs hK => ?_); clear hgs) | refine AWp.seq ?_ | (refine AWp.ret ?_; try simp only [aThen, aBlock]) | (refine AWp.skip ?_; try simp only [aThen, aBlock]) | (refine AWp.cond rfl (fun h => ?_) (fun h => ?_) <;> (try simp only [decide_eq_true_eq, decide_eq_false_iff_not, beq_iff_eq, bne_iff_ne, ne_eq, Bool.not_eq_true', Bool.not_eq_false', beq_eq_false_iff_ne, Bool.true_eq_false, Bool.false_eq_true, Int.not_le, Int.not_lt, Bool.and_eq_true, Bool.and_eq_false_iff, Bool.or_eq_true, Bool.or_eq_false_iff, bne_eq_false_iff_eq, reduceCtorEq] at h) <;> (try first | (exfalso; omega)))))
      · simp only [Out, outA, outL, resA, go_sem, Nat.reduceLT, Nat.reduceLeDiff, Nat.reduceEqDiff, reduceIte, Nat.reduceAdd, Nat.reduceMul, Nat.reduceSub, Int.reduceLT, Int.reduceLE, Int.reduceToNat, Int.reduceNeg, reduceCtorEq]
        rw [if_pos (by omega)]
        exact AVle.refl _
      · simp only [Out, outA, outL, resA, go_sem, Nat.reduceLT, Nat.reduceLeDiff, Nat.reduceEqDiff, reduceIte, Nat.reduceAdd, Nat.reduceMul, Nat.reduceSub, Int.reduceLT, Int.reduceLE, Int.reduceToNat, Int.reduceNeg, reduceCtorEq]
        rw [if_neg (by omega)]
        exact AVle.refl _
end Go.Proofs.YtjeehkdepoiegaaGreat
