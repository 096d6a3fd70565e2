/-
  The walks over kinds: what is told of an expression, by the program and by the reference.
-/
import Derived.Test.YtjeehkdepoiegaaGreatKindW
import Derived.Test.YtjeehkdepoiegaaGreatCheckW
namespace Go.Proofs.YtjeehkdepoiegaaGreat
open Go.AL Go.RowKit
set_option linter.unusedSimpArgs false
set_option linter.unusedVariables false
set_option maxRecDepth 10000
set_option maxHeartbeats 4000000
noncomputable def ofE (l : List Node) : Int := if errL l ≠ 0 then errL l else if wrongL l < l.length then 42 else 0
noncomputable def ofN (l : List Node) : Int := if errL l ≠ 0 then 0 else if wrongL l < l.length then (wrongL l : Int) else (l.length : Int) - 1
noncomputable def ofB (l : List Node) : Bool := if errL l ≠ 0 then false else if wrongL l < l.length then false else givesB (l.getD (l.length - 1) default).kind
theorem ofE_bad {l : List Node} (h : errL l ≠ 0) : ofE l = errL l ∧ ofN l = 0 ∧ ofB l = false := ⟨if_pos h, if_pos h, if_pos h⟩
theorem ofE_type {l : List Node} (h : errL l = 0) (hw : wrongL l < l.length) : ofE l = 42 ∧ ofN l = (wrongL l : Int) ∧ ofB l = false := by
  unfold ofE ofN ofB; simp [h, hw]
theorem ofE_ok {l : List Node} (h : errL l = 0) (hw : wrongL l = l.length) : ofE l = 0 ∧ ofN l = (l.length : Int) - 1 ∧ ofB l = givesB (l.getD (l.length - 1) default).kind := by
  unfold ofE ofN ofB; simp [h, hw]
def dd90 : Nat → List (List Nat)
  | 0 => [[], [2], [3], [4]]
  | 1 => [[], [], [8], [9]]
  | 2 => [[], [], [10]]
  | 3 => [[0, 11], [5], [], [], [12]]
  | 4 => [[5, 11], [], [14], [15], [], [13], [16], [17]]
  | 5 => [[], [], [0], [19], [18, 20]]
  | 6 => [[6, 21], [7], [], [22], []]
  | 7 => [[21], [6], [], [24], [23, 25], [26], [7], [28], [27], [29], []]
  | _ => []
theorem kOf_c (l : List Node) (hl : l.length ≤ 1000) : ACall Tryz.prog 90 [nodesV l] (.tup [.lit (.bool (ofB l)), .lit (.int .i64 (ofN l)), .lit (.int .i64 (ofE l))]) := by
  have hC := nCheck_c l hl
  by_cases h0 : errL l = 0
  · obtain ⟨e, ht, hx, hsz, hdp⟩ := errL_ok h0
    have hT := told_c hl hx
    have hwl := wrongL_le l
    have hp := e.sz_pos
    have hle := hx.len
    rw [h0] at hC
    by_cases hw : wrongL l = l.length
    · rw [(ofE_ok h0 hw).1, (ofE_ok h0 hw).2.1, (ofE_ok h0 hw).2.2]
      rw [hw, if_pos rfl] at hT
      have hg : (l.map fun x => givesB x.kind).getD ((l.length : Int) - 1).toNat default = givesB (l.getD (l.length - 1) default).kind := by
        rw [show ((l.length : Int) - 1).toNat = l.length - 1 by omega]
        simp only [List.getD_eq_getElem?_getD, List.getElem?_map]
        rw [List.getElem?_eq_getElem (by omega)]; rfl
      generalize givesB (l.getD (l.length - 1) default).kind = g at *
      obtain ⟨bs, hbs⟩ : ∃ bs, (l.map fun x => givesB x.kind) = bs := ⟨_, rfl⟩
      have hbl : bs.length = l.length := by rw [← hbs]; simp
      rw [hbs] at hT hg
      unfold nodesV boolsV at *
      refine acall_of (n := 30) (rs := [.tmp 2, .tmp 3, .tmp 4]) Tryz.func90 rfl (by kernel_rfl) rfl rfl rfl ?_; simp only [argsE, Nat.reduceAdd]
      repeat (any_goals (first | (refine aops_cons (fun K' h' => ?_); simp only [go_sem, Nat.reduceLT, Nat.reduceLeDiff, Nat.reduceEqDiff, reduceIte, Nat.reduceAdd, Nat.reduceMul, Nat.reduceSub, Int.reduceLT, Int.reduceLE, Int.reduceToNat, Int.reduceNeg, reduceCtorEq, Node.cells, hg, hbl]; (try ((first | refine ⟨_, hC, ?_⟩ | refine ⟨_, hT, ?_⟩); (try simp only [go_sem, Nat.reduceLT, Nat.reduceLeDiff, Nat.reduceEqDiff, reduceIte, Nat.reduceAdd, Nat.reduceMul, Nat.reduceSub, Int.reduceLT, Int.reduceLE, Int.reduceToNat, Int.reduceNeg, reduceCtorEq, Node.cells, hg, hbl]))); (try simp (disch := omega) only [wrap_id, getD_map_in, Int.toNat_natCast, Node.cells, hg, hbl]); (repeat (refine And.intro (by (omega)) ?_)); refine h' _ ?_; clear h' K') | (refine aops_nil (hK _ ?_); clear hK K gs; try simp only [aThen, aBlock]) | (refine AWp.sreg  dd90 rfl (fun gs K hgs hK => ?_); clear hgs) | refine AWp.seq ?_ | (refine AWp.ret ?_; try simp only [aThen, aBlock]) | (refine AWp.skip ?_; try simp only [aThen, aBlock]) | (refine AWp.cond rfl (fun h => ?_) (fun h => ?_) <;> (try simp only [decide_eq_true_eq, decide_eq_false_iff_not, beq_iff_eq, bne_iff_ne, ne_eq, Bool.not_eq_true', Bool.not_eq_false', beq_eq_false_iff_ne, Bool.true_eq_false, Bool.false_eq_true, Int.not_le, Int.not_lt, Bool.and_eq_true, Bool.and_eq_false_iff, Bool.or_eq_true, Bool.or_eq_false_iff, bne_eq_false_iff_eq, reduceCtorEq] at h) <;> (try first | contradiction | (exfalso; omega)))))
      all_goals simp only [Out, outA, outL, resA, go_sem, Nat.reduceLT, Nat.reduceLeDiff, Nat.reduceEqDiff, reduceIte, Nat.reduceAdd, Nat.reduceMul, Nat.reduceSub, Int.reduceLT, Int.reduceLE, Int.reduceToNat, Int.reduceNeg, reduceCtorEq]
      all_goals exact AVle.refl _
    · rw [(ofE_type h0 (by omega)).1, (ofE_type h0 (by omega)).2.1, (ofE_type h0 (by omega)).2.2]
      rw [if_neg hw] at hT
      generalize wrongL l = w at *
      unfold nodesV boolsV at *
      refine acall_of (n := 30) (rs := [.tmp 2, .tmp 3, .tmp 4]) Tryz.func90 rfl (by kernel_rfl) rfl rfl rfl ?_; simp only [argsE, Nat.reduceAdd]
      repeat (any_goals (first | (refine aops_cons (fun K' h' => ?_); simp only [go_sem, Nat.reduceLT, Nat.reduceLeDiff, Nat.reduceEqDiff, reduceIte, Nat.reduceAdd, Nat.reduceMul, Nat.reduceSub, Int.reduceLT, Int.reduceLE, Int.reduceToNat, Int.reduceNeg, reduceCtorEq, Node.cells]; (try ((first | refine ⟨_, hC, ?_⟩ | refine ⟨_, hT, ?_⟩); (try simp only [go_sem, Nat.reduceLT, Nat.reduceLeDiff, Nat.reduceEqDiff, reduceIte, Nat.reduceAdd, Nat.reduceMul, Nat.reduceSub, Int.reduceLT, Int.reduceLE, Int.reduceToNat, Int.reduceNeg, reduceCtorEq, Node.cells]))); (try simp (disch := omega) only [wrap_id, getD_map_in, Int.toNat_natCast, Node.cells]); (repeat (refine And.intro (by (omega)) ?_)); refine h' _ ?_; clear h' K') | (refine aops_nil (hK _ ?_); clear hK K gs; try simp only [aThen, aBlock]) | (refine AWp.sreg  dd90 rfl (fun gs K hgs hK => ?_); clear hgs) | refine AWp.seq ?_ | (refine AWp.ret ?_; try simp only [aThen, aBlock]) | (refine AWp.skip ?_; try simp only [aThen, aBlock]) | (refine AWp.cond rfl (fun h => ?_) (fun h => ?_) <;> (try simp only [decide_eq_true_eq, decide_eq_false_iff_not, beq_iff_eq, bne_iff_ne, ne_eq, Bool.not_eq_true', Bool.not_eq_false', beq_eq_false_iff_ne, Bool.true_eq_false, Bool.false_eq_true, Int.not_le, Int.not_lt, Bool.and_eq_true, Bool.and_eq_false_iff, Bool.or_eq_true, Bool.or_eq_false_iff, bne_eq_false_iff_eq, reduceCtorEq] at h) <;> (try first | contradiction | (exfalso; omega)))))
      all_goals simp only [Out, outA, outL, resA, go_sem, Nat.reduceLT, Nat.reduceLeDiff, Nat.reduceEqDiff, reduceIte, Nat.reduceAdd, Nat.reduceMul, Nat.reduceSub, Int.reduceLT, Int.reduceLE, Int.reduceToNat, Int.reduceNeg, reduceCtorEq]
      all_goals exact AVle.refl _
  · rw [(ofE_bad h0).1, (ofE_bad h0).2.1, (ofE_bad h0).2.2]
    generalize errL l = ea at *
    unfold nodesV at *
    refine acall_of (n := 30) (rs := [.tmp 2, .tmp 3, .tmp 4]) Tryz.func90 rfl (by kernel_rfl) rfl rfl rfl ?_; simp only [argsE, Nat.reduceAdd]
    repeat (any_goals (first | (refine aops_cons (fun K' h' => ?_); simp only [go_sem, Nat.reduceLT, Nat.reduceLeDiff, Nat.reduceEqDiff, reduceIte, Nat.reduceAdd, Nat.reduceMul, Nat.reduceSub, Int.reduceLT, Int.reduceLE, Int.reduceToNat, Int.reduceNeg, reduceCtorEq, Node.cells]; (try ((refine ⟨_, hC, ?_⟩); (try simp only [go_sem, Nat.reduceLT, Nat.reduceLeDiff, Nat.reduceEqDiff, reduceIte, Nat.reduceAdd, Nat.reduceMul, Nat.reduceSub, Int.reduceLT, Int.reduceLE, Int.reduceToNat, Int.reduceNeg, reduceCtorEq, Node.cells]))); (try simp (disch := omega) only [wrap_id, getD_map_in, Int.toNat_natCast, Node.cells]); (repeat (refine And.intro (by (omega)) ?_)); refine h' _ ?_; clear h' K') | (refine aops_nil (hK _ ?_); clear hK K gs; try simp only [aThen, aBlock]) | (refine AWp.sreg  dd90 rfl (fun gs K hgs hK => ?_); clear hgs) | refine AWp.seq ?_ | (refine AWp.ret ?_; try simp only [aThen, aBlock]) | (refine AWp.cond rfl (fun h => ?_) (fun h => ?_) <;> (try simp only [decide_eq_true_eq, decide_eq_false_iff_not, beq_iff_eq, bne_iff_ne, ne_eq, Bool.not_eq_true', Bool.not_eq_false', beq_eq_false_iff_ne, Bool.true_eq_false, Bool.false_eq_true, Int.not_le, Int.not_lt, Bool.and_eq_true, Bool.and_eq_false_iff, Bool.or_eq_true, Bool.or_eq_false_iff, bne_eq_false_iff_eq, reduceCtorEq] at h) <;> (try first | contradiction))))
    all_goals first
      | (exfalso; omega)
      | (simp only [Out, outA, outL, resA, go_sem, Nat.reduceLT, Nat.reduceLeDiff, Nat.reduceEqDiff, reduceIte, Nat.reduceAdd, Nat.reduceMul, Nat.reduceSub, Int.reduceLT, Int.reduceLE, Int.reduceToNat, Int.reduceNeg, reduceCtorEq]
         exact AVle.refl _)
theorem ofE_0 {l : List Node} (h : ofE l = 0) : errL l = 0 ∧ wrongL l = l.length := by
  have := wrongL_le l
  unfold ofE at h
  split at h
  · omega
  · split at h
    · omega
    · exact ⟨by omega, by omega⟩
noncomputable def wantE (l : List Node) (t : Bool) : Int := if ofE l = 0 ∧ ofB l ≠ t then 42 else ofE l
def dd89 : Nat → List (List Nat)
  | 0 => [[], [4], [5]]
  | 1 => [[], [0], [10], [11], [], [], [9], [12], [13], [14]]
  | 2 => [[], [], [15], [16], [6], [1], [18, 19], [17, 20]]
  | 3 => [[8, 21], []]
  | 4 => [[21], [7], [8], [22], [23]]
  | _ => []
theorem kWant_c (l : List Node) (t : Bool) (hl : l.length ≤ 1000) : ACall Tryz.prog 89 [nodesV l, .lit (.bool t)] (.tup [.lit (.int .i64 (ofN l)), .lit (.int .i64 (wantE l t))]) := by
  have hO := kOf_c l hl
  unfold wantE
  generalize ofB l = ob at *
  generalize ofN l = on at *
  generalize ofE l = oe at *
  unfold nodesV at *
  refine acall_of (n := 24) (rs := [.tmp 4, .tmp 5]) Tryz.func89 rfl (by kernel_rfl) rfl rfl rfl ?_; simp only [argsE, Nat.reduceAdd]
  repeat (any_goals (first | (refine aops_cons (fun K' h' => ?_); simp only [go_sem, Nat.reduceLT, Nat.reduceLeDiff, Nat.reduceEqDiff, reduceIte, Nat.reduceAdd, Nat.reduceMul, Nat.reduceSub, Int.reduceLT, Int.reduceLE, Int.reduceToNat, Int.reduceNeg, reduceCtorEq, hgs, Node.cells]; (try ((refine ⟨_, hO, ?_⟩); (try simp only [go_sem, Nat.reduceLT, Nat.reduceLeDiff, Nat.reduceEqDiff, reduceIte, Nat.reduceAdd, Nat.reduceMul, Nat.reduceSub, Int.reduceLT, Int.reduceLE, Int.reduceToNat, Int.reduceNeg, reduceCtorEq, hgs, Node.cells]))); (try simp (disch := omega) only [wrap_id, getD_map_in, Int.toNat_natCast, Node.cells]); (repeat (refine And.intro (by (omega)) ?_)); refine h' _ ?_; clear h' K') | (refine aops_nil (hK _ ?_); clear hK K hgs gs; try simp only [aThen, aBlock]) | ((refine AWp.sreg (id := 2) dd89 rfl (fun gs K hgs hK => ?_)); replace hgs : gs 2 = some 17 := hgs 2) | (refine AWp.sreg  dd89 rfl (fun gs K hgs hK => ?_); replace hgs : Nat.succ 0 = 1 := rfl) | refine AWp.seq ?_ | (refine AWp.ret ?_; try simp only [aThen, aBlock]) | (refine AWp.skip ?_; try simp only [aThen, aBlock]) | (refine AWp.reg  dd89 rfl (fun gs K hgs hK => ?_); replace hgs : Nat.succ 0 = 1 := rfl) | (refine AWp.cond rfl (fun h => ?_) (fun h => ?_) <;> (try simp only [decide_eq_true_eq, decide_eq_false_iff_not, beq_iff_eq, bne_iff_ne, ne_eq, Bool.not_eq_true', Bool.not_eq_false', beq_eq_false_iff_ne, Bool.true_eq_false, Bool.false_eq_true, Int.not_le, Int.not_lt, Bool.and_eq_true, Bool.and_eq_false_iff, Bool.or_eq_true, Bool.or_eq_false_iff, bne_eq_false_iff_eq, reduceCtorEq] at h))))
  · simp only [Out, outA, outL, resA, go_sem, Nat.reduceLT, Nat.reduceLeDiff, Nat.reduceEqDiff, reduceIte, Nat.reduceAdd, Nat.reduceMul, Nat.reduceSub, Int.reduceLT, Int.reduceLE, Int.reduceToNat, Int.reduceNeg, reduceCtorEq]
    rw [if_pos (by simpa using h)]
    exact AVle.refl _
  · simp only [Out, outA, outL, resA, go_sem, Nat.reduceLT, Nat.reduceLeDiff, Nat.reduceEqDiff, reduceIte, Nat.reduceAdd, Nat.reduceMul, Nat.reduceSub, Int.reduceLT, Int.reduceLE, Int.reduceToNat, Int.reduceNeg, reduceCtorEq]
    rw [if_neg (by intro h2; rcases h with h | h; exact h h2.1; exact h2.2 h)]
    exact AVle.refl _
def dd75 : Nat → List (List Nat)
  | 0 => [[], [2], [3]]
  | 1 => [[], [0], [4], [], [5], [6], [7]]
  | _ => []
theorem kNumber_c (l : List Node) (hl : l.length ≤ 1000) : ACall Tryz.prog 75 [nodesV l] (.tup [.lit (.int .i64 (ofN l)), .lit (.int .i64 (wantE l false))]) := by
  have hW := kWant_c l false hl
  unfold nodesV at *
  refine acall_of (n := 8) (rs := [.tmp 2, .tmp 3]) Tryz.func75 rfl (by kernel_rfl) rfl rfl rfl ?_; simp only [argsE, Nat.reduceAdd]
  repeat (any_goals (first | (refine aops_cons (fun K' h' => ?_); simp only [go_sem, Nat.reduceLT, Nat.reduceLeDiff, Nat.reduceEqDiff, reduceIte, Nat.reduceAdd, Nat.reduceMul, Nat.reduceSub, Int.reduceLT, Int.reduceLE, Int.reduceToNat, Int.reduceNeg, reduceCtorEq, Node.cells]; (try ((refine ⟨_, hW, ?_⟩); (try simp only [go_sem, Nat.reduceLT, Nat.reduceLeDiff, Nat.reduceEqDiff, reduceIte, Nat.reduceAdd, Nat.reduceMul, Nat.reduceSub, Int.reduceLT, Int.reduceLE, Int.reduceToNat, Int.reduceNeg, reduceCtorEq, Node.cells]))); (try simp (disch := omega) only [wrap_id, getD_map_in, Int.toNat_natCast, Node.cells]); (repeat (refine And.intro (by (omega)) ?_)); refine h' _ ?_; clear h' K') | (refine aops_nil (hK _ ?_); clear hK K gs; try simp only [aThen, aBlock]) | (refine AWp.sreg  dd75 rfl (fun gs K hgs hK => ?_); clear hgs) | (refine AWp.ret ?_; try simp only [aThen, aBlock])))
  simp only [Out, outA, outL, resA, go_sem, Nat.reduceLT, Nat.reduceLeDiff, Nat.reduceEqDiff, reduceIte, Nat.reduceAdd, Nat.reduceMul, Nat.reduceSub, Int.reduceLT, Int.reduceLE, Int.reduceToNat, Int.reduceNeg, reduceCtorEq]
  exact AVle.refl _
def dd76 : Nat → List (List Nat)
  | 0 => [[], [2], [3]]
  | 1 => [[], [0], [4], [], [5], [6], [7]]
  | _ => []
theorem kTruth_c (l : List Node) (hl : l.length ≤ 1000) : ACall Tryz.prog 76 [nodesV l] (.tup [.lit (.int .i64 (ofN l)), .lit (.int .i64 (wantE l true))]) := by
  have hW := kWant_c l true hl
  unfold nodesV at *
  refine acall_of (n := 8) (rs := [.tmp 2, .tmp 3]) Tryz.func76 rfl (by kernel_rfl) rfl rfl rfl ?_; simp only [argsE, Nat.reduceAdd]
  repeat (any_goals (first | (refine aops_cons (fun K' h' => ?_); simp only [go_sem, Nat.reduceLT, Nat.reduceLeDiff, Nat.reduceEqDiff, reduceIte, Nat.reduceAdd, Nat.reduceMul, Nat.reduceSub, Int.reduceLT, Int.reduceLE, Int.reduceToNat, Int.reduceNeg, reduceCtorEq, Node.cells]; (try ((refine ⟨_, hW, ?_⟩); (try simp only [go_sem, Nat.reduceLT, Nat.reduceLeDiff, Nat.reduceEqDiff, reduceIte, Nat.reduceAdd, Nat.reduceMul, Nat.reduceSub, Int.reduceLT, Int.reduceLE, Int.reduceToNat, Int.reduceNeg, reduceCtorEq, Node.cells]))); (try simp (disch := omega) only [wrap_id, getD_map_in, Int.toNat_natCast, Node.cells]); (repeat (refine And.intro (by (omega)) ?_)); refine h' _ ?_; clear h' K') | (refine aops_nil (hK _ ?_); clear hK K gs; try simp only [aThen, aBlock]) | (refine AWp.sreg  dd76 rfl (fun gs K hgs hK => ?_); clear hgs) | (refine AWp.ret ?_; try simp only [aThen, aBlock])))
  simp only [Out, outA, outL, resA, go_sem, Nat.reduceLT, Nat.reduceLeDiff, Nat.reduceEqDiff, reduceIte, Nat.reduceAdd, Nat.reduceMul, Nat.reduceSub, Int.reduceLT, Int.reduceLE, Int.reduceToNat, Int.reduceNeg, reduceCtorEq]
  exact AVle.refl _
def dd82 : Nat → List (List Nat)
  | 0 => [[], [2]]
  | 1 => [[], [], [3], [4], [0], [6], [5, 7], [8]]
  | _ => []
theorem gives_c (k : Int) : ACall Tryz.prog 82 [.lit (.int .u8 k)] (.lit (.bool (givesB k))) := by
  refine acall_of (n := 9) (rs := [.tmp 2]) Tryz.func82 rfl (by kernel_rfl) rfl rfl rfl ?_; simp only [argsE, Nat.reduceAdd]
  repeat (any_goals (first | (refine aops_cons (fun K' h' => ?_); simp only [go_sem, Nat.reduceLT, Nat.reduceLeDiff, Nat.reduceEqDiff, reduceIte, Nat.reduceAdd, Nat.reduceMul, Nat.reduceSub, Int.reduceLT, Int.reduceLE, Int.reduceToNat, Int.reduceNeg, reduceCtorEq, hgs, Node.cells]; (try simp (disch := omega) only [wrap_id, getD_map_in, Int.toNat_natCast, Node.cells]); (repeat (refine And.intro (by (omega)) ?_)); refine h' _ ?_; clear h' K') | (refine aops_nil (hK _ ?_); clear hK K hgs gs; try simp only [aThen, aBlock]) | ((refine AWp.sreg (id := 1) dd82 rfl (fun gs K hgs hK => ?_)); replace hgs : gs 2 = some 5 := hgs 2) | (refine AWp.sreg  dd82 rfl (fun gs K hgs hK => ?_); replace hgs : Nat.succ 0 = 1 := rfl) | (refine AWp.ret ?_; try simp only [aThen, aBlock])))
  simp only [Out, outA, outL, resA, go_sem, Nat.reduceLT, Nat.reduceLeDiff, Nat.reduceEqDiff, reduceIte, Nat.reduceAdd, Nat.reduceMul, Nat.reduceSub, Int.reduceLT, Int.reduceLE, Int.reduceToNat, Int.reduceNeg, reduceCtorEq]
  refine AVle.of_eq (congrArg (fun b => AV.lit (.bool b)) ?_)
  unfold givesB
  by_cases h1 : k = 6 <;> by_cases h2 : 12 ≤ k <;> simp [h1, h2]
def dd92 : Nat → List (List Nat)
  | 0 => [[], [4]]
  | 1 => [[], [], [1], [8, 9], [10], [], [11]]
  | 3 => [[], [], [27], [28], [29]]
  | 4 => [[5, 6, 7, 26], []]
  | 5 => [[26], [], [31], [32], [33]]
  | 6 => [[5, 7, 30], [6], [34], [35]]
  | 7 => [[30], [], [37], [38], [39]]
  | 8 => [[5, 7, 36], [6], [40]]
  | 9 => [[36], [], [42], [43], [44], [], [46], [47], [45, 48], [49]]
  | 10 => [[5, 41], [6], [7], [50, 51], [52]]
  | 11 => [[41], [5], [54], [55], [56]]
  | 12 => [[53], [6], [57], [7], [58, 59], [60]]
  | 13 => [[53], [6], [61], [62], [7], [64], [63, 65], [66]]
  | _ => []
def fo92 : Nat → List Nat
  | 2 => [5, 6, 7]
  | _ => []
theorem rFits_c {l : List Node} {e : Ex} (hl : l.length ≤ 1000) (hx : IsEx l e) {k : Nat} (hk : k < l.length) : ACall Tryz.prog 92 [nodesV l, .lit (.int .i64 (k : Int))] (.lit (.bool (fitsAt l k))) := by
  have hat := hx.at hk
  obtain ⟨y, hy⟩ : ∃ y, l.getD k default = y := ⟨_, rfl⟩
  obtain ⟨hk1, hk2, ha, hb, hza, hzb⟩ := hat
  unfold fitsAt
  rw [hy] at hk1 hk2 ha hb hza hzb ⊢
  have hai : 0 ≤ y.a ∧ y.a < l.length := by
    by_cases h4 : y.kind ≤ 4
    · rw [hza h4]; omega
    · have := ha (by omega); omega
  have hbi : 0 ≤ y.b ∧ y.b < l.length := by
    by_cases h6 : y.kind ≤ 6
    · rw [hzb h6]; omega
    · have := hb (by omega); omega
  obtain ⟨u, hu⟩ : ∃ u, l.getD y.a.toNat default = u := ⟨_, rfl⟩
  obtain ⟨v, hv⟩ : ∃ v, l.getD y.b.toNat default = v := ⟨_, rfl⟩
  unfold kindAt
  rw [hu, hv]
  have hGa := gives_c u.kind
  have hGb := gives_c v.kind
  generalize givesB u.kind = ga at *
  generalize givesB v.kind = gb at *
  obtain ⟨kd, nn, xa, xb, xp⟩ := y
  obtain ⟨k1, n1, a1, b1, p1⟩ := u
  obtain ⟨k2, n2, a2, b2, p2⟩ := v
  simp only at hk1 hk2 hai hbi hGa hGb hu hv ⊢
  clear ha hb hza hzb
  unfold nodesV at *
  refine acall_of (n := 67) (rs := [.tmp 4]) Tryz.func92 rfl (by kernel_rfl) rfl rfl rfl ?_; simp only [argsE, Nat.reduceAdd]
  repeat (any_goals (first | ((first | refine aops_cons (fun K' h' => ?_) | refine aopsD_cons (fun K' h' => ?_)); simp only [go_sem, Nat.reduceLT, Nat.reduceLeDiff, Nat.reduceEqDiff, reduceIte, Nat.reduceAdd, Nat.reduceMul, Nat.reduceSub, Int.reduceLT, Int.reduceLE, Int.reduceToNat, Int.reduceNeg, reduceCtorEq, hgs, Node.cells, hy, hu, hv]; (try ((first | refine ⟨_, hGa, ?_⟩ | refine ⟨_, hGb, ?_⟩); (try simp only [go_sem, Nat.reduceLT, Nat.reduceLeDiff, Nat.reduceEqDiff, reduceIte, Nat.reduceAdd, Nat.reduceMul, Nat.reduceSub, Int.reduceLT, Int.reduceLE, Int.reduceToNat, Int.reduceNeg, reduceCtorEq, hgs, Node.cells, hy, hu, hv]))); (try simp (disch := omega) only [wrap_id, getD_map_in, Int.toNat_natCast, Node.cells, hy, hu, hv]); (repeat (refine And.intro (by (omega)) ?_)); refine h' _ ?_; clear h' K') | (refine aops_nil (hK _ ?_); clear hK K hgs gs; try simp only [aThen, aBlock]) | ((refine AWp.sreg (id := 9) dd92 rfl (fun gs K hgs hK => ?_)); replace hgs : gs 3 = some 45 := hgs 3) | ((refine AWp.sreg (id := 12) dd92 rfl (fun gs K hgs hK => ?_)); replace hgs : gs 1 = some 58 := hgs 1) | ((refine AWp.sreg (id := 13) dd92 rfl (fun gs K hgs hK => ?_)); replace hgs : gs 2 = some 63 := hgs 2) | (refine AWp.sreg  dd92 rfl (fun gs K hgs hK => ?_); replace hgs : Nat.succ 0 = 1 := rfl) | refine AWp.seq ?_ | refine AWp.block ?_ | (refine AWp.ret ?_; try simp only [aThen, aBlock]) | (refine AWp.skip ?_; try simp only [aThen, aBlock]) | ((refine AWp.regD  fo92 mo_fact (by kernel_rfl) (fun gs K hgs hK => ?_)); replace hgs : Nat.succ 0 = 1 := rfl) | (refine aopsD_nil (hK _ ?_); clear hK K hgs gs; simp only [fo92]; simp only [ASt.prune, pruneE, keepB, keepR, Bool.or_false, Bool.or_true, Bool.true_or, Bool.false_or, reduceIte, Bool.or_self, Bool.false_eq_true, aThen, aBlock, Nat.reduceEqDiff]) | (refine AWp.cond rfl (fun h => ?_) (fun h => ?_) <;> (try simp only [decide_eq_true_eq, decide_eq_false_iff_not, beq_iff_eq, bne_iff_ne, ne_eq, Bool.not_eq_true', Bool.not_eq_false', beq_eq_false_iff_ne, Bool.true_eq_false, Bool.false_eq_true, Int.not_le, Int.not_lt, Bool.and_eq_true, Bool.and_eq_false_iff, Bool.or_eq_true, Bool.or_eq_false_iff, bne_eq_false_iff_eq, reduceCtorEq] at h))))
  all_goals simp only [Out, outA, outL, resA, go_sem, Nat.reduceLT, Nat.reduceLeDiff, Nat.reduceEqDiff, reduceIte, Nat.reduceAdd, Nat.reduceMul, Nat.reduceSub, Int.reduceLT, Int.reduceLE, Int.reduceToNat, Int.reduceNeg, reduceCtorEq]
  all_goals refine AVle.of_eq (congrArg (fun b => AV.lit (.bool b)) ?_)
  all_goals unfold fitsK
  all_goals repeat' split
  all_goals first | rfl | (exfalso; omega)
def dd81 : Nat → List (List Nat)
  | 0 => [[], [2]]
  | 1 => [[], []]
  | 2 => [[], [], [], [5], [4, 6]]
  | 3 => [[13], [3], [8], [9]]
  | 4 => [[7], [], [], [10, 11], [12]]
  | 5 => [[0, 13], [3], [14]]
  | 6 => [[3, 7], [0], [15], [16]]
  | _ => []
theorem rWrong_c {l : List Node} {e : Ex} (hl : l.length ≤ 1000) (hx : IsEx l e) : ACall Tryz.prog 81 [nodesV l] (.lit (.int .i64 (wrongL l : Int))) := by
  have hF := fun k (hk : k < l.length) => rFits_c hl hx hk
  have hwl := wrongL_le l
  unfold nodesV at *
  refine acall_of (n := 17) (rs := [.tmp 2]) Tryz.func81 rfl (by kernel_rfl) rfl rfl rfl ?_; simp only [argsE, Nat.reduceAdd]
  repeat (any_goals (first | (refine aops_cons (fun K' h' => ?_); simp only [go_sem, Nat.reduceLT, Nat.reduceLeDiff, Nat.reduceEqDiff, reduceIte, Nat.reduceAdd, Nat.reduceMul, Nat.reduceSub, Int.reduceLT, Int.reduceLE, Int.reduceToNat, Int.reduceNeg, reduceCtorEq, Node.cells]; (try simp (disch := omega) only [wrap_id, getD_map_in, Int.toNat_natCast, Node.cells]); (repeat (refine And.intro (by (omega)) ?_)); refine h' _ ?_; clear h' K') | (refine aops_nil (hK _ ?_); clear hK K gs; try simp only [aThen, aBlock]) | (refine AWp.sreg  dd81 rfl (fun gs K hgs hK => ?_); clear hgs) | refine AWp.seq ?_ | refine AWp.block ?_))
  refine AWp.loop (I := fun k : Nat => k ≤ wrongL l) (fun k => ⟨[(0, .ro 5 (l.map Node.cells)), (3, .lit (.int .i64 (k : Int)))], [], []⟩) (fun k => l.length - k) 0 ?_ ?_ ?_
  · exact Nat.zero_le _
  · refine Wk.of rfl rfl ?_
    simp [subE, eget, ASt.drop, dropE, keepR, lowE, AV.lowB, lowL, Nat.blt, Nat.ble]
  · rintro k hk
    repeat ((first | (refine aops_cons (fun K' h' => ?_); simp only [go_sem, Nat.reduceLT, Nat.reduceLeDiff, Nat.reduceEqDiff, reduceIte, Nat.reduceAdd, Nat.reduceMul, Nat.reduceSub, Int.reduceLT, Int.reduceLE, Int.reduceToNat, Int.reduceNeg, reduceCtorEq, Node.cells]; (try simp (disch := omega) only [wrap_id, getD_map_in, Int.toNat_natCast, Node.cells]); (repeat (refine And.intro (by (omega)) ?_)); refine h' _ ?_; clear h' K') | (refine aops_nil (hK _ ?_); clear hK K gs; try simp only [aThen, aBlock]) | (refine AWp.sreg  dd81 rfl (fun gs K hgs hK => ?_); clear hgs) | refine AWp.seq ?_))
    (refine AWp.cond rfl (fun h => ?_) (fun h => ?_) <;> (try simp only [decide_eq_true_eq, decide_eq_false_iff_not, beq_iff_eq, bne_iff_ne, ne_eq, Bool.not_eq_true', Bool.not_eq_false', beq_eq_false_iff_ne, Bool.true_eq_false, Bool.false_eq_true, Int.not_le, Int.not_lt, Bool.and_eq_true, Bool.and_eq_false_iff, Bool.or_eq_true, Bool.or_eq_false_iff, bne_eq_false_iff_eq, reduceCtorEq] at h))
    · have hF := hF k (by omega)
      have h1 : fitsAt l k = true → k + 1 ≤ wrongL l := fun h => by
        rcases Nat.lt_or_ge k (wrongL l) with h1 | h1
        · exact h1
        · have := wrongL_not (l := l) (by omega)
          rw [show wrongL l = k by omega, h] at this; cases this
      have h2 : fitsAt l k = false → wrongL l = k := fun h => by
        rcases Nat.lt_or_ge k (wrongL l) with h1 | h1
        · have := wrongL_fits h1; rw [h] at this; cases this
        · omega
      generalize fitsAt l k = fk at *
      repeat (any_goals (first | (refine aops_cons (fun K' h' => ?_); simp only [go_sem, Nat.reduceLT, Nat.reduceLeDiff, Nat.reduceEqDiff, reduceIte, Nat.reduceAdd, Nat.reduceMul, Nat.reduceSub, Int.reduceLT, Int.reduceLE, Int.reduceToNat, Int.reduceNeg, reduceCtorEq, Node.cells]; (try ((refine ⟨_, hF, ?_⟩); (try simp only [go_sem, Nat.reduceLT, Nat.reduceLeDiff, Nat.reduceEqDiff, reduceIte, Nat.reduceAdd, Nat.reduceMul, Nat.reduceSub, Int.reduceLT, Int.reduceLE, Int.reduceToNat, Int.reduceNeg, reduceCtorEq, Node.cells]))); (try simp (disch := omega) only [wrap_id, getD_map_in, Int.toNat_natCast, Node.cells]); (repeat (refine And.intro (by (omega)) ?_)); refine h' _ ?_; clear h' K') | (refine aops_nil (hK _ ?_); clear hK K gs; try simp only [aThen, aBlock]) | (refine AWp.sreg  dd81 rfl (fun gs K hgs hK => ?_); clear hgs) | refine AWp.seq ?_ | refine AWp.block ?_ | (refine AWp.ret ?_; try simp only [aThen, aBlock]) | (refine AWp.skip ?_; try simp only [aThen, aBlock]) | (refine AWp.reg  dd81 rfl (fun gs K hgs hK => ?_); clear hgs) | (refine AWp.cond rfl (fun h => ?_) (fun h => ?_) <;> (try simp only [decide_eq_true_eq, decide_eq_false_iff_not, beq_iff_eq, bne_iff_ne, ne_eq, Bool.not_eq_true', Bool.not_eq_false', beq_eq_false_iff_ne, Bool.true_eq_false, Bool.false_eq_true, Int.not_le, Int.not_lt, Bool.and_eq_true, Bool.and_eq_false_iff, Bool.or_eq_true, Bool.or_eq_false_iff, bne_eq_false_iff_eq, reduceCtorEq] at h))))
      · simp only [Out, outA, outL, resA, go_sem, Nat.reduceLT, Nat.reduceLeDiff, Nat.reduceEqDiff, reduceIte, Nat.reduceAdd, Nat.reduceMul, Nat.reduceSub, Int.reduceLT, Int.reduceLE, Int.reduceToNat, Int.reduceNeg, reduceCtorEq]
        rw [h2 (by assumption)]
        exact AVle.refl _
      · refine ⟨k + 1, h1 (by assumption), Wk.of rfl rfl ?_, by omega⟩
        first
          | (simp [subE, eget, ASt.drop, dropE, keepR, lowE, AV.lowB, lowL, Nat.blt, Nat.ble]; done)
          | (simp [subE, eget, ASt.drop, dropE, keepR, lowE, AV.lowB, lowL, Nat.blt, Nat.ble]; omega)
    · have hkl : wrongL l = l.length := by omega
      rw [hkl]
      repeat (any_goals (first | (refine aops_cons (fun K' h' => ?_); simp only [go_sem, Nat.reduceLT, Nat.reduceLeDiff, Nat.reduceEqDiff, reduceIte, Nat.reduceAdd, Nat.reduceMul, Nat.reduceSub, Int.reduceLT, Int.reduceLE, Int.reduceToNat, Int.reduceNeg, reduceCtorEq, Node.cells]; (try simp (disch := omega) only [wrap_id, getD_map_in, Int.toNat_natCast, Node.cells]); (repeat (refine And.intro (by (omega)) ?_)); refine h' _ ?_; clear h' K') | (refine aops_nil (hK _ ?_); clear hK K gs; try simp only [aThen, aBlock]) | (refine AWp.sreg  dd81 rfl (fun gs K hgs hK => ?_); clear hgs) | (refine AWp.ret ?_; try simp only [aThen, aBlock]) | (refine AWp.exit ?_; try simp only [aThen, aBlock, Nat.reduceEqDiff, reduceIte])))
      simp only [Out, outA, outL, resA, go_sem, Nat.reduceLT, Nat.reduceLeDiff, Nat.reduceEqDiff, reduceIte, Nat.reduceAdd, Nat.reduceMul, Nat.reduceSub, Int.reduceLT, Int.reduceLE, Int.reduceToNat, Int.reduceNeg, reduceCtorEq]
      exact AVle.refl _
def dd70 : Nat → List (List Nat)
  | 0 => [[], [2], [3], [4]]
  | 1 => [[], [], [6], [7]]
  | 2 => [[8], [0], [9], [], [], [10]]
  | 3 => [[8], [], [11], [12]]
  | 4 => [[], [], [], [14], [13, 15]]
  | 5 => [[0, 16], [5], [], [17], []]
  | 6 => [[5, 16], [], [], [19], [20], [18, 21], [22], [23], [24], [0], [26], [27], [25], [28], []]
  | _ => []
theorem rOf_c (l : List Node) (hl : l.length ≤ 1000) : ACall Tryz.prog 70 [nodesV l] (.tup [.lit (.bool (ofB l)), .lit (.int .i64 (ofN l)), .lit (.int .i64 (ofE l))]) := by
  have hC := rCheck_c l hl
  by_cases h0 : errL l = 0
  · obtain ⟨e, ht, hx, hsz, hdp⟩ := errL_ok h0
    have hW := rWrong_c hl hx
    have hwl := wrongL_le l
    have hp := e.sz_pos
    have hle := hx.len
    rw [h0] at hC
    by_cases hw : wrongL l = l.length
    · rw [(ofE_ok h0 hw).1, (ofE_ok h0 hw).2.1, (ofE_ok h0 hw).2.2]
      rw [hw] at hW
      obtain ⟨y, hy⟩ : ∃ y, l.getD (l.length - 1) default = y := ⟨_, rfl⟩
      have hn : ((l.length : Int) - 1).toNat = l.length - 1 := by omega
      rw [hy]
      have hGa := gives_c y.kind
      obtain ⟨kd, nn, xa, xb, xp⟩ := y
      simp only at hGa ⊢
      generalize givesB kd = g at *
      unfold nodesV at *
      refine acall_of (n := 29) (rs := [.tmp 2, .tmp 3, .tmp 4]) Tryz.func70 rfl (by kernel_rfl) rfl rfl rfl ?_; simp only [argsE, Nat.reduceAdd]
      repeat (any_goals (first | (refine aops_cons (fun K' h' => ?_); simp only [go_sem, Nat.reduceLT, Nat.reduceLeDiff, Nat.reduceEqDiff, reduceIte, Nat.reduceAdd, Nat.reduceMul, Nat.reduceSub, Int.reduceLT, Int.reduceLE, Int.reduceToNat, Int.reduceNeg, reduceCtorEq, Node.cells, hn, hy]; (try ((first | refine ⟨_, hC, ?_⟩ | refine ⟨_, hGa, ?_⟩ | refine ⟨_, hW, ?_⟩); (try simp only [go_sem, Nat.reduceLT, Nat.reduceLeDiff, Nat.reduceEqDiff, reduceIte, Nat.reduceAdd, Nat.reduceMul, Nat.reduceSub, Int.reduceLT, Int.reduceLE, Int.reduceToNat, Int.reduceNeg, reduceCtorEq, Node.cells, hn, hy]))); (try simp (disch := omega) only [wrap_id, getD_map_in, Int.toNat_natCast, Node.cells, hn, hy]); (repeat (refine And.intro (by (omega)) ?_)); refine h' _ ?_; clear h' K') | (refine aops_nil (hK _ ?_); clear hK K gs; try simp only [aThen, aBlock]) | (refine AWp.sreg  dd70 rfl (fun gs K hgs hK => ?_); clear hgs) | refine AWp.seq ?_ | (refine AWp.ret ?_; try simp only [aThen, aBlock]) | (refine AWp.skip ?_; try simp only [aThen, aBlock]) | (refine AWp.cond rfl (fun h => ?_) (fun h => ?_) <;> (try simp only [decide_eq_true_eq, decide_eq_false_iff_not, beq_iff_eq, bne_iff_ne, ne_eq, Bool.not_eq_true', Bool.not_eq_false', beq_eq_false_iff_ne, Bool.true_eq_false, Bool.false_eq_true, Int.not_le, Int.not_lt, Bool.and_eq_true, Bool.and_eq_false_iff, Bool.or_eq_true, Bool.or_eq_false_iff, bne_eq_false_iff_eq, reduceCtorEq] at h) <;> (try first | contradiction | (exfalso; omega)))))
      all_goals simp only [Out, outA, outL, resA, go_sem, Nat.reduceLT, Nat.reduceLeDiff, Nat.reduceEqDiff, reduceIte, Nat.reduceAdd, Nat.reduceMul, Nat.reduceSub, Int.reduceLT, Int.reduceLE, Int.reduceToNat, Int.reduceNeg, reduceCtorEq]
      all_goals exact AVle.refl _
    · rw [(ofE_type h0 (by omega)).1, (ofE_type h0 (by omega)).2.1, (ofE_type h0 (by omega)).2.2]
      generalize wrongL l = w at *
      unfold nodesV at *
      refine acall_of (n := 29) (rs := [.tmp 2, .tmp 3, .tmp 4]) Tryz.func70 rfl (by kernel_rfl) rfl rfl rfl ?_; simp only [argsE, Nat.reduceAdd]
      repeat (any_goals (first | (refine aops_cons (fun K' h' => ?_); simp only [go_sem, Nat.reduceLT, Nat.reduceLeDiff, Nat.reduceEqDiff, reduceIte, Nat.reduceAdd, Nat.reduceMul, Nat.reduceSub, Int.reduceLT, Int.reduceLE, Int.reduceToNat, Int.reduceNeg, reduceCtorEq, Node.cells]; (try ((first | refine ⟨_, hC, ?_⟩ | refine ⟨_, hW, ?_⟩); (try simp only [go_sem, Nat.reduceLT, Nat.reduceLeDiff, Nat.reduceEqDiff, reduceIte, Nat.reduceAdd, Nat.reduceMul, Nat.reduceSub, Int.reduceLT, Int.reduceLE, Int.reduceToNat, Int.reduceNeg, reduceCtorEq, Node.cells]))); (try simp (disch := omega) only [wrap_id, getD_map_in, Int.toNat_natCast, Node.cells]); (repeat (refine And.intro (by (omega)) ?_)); refine h' _ ?_; clear h' K') | (refine aops_nil (hK _ ?_); clear hK K gs; try simp only [aThen, aBlock]) | (refine AWp.sreg  dd70 rfl (fun gs K hgs hK => ?_); clear hgs) | refine AWp.seq ?_ | (refine AWp.ret ?_; try simp only [aThen, aBlock]) | (refine AWp.skip ?_; try simp only [aThen, aBlock]) | (refine AWp.cond rfl (fun h => ?_) (fun h => ?_) <;> (try simp only [decide_eq_true_eq, decide_eq_false_iff_not, beq_iff_eq, bne_iff_ne, ne_eq, Bool.not_eq_true', Bool.not_eq_false', beq_eq_false_iff_ne, Bool.true_eq_false, Bool.false_eq_true, Int.not_le, Int.not_lt, Bool.and_eq_true, Bool.and_eq_false_iff, Bool.or_eq_true, Bool.or_eq_false_iff, bne_eq_false_iff_eq, reduceCtorEq] at h) <;> (try first | contradiction | (exfalso; omega)))))
      all_goals simp only [Out, outA, outL, resA, go_sem, Nat.reduceLT, Nat.reduceLeDiff, Nat.reduceEqDiff, reduceIte, Nat.reduceAdd, Nat.reduceMul, Nat.reduceSub, Int.reduceLT, Int.reduceLE, Int.reduceToNat, Int.reduceNeg, reduceCtorEq]
      all_goals exact AVle.refl _
  · rw [(ofE_bad h0).1, (ofE_bad h0).2.1, (ofE_bad h0).2.2]
    generalize errL l = ea at *
    unfold nodesV at *
    refine acall_of (n := 29) (rs := [.tmp 2, .tmp 3, .tmp 4]) Tryz.func70 rfl (by kernel_rfl) rfl rfl rfl ?_; simp only [argsE, Nat.reduceAdd]
    repeat (any_goals (first | (refine aops_cons (fun K' h' => ?_); simp only [go_sem, Nat.reduceLT, Nat.reduceLeDiff, Nat.reduceEqDiff, reduceIte, Nat.reduceAdd, Nat.reduceMul, Nat.reduceSub, Int.reduceLT, Int.reduceLE, Int.reduceToNat, Int.reduceNeg, reduceCtorEq, Node.cells]; (try ((refine ⟨_, hC, ?_⟩); (try simp only [go_sem, Nat.reduceLT, Nat.reduceLeDiff, Nat.reduceEqDiff, reduceIte, Nat.reduceAdd, Nat.reduceMul, Nat.reduceSub, Int.reduceLT, Int.reduceLE, Int.reduceToNat, Int.reduceNeg, reduceCtorEq, Node.cells]))); (try simp (disch := omega) only [wrap_id, getD_map_in, Int.toNat_natCast, Node.cells]); (repeat (refine And.intro (by (omega)) ?_)); refine h' _ ?_; clear h' K') | (refine aops_nil (hK _ ?_); clear hK K gs; try simp only [aThen, aBlock]) | (refine AWp.sreg  dd70 rfl (fun gs K hgs hK => ?_); clear hgs) | refine AWp.seq ?_ | (refine AWp.ret ?_; try simp only [aThen, aBlock]) | (refine AWp.cond rfl (fun h => ?_) (fun h => ?_) <;> (try simp only [decide_eq_true_eq, decide_eq_false_iff_not, beq_iff_eq, bne_iff_ne, ne_eq, Bool.not_eq_true', Bool.not_eq_false', beq_eq_false_iff_ne, Bool.true_eq_false, Bool.false_eq_true, Int.not_le, Int.not_lt, Bool.and_eq_true, Bool.and_eq_false_iff, Bool.or_eq_true, Bool.or_eq_false_iff, bne_eq_false_iff_eq, reduceCtorEq] at h) <;> (try first | contradiction))))
    all_goals first
      | (exfalso; omega)
      | (simp only [Out, outA, outL, resA, go_sem, Nat.reduceLT, Nat.reduceLeDiff, Nat.reduceEqDiff, reduceIte, Nat.reduceAdd, Nat.reduceMul, Nat.reduceSub, Int.reduceLT, Int.reduceLE, Int.reduceToNat, Int.reduceNeg, reduceCtorEq]
         exact AVle.refl _)
def dd59 : Nat → List (List Nat)
  | 0 => [[], [4], [5]]
  | 1 => [[], [0], [10], [11], [], [], [9], [12], [13], [14]]
  | 2 => [[], [], [15], [16], [6], [1], [18, 19], [17, 20]]
  | 3 => [[8, 21], [7], [22], []]
  | 4 => [[21], [7], [8], [23], [24]]
  | _ => []
theorem rWant_c (l : List Node) (t : Bool) (hl : l.length ≤ 1000) : ACall Tryz.prog 59 [nodesV l, .lit (.bool t)] (.tup [.lit (.int .i64 (ofN l)), .lit (.int .i64 (wantE l t))]) := by
  have hO := rOf_c l hl
  unfold wantE
  generalize ofB l = ob at *
  generalize ofN l = on at *
  generalize ofE l = oe at *
  unfold nodesV at *
  refine acall_of (n := 25) (rs := [.tmp 4, .tmp 5]) Tryz.func59 rfl (by kernel_rfl) rfl rfl rfl ?_; simp only [argsE, Nat.reduceAdd]
  repeat (any_goals (first | (refine aops_cons (fun K' h' => ?_); simp only [go_sem, Nat.reduceLT, Nat.reduceLeDiff, Nat.reduceEqDiff, reduceIte, Nat.reduceAdd, Nat.reduceMul, Nat.reduceSub, Int.reduceLT, Int.reduceLE, Int.reduceToNat, Int.reduceNeg, reduceCtorEq, hgs, Node.cells]; (try ((refine ⟨_, hO, ?_⟩); (try simp only [go_sem, Nat.reduceLT, Nat.reduceLeDiff, Nat.reduceEqDiff, reduceIte, Nat.reduceAdd, Nat.reduceMul, Nat.reduceSub, Int.reduceLT, Int.reduceLE, Int.reduceToNat, Int.reduceNeg, reduceCtorEq, hgs, Node.cells]))); (try simp (disch := omega) only [wrap_id, getD_map_in, Int.toNat_natCast, Node.cells]); (repeat (refine And.intro (by (omega)) ?_)); refine h' _ ?_; clear h' K') | (refine aops_nil (hK _ ?_); clear hK K hgs gs; try simp only [aThen, aBlock]) | ((refine AWp.sreg (id := 2) dd59 rfl (fun gs K hgs hK => ?_)); replace hgs : gs 2 = some 17 := hgs 2) | (refine AWp.sreg  dd59 rfl (fun gs K hgs hK => ?_); replace hgs : Nat.succ 0 = 1 := rfl) | refine AWp.seq ?_ | (refine AWp.ret ?_; try simp only [aThen, aBlock]) | (refine AWp.skip ?_; try simp only [aThen, aBlock]) | (refine AWp.cond rfl (fun h => ?_) (fun h => ?_) <;> (try simp only [decide_eq_true_eq, decide_eq_false_iff_not, beq_iff_eq, bne_iff_ne, ne_eq, Bool.not_eq_true', Bool.not_eq_false', beq_eq_false_iff_ne, Bool.true_eq_false, Bool.false_eq_true, Int.not_le, Int.not_lt, Bool.and_eq_true, Bool.and_eq_false_iff, Bool.or_eq_true, Bool.or_eq_false_iff, bne_eq_false_iff_eq, reduceCtorEq] at h))))
  · simp only [Out, outA, outL, resA, go_sem, Nat.reduceLT, Nat.reduceLeDiff, Nat.reduceEqDiff, reduceIte, Nat.reduceAdd, Nat.reduceMul, Nat.reduceSub, Int.reduceLT, Int.reduceLE, Int.reduceToNat, Int.reduceNeg, reduceCtorEq]
    rw [if_pos (by simpa using h)]
    exact AVle.refl _
  · simp only [Out, outA, outL, resA, go_sem, Nat.reduceLT, Nat.reduceLeDiff, Nat.reduceEqDiff, reduceIte, Nat.reduceAdd, Nat.reduceMul, Nat.reduceSub, Int.reduceLT, Int.reduceLE, Int.reduceToNat, Int.reduceNeg, reduceCtorEq]
    rw [if_neg (by intro h2; rcases h with h | h; exact h h2.1; exact h2.2 h)]
    exact AVle.refl _
end Go.Proofs.YtjeehkdepoiegaaGreat
