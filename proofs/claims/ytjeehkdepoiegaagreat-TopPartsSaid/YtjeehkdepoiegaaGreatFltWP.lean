/-
  The walks over filter.Project and what it yields.
-/
import Derived.Test.YtjeehkdepoiegaaGreatQryW
import Derived.Test.YtjeehkdepoiegaaGreatEvalW
import Derived.Test.YtjeehkdepoiegaaGreatTskW1
namespace Go.Proofs.YtjeehkdepoiegaaGreat
open Go.AL Go.RowKit
set_option linter.unusedSimpArgs false
set_option linter.unusedVariables false
set_option maxRecDepth 10000
set_option maxHeartbeats 8000000
@[go_sem] theorem zero_wish : zeroL Tryz.prog 146 = some [.slice none 0 0, .nilFunc] := by kernel_rfl
@[go_sem] theorem apT_wish : apT Tryz.prog 158 = some (146, 2, 32) := by kernel_rfl
structure Qry.fit (q : Qry) : Prop where
  a : q.arg.length ≤ 1000
  w : q.wh.length ≤ 1000
  s : q.src.length ≤ 1000
  sb : ∀ x ∈ q.src, -9223372036854775808 ≤ x ∧ x ≤ 9223372036854775807
  an : nodesB q.arg
  wn : nodesB q.wh
noncomputable def fstE (ar wh : List Node) : Int := if 0 < ar.length ∧ wantE ar false ≠ 0 then wantE ar false else if 0 < wh.length ∧ wantE wh true ≠ 0 then wantE wh true else 0
noncomputable def fstP (ar wh : List Node) : Int := if 0 < ar.length ∧ wantE ar false ≠ 0 then (ar.getD (ofN ar).toNat default).pos else if 0 < wh.length ∧ wantE wh true ≠ 0 then (wh.getD (ofN wh).toNat default).pos else 0
noncomputable def accP (q : Qry) : Int := if chkE q ≠ 0 then 0 else fstP q.arg q.wh
noncomputable def accE (q : Qry) : Int := if chkE q ≠ 0 then chkE q else fstE q.arg q.wh
theorem ofN_bd {l : List Node} (h : 0 < l.length) : 0 ≤ ofN l ∧ ofN l < l.length := by
  have := wrongL_le l
  unfold ofN
  split
  · omega
  · split <;> omega
def dd74 : Nat → List (List Nat)
  | 0 => [[], [2], [3]]
  | 1 => [[], [0], [], []]
  | 2 => [[], []]
  | 3 => [[11], [], [12], [], [13]]
  | 4 => [[], [], [14], [15], [16]]
  | 5 => [[17], [], [19], [], [21], [20, 22], [23], [], [18], [24], [25]]
  | 6 => [[], [], [26]]
  | 7 => [[8, 9, 10, 27], [5], [28], [6], [29, 30], [31], [32], [7], [33], [34]]
  | 8 => [[5, 6, 7, 17, 27], [10], [35]]
  | 9 => [[8, 9, 10, 11], [], []]
  | _ => []
theorem first_c (ar wh : List Node) (h1 : ar.length ≤ 1000) (h2 : wh.length ≤ 1000) :
    ACall Tryz.prog 74 [.ro 2 [[nodesV ar, .lit (.func (.func 75) #[] #[])], [nodesV wh, .lit (.func (.func 76) #[] #[])]]] (.tup [.lit (.int .i64 (fstP ar wh)), .lit (.int .i64 (fstE ar wh))]) := by
  have hAsk1 := kNumber_c ar h1
  have hAsk2 := kTruth_c wh h2
  have n1 := ofN_bd (l := ar)
  have n2 := ofN_bd (l := wh)
  unfold fstE fstP
  generalize wantE ar false = ea at *
  generalize wantE wh true = ew at *
  generalize ofN ar = na at *
  generalize ofN wh = nw at *
  unfold nodesV at *
  rcases Nat.eq_zero_or_pos ar.length with ha | ha <;> rcases Nat.eq_zero_or_pos wh.length with hw | hw
  all_goals try have n1 := n1 ha
  all_goals try have n2 := n2 hw
  all_goals
    refine acall_of (n := 36) (rs := [.tmp 2, .tmp 3]) Tryz.func74 rfl (by kernel_rfl) rfl rfl rfl ?_; simp only [argsE, Nat.reduceAdd]
  repeat (any_goals (first | (refine aops_cons (fun K' h' => ?_); simp only [go_sem, Nat.reduceLT, Nat.reduceLeDiff, Nat.reduceEqDiff, reduceIte, Nat.reduceAdd, Nat.reduceMul, Nat.reduceSub, Int.reduceLT, Int.reduceLE, Int.reduceToNat, Int.reduceNeg, reduceCtorEq, Node.cells, aopG, bne_self_eq_false, Bool.not_false, beq_self_eq_true]; (try simp (disch := omega) only [wrap_id, getD_map_in, Int.toNat_natCast, Node.cells, aopG, bne_self_eq_false, Bool.not_false, beq_self_eq_true]); (repeat (refine And.intro (by (omega)) ?_)); refine h' _ ?_; clear h' K') | (refine aops_nil (hK _ ?_); clear hK K gs; try simp only [aThen, aBlock]) | (refine AWp.sreg  dd74 rfl (fun gs K hgs hK => ?_); clear hgs) | refine AWp.seq ?_ | refine AWp.block ?_))
  all_goals refine AWp.loopR 3 ?_
  repeat (any_goals (first | (refine aops_cons (fun K' h' => ?_); simp only [go_sem, Nat.reduceLT, Nat.reduceLeDiff, Nat.reduceEqDiff, reduceIte, Nat.reduceAdd, Nat.reduceMul, Nat.reduceSub, Int.reduceLT, Int.reduceLE, Int.reduceToNat, Int.reduceNeg, reduceCtorEq, Node.cells, aopG, bne_self_eq_false, Bool.not_false, beq_self_eq_true, Int.reduceAdd, Int.zero_add]; (try ((first | refine ⟨_, hAsk1, ?_⟩ | refine ⟨_, hAsk2, ?_⟩); (try simp only [go_sem, Nat.reduceLT, Nat.reduceLeDiff, Nat.reduceEqDiff, reduceIte, Nat.reduceAdd, Nat.reduceMul, Nat.reduceSub, Int.reduceLT, Int.reduceLE, Int.reduceToNat, Int.reduceNeg, reduceCtorEq, Node.cells, aopG, bne_self_eq_false, Bool.not_false, beq_self_eq_true, Int.reduceAdd, Int.zero_add]))); (try simp (disch := omega) only [wrap_id, getD_map_in, Int.toNat_natCast, Node.cells, aopG, bne_self_eq_false, Bool.not_false, beq_self_eq_true, Int.reduceAdd, Int.zero_add]); (repeat (refine And.intro (by (omega)) ?_)); refine h' _ ?_; clear h' K') | (refine aops_nil (hK _ ?_); clear hK K gs; try simp only [aThen, aBlock]) | (refine AWp.sreg  dd74 rfl (fun gs K hgs hK => ?_); clear hgs) | refine AWp.seq ?_ | refine AWp.block ?_ | (refine AWp.ret ?_; try simp only [aThen, aBlock]) | (refine AWp.skip ?_; try simp only [aThen, aBlock]) | (refine AWp.exit ?_; try simp only [aThen, aBlock, Nat.reduceEqDiff, reduceIte]) | (refine AWp.reg  dd74 rfl (fun gs K hgs hK => ?_); clear hgs) | (refine AWp.cond rfl (fun h => ?_) (fun h => ?_) <;> (try simp only [decide_eq_true_eq, decide_eq_false_iff_not, beq_iff_eq, bne_iff_ne, ne_eq, Bool.not_eq_true', Bool.not_eq_false', beq_eq_false_iff_ne, Bool.true_eq_false, Bool.false_eq_true, Int.not_le, Int.not_lt, Bool.and_eq_true, Bool.and_eq_false_iff, Bool.or_eq_true, Bool.or_eq_false_iff, bne_eq_false_iff_eq, reduceCtorEq] at h) <;> (try first | contradiction | (exfalso; omega)))))
  all_goals first
    | (exfalso; omega)
    | skip
  all_goals simp only [Out, outA, outL, resA, go_sem, Nat.reduceLT, Nat.reduceLeDiff, Nat.reduceEqDiff, reduceIte, Nat.reduceAdd, Nat.reduceMul, Nat.reduceSub, Int.reduceLT, Int.reduceLE, Int.reduceToNat, Int.reduceNeg, reduceCtorEq]
  all_goals refine AVle.tup ⟨AVle.of_eq (congrArg (fun n => AV.lit (.int .i64 n)) ?_), AVle.of_eq (congrArg (fun n => AV.lit (.int .i64 n)) ?_), trivial⟩
  all_goals repeat' split
  all_goals first
    | rfl
    | omega
def dd67 : Nat → List (List Nat)
  | 0 => [[], [0], [2], [3]]
  | 1 => [[], [], [5], [6]]
  | 2 => [[], [], [7]]
  | 3 => [[1, 8], [4], [], [9]]
  | 4 => [[4, 8], [], [10], [11], [1], [13], [14], [12, 15], [16], [], [17], [18], [19]]
  | _ => []
theorem checks_c (q : Qry) (h : q.fit) : ACall Tryz.prog 67 [.agg q.cells] (.tup [.lit (.int .i64 (accP q)), .lit (.int .i64 (accE q))]) := by
  have hC := qCheck_c q h.a h.w h.s h.sb
  have hF := first_c q.arg q.wh h.a h.w
  have hu : accE q = if chkE q ≠ 0 then chkE q else fstE q.arg q.wh := rfl
  have hv : accP q = if chkE q ≠ 0 then 0 else fstP q.arg q.wh := rfl
  generalize accE q = ac at *
  generalize accP q = ap at *
  generalize chkE q = ce at *
  obtain ⟨ag, ar, sr, jn, wh, ⟨kd, sz, ev⟩, bk, lt⟩ := q
  simp only at hF hu hv
  generalize fstE ar wh = fe at *
  generalize fstP ar wh = fp at *
  unfold Qry.cells nodesV intsV at *
  simp only at hC ⊢
  clear h
  refine acall_of (n := 20) (rs := [.tmp 2, .tmp 3]) Tryz.func67 rfl (by kernel_rfl) rfl rfl rfl ?_; simp only [argsE, Nat.reduceAdd]
  repeat (any_goals (first | (refine aops_cons (fun K' h' => ?_); simp only [go_sem, Nat.reduceLT, Nat.reduceLeDiff, Nat.reduceEqDiff, reduceIte, Nat.reduceAdd, Nat.reduceMul, Nat.reduceSub, Int.reduceLT, Int.reduceLE, Int.reduceToNat, Int.reduceNeg, reduceCtorEq, Node.cells, aopG, bne_self_eq_false, Bool.not_false, beq_self_eq_true]; (try ((first | refine ⟨_, hC, ?_⟩ | refine ⟨_, hF, ?_⟩); (try simp only [go_sem, Nat.reduceLT, Nat.reduceLeDiff, Nat.reduceEqDiff, reduceIte, Nat.reduceAdd, Nat.reduceMul, Nat.reduceSub, Int.reduceLT, Int.reduceLE, Int.reduceToNat, Int.reduceNeg, reduceCtorEq, Node.cells, aopG, bne_self_eq_false, Bool.not_false, beq_self_eq_true]))); (try simp (disch := omega) only [wrap_id, getD_map_in, Int.toNat_natCast, Node.cells, aopG, bne_self_eq_false, Bool.not_false, beq_self_eq_true]); (repeat (refine And.intro (by (omega)) ?_)); refine h' _ ?_; clear h' K') | (refine aops_nil (hK _ ?_); clear hK K gs; try simp only [aThen, aBlock]) | (refine AWp.sreg  dd67 rfl (fun gs K hgs hK => ?_); clear hgs) | refine AWp.seq ?_ | (refine AWp.ret ?_; try simp only [aThen, aBlock]) | (refine AWp.skip ?_; try simp only [aThen, aBlock]) | (refine AWp.cond rfl (fun h => ?_) (fun h => ?_) <;> (try simp only [decide_eq_true_eq, decide_eq_false_iff_not, beq_iff_eq, bne_iff_ne, ne_eq, Bool.not_eq_true', Bool.not_eq_false', beq_eq_false_iff_ne, Bool.true_eq_false, Bool.false_eq_true, Int.not_le, Int.not_lt, Bool.and_eq_true, Bool.and_eq_false_iff, Bool.or_eq_true, Bool.or_eq_false_iff, bne_eq_false_iff_eq, reduceCtorEq] at h))))
  all_goals simp only [Out, outA, outL, resA, go_sem, Nat.reduceLT, Nat.reduceLeDiff, Nat.reduceEqDiff, reduceIte, Nat.reduceAdd, Nat.reduceMul, Nat.reduceSub, Int.reduceLT, Int.reduceLE, Int.reduceToNat, Int.reduceNeg, reduceCtorEq]
  · rw [if_pos (by assumption)] at hu hv
    rw [hu, hv]; exact AVle.refl _
  · rw [if_neg (by omega)] at hu hv
    rw [hu, hv]; exact AVle.refl _
def dd39 : Nat → List (List Nat)
  | 0 => [[], [0], [2], [3]]
  | 1 => [[], [], [8], [9], [10]]
  | 2 => [[11], [], [13], [14], [15], [], [12], [16], [17]]
  | 3 => [[], [], [18]]
  | 4 => [[19], [1], [20], [4], [21, 22], [23], [24], [5], [25], [26]]
  | 5 => [[4, 5, 11, 19], [], [27], [28], [29]]
  | 6 => [[30], [], [32], [33], [34], [], [31], [35], [36]]
  | 7 => [[], [], [37]]
  | 8 => [[38], [1], [39], [6], [40, 41], [42], [43], [7], [44], [45]]
  | 9 => [[1, 6, 7, 30, 38], [], []]
  | _ => []
theorem right10_c (q : Qry) (h : q.fit) : ACall Tryz.prog 39 [.agg q.cells] (.tup [.lit (.int .i64 (fstP q.arg q.wh)), .lit (.int .i64 (fstE q.arg q.wh))]) := by
  have hAsk1 := rWant_c q.arg false h.a
  have hAsk2 := rWant_c q.wh true h.w
  have n1 := ofN_bd (l := q.arg)
  have n2 := ofN_bd (l := q.wh)
  unfold fstE fstP
  generalize wantE q.arg false = ea at *
  generalize wantE q.wh true = ew at *
  generalize ofN q.arg = na at *
  generalize ofN q.wh = nw at *
  obtain ⟨h1, h2, -, -, -, -⟩ := h
  obtain ⟨ag, ar, sr, jn, wh, ⟨kd, sz, ev⟩, bk, lt⟩ := q
  simp only at hAsk1 hAsk2 n1 n2 h1 h2 ⊢
  unfold Qry.cells nodesV intsV at *
  simp only at *
  rcases Nat.eq_zero_or_pos ar.length with ha | ha <;> rcases Nat.eq_zero_or_pos wh.length with hw | hw
  all_goals try have n1 := n1 ha
  all_goals try have n2 := n2 hw
  all_goals
    refine acall_of (n := 46) (rs := [.tmp 2, .tmp 3]) Tryz.func39 rfl (by kernel_rfl) rfl rfl rfl ?_; simp only [argsE, Nat.reduceAdd]
  repeat (any_goals (first | (refine aops_cons (fun K' h' => ?_); simp only [go_sem, Nat.reduceLT, Nat.reduceLeDiff, Nat.reduceEqDiff, reduceIte, Nat.reduceAdd, Nat.reduceMul, Nat.reduceSub, Int.reduceLT, Int.reduceLE, Int.reduceToNat, Int.reduceNeg, reduceCtorEq, Node.cells, aopG, bne_self_eq_false, Bool.not_false, beq_self_eq_true]; (try ((first | refine ⟨_, hAsk1, ?_⟩ | refine ⟨_, hAsk2, ?_⟩); (try simp only [go_sem, Nat.reduceLT, Nat.reduceLeDiff, Nat.reduceEqDiff, reduceIte, Nat.reduceAdd, Nat.reduceMul, Nat.reduceSub, Int.reduceLT, Int.reduceLE, Int.reduceToNat, Int.reduceNeg, reduceCtorEq, Node.cells, aopG, bne_self_eq_false, Bool.not_false, beq_self_eq_true]))); (try simp (disch := omega) only [wrap_id, getD_map_in, Int.toNat_natCast, Node.cells, aopG, bne_self_eq_false, Bool.not_false, beq_self_eq_true]); (repeat (refine And.intro (by (omega)) ?_)); refine h' _ ?_; clear h' K') | (refine aops_nil (hK _ ?_); clear hK K gs; try simp only [aThen, aBlock]) | (refine AWp.sreg  dd39 rfl (fun gs K hgs hK => ?_); clear hgs) | refine AWp.seq ?_ | (refine AWp.ret ?_; try simp only [aThen, aBlock]) | (refine AWp.skip ?_; try simp only [aThen, aBlock]) | (refine AWp.cond rfl (fun h => ?_) (fun h => ?_) <;> (try simp only [decide_eq_true_eq, decide_eq_false_iff_not, beq_iff_eq, bne_iff_ne, ne_eq, Bool.not_eq_true', Bool.not_eq_false', beq_eq_false_iff_ne, Bool.true_eq_false, Bool.false_eq_true, Int.not_le, Int.not_lt, Bool.and_eq_true, Bool.and_eq_false_iff, Bool.or_eq_true, Bool.or_eq_false_iff, bne_eq_false_iff_eq, reduceCtorEq] at h) <;> (try first | (exfalso; omega)))))
  all_goals first
    | (exfalso; omega)
    | skip
  all_goals simp only [Out, outA, outL, resA, go_sem, Nat.reduceLT, Nat.reduceLeDiff, Nat.reduceEqDiff, reduceIte, Nat.reduceAdd, Nat.reduceMul, Nat.reduceSub, Int.reduceLT, Int.reduceLE, Int.reduceToNat, Int.reduceNeg, reduceCtorEq]
  all_goals refine AVle.tup ⟨AVle.of_eq (congrArg (fun n => AV.lit (.int .i64 n)) ?_), AVle.of_eq (congrArg (fun n => AV.lit (.int .i64 n)) ?_), trivial⟩
  all_goals repeat' split
  all_goals first
    | rfl
    | omega
theorem le_max {n : Nat} (h : n ≤ 1000) : n ≤ maxLen := by unfold maxLen; omega
def dd15 : Nat → List (List Nat)
  | 0 => [[], [0], [2], [3]]
  | 1 => [[], [], [4], [5]]
  | 2 => [[6], [1], [7], [], [8]]
  | 3 => [[6], [1], [9], [], [10], [11], [12]]
  | _ => []
theorem checks10_c (q : Qry) (h : q.fit) : ACall Tryz.prog 15 [.agg q.cells] (.tup [.lit (.int .i64 (accP q)), .lit (.int .i64 (accE q))]) := by
  have hC := rqCheck_c q (le_max h.a) (le_max h.w) (le_max h.s)
  have hF := right10_c q h
  have hu : accE q = if chkE q ≠ 0 then chkE q else fstE q.arg q.wh := rfl
  have hv : accP q = if chkE q ≠ 0 then 0 else fstP q.arg q.wh := rfl
  generalize accE q = ac at *
  generalize accP q = ap at *
  generalize chkE q = ce at *
  generalize fstE q.arg q.wh = fe at *
  generalize fstP q.arg q.wh = fp at *
  clear h
  obtain ⟨ag, ar, sr, jn, wh, ⟨kd, sz, ev⟩, bk, lt⟩ := q
  unfold Qry.cells nodesV intsV at *
  simp only at *
  refine acall_of (n := 13) (rs := [.tmp 2, .tmp 3]) Tryz.func15 rfl (by kernel_rfl) rfl rfl rfl ?_; simp only [argsE, Nat.reduceAdd]
  repeat (any_goals (first | (refine aops_cons (fun K' h' => ?_); simp only [go_sem, Nat.reduceLT, Nat.reduceLeDiff, Nat.reduceEqDiff, reduceIte, Nat.reduceAdd, Nat.reduceMul, Nat.reduceSub, Int.reduceLT, Int.reduceLE, Int.reduceToNat, Int.reduceNeg, reduceCtorEq, Node.cells, aopG, bne_self_eq_false, Bool.not_false, beq_self_eq_true]; (try ((first | refine ⟨_, hC, ?_⟩ | refine ⟨_, hF, ?_⟩); (try simp only [go_sem, Nat.reduceLT, Nat.reduceLeDiff, Nat.reduceEqDiff, reduceIte, Nat.reduceAdd, Nat.reduceMul, Nat.reduceSub, Int.reduceLT, Int.reduceLE, Int.reduceToNat, Int.reduceNeg, reduceCtorEq, Node.cells, aopG, bne_self_eq_false, Bool.not_false, beq_self_eq_true]))); (try simp (disch := omega) only [wrap_id, getD_map_in, Int.toNat_natCast, Node.cells, aopG, bne_self_eq_false, Bool.not_false, beq_self_eq_true]); (repeat (refine And.intro (by (omega)) ?_)); refine h' _ ?_; clear h' K') | (refine aops_nil (hK _ ?_); clear hK K gs; try simp only [aThen, aBlock]) | (refine AWp.sreg  dd15 rfl (fun gs K hgs hK => ?_); clear hgs) | refine AWp.seq ?_ | (refine AWp.ret ?_; try simp only [aThen, aBlock]) | (refine AWp.skip ?_; try simp only [aThen, aBlock]) | (refine AWp.cond rfl (fun h => ?_) (fun h => ?_) <;> (try simp only [decide_eq_true_eq, decide_eq_false_iff_not, beq_iff_eq, bne_iff_ne, ne_eq, Bool.not_eq_true', Bool.not_eq_false', beq_eq_false_iff_ne, Bool.true_eq_false, Bool.false_eq_true, Int.not_le, Int.not_lt, Bool.and_eq_true, Bool.and_eq_false_iff, Bool.or_eq_true, Bool.or_eq_false_iff, bne_eq_false_iff_eq, reduceCtorEq] at h))))
  all_goals simp only [Out, outA, outL, resA, go_sem, Nat.reduceLT, Nat.reduceLeDiff, Nat.reduceEqDiff, reduceIte, Nat.reduceAdd, Nat.reduceMul, Nat.reduceSub, Int.reduceLT, Int.reduceLE, Int.reduceToNat, Int.reduceNeg, reduceCtorEq]
  · rw [if_pos (by assumption)] at hu hv
    rw [hu, hv]; exact AVle.refl _
  · rw [if_neg (by omega)] at hu hv
    rw [hu, hv]; exact AVle.refl _
def dd53 : Nat → List (List Nat)
  | 0 => [[], [0], [2]]
  | 1 => [[], [1], [6], [7], [], [5], [3, 8], [9]]
  | 2 => [[], [4], [10], [11]]
  | _ => []
theorem accepted_c (q : Qry) (h : q.fit) : ACall Tryz.prog 53 [.agg q.cells] (.lit (.bool (decide (accE q = 0)))) := by
  have hCk := checks_c q h
  generalize accE q = ac at *
  generalize accP q = ap at *
  clear h
  obtain ⟨ag, ar, sr, jn, wh, ⟨kd, sz, ev⟩, bk, lt⟩ := q
  unfold Qry.cells nodesV intsV at *
  simp only at *
  refine acall_of (n := 12) (rs := [.tmp 2]) Tryz.func53 rfl (by kernel_rfl) rfl rfl rfl ?_; simp only [argsE, Nat.reduceAdd]
  repeat (any_goals (first | (refine aops_cons (fun K' h' => ?_); simp only [go_sem, Nat.reduceLT, Nat.reduceLeDiff, Nat.reduceEqDiff, reduceIte, Nat.reduceAdd, Nat.reduceMul, Nat.reduceSub, Int.reduceLT, Int.reduceLE, Int.reduceToNat, Int.reduceNeg, reduceCtorEq, Node.cells, aopG, bne_self_eq_false, Bool.not_false, beq_self_eq_true]; (try ((refine ⟨_, hCk, ?_⟩); (try simp only [go_sem, Nat.reduceLT, Nat.reduceLeDiff, Nat.reduceEqDiff, reduceIte, Nat.reduceAdd, Nat.reduceMul, Nat.reduceSub, Int.reduceLT, Int.reduceLE, Int.reduceToNat, Int.reduceNeg, reduceCtorEq, Node.cells, aopG, bne_self_eq_false, Bool.not_false, beq_self_eq_true]))); (try simp (disch := omega) only [wrap_id, getD_map_in, Int.toNat_natCast, Node.cells, aopG, bne_self_eq_false, Bool.not_false, beq_self_eq_true]); (repeat (refine And.intro (by (omega)) ?_)); refine h' _ ?_; clear h' K') | (refine aops_nil (hK _ ?_); clear hK K gs; try simp only [aThen, aBlock]) | (refine AWp.sreg  dd53 rfl (fun gs K hgs hK => ?_); clear hgs) | (refine AWp.ret ?_; try simp only [aThen, aBlock])))
  simp only [Out, outA, outL, resA, go_sem, Nat.reduceLT, Nat.reduceLeDiff, Nat.reduceEqDiff, reduceIte, Nat.reduceAdd, Nat.reduceMul, Nat.reduceSub, Int.reduceLT, Int.reduceLE, Int.reduceToNat, Int.reduceNeg, reduceCtorEq]
  exact AVle.of_eq (by first | rfl | simp [Bool.beq_eq_decide_eq])
def dd5 : Nat → List (List Nat)
  | 0 => [[], [0], [2]]
  | 1 => [[], [1], [6], [7], [], [5], [3, 8], [9]]
  | 2 => [[], [4], [10], [11]]
  | _ => []
theorem accepted29_c (q : Qry) (h : q.fit) : ACall Tryz.prog 5 [.agg q.cells] (.lit (.bool (decide (accE q = 0)))) := by
  have hCk := checks10_c q h
  generalize accE q = ac at *
  generalize accP q = ap at *
  clear h
  obtain ⟨ag, ar, sr, jn, wh, ⟨kd, sz, ev⟩, bk, lt⟩ := q
  unfold Qry.cells nodesV intsV at *
  simp only at *
  refine acall_of (n := 12) (rs := [.tmp 2]) Tryz.func5 rfl (by kernel_rfl) rfl rfl rfl ?_; simp only [argsE, Nat.reduceAdd]
  repeat (any_goals (first | (refine aops_cons (fun K' h' => ?_); simp only [go_sem, Nat.reduceLT, Nat.reduceLeDiff, Nat.reduceEqDiff, reduceIte, Nat.reduceAdd, Nat.reduceMul, Nat.reduceSub, Int.reduceLT, Int.reduceLE, Int.reduceToNat, Int.reduceNeg, reduceCtorEq, Node.cells, aopG, bne_self_eq_false, Bool.not_false, beq_self_eq_true]; (try ((refine ⟨_, hCk, ?_⟩); (try simp only [go_sem, Nat.reduceLT, Nat.reduceLeDiff, Nat.reduceEqDiff, reduceIte, Nat.reduceAdd, Nat.reduceMul, Nat.reduceSub, Int.reduceLT, Int.reduceLE, Int.reduceToNat, Int.reduceNeg, reduceCtorEq, Node.cells, aopG, bne_self_eq_false, Bool.not_false, beq_self_eq_true]))); (try simp (disch := omega) only [wrap_id, getD_map_in, Int.toNat_natCast, Node.cells, aopG, bne_self_eq_false, Bool.not_false, beq_self_eq_true]); (repeat (refine And.intro (by (omega)) ?_)); refine h' _ ?_; clear h' K') | (refine aops_nil (hK _ ?_); clear hK K gs; try simp only [aThen, aBlock]) | (refine AWp.sreg  dd5 rfl (fun gs K hgs hK => ?_); clear hgs) | (refine AWp.ret ?_; try simp only [aThen, aBlock])))
  simp only [Out, outA, outL, resA, go_sem, Nat.reduceLT, Nat.reduceLeDiff, Nat.reduceEqDiff, reduceIte, Nat.reduceAdd, Nat.reduceMul, Nat.reduceSub, Int.reduceLT, Int.reduceLE, Int.reduceToNat, Int.reduceNeg, reduceCtorEq]
  exact AVle.of_eq (by first | rfl | simp [Bool.beq_eq_decide_eq])
end Go.Proofs.YtjeehkdepoiegaaGreat
namespace Go.Proofs.YtjeehkdepoiegaaGreat
open Go.AL Go.RowKit
set_option linter.unusedSimpArgs false
set_option linter.unusedVariables false
set_option maxRecDepth 10000
set_option maxHeartbeats 8000000
noncomputable def passB (q : Qry) (r : Rcd) : Bool := !(decide (0 < q.wh.length) && ofV r q.wh == 0)
noncomputable def projR (q : Qry) (r : Rcd) : Rcd := if passB q r = true then ⟨if q.byKey = true then r.key else 0, r.t, if q.agg ≠ 1 then ofV r q.arg else 0⟩ else ⟨0, 0, 0⟩
noncomputable def prjE (q : Qry) (r : Rcd) : Int := if accE q = 0 ∧ isTimeB r.t = true then 0 else 8
noncomputable def prjB (q : Qry) (r : Rcd) : Bool := if prjE q r = 0 then passB q r else false
noncomputable def prjR (q : Qry) (r : Rcd) : Rcd := if prjE q r = 0 then projR q r else ⟨0, 0, 0⟩
theorem right_time (r : Rcd) : validM ⟨1, r.key, r.t, r.v, 0, 0, 0, 0, 0, 0⟩ = isTimeB r.t := by
  unfold validM
  simp
def dd35 : Nat → List (List Nat)
  | 0 => [[], [0], [1], [], [5], [6]]
  | 1 => [[], [], [10], [11], [12], [], [14], [15], [16], [13, 17]]
  | 2 => [[2, 3, 18], [], [19], [], []]
  | 3 => [[18], [], [20], [21], [22]]
  | 4 => [[23], [], [25], [], [26, 27], [28], [], [24], [29], [8, 30]]
  | 5 => [[], [7], [31]]
  | 6 => [[2, 3, 32], [], [33], [], []]
  | 7 => [[23, 32], [], [34], [35], [], [36]]
  | 8 => [[], [], [37], [38]]
  | 9 => [[39], [], [41], [], [42, 43], [44], [], [40, 46], [], [45, 47]]
  | 10 => [[39], [2], [48]]
  | 11 => [[49], [3], [50], [], [51, 52]]
  | 12 => [[3, 49], [9], [53], [], []]
  | _ => []
theorem project_c (q : Qry) (r : Rcd) (h : q.fit) (hr : r.B) : ACall Tryz.prog 35 [.agg q.cells, .agg r.cells] (.tup [.agg (prjR q r).cells, .lit (.bool (prjB q r)), .lit (.int .i64 (prjE q r))]) := by
  have hE1 := eOf_c q.wh r h.w hr h.wn
  have hE2 := eOf_c q.arg r h.a hr h.an
  have hAc := accepted_c q h
  have hM := mCheck_c ⟨1, r.key, r.t, r.v, 0, 0, 0, 0, 0, 0⟩
  unfold errM at hM
  rw [right_time] at hM
  unfold prjR prjB prjE projR passB
  generalize accE q = ac at *
  obtain ⟨r1, r2, r3⟩ := r
  obtain ⟨ag, ar, sr, jn, wh, ⟨kd, sz, ev⟩, bk, lt⟩ := q
  simp only at *
  generalize isTimeB r2 = tb at *
  generalize ofV ⟨r1, r2, r3⟩ wh = vw at *
  generalize ofV ⟨r1, r2, r3⟩ ar = va at *
  generalize ofE wh = ew at *
  generalize ofE ar = ea at *
  have ha := h.a
  have hw := h.w
  clear h hr
  simp only at ha hw
  unfold Qry.cells nodesV intsV Rcd.cells Msg.cells at *
  simp only at *
  by_cases hac : ac = 0
  · rw [decide_eq_true hac] at hAc
    cases tb <;> cases bk
    all_goals simp only [Bool.false_eq_true, reduceIte] at hM
    all_goals
      refine acall_of (n := 54) (rs := [.cell 4 55, .tmp 5, .tmp 6]) Tryz.func35 rfl (by kernel_rfl) rfl rfl rfl ?_; simp only [argsE, Nat.reduceAdd]
      repeat (any_goals (first | (refine aops_cons (fun K' h' => ?_); simp only [go_sem, Nat.reduceLT, Nat.reduceLeDiff, Nat.reduceEqDiff, reduceIte, Nat.reduceAdd, Nat.reduceMul, Nat.reduceSub, Int.reduceLT, Int.reduceLE, Int.reduceToNat, Int.reduceNeg, reduceCtorEq, hgs, Node.cells, aopG, bne_self_eq_false, Bool.not_false, beq_self_eq_true]; (try ((first | refine ⟨_, hAc, ?_⟩ | refine ⟨_, hM, ?_⟩ | refine ⟨_, hE1, ?_⟩ | refine ⟨_, hE2, ?_⟩); (try simp only [go_sem, Nat.reduceLT, Nat.reduceLeDiff, Nat.reduceEqDiff, reduceIte, Nat.reduceAdd, Nat.reduceMul, Nat.reduceSub, Int.reduceLT, Int.reduceLE, Int.reduceToNat, Int.reduceNeg, reduceCtorEq, hgs, Node.cells, aopG, bne_self_eq_false, Bool.not_false, beq_self_eq_true]))); (try simp (disch := omega) only [wrap_id, getD_map_in, Int.toNat_natCast, Node.cells, aopG, bne_self_eq_false, Bool.not_false, beq_self_eq_true]); (repeat (refine And.intro (by (omega)) ?_)); refine h' _ ?_; clear h' K') | (refine aops_nil (hK _ ?_); clear hK K hgs gs; try simp only [aThen, aBlock]) | ((refine AWp.sreg (id := 1) dd35 rfl (fun gs K hgs hK => ?_)); replace hgs : gs 3 = some 13 := hgs 3) | (refine AWp.sreg  dd35 rfl (fun gs K hgs hK => ?_); replace hgs : Nat.succ 0 = 1 := rfl) | refine AWp.seq ?_ | (refine AWp.ret ?_; try simp only [aThen, aBlock]) | (refine AWp.skip ?_; try simp only [aThen, aBlock]) | (refine AWp.reg  dd35 rfl (fun gs K hgs hK => ?_); replace hgs : Nat.succ 0 = 1 := rfl) | (refine AWp.cond rfl (fun h => ?_) (fun h => ?_) <;> (try simp only [decide_eq_true_eq, decide_eq_false_iff_not, beq_iff_eq, bne_iff_ne, ne_eq, Bool.not_eq_true', Bool.not_eq_false', beq_eq_false_iff_ne, Bool.true_eq_false, Bool.false_eq_true, Int.not_le, Int.not_lt, Bool.and_eq_true, Bool.and_eq_false_iff, Bool.or_eq_true, Bool.or_eq_false_iff, bne_eq_false_iff_eq, reduceCtorEq] at h) <;> (try first | contradiction))))
      all_goals first
        | (exfalso; omega)
        | skip
      all_goals simp only [Out, outA, outL, resA, go_sem, Nat.reduceLT, Nat.reduceLeDiff, Nat.reduceEqDiff, reduceIte, Nat.reduceAdd, Nat.reduceMul, Nat.reduceSub, Int.reduceLT, Int.reduceLE, Int.reduceToNat, Int.reduceNeg, reduceCtorEq]
      all_goals clear hE1 hE2 hAc hM
      all_goals refine AVle.of_eq ?_
      all_goals first
        | (have e : decide (0 < wh.length) = true := decide_eq_true (by omega); simp [e, *]; done)
        | (have e : decide (0 < wh.length) = false := decide_eq_false (by omega); simp [e, *]; done)
        | (simp [*]; done)
  · rw [decide_eq_false hac] at hAc
    refine acall_of (n := 54) (rs := [.cell 4 55, .tmp 5, .tmp 6]) Tryz.func35 rfl (by kernel_rfl) rfl rfl rfl ?_; simp only [argsE, Nat.reduceAdd]
    repeat (any_goals (first | (refine aops_cons (fun K' h' => ?_); simp only [go_sem, Nat.reduceLT, Nat.reduceLeDiff, Nat.reduceEqDiff, reduceIte, Nat.reduceAdd, Nat.reduceMul, Nat.reduceSub, Int.reduceLT, Int.reduceLE, Int.reduceToNat, Int.reduceNeg, reduceCtorEq, hgs, Node.cells, aopG, bne_self_eq_false, Bool.not_false, beq_self_eq_true]; (try ((first | refine ⟨_, hAc, ?_⟩ | refine ⟨_, fun _ => hM, ?_⟩); (try simp only [go_sem, Nat.reduceLT, Nat.reduceLeDiff, Nat.reduceEqDiff, reduceIte, Nat.reduceAdd, Nat.reduceMul, Nat.reduceSub, Int.reduceLT, Int.reduceLE, Int.reduceToNat, Int.reduceNeg, reduceCtorEq, hgs, Node.cells, aopG, bne_self_eq_false, Bool.not_false, beq_self_eq_true]))); (try simp (disch := omega) only [wrap_id, getD_map_in, Int.toNat_natCast, Node.cells, aopG, bne_self_eq_false, Bool.not_false, beq_self_eq_true]); (repeat (refine And.intro (by (omega)) ?_)); refine h' _ ?_; clear h' K') | (refine aops_nil (hK _ ?_); clear hK K hgs gs; try simp only [aThen, aBlock]) | ((refine AWp.sreg (id := 1) dd35 rfl (fun gs K hgs hK => ?_)); replace hgs : gs 3 = some 13 := hgs 3) | (refine AWp.sreg  dd35 rfl (fun gs K hgs hK => ?_); replace hgs : Nat.succ 0 = 1 := rfl) | refine AWp.seq ?_ | (refine AWp.ret ?_; try simp only [aThen, aBlock]) | (refine AWp.cond rfl (fun h => ?_) (fun h => ?_) <;> (try simp only [decide_eq_true_eq, decide_eq_false_iff_not, beq_iff_eq, bne_iff_ne, ne_eq, Bool.not_eq_true', Bool.not_eq_false', beq_eq_false_iff_ne, Bool.true_eq_false, Bool.false_eq_true, Int.not_le, Int.not_lt, Bool.and_eq_true, Bool.and_eq_false_iff, Bool.or_eq_true, Bool.or_eq_false_iff, bne_eq_false_iff_eq, reduceCtorEq] at h))))
    all_goals simp only [Out, outA, outL, resA, go_sem, Nat.reduceLT, Nat.reduceLeDiff, Nat.reduceEqDiff, reduceIte, Nat.reduceAdd, Nat.reduceMul, Nat.reduceSub, Int.reduceLT, Int.reduceLE, Int.reduceToNat, Int.reduceNeg, reduceCtorEq]
    all_goals clear hE1 hE2 hAc hM
    all_goals exact AVle.of_eq (by simp [hac])
end Go.Proofs.YtjeehkdepoiegaaGreat
