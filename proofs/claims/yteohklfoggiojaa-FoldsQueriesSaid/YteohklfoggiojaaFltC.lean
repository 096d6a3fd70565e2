/-
  The walks over checks of queries, with the kinds of their expressions: of the program and of the reference.
-/
import Derived.Test.YteohklfoggiojaaQryW
import Derived.Test.YteohklfoggiojaaEvalW
namespace Go.Proofs.Yteohklfoggiojaa
open Go.AL Go.RowKit
set_option linter.unusedSimpArgs false
set_option linter.unusedVariables false
set_option maxRecDepth 10000
set_option maxHeartbeats 8000000
@[go_sem] theorem zero_wish : zeroL Try.prog 113 = some [.slice none 0 0, .nilFunc] := by kernel_rfl
@[go_sem] theorem apT_wish : apT Try.prog 135 = some (113, 2, 32) := by kernel_rfl
structure Qry.fit (q : Qry) : Prop where
  a : q.arg.length ≤ 1000
  w : q.wh.length ≤ 1000
  s : q.src.length ≤ 1000
  sb : ∀ x ∈ q.src, -9223372036854775808 ≤ x ∧ x ≤ 9223372036854775807
  an : nodesB q.arg
  wn : nodesB q.wh
noncomputable def fstE (ar wh : List Node) : Int := if 0 < ar.length ∧ wantE ar false ≠ 0 then wantE ar false else if 0 < wh.length ∧ wantE wh true ≠ 0 then wantE wh true else 0
noncomputable def fstP (ar wh : List Node) : Int := if 0 < ar.length ∧ wantE ar false ≠ 0 then (ar.getD (ofN ar).toNat default).pos else if 0 < wh.length ∧ wantE wh true ≠ 0 then (wh.getD (ofN wh).toNat default).pos else 0
noncomputable def accP (q : Qry) : Int := if chkE q ≠ 0 then 0 else fstP q.arg q.wh
noncomputable def accE (q : Qry) : Int := if chkE q ≠ 0 then chkE q else fstE q.arg q.wh
theorem ofN_bd {l : List Node} (h : 0 < l.length) : 0 ≤ ofN l ∧ ofN l < l.length := by
  have := wrongL_le l
  unfold ofN
  split
  · omega
  · split <;> omega
def dd63 : Nat → List (List Nat)
  | 0 => [[], [2], [3]]
  | 1 => [[], [0], [], []]
  | 2 => [[], []]
  | 3 => [[11], [], [12], [], [13]]
  | 4 => [[], [], [14], [15], [16]]
  | 5 => [[17], [], [19], [], [21], [20, 22], [23], [], [18], [24], [25]]
  | 6 => [[], [], [26]]
  | 7 => [[8, 9, 10, 27], [5], [28], [6], [29, 30], [31], [32], [7], [33], [34]]
  | 8 => [[5, 6, 7, 17, 27], [10], [35]]
  | 9 => [[8, 9, 10, 11], [], []]
  | _ => []
theorem first_c (ar wh : List Node) (h1 : ar.length ≤ 1000) (h2 : wh.length ≤ 1000) :
    ACall Try.prog 63 [.ro 2 [[nodesV ar, .lit (.func (.func 64) #[] #[])], [nodesV wh, .lit (.func (.func 65) #[] #[])]]] (.tup [.lit (.int .i64 (fstP ar wh)), .lit (.int .i64 (fstE ar wh))]) := by
  have hAsk1 := kNumber_c ar h1
  have hAsk2 := kTruth_c wh h2
  have n1 := ofN_bd (l := ar)
  have n2 := ofN_bd (l := wh)
  unfold fstE fstP
  generalize wantE ar false = ea at *
  generalize wantE wh true = ew at *
  generalize ofN ar = na at *
  generalize ofN wh = nw at *
  unfold nodesV at *
  rcases Nat.eq_zero_or_pos ar.length with ha | ha <;> rcases Nat.eq_zero_or_pos wh.length with hw | hw
  all_goals try have n1 := n1 ha
  all_goals try have n2 := n2 hw
  all_goals
    refine acall_of (n := 36) (rs := [.tmp 2, .tmp 3]) Try.func63 rfl (by kernel_rfl) rfl rfl rfl ?_; simp only [argsE, Nat.reduceAdd]
  repeat (any_goals (first | (refine aops_cons (fun K' h' => ?_); simp only [go_sem, simprocAttr, Node.cells, aopG, bne_self_eq_false, Bool.not_false, beq_self_eq_true]; (try ((first | refine ⟨_, hAsk1, ?_⟩ | refine ⟨_, fun _ => hAsk1, ?_⟩ | refine ⟨_, hAsk2, ?_⟩ | refine ⟨_, fun _ => hAsk2, ?_⟩); (try simp only [go_sem, simprocAttr, Node.cells, aopG, bne_self_eq_false, Bool.not_false, beq_self_eq_true]))); (try simp (disch := omega) only [wrap_id, getD_map_in, Int.toNat_natCast, Node.cells, aopG, bne_self_eq_false, Bool.not_false, beq_self_eq_true]); (repeat (refine And.intro (by (first | omega | (simp; done) | (simp; omega) | assumption)) ?_)); refine h' _ ?_; clear h' K') | (refine aops_nil (hK _ ?_); clear hK K gs; try simp only [aThen, aBlock]) | (refine AWp.sreg  dd63 rfl (fun gs K hgs hK => ?_); clear hgs) | refine AWp.seq ?_ | refine ARounds.step ?_ | refine AWp.block ?_ | refine AWp.label ?_ | (refine AWp.ret ?_; try simp only [aThen, aBlock]) | (refine AWp.skip ?_; try simp only [aThen, aBlock]) | (refine AWp.exit ?_; try simp only [aThen, aBlock, Nat.reduceEqDiff, reduceIte]) | (refine AWp.reg  dd63 rfl (fun gs K hgs hK => ?_); clear hgs) | (refine AWp.cond rfl (fun h => ?_) (fun h => ?_) <;> (try simp only [decide_eq_true_eq, decide_eq_false_iff_not, beq_iff_eq, bne_iff_ne, ne_eq, Bool.not_eq_true', Bool.not_eq_false', beq_eq_false_iff_ne, Bool.true_eq_false, Bool.false_eq_true, Int.not_le, Int.not_lt, Bool.and_eq_true, Bool.and_eq_false_iff, Bool.or_eq_true, Bool.or_eq_false_iff, bne_eq_false_iff_eq, reduceCtorEq] at h) <;> (try first | contradiction | (exfalso; omega) | (exfalso; revert h; simp; done) | (exfalso; revert h; simp; omega)))))
  all_goals refine AWp.loopR 3 ?_
  repeat (any_goals (first | (refine aops_cons (fun K' h' => ?_); simp only [go_sem, simprocAttr, Node.cells, aopG, bne_self_eq_false, Bool.not_false, beq_self_eq_true, Int.reduceAdd, Int.zero_add]; (try ((first | refine ⟨_, hAsk1, ?_⟩ | refine ⟨_, fun _ => hAsk1, ?_⟩ | refine ⟨_, hAsk2, ?_⟩ | refine ⟨_, fun _ => hAsk2, ?_⟩); (try simp only [go_sem, simprocAttr, Node.cells, aopG, bne_self_eq_false, Bool.not_false, beq_self_eq_true, Int.reduceAdd, Int.zero_add]))); (try simp (disch := omega) only [wrap_id, getD_map_in, Int.toNat_natCast, Node.cells, aopG, bne_self_eq_false, Bool.not_false, beq_self_eq_true, Int.reduceAdd, Int.zero_add]); (repeat (refine And.intro (by (first | omega | (simp; done) | (simp; omega) | assumption)) ?_)); refine h' _ ?_; clear h' K') | (refine aops_nil (hK _ ?_); clear hK K gs; try simp only [aThen, aBlock]) | (refine AWp.sreg  dd63 rfl (fun gs K hgs hK => ?_); clear hgs) | refine AWp.seq ?_ | refine ARounds.step ?_ | refine AWp.block ?_ | refine AWp.label ?_ | (refine AWp.ret ?_; try simp only [aThen, aBlock]) | (refine AWp.skip ?_; try simp only [aThen, aBlock]) | (refine AWp.exit ?_; try simp only [aThen, aBlock, Nat.reduceEqDiff, reduceIte]) | (refine AWp.reg  dd63 rfl (fun gs K hgs hK => ?_); clear hgs) | (refine AWp.cond rfl (fun h => ?_) (fun h => ?_) <;> (try simp only [decide_eq_true_eq, decide_eq_false_iff_not, beq_iff_eq, bne_iff_ne, ne_eq, Bool.not_eq_true', Bool.not_eq_false', beq_eq_false_iff_ne, Bool.true_eq_false, Bool.false_eq_true, Int.not_le, Int.not_lt, Bool.and_eq_true, Bool.and_eq_false_iff, Bool.or_eq_true, Bool.or_eq_false_iff, bne_eq_false_iff_eq, reduceCtorEq] at h) <;> (try first | contradiction | (exfalso; omega) | (exfalso; revert h; simp; done) | (exfalso; revert h; simp; omega)))))
  all_goals first
    | (exfalso; omega)
    | skip
  all_goals simp only [Out, outA, outL, resA, go_sem, simprocAttr]
  all_goals refine AVle.tup ⟨AVle.of_eq (congrArg (fun n => AV.lit (.int .i64 n)) ?_), AVle.of_eq (congrArg (fun n => AV.lit (.int .i64 n)) ?_), trivial⟩
  all_goals repeat' split
  all_goals first
    | rfl
    | omega
def dd37 : Nat → List (List Nat)
  | 0 => [[], [0], [2], [3]]
  | 1 => [[], [], [5], [6]]
  | 2 => [[], [], [7]]
  | 3 => [[1, 8], [4], [], [9]]
  | 4 => [[4, 8], [], [10], [11], [1], [13], [14], [12, 15], [16], [], [17], [18], [19]]
  | _ => []
theorem checks_c (q : Qry) (h : q.fit) : ACall Try.prog 37 [.agg q.cells] (.tup [.lit (.int .i64 (accP q)), .lit (.int .i64 (accE q))]) := by
  have hC := qCheck_c q h.a h.w h.s h.sb
  have hF := first_c q.arg q.wh h.a h.w
  have hu : accE q = if chkE q ≠ 0 then chkE q else fstE q.arg q.wh := rfl
  have hv : accP q = if chkE q ≠ 0 then 0 else fstP q.arg q.wh := rfl
  generalize accE q = ac at *
  generalize accP q = ap at *
  generalize chkE q = ce at *
  obtain ⟨ag, ar, sr, jn, wh, ⟨kd, sz, ev⟩, bk, lt⟩ := q
  simp only at hF hu hv
  generalize fstE ar wh = fe at *
  generalize fstP ar wh = fp at *
  unfold Qry.cells nodesV intsV at *
  simp only at hC ⊢
  clear h
  refine acall_of (n := 20) (rs := [.tmp 2, .tmp 3]) Try.func37 rfl (by kernel_rfl) rfl rfl rfl ?_; simp only [argsE, Nat.reduceAdd]
  repeat (any_goals (first | (refine aops_cons (fun K' h' => ?_); simp only [go_sem, simprocAttr, Node.cells, aopG, bne_self_eq_false, Bool.not_false, beq_self_eq_true]; (try ((first | refine ⟨_, hAsk1, ?_⟩ | refine ⟨_, fun _ => hAsk1, ?_⟩ | refine ⟨_, hAsk2, ?_⟩ | refine ⟨_, fun _ => hAsk2, ?_⟩ | refine ⟨_, hC, ?_⟩ | refine ⟨_, fun _ => hC, ?_⟩ | refine ⟨_, hF, ?_⟩ | refine ⟨_, fun _ => hF, ?_⟩); (try simp only [go_sem, simprocAttr, Node.cells, aopG, bne_self_eq_false, Bool.not_false, beq_self_eq_true]))); (try simp (disch := omega) only [wrap_id, getD_map_in, Int.toNat_natCast, Node.cells, aopG, bne_self_eq_false, Bool.not_false, beq_self_eq_true]); (repeat (refine And.intro (by (first | omega | (simp; done) | (simp; omega) | assumption)) ?_)); refine h' _ ?_; clear h' K') | (refine aops_nil (hK _ ?_); clear hK K gs; try simp only [aThen, aBlock]) | (refine aops_consF [] (fun K' h' => ?_); simp only [go_sem, simprocAttr, Node.cells, aopG, bne_self_eq_false, Bool.not_false, beq_self_eq_true]; refine ⟨_, hF, ?_⟩; (try simp only [go_sem, simprocAttr, Node.cells, aopG, bne_self_eq_false, Bool.not_false, beq_self_eq_true]); (repeat (refine And.intro (by (first | omega | (simp; done) | (simp; omega) | assumption)) ?_)); refine h' _ ?_; clear h' K') | (refine AWp.sreg  dd37 rfl (fun gs K hgs hK => ?_); clear hgs) | refine AWp.seq ?_ | refine ARounds.step ?_ | refine AWp.block ?_ | refine AWp.label ?_ | (refine AWp.ret ?_; try simp only [aThen, aBlock]) | (refine AWp.skip ?_; try simp only [aThen, aBlock]) | (refine AWp.exit ?_; try simp only [aThen, aBlock, Nat.reduceEqDiff, reduceIte]) | (refine AWp.reg  dd37 rfl (fun gs K hgs hK => ?_); clear hgs) | (refine AWp.cond rfl (fun h => ?_) (fun h => ?_) <;> (try simp only [decide_eq_true_eq, decide_eq_false_iff_not, beq_iff_eq, bne_iff_ne, ne_eq, Bool.not_eq_true', Bool.not_eq_false', beq_eq_false_iff_ne, Bool.true_eq_false, Bool.false_eq_true, Int.not_le, Int.not_lt, Bool.and_eq_true, Bool.and_eq_false_iff, Bool.or_eq_true, Bool.or_eq_false_iff, bne_eq_false_iff_eq, reduceCtorEq] at h) <;> (try first | contradiction | (exfalso; omega) | (exfalso; revert h; simp; done) | (exfalso; revert h; simp; omega)))))
  all_goals simp only [Out, outA, outL, resA, go_sem, simprocAttr]
  · rw [if_pos (by assumption)] at hu hv
    rw [hu, hv]; exact AVle.refl _
  · rw [if_neg (by omega)] at hu hv
    rw [hu, hv]; exact AVle.refl _
def dd61 : Nat → List (List Nat)
  | 0 => [[], [0], [2], [3]]
  | 1 => [[], [], [8], [9], [10]]
  | 2 => [[11], [], [13], [14], [15], [], [12], [16], [17]]
  | 3 => [[], [], [18]]
  | 4 => [[19], [1], [20], [4], [21, 22], [23], [24], [5], [25], [26]]
  | 5 => [[4, 5, 11, 19], [], [27], [28], [29]]
  | 6 => [[30], [], [32], [33], [34], [], [31], [35], [36]]
  | 7 => [[], [], [37]]
  | 8 => [[38], [1], [39], [6], [40, 41], [42], [43], [7], [44], [45]]
  | 9 => [[1, 6, 7, 30, 38], [], []]
  | _ => []
theorem right10_c (q : Qry) (h : q.fit) : ACall Try.prog 61 [.agg q.cells] (.tup [.lit (.int .i64 (fstP q.arg q.wh)), .lit (.int .i64 (fstE q.arg q.wh))]) := by
  have hAsk1 := rWant_c q.arg false h.a
  have hAsk2 := rWant_c q.wh true h.w
  have n1 := ofN_bd (l := q.arg)
  have n2 := ofN_bd (l := q.wh)
  unfold fstE fstP
  generalize wantE q.arg false = ea at *
  generalize wantE q.wh true = ew at *
  generalize ofN q.arg = na at *
  generalize ofN q.wh = nw at *
  obtain ⟨h1, h2, -, -, -, -⟩ := h
  obtain ⟨ag, ar, sr, jn, wh, ⟨kd, sz, ev⟩, bk, lt⟩ := q
  simp only at hAsk1 hAsk2 n1 n2 h1 h2 ⊢
  unfold Qry.cells nodesV intsV at *
  simp only at *
  rcases Nat.eq_zero_or_pos ar.length with ha | ha <;> rcases Nat.eq_zero_or_pos wh.length with hw | hw
  all_goals try have n1 := n1 ha
  all_goals try have n2 := n2 hw
  all_goals
    refine acall_of (n := 46) (rs := [.tmp 2, .tmp 3]) Try.func61 rfl (by kernel_rfl) rfl rfl rfl ?_; simp only [argsE, Nat.reduceAdd]
  repeat (any_goals (first | (refine aops_cons (fun K' h' => ?_); simp only [go_sem, simprocAttr, Node.cells, aopG, bne_self_eq_false, Bool.not_false, beq_self_eq_true]; (try ((first | refine ⟨_, hAsk1, ?_⟩ | refine ⟨_, fun _ => hAsk1, ?_⟩ | refine ⟨_, hAsk2, ?_⟩ | refine ⟨_, fun _ => hAsk2, ?_⟩); (try simp only [go_sem, simprocAttr, Node.cells, aopG, bne_self_eq_false, Bool.not_false, beq_self_eq_true]))); (try simp (disch := omega) only [wrap_id, getD_map_in, Int.toNat_natCast, Node.cells, aopG, bne_self_eq_false, Bool.not_false, beq_self_eq_true]); (repeat (refine And.intro (by (first | omega | (simp; done) | (simp; omega) | assumption)) ?_)); refine h' _ ?_; clear h' K') | (refine aops_nil (hK _ ?_); clear hK K gs; try simp only [aThen, aBlock]) | (refine AWp.sreg  dd61 rfl (fun gs K hgs hK => ?_); clear hgs) | refine AWp.seq ?_ | refine ARounds.step ?_ | refine AWp.block ?_ | refine AWp.label ?_ | (refine AWp.ret ?_; try simp only [aThen, aBlock]) | (refine AWp.skip ?_; try simp only [aThen, aBlock]) | (refine AWp.exit ?_; try simp only [aThen, aBlock, Nat.reduceEqDiff, reduceIte]) | (refine AWp.reg  dd61 rfl (fun gs K hgs hK => ?_); clear hgs) | (refine AWp.cond rfl (fun h => ?_) (fun h => ?_) <;> (try simp only [decide_eq_true_eq, decide_eq_false_iff_not, beq_iff_eq, bne_iff_ne, ne_eq, Bool.not_eq_true', Bool.not_eq_false', beq_eq_false_iff_ne, Bool.true_eq_false, Bool.false_eq_true, Int.not_le, Int.not_lt, Bool.and_eq_true, Bool.and_eq_false_iff, Bool.or_eq_true, Bool.or_eq_false_iff, bne_eq_false_iff_eq, reduceCtorEq] at h) <;> (try first | contradiction | (exfalso; omega) | (exfalso; revert h; simp; done) | (exfalso; revert h; simp; omega)))))
  all_goals first
    | (exfalso; omega)
    | skip
  all_goals simp only [Out, outA, outL, resA, go_sem, simprocAttr]
  all_goals refine AVle.tup ⟨AVle.of_eq (congrArg (fun n => AV.lit (.int .i64 n)) ?_), AVle.of_eq (congrArg (fun n => AV.lit (.int .i64 n)) ?_), trivial⟩
  all_goals repeat' split
  all_goals first
    | rfl
    | omega
theorem le_max {n : Nat} (h : n ≤ 1000) : n ≤ maxLen := by unfold maxLen; omega
def dd36 : Nat → List (List Nat)
  | 0 => [[], [0], [2], [3]]
  | 1 => [[], [], [4], [5]]
  | 2 => [[6], [1], [7], [], [8]]
  | 3 => [[6], [1], [9], [], [10], [11], [12]]
  | _ => []
theorem checks10_c (q : Qry) (h : q.fit) : ACall Try.prog 36 [.agg q.cells] (.tup [.lit (.int .i64 (accP q)), .lit (.int .i64 (accE q))]) := by
  have hC := rqCheck_c q (le_max h.a) (le_max h.w) (le_max h.s)
  have hF := right10_c q h
  have hu : accE q = if chkE q ≠ 0 then chkE q else fstE q.arg q.wh := rfl
  have hv : accP q = if chkE q ≠ 0 then 0 else fstP q.arg q.wh := rfl
  generalize accE q = ac at *
  generalize accP q = ap at *
  generalize chkE q = ce at *
  generalize fstE q.arg q.wh = fe at *
  generalize fstP q.arg q.wh = fp at *
  clear h
  obtain ⟨ag, ar, sr, jn, wh, ⟨kd, sz, ev⟩, bk, lt⟩ := q
  unfold Qry.cells nodesV intsV at *
  simp only at *
  refine acall_of (n := 13) (rs := [.tmp 2, .tmp 3]) Try.func36 rfl (by kernel_rfl) rfl rfl rfl ?_; simp only [argsE, Nat.reduceAdd]
  repeat (any_goals (first | (refine aops_cons (fun K' h' => ?_); simp only [go_sem, simprocAttr, Node.cells, aopG, bne_self_eq_false, Bool.not_false, beq_self_eq_true]; (try ((first | refine ⟨_, hAsk1, ?_⟩ | refine ⟨_, fun _ => hAsk1, ?_⟩ | refine ⟨_, hAsk2, ?_⟩ | refine ⟨_, fun _ => hAsk2, ?_⟩ | refine ⟨_, hC, ?_⟩ | refine ⟨_, fun _ => hC, ?_⟩ | refine ⟨_, hF, ?_⟩ | refine ⟨_, fun _ => hF, ?_⟩); (try simp only [go_sem, simprocAttr, Node.cells, aopG, bne_self_eq_false, Bool.not_false, beq_self_eq_true]))); (try simp (disch := omega) only [wrap_id, getD_map_in, Int.toNat_natCast, Node.cells, aopG, bne_self_eq_false, Bool.not_false, beq_self_eq_true]); (repeat (refine And.intro (by (first | omega | (simp; done) | (simp; omega) | assumption)) ?_)); refine h' _ ?_; clear h' K') | (refine aops_nil (hK _ ?_); clear hK K gs; try simp only [aThen, aBlock]) | (refine AWp.sreg  dd36 rfl (fun gs K hgs hK => ?_); clear hgs) | refine AWp.seq ?_ | refine ARounds.step ?_ | refine AWp.block ?_ | refine AWp.label ?_ | (refine AWp.ret ?_; try simp only [aThen, aBlock]) | (refine AWp.skip ?_; try simp only [aThen, aBlock]) | (refine AWp.exit ?_; try simp only [aThen, aBlock, Nat.reduceEqDiff, reduceIte]) | (refine AWp.reg  dd36 rfl (fun gs K hgs hK => ?_); clear hgs) | (refine AWp.cond rfl (fun h => ?_) (fun h => ?_) <;> (try simp only [decide_eq_true_eq, decide_eq_false_iff_not, beq_iff_eq, bne_iff_ne, ne_eq, Bool.not_eq_true', Bool.not_eq_false', beq_eq_false_iff_ne, Bool.true_eq_false, Bool.false_eq_true, Int.not_le, Int.not_lt, Bool.and_eq_true, Bool.and_eq_false_iff, Bool.or_eq_true, Bool.or_eq_false_iff, bne_eq_false_iff_eq, reduceCtorEq] at h) <;> (try first | contradiction | (exfalso; omega) | (exfalso; revert h; simp; done) | (exfalso; revert h; simp; omega)))))
  all_goals simp only [Out, outA, outL, resA, go_sem, simprocAttr]
  · rw [if_pos (by assumption)] at hu hv
    rw [hu, hv]; exact AVle.refl _
  · rw [if_neg (by omega)] at hu hv
    rw [hu, hv]; exact AVle.refl _
end Go.Proofs.Yteohklfoggiojaa
