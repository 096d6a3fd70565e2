/-
  The walks over messages, sends, accumulators and stores: of the program and of the references.
-/
import Derived.Test.YtfmnjgjfkfppkaaEvW
import Derived.Test.YtfmnjgjfkfppkaaTskM
import Derived.Test.YtfmnjgjfkfppkaaAbsP
namespace Go.Proofs.Ytfmnjgjfkfppkaa
open Go.AL Go.RowKit
set_option linter.unusedSimpArgs false
set_option linter.unusedVariables false
set_option maxRecDepth 10000
set_option maxHeartbeats 4000000

def dd40 : Nat → List (List Nat)
  | 0 => [[], [0], [2]]
  | 1 => [[], [], [3], [4], [], [6], [7], [5, 8], [9], [], [11], [12], [13], [10, 14], [15], [1], [17], [18], [19], [16, 20], [21]]
  | _ => []
theorem row25_c (k s e a b : Int) : ACall Try.prog 40 [.agg [.lit (.int .i64 k), .lit (.int .i64 s), .lit (.int .i64 e), .lit (.int .i64 a), .lit (.int .i64 b)]] (.lit (.bool (rowB s e))) := by
  unfold rowB
  refine acall_of (n := 22) (rs := [.tmp 2]) Try.func40 rfl (by kernel_rfl) rfl rfl rfl ?_; simp only [argsE, Nat.reduceAdd]
  repeat (any_goals (first | (refine aops_cons (fun K' h' => ?_); simp only [go_sem, Nat.reduceLT, Nat.reduceLeDiff, Nat.reduceEqDiff, reduceIte, Nat.reduceAdd, Nat.reduceMul, Nat.reduceSub, Int.reduceLT, Int.reduceLE, Int.reduceToNat, Int.reduceNeg, reduceCtorEq, hgs, Msg.cells]; (try simp (disch := omega) only [wrap_id, getD_map_in, Int.toNat_natCast, Msg.cells]); (repeat (refine And.intro (by (first | omega | (simp; done) | (simp; omega) | assumption)) ?_)); refine h' _ ?_; clear h' K') | (refine aops_nil (hK _ ?_); clear hK K hgs gs; try simp only [aThen, aBlock]) | ((first | refine AWp.sreg (id := 1) dd40 rfl (fun gs K hgs hK => ?_) | refine AWp.reg (id := 1) dd40 rfl (fun gs K hgs hK => ?_)); replace hgs : gs 7 = some 10 ∧ gs 13 = some 16 := ⟨hgs 7, hgs 13⟩) | (refine AWp.sreg  dd40 rfl (fun gs K hgs hK => ?_); replace hgs : Nat.succ 0 = 1 := rfl) | refine AWp.seq ?_ | refine ARounds.step ?_ | refine AWp.block ?_ | refine AWp.label ?_ | (refine AWp.ret ?_; try simp only [aThen, aBlock]) | (refine AWp.skip ?_; try simp only [aThen, aBlock]) | (refine AWp.exit ?_; try simp only [aThen, aBlock, Nat.reduceEqDiff, reduceIte]) | (refine AWp.reg  dd40 rfl (fun gs K hgs hK => ?_); replace hgs : Nat.succ 0 = 1 := rfl) | (refine aops_consG (fun K' h' => ?_); simp only [go_sem, Nat.reduceLT, Nat.reduceLeDiff, Nat.reduceEqDiff, reduceIte, Nat.reduceAdd, Nat.reduceMul, Nat.reduceSub, Int.reduceLT, Int.reduceLE, Int.reduceToNat, Int.reduceNeg, reduceCtorEq, hgs, Msg.cells]; (try simp (disch := omega) only [wrap_id, getD_map_in, Int.toNat_natCast, Msg.cells]); (repeat (refine And.intro (by (first | omega | (simp; done) | (simp; omega) | assumption)) ?_)); refine h' _ ?_; clear h' K') | (refine AWp.cond rfl (fun h => ?_) (fun h => ?_) <;> (try simp only [decide_eq_true_eq, decide_eq_false_iff_not, beq_iff_eq, bne_iff_ne, ne_eq, Bool.not_eq_true', Bool.not_eq_false', beq_eq_false_iff_ne, Bool.true_eq_false, Bool.false_eq_true, Int.not_le, Int.not_lt, Bool.and_eq_true, Bool.and_eq_false_iff, Bool.or_eq_true, Bool.or_eq_false_iff, bne_eq_false_iff_eq, reduceCtorEq] at h) <;> (try first | contradiction | (exfalso; omega) | (exfalso; revert h; simp; done) | (exfalso; revert h; simp; omega)))))
  simp only [Out, outA, outL, resA, go_sem, Nat.reduceLT, Nat.reduceLeDiff, Nat.reduceEqDiff, reduceIte, Nat.reduceAdd, Nat.reduceMul, Nat.reduceSub, Int.reduceLT, Int.reduceLE, Int.reduceToNat, Int.reduceNeg, reduceCtorEq]
  refine AVle.of_eq (congrArg (fun b => AV.lit (.bool b)) ?_)
  by_cases h1 : s < e <;> by_cases h2 : -2199023255552 ≤ s <;> by_cases h3 : e ≤ 2199023255552 <;> simp [h1, h2, h3]

def errM (m : Msg) : Int := if validM m = true then 0 else 8
def dd19 : Nat → List (List Nat)
  | 0 => [[], [0], [2]]
  | 1 => [[], []]
  | 2 => [[], [], [6], [7], [], [8]]
  | 3 => [[], [], [9]]
  | 4 => [[], [], [12]]
  | 5 => [[11], [], [13]]
  | 6 => [[3, 10, 11], [], [14], [], [15, 16]]
  | 7 => [[], [], [17], [18], [19], [20]]
  | 8 => [[11], [], [22]]
  | 9 => [[3, 10, 21], [], [23], [], [24, 25]]
  | 10 => [[], [], [26], [27], [28]]
  | 11 => [[21], [10], [30]]
  | 12 => [[3, 29], [], [31], [], [32, 33]]
  | 13 => [[], [], [34], [35], [], [36]]
  | 14 => [[], [], [37], [38], [39], [], [41], [], [43], [42, 44], [40, 45], [46], [5], [48], [49], [47, 50], [51]]
  | 15 => [[29], [3], [52], [53], [1], [4], [55, 56], [54, 57]]
  | 16 => [[58], []]
  | 17 => [[58], []]
  | _ => []
theorem mCheck_c (m : Msg) : ACall Try.prog 19 [.agg m.cells] (.lit (.int .i64 (errM m))) := by
  have hv : ∀ b, validM m = b → (errM m = if b = true then 0 else 8) := fun b h => by unfold errM; rw [h]
  have hr : validM m = validM m := rfl
  conv at hr => rhs; unfold validM
  obtain ⟨kd, k, rt, v, t, r1, r2, r3, r4, r5⟩ := m
  unfold Msg.cells
  simp only at hr
  generalize ho : validM ⟨kd, k, rt, v, t, r1, r2, r3, r4, r5⟩ = ok at hr
  have he := hv _ ho
  clear hv ho
  simp only
  generalize errM ⟨kd, k, rt, v, t, r1, r2, r3, r4, r5⟩ = e at *
  refine acall_of (n := 59) (rs := [.tmp 2]) Try.func19 rfl (by kernel_rfl) rfl rfl rfl ?_; simp only [argsE, Nat.reduceAdd]
  repeat (any_goals (first | (refine aops_cons (fun K' h' => ?_); simp only [go_sem, Nat.reduceLT, Nat.reduceLeDiff, Nat.reduceEqDiff, reduceIte, Nat.reduceAdd, Nat.reduceMul, Nat.reduceSub, Int.reduceLT, Int.reduceLE, Int.reduceToNat, Int.reduceNeg, reduceCtorEq, hgs, Msg.cells]; (try ((first | refine ⟨_, isTime_c _, ?_⟩ | refine ⟨_, fun _ => isTime_c _, ?_⟩ | refine ⟨_, isMark_c _, ?_⟩ | refine ⟨_, fun _ => isMark_c _, ?_⟩); (try simp only [go_sem, Nat.reduceLT, Nat.reduceLeDiff, Nat.reduceEqDiff, reduceIte, Nat.reduceAdd, Nat.reduceMul, Nat.reduceSub, Int.reduceLT, Int.reduceLE, Int.reduceToNat, Int.reduceNeg, reduceCtorEq, hgs, Msg.cells]))); (try simp (disch := omega) only [wrap_id, getD_map_in, Int.toNat_natCast, Msg.cells]); (repeat (refine And.intro (by (first | omega | (simp; done) | (simp; omega) | assumption)) ?_)); refine h' _ ?_; clear h' K') | (refine aops_nil (hK _ ?_); clear hK K hgs gs; try simp only [aThen, aBlock]) | ((first | refine AWp.sreg (id := 14) dd19 rfl (fun gs K hgs hK => ?_) | refine AWp.reg (id := 14) dd19 rfl (fun gs K hgs hK => ?_)); replace hgs : gs 3 = some 40 ∧ gs 10 = some 47 := ⟨hgs 3, hgs 10⟩) | ((first | refine AWp.sreg (id := 15) dd19 rfl (fun gs K hgs hK => ?_) | refine AWp.reg (id := 15) dd19 rfl (fun gs K hgs hK => ?_)); replace hgs : gs 2 = some 54 := hgs 2) | (refine AWp.sreg  dd19 rfl (fun gs K hgs hK => ?_); replace hgs : Nat.succ 0 = 1 := rfl) | refine AWp.seq ?_ | refine ARounds.step ?_ | refine AWp.block ?_ | refine AWp.label ?_ | (refine AWp.ret ?_; try simp only [aThen, aBlock]) | (refine AWp.skip ?_; try simp only [aThen, aBlock]) | (refine AWp.exit ?_; try simp only [aThen, aBlock, Nat.reduceEqDiff, reduceIte]) | (refine AWp.reg  dd19 rfl (fun gs K hgs hK => ?_); replace hgs : Nat.succ 0 = 1 := rfl) | (refine aops_consG (fun K' h' => ?_); simp only [go_sem, Nat.reduceLT, Nat.reduceLeDiff, Nat.reduceEqDiff, reduceIte, Nat.reduceAdd, Nat.reduceMul, Nat.reduceSub, Int.reduceLT, Int.reduceLE, Int.reduceToNat, Int.reduceNeg, reduceCtorEq, hgs, Msg.cells]; (try simp (disch := omega) only [wrap_id, getD_map_in, Int.toNat_natCast, Msg.cells]); (repeat (refine And.intro (by (first | omega | (simp; done) | (simp; omega) | assumption)) ?_)); refine h' _ ?_; clear h' K') | (refine AWp.cond rfl (fun h => ?_) (fun h => ?_) <;> (try simp only [decide_eq_true_eq, decide_eq_false_iff_not, beq_iff_eq, bne_iff_ne, ne_eq, Bool.not_eq_true', Bool.not_eq_false', beq_eq_false_iff_ne, Bool.true_eq_false, Bool.false_eq_true, Int.not_le, Int.not_lt, Bool.and_eq_true, Bool.and_eq_false_iff, Bool.or_eq_true, Bool.or_eq_false_iff, bne_eq_false_iff_eq, reduceCtorEq] at h) <;> (try first | contradiction | (exfalso; omega) | (exfalso; revert h; simp; done) | (exfalso; revert h; simp; omega)))))
  all_goals simp only [Out, outA, outL, resA, go_sem, Nat.reduceLT, Nat.reduceLeDiff, Nat.reduceEqDiff, reduceIte, Nat.reduceAdd, Nat.reduceMul, Nat.reduceSub, Int.reduceLT, Int.reduceLE, Int.reduceToNat, Int.reduceNeg, reduceCtorEq]
  all_goals refine AVle.of_eq (congrArg (fun n => AV.lit (.int .i64 n)) ?_)
  all_goals (try unfold rowB at hr)
  all_goals first
    | grind
    | (simp_all; done)
    | (simp_all; omega)

def dd23 : Nat → List (List Nat)
  | 0 => [[], [0], [2]]
  | 1 => [[], [], [3]]
  | 2 => [[], [], [6]]
  | 3 => [[5], [], [7]]
  | 4 => [[4, 5], [], [8], [9], [10], [], [], [13], [1], [15], [14, 16], [12, 17], [11, 18], [19]]
  | 5 => [[5], [], [21]]
  | 6 => [[4, 20], [], [22], [23], [24], [], [], [27], [1], [29], [28, 30], [26, 31], [25, 32], [33]]
  | 7 => [[20], [4], [35]]
  | 8 => [[34], [], [36], [37], [38], [], [], [41], [1], [43], [42, 44], [40, 45], [39, 46], [47]]
  | 9 => [[1, 34], []]
  | _ => []
theorem valid_c (m : Msg) : ACall Try.prog 23 [.agg m.cells] (.lit (.bool (validM m))) := by
  have hr : validM m = validM m := rfl
  conv at hr => rhs; unfold validM
  obtain ⟨kd, k, rt, v, t, r1, r2, r3, r4, r5⟩ := m
  unfold Msg.cells
  simp only at hr
  generalize ho : validM ⟨kd, k, rt, v, t, r1, r2, r3, r4, r5⟩ = ok at hr
  clear ho
  simp only
  refine acall_of (n := 48) (rs := [.tmp 2]) Try.func23 rfl (by kernel_rfl) rfl rfl rfl ?_; simp only [argsE, Nat.reduceAdd]
  repeat (any_goals (first | (refine aops_cons (fun K' h' => ?_); simp only [go_sem, Nat.reduceLT, Nat.reduceLeDiff, Nat.reduceEqDiff, reduceIte, Nat.reduceAdd, Nat.reduceMul, Nat.reduceSub, Int.reduceLT, Int.reduceLE, Int.reduceToNat, Int.reduceNeg, reduceCtorEq, hgs, Msg.cells]; (try ((first | refine ⟨_, mark25_c _, ?_⟩ | refine ⟨_, fun _ => mark25_c _, ?_⟩ | refine ⟨_, right25_c _ _ _, ?_⟩ | refine ⟨_, fun _ => right25_c _ _ _, ?_⟩ | refine ⟨_, row25_c _ _ _ _ _, ?_⟩ | refine ⟨_, fun _ => row25_c _ _ _ _ _, ?_⟩); (try simp only [go_sem, Nat.reduceLT, Nat.reduceLeDiff, Nat.reduceEqDiff, reduceIte, Nat.reduceAdd, Nat.reduceMul, Nat.reduceSub, Int.reduceLT, Int.reduceLE, Int.reduceToNat, Int.reduceNeg, reduceCtorEq, hgs, Msg.cells]))); (try simp (disch := omega) only [wrap_id, getD_map_in, Int.toNat_natCast, Msg.cells]); (repeat (refine And.intro (by (first | omega | (simp; done) | (simp; omega) | assumption)) ?_)); refine h' _ ?_; clear h' K') | (refine aops_nil (hK _ ?_); clear hK K hgs gs; try simp only [aThen, aBlock]) | ((first | refine AWp.sreg (id := 4) dd23 rfl (fun gs K hgs hK => ?_) | refine AWp.reg (id := 4) dd23 rfl (fun gs K hgs hK => ?_)); replace hgs : gs 3 = some 11 := hgs 3) | ((first | refine AWp.sreg (id := 6) dd23 rfl (fun gs K hgs hK => ?_) | refine AWp.reg (id := 6) dd23 rfl (fun gs K hgs hK => ?_)); replace hgs : gs 3 = some 25 := hgs 3) | ((first | refine AWp.sreg (id := 8) dd23 rfl (fun gs K hgs hK => ?_) | refine AWp.reg (id := 8) dd23 rfl (fun gs K hgs hK => ?_)); replace hgs : gs 3 = some 39 := hgs 3) | (refine AWp.sreg  dd23 rfl (fun gs K hgs hK => ?_); replace hgs : Nat.succ 0 = 1 := rfl) | refine AWp.seq ?_ | refine ARounds.step ?_ | refine AWp.block ?_ | refine AWp.label ?_ | (refine AWp.ret ?_; try simp only [aThen, aBlock]) | (refine AWp.skip ?_; try simp only [aThen, aBlock]) | (refine AWp.exit ?_; try simp only [aThen, aBlock, Nat.reduceEqDiff, reduceIte]) | (refine AWp.reg  dd23 rfl (fun gs K hgs hK => ?_); replace hgs : Nat.succ 0 = 1 := rfl) | (refine aops_consG (fun K' h' => ?_); simp only [go_sem, Nat.reduceLT, Nat.reduceLeDiff, Nat.reduceEqDiff, reduceIte, Nat.reduceAdd, Nat.reduceMul, Nat.reduceSub, Int.reduceLT, Int.reduceLE, Int.reduceToNat, Int.reduceNeg, reduceCtorEq, hgs, Msg.cells]; (try simp (disch := omega) only [wrap_id, getD_map_in, Int.toNat_natCast, Msg.cells]); (repeat (refine And.intro (by (first | omega | (simp; done) | (simp; omega) | assumption)) ?_)); refine h' _ ?_; clear h' K') | (refine AWp.cond rfl (fun h => ?_) (fun h => ?_) <;> (try simp only [decide_eq_true_eq, decide_eq_false_iff_not, beq_iff_eq, bne_iff_ne, ne_eq, Bool.not_eq_true', Bool.not_eq_false', beq_eq_false_iff_ne, Bool.true_eq_false, Bool.false_eq_true, Int.not_le, Int.not_lt, Bool.and_eq_true, Bool.and_eq_false_iff, Bool.or_eq_true, Bool.or_eq_false_iff, bne_eq_false_iff_eq, reduceCtorEq] at h) <;> (try first | contradiction | (exfalso; omega) | (exfalso; revert h; simp; done) | (exfalso; revert h; simp; omega)))))
  all_goals simp only [Out, outA, outL, resA, go_sem, Nat.reduceLT, Nat.reduceLeDiff, Nat.reduceEqDiff, reduceIte, Nat.reduceAdd, Nat.reduceMul, Nat.reduceSub, Int.reduceLT, Int.reduceLE, Int.reduceToNat, Int.reduceNeg, reduceCtorEq]
  all_goals refine AVle.of_eq (congrArg (fun n => AV.lit (.bool n)) ?_)
  all_goals first
    | (subst h; rw [hr]; simp [Bool.beq_eq_decide_eq, Bool.decide_and]; done)
    | (rw [hr]; simp [*]; done)

def dd64 : Nat → List (List Nat)
  | 0 => [[], [0], [2]]
  | 1 => [[], []]
  | 2 => [[], [], [5], [6], [7]]
  | 3 => [[3, 4], [1], [], [8, 9], [10]]
  | 4 => [[4], [], [12], [13], [14]]
  | 5 => [[3, 11], [], [15], [], [17], [16, 18], [19], [], [21], [1], [23], [22, 24], [20, 25], [26]]
  | 6 => [[11], [], [28], [29], [30], [], [32], [33], [31, 34], [35]]
  | 7 => [[3, 27], [], [36], [1], [38], [37, 39], [40]]
  | 8 => [[1, 27], [3], [41]]
  | 9 => [[42], []]
  | 10 => [[42], []]
  | _ => []
theorem accs_c (c s m x : Int) : ACall Try.prog 64 [.agg [.lit (.int .i64 c), .lit (.int .i64 s), .lit (.int .i64 m), .lit (.int .i64 x)]] (.lit (.int .i64 (if accB c s m x = true then 0 else 8))) := by
  unfold accB
  simp only [decide_eq_true_eq]
  refine acall_of (n := 43) (rs := [.tmp 2]) Try.func64 rfl (by kernel_rfl) rfl rfl rfl ?_; simp only [argsE, Nat.reduceAdd]
  repeat (any_goals (first | (refine aops_cons (fun K' h' => ?_); simp only [go_sem, Nat.reduceLT, Nat.reduceLeDiff, Nat.reduceEqDiff, reduceIte, Nat.reduceAdd, Nat.reduceMul, Nat.reduceSub, Int.reduceLT, Int.reduceLE, Int.reduceToNat, Int.reduceNeg, reduceCtorEq, hgs, Msg.cells]; (try simp (disch := omega) only [wrap_id, getD_map_in, Int.toNat_natCast, Msg.cells]); (repeat (refine And.intro (by (first | omega | (simp; done) | (simp; omega) | assumption)) ?_)); refine h' _ ?_; clear h' K') | (refine aops_nil (hK _ ?_); clear hK K hgs gs; try simp only [aThen, aBlock]) | ((first | refine AWp.sreg (id := 5) dd64 rfl (fun gs K hgs hK => ?_) | refine AWp.reg (id := 5) dd64 rfl (fun gs K hgs hK => ?_)); replace hgs : gs 5 = some 20 := hgs 5) | ((first | refine AWp.sreg (id := 6) dd64 rfl (fun gs K hgs hK => ?_) | refine AWp.reg (id := 6) dd64 rfl (fun gs K hgs hK => ?_)); replace hgs : gs 3 = some 31 := hgs 3) | (refine AWp.sreg  dd64 rfl (fun gs K hgs hK => ?_); replace hgs : Nat.succ 0 = 1 := rfl) | refine AWp.seq ?_ | refine ARounds.step ?_ | refine AWp.block ?_ | refine AWp.label ?_ | (refine AWp.ret ?_; try simp only [aThen, aBlock]) | (refine AWp.skip ?_; try simp only [aThen, aBlock]) | (refine AWp.exit ?_; try simp only [aThen, aBlock, Nat.reduceEqDiff, reduceIte]) | (refine AWp.reg  dd64 rfl (fun gs K hgs hK => ?_); replace hgs : Nat.succ 0 = 1 := rfl) | (refine aops_consG (fun K' h' => ?_); simp only [go_sem, Nat.reduceLT, Nat.reduceLeDiff, Nat.reduceEqDiff, reduceIte, Nat.reduceAdd, Nat.reduceMul, Nat.reduceSub, Int.reduceLT, Int.reduceLE, Int.reduceToNat, Int.reduceNeg, reduceCtorEq, hgs, Msg.cells]; (try simp (disch := omega) only [wrap_id, getD_map_in, Int.toNat_natCast, Msg.cells]); (repeat (refine And.intro (by (first | omega | (simp; done) | (simp; omega) | assumption)) ?_)); refine h' _ ?_; clear h' K') | (refine AWp.cond rfl (fun h => ?_) (fun h => ?_) <;> (try simp only [decide_eq_true_eq, decide_eq_false_iff_not, beq_iff_eq, bne_iff_ne, ne_eq, Bool.not_eq_true', Bool.not_eq_false', beq_eq_false_iff_ne, Bool.true_eq_false, Bool.false_eq_true, Int.not_le, Int.not_lt, Bool.and_eq_true, Bool.and_eq_false_iff, Bool.or_eq_true, Bool.or_eq_false_iff, bne_eq_false_iff_eq, reduceCtorEq] at h) <;> (try first | contradiction | (exfalso; omega) | (exfalso; revert h; simp; done) | (exfalso; revert h; simp; omega)))))
  all_goals simp only [Out, outA, outL, resA, go_sem, Nat.reduceLT, Nat.reduceLeDiff, Nat.reduceEqDiff, reduceIte, Nat.reduceAdd, Nat.reduceMul, Nat.reduceSub, Int.reduceLT, Int.reduceLE, Int.reduceToNat, Int.reduceNeg, reduceCtorEq]
  all_goals refine AVle.of_eq (congrArg (fun n => AV.lit (.int .i64 n)) ?_)
  all_goals first
    | (rw [if_pos (by omega)]; done)
    | (rw [if_neg (by omega)]; done)
    | (simp_all; done)
    | (simp_all; omega)
    | grind

def cmpI (a b : Int) : Int := if a < b then -1 else if b < a then 1 else 0
def dd78 : Nat → List (List Nat)
  | 0 => [[], [2]]
  | 1 => [[], [], [0], [3, 4], [5]]
  | _ => []
theorem isNaN_c (a : Int) : ACall Try.prog 78 [.lit (.int .i64 a)] (.lit (.bool false)) := by
  refine acall_of (n := 6) (rs := [.tmp 2]) Try.func78 rfl (by kernel_rfl) rfl rfl rfl ?_; simp only [argsE, Nat.reduceAdd]
  repeat (any_goals (first | (refine aops_cons (fun K' h' => ?_); simp only [go_sem, Nat.reduceLT, Nat.reduceLeDiff, Nat.reduceEqDiff, reduceIte, Nat.reduceAdd, Nat.reduceMul, Nat.reduceSub, Int.reduceLT, Int.reduceLE, Int.reduceToNat, Int.reduceNeg, reduceCtorEq, Msg.cells]; (try simp (disch := omega) only [wrap_id, getD_map_in, Int.toNat_natCast, Msg.cells]); (repeat (refine And.intro (by (first | omega | (simp; done) | (simp; omega) | assumption)) ?_)); refine h' _ ?_; clear h' K') | (refine aops_nil (hK _ ?_); clear hK K gs; try simp only [aThen, aBlock]) | (refine AWp.sreg  dd78 rfl (fun gs K hgs hK => ?_); clear hgs) | refine AWp.seq ?_ | refine ARounds.step ?_ | refine AWp.block ?_ | refine AWp.label ?_ | (refine AWp.ret ?_; try simp only [aThen, aBlock]) | (refine AWp.skip ?_; try simp only [aThen, aBlock]) | (refine AWp.exit ?_; try simp only [aThen, aBlock, Nat.reduceEqDiff, reduceIte]) | (refine AWp.reg  dd78 rfl (fun gs K hgs hK => ?_); clear hgs) | (refine AWp.cond rfl (fun h => ?_) (fun h => ?_) <;> (try simp only [decide_eq_true_eq, decide_eq_false_iff_not, beq_iff_eq, bne_iff_ne, ne_eq, Bool.not_eq_true', Bool.not_eq_false', beq_eq_false_iff_ne, Bool.true_eq_false, Bool.false_eq_true, Int.not_le, Int.not_lt, Bool.and_eq_true, Bool.and_eq_false_iff, Bool.or_eq_true, Bool.or_eq_false_iff, bne_eq_false_iff_eq, reduceCtorEq] at h) <;> (try first | contradiction | (exfalso; omega) | (exfalso; revert h; simp; done) | (exfalso; revert h; simp; omega)))))
  all_goals simp only [Out, outA, outL, resA, go_sem, Nat.reduceLT, Nat.reduceLeDiff, Nat.reduceEqDiff, reduceIte, Nat.reduceAdd, Nat.reduceMul, Nat.reduceSub, Int.reduceLT, Int.reduceLE, Int.reduceToNat, Int.reduceNeg, reduceCtorEq]
  all_goals exact AVle.of_eq (by simp)
def dd66 : Nat → List (List Nat)
  | 0 => [[], [4]]
  | 1 => [[], [], [7], [8]]
  | 2 => [[], [], [9], [10]]
  | 3 => [[], [5]]
  | 4 => [[0, 1, 11], [6]]
  | 5 => [[12], []]
  | 6 => [[12], []]
  | 7 => [[11], [6]]
  | 8 => [[0, 1, 13], []]
  | 9 => [[13], [], [], [14, 15]]
  | 10 => [[0, 1, 16], []]
  | 11 => [[16], [0], [1], [17, 18]]
  | 12 => [[19], []]
  | 13 => [[19], []]
  | _ => []
theorem cmp_c (a b : Int) : ACall Try.prog 66 [.lit (.int .i64 a), .lit (.int .i64 b)] (.lit (.int .i64 (cmpI a b))) := by
  unfold cmpI
  refine acall_of (n := 20) (rs := [.tmp 4]) Try.func66 rfl (by kernel_rfl) rfl rfl rfl ?_; simp only [argsE, Nat.reduceAdd]
  repeat (any_goals (first | (refine aops_cons (fun K' h' => ?_); simp only [go_sem, Nat.reduceLT, Nat.reduceLeDiff, Nat.reduceEqDiff, reduceIte, Nat.reduceAdd, Nat.reduceMul, Nat.reduceSub, Int.reduceLT, Int.reduceLE, Int.reduceToNat, Int.reduceNeg, reduceCtorEq, Msg.cells]; (try ((first | refine ⟨_, isNaN_c _, ?_⟩ | refine ⟨_, fun _ => isNaN_c _, ?_⟩); (try simp only [go_sem, Nat.reduceLT, Nat.reduceLeDiff, Nat.reduceEqDiff, reduceIte, Nat.reduceAdd, Nat.reduceMul, Nat.reduceSub, Int.reduceLT, Int.reduceLE, Int.reduceToNat, Int.reduceNeg, reduceCtorEq, Msg.cells]))); (try simp (disch := omega) only [wrap_id, getD_map_in, Int.toNat_natCast, Msg.cells]); (repeat (refine And.intro (by (first | omega | (simp; done) | (simp; omega) | assumption)) ?_)); refine h' _ ?_; clear h' K') | (refine aops_nil (hK _ ?_); clear hK K gs; try simp only [aThen, aBlock]) | (refine AWp.sreg  dd66 rfl (fun gs K hgs hK => ?_); clear hgs) | refine AWp.seq ?_ | refine ARounds.step ?_ | refine AWp.block ?_ | refine AWp.label ?_ | (refine AWp.ret ?_; try simp only [aThen, aBlock]) | (refine AWp.skip ?_; try simp only [aThen, aBlock]) | (refine AWp.exit ?_; try simp only [aThen, aBlock, Nat.reduceEqDiff, reduceIte]) | (refine AWp.reg  dd66 rfl (fun gs K hgs hK => ?_); clear hgs) | (refine AWp.cond rfl (fun h => ?_) (fun h => ?_) <;> (try simp only [decide_eq_true_eq, decide_eq_false_iff_not, beq_iff_eq, bne_iff_ne, ne_eq, Bool.not_eq_true', Bool.not_eq_false', beq_eq_false_iff_ne, Bool.true_eq_false, Bool.false_eq_true, Int.not_le, Int.not_lt, Bool.and_eq_true, Bool.and_eq_false_iff, Bool.or_eq_true, Bool.or_eq_false_iff, bne_eq_false_iff_eq, reduceCtorEq] at h) <;> (try first | contradiction | (exfalso; omega) | (exfalso; revert h; simp; done) | (exfalso; revert h; simp; omega)))))
  all_goals simp only [Out, outA, outL, resA, go_sem, Nat.reduceLT, Nat.reduceLeDiff, Nat.reduceEqDiff, reduceIte, Nat.reduceAdd, Nat.reduceMul, Nat.reduceSub, Int.reduceLT, Int.reduceLE, Int.reduceToNat, Int.reduceNeg, reduceCtorEq]
  all_goals refine AVle.of_eq (congrArg (fun n => AV.lit (.int .i64 n)) ?_)
  all_goals (repeat' split)
  all_goals omega
def or3 (a b c : Int) : Int := if a ≠ 0 then a else if b ≠ 0 then b else c
def dd65 : Nat → List (List Nat)
  | 0 => [[], [2]]
  | 1 => [[], []]
  | 2 => [[], [0], [], []]
  | 3 => [[], []]
  | 4 => [[9], [], [10], [11]]
  | 5 => [[], [], [], [12, 13]]
  | 6 => [[3, 6, 7, 8, 14], [5], [15]]
  | 7 => [[5, 14], [8], [16]]
  | 8 => [[6, 7, 8, 9], [3], [17]]
  | _ => []
theorem or_c (a b c : Int) : ACall Try.prog 65 [.ro 1 [[.lit (.int .i64 a)], [.lit (.int .i64 b)], [.lit (.int .i64 c)]]] (.lit (.int .i64 (or3 a b c))) := by
  unfold or3
  refine acall_of (n := 18) (rs := [.tmp 2]) Try.func65 rfl (by kernel_rfl) rfl rfl rfl ?_; simp only [argsE, Nat.reduceAdd]
  repeat (any_goals (first | (refine aops_cons (fun K' h' => ?_); simp only [go_sem, Nat.reduceLT, Nat.reduceLeDiff, Nat.reduceEqDiff, reduceIte, Nat.reduceAdd, Nat.reduceMul, Nat.reduceSub, Int.reduceLT, Int.reduceLE, Int.reduceToNat, Int.reduceNeg, reduceCtorEq, Msg.cells]; (try simp (disch := omega) only [wrap_id, getD_map_in, Int.toNat_natCast, Msg.cells]); (repeat (refine And.intro (by (first | omega | (simp; done) | (simp; omega) | assumption)) ?_)); refine h' _ ?_; clear h' K') | (refine aops_nil (hK _ ?_); clear hK K gs; try simp only [aThen, aBlock]) | (refine AWp.sreg  dd65 rfl (fun gs K hgs hK => ?_); clear hgs) | refine AWp.seq ?_ | refine ARounds.step ?_ | refine AWp.block ?_ | refine AWp.label ?_ | (refine AWp.ret ?_; try simp only [aThen, aBlock]) | (refine AWp.skip ?_; try simp only [aThen, aBlock]) | (refine AWp.exit ?_; try simp only [aThen, aBlock, Nat.reduceEqDiff, reduceIte]) | (refine AWp.reg  dd65 rfl (fun gs K hgs hK => ?_); clear hgs) | (refine AWp.cond rfl (fun h => ?_) (fun h => ?_) <;> (try simp only [decide_eq_true_eq, decide_eq_false_iff_not, beq_iff_eq, bne_iff_ne, ne_eq, Bool.not_eq_true', Bool.not_eq_false', beq_eq_false_iff_ne, Bool.true_eq_false, Bool.false_eq_true, Int.not_le, Int.not_lt, Bool.and_eq_true, Bool.and_eq_false_iff, Bool.or_eq_true, Bool.or_eq_false_iff, bne_eq_false_iff_eq, reduceCtorEq] at h) <;> (try first | contradiction | (exfalso; omega) | (exfalso; revert h; simp; done) | (exfalso; revert h; simp; omega)))))
  refine AWp.loopR 4 ?_
  repeat (any_goals (first | (refine aops_cons (fun K' h' => ?_); simp only [go_sem, Nat.reduceLT, Nat.reduceLeDiff, Nat.reduceEqDiff, reduceIte, Nat.reduceAdd, Nat.reduceMul, Nat.reduceSub, Int.reduceLT, Int.reduceLE, Int.reduceToNat, Int.reduceNeg, reduceCtorEq, Msg.cells, Int.reduceAdd, Int.zero_add]; (try simp (disch := omega) only [wrap_id, getD_map_in, Int.toNat_natCast, Msg.cells, Int.reduceAdd, Int.zero_add]); (repeat (refine And.intro (by (first | omega | (simp; done) | (simp; omega) | assumption)) ?_)); refine h' _ ?_; clear h' K') | (refine aops_nil (hK _ ?_); clear hK K gs; try simp only [aThen, aBlock]) | (refine AWp.sreg  dd65 rfl (fun gs K hgs hK => ?_); clear hgs) | refine AWp.seq ?_ | refine ARounds.step ?_ | refine AWp.block ?_ | refine AWp.label ?_ | (refine AWp.ret ?_; try simp only [aThen, aBlock]) | (refine AWp.skip ?_; try simp only [aThen, aBlock]) | (refine AWp.exit ?_; try simp only [aThen, aBlock, Nat.reduceEqDiff, reduceIte]) | (refine AWp.reg  dd65 rfl (fun gs K hgs hK => ?_); clear hgs) | (refine AWp.cond rfl (fun h => ?_) (fun h => ?_) <;> (try simp only [decide_eq_true_eq, decide_eq_false_iff_not, beq_iff_eq, bne_iff_ne, ne_eq, Bool.not_eq_true', Bool.not_eq_false', beq_eq_false_iff_ne, Bool.true_eq_false, Bool.false_eq_true, Int.not_le, Int.not_lt, Bool.and_eq_true, Bool.and_eq_false_iff, Bool.or_eq_true, Bool.or_eq_false_iff, bne_eq_false_iff_eq, reduceCtorEq] at h) <;> (try first | contradiction | (exfalso; omega) | (exfalso; revert h; simp; done) | (exfalso; revert h; simp; omega)))))
  all_goals simp only [Out, outA, outL, resA, go_sem, Nat.reduceLT, Nat.reduceLeDiff, Nat.reduceEqDiff, reduceIte, Nat.reduceAdd, Nat.reduceMul, Nat.reduceSub, Int.reduceLT, Int.reduceLE, Int.reduceToNat, Int.reduceNeg, reduceCtorEq]
  all_goals refine AVle.of_eq (congrArg (fun n => AV.lit (.int .i64 n)) ?_)
  all_goals (repeat' split)
  all_goals omega
end Go.Proofs.Ytfmnjgjfkfppkaa
