/-
  The walks over checks of tasks: of the program and of the reference.
-/
import Derived.Test.YtlpmgkillalhbaaTskW1
namespace Go.Proofs.Ytlpmgkillalhbaa
open Go.AL Go.RowKit
set_option linter.unusedSimpArgs false
set_option linter.unusedVariables false
set_option maxRecDepth 10000
set_option maxHeartbeats 8000000

def leastI (k : Int) : Int := if k = 1 ∨ k = 3 ∨ k = 6 ∨ k = 7 then 0 else if k = 5 then 2 else 1
def mostI (k : Int) : Int := if k = 2 then 1 else if k = 4 then 4 else if k = 5 then 2 else 0
def keepsI (k : Int) : Bool := decide (k = 4 ∨ k = 5)
def dd45 : Nat → List (List Nat)
  | 0 => [[], [], [], [], [], [], []]
  | 1 => [[], [0]]
  | 2 => [[2, 21], []]
  | 3 => [[], [], [10]]
  | 4 => [[5, 8, 9], []]
  | 5 => [[9], [], [12]]
  | 6 => [[2, 3, 8, 11], [], []]
  | 7 => [[11], [], [14]]
  | 8 => [[13], [], [16]]
  | 9 => [[2, 3, 4, 8, 15], [], [], []]
  | 10 => [[15], [], [18]]
  | 11 => [[2, 3, 4, 8, 17], [], [], []]
  | 12 => [[17], [], [20]]
  | 13 => [[6, 8, 19], []]
  | 14 => [[19], [8], [22]]
  | 15 => [[7, 21], []]
  | _ => []
theorem limits_c (k : Int) : ACall Try.prog 45 [.lit (.int .u8 k)] (.tup [.lit (.int .i64 (leastI k)), .lit (.int .i64 (mostI k)), .lit (.bool (keepsI k)), .lit (.bool (decide (k = 1))), .lit (.bool (decide (k = 6))), .lit (.bool (decide (k = 7)))]) := by
  refine acall_of (n := 23) (rs := [.tmp 2, .tmp 3, .tmp 4, .tmp 5, .tmp 6, .tmp 7]) Try.func45 rfl (by kernel_rfl) rfl rfl rfl ?_; simp only [argsE, Nat.reduceAdd]
  repeat (any_goals (first | (refine aops_cons (fun K' h' => ?_); simp only [go_sem, Nat.reduceLT, Nat.reduceLeDiff, Nat.reduceEqDiff, reduceIte, Nat.reduceAdd, Nat.reduceMul, Nat.reduceSub, Int.reduceLT, Int.reduceLE, Int.reduceToNat, Int.reduceNeg, reduceCtorEq]; (try simp (disch := omega) only [wrap_id, getD_map_in, Int.toNat_natCast]); (repeat (refine And.intro (by (first | omega | (simp; done) | (simp; omega) | assumption)) ?_)); refine h' _ ?_; clear h' K') | (refine aops_nil (hK _ ?_); clear hK K gs; try simp only [aThen, aBlock]) | (refine AWp.sreg  dd45 rfl (fun gs K hgs hK => ?_); clear hgs) | refine AWp.seq ?_ | refine ARounds.step ?_ | refine AWp.block ?_ | refine AWp.label ?_ | (refine AWp.ret ?_; try simp only [aThen, aBlock]) | (refine AWp.skip ?_; try simp only [aThen, aBlock]) | (refine AWp.exit ?_; try simp only [aThen, aBlock, Nat.reduceEqDiff, reduceIte]) | (refine AWp.reg  dd45 rfl (fun gs K hgs hK => ?_); clear hgs) | (refine AWp.cond rfl (fun h => ?_) (fun h => ?_) <;> (try simp only [decide_eq_true_eq, decide_eq_false_iff_not, beq_iff_eq, bne_iff_ne, ne_eq, Bool.not_eq_true', Bool.not_eq_false', beq_eq_false_iff_ne, Bool.true_eq_false, Bool.false_eq_true, Int.not_le, Int.not_lt, Bool.and_eq_true, Bool.and_eq_false_iff, Bool.or_eq_true, Bool.or_eq_false_iff, bne_eq_false_iff_eq, reduceCtorEq] at h) <;> (try first | contradiction | (exfalso; omega) | (exfalso; revert h; simp; done) | (exfalso; revert h; simp; omega)))))
  all_goals simp only [Out, outA, outL, resA, go_sem, Nat.reduceLT, Nat.reduceLeDiff, Nat.reduceEqDiff, reduceIte, Nat.reduceAdd, Nat.reduceMul, Nat.reduceSub, Int.reduceLT, Int.reduceLE, Int.reduceToNat, Int.reduceNeg, reduceCtorEq]
  all_goals refine AVle.of_eq ?_
  all_goals unfold leastI mostI keepsI
  all_goals first
    | (subst h; rfl)
    | (simp [*]; done)
    | (simp [*]; omega)
def roomI (b : Bool) (n : Int) : Int := if b = true then n else 0
def dd46 : Nat → List (List Nat)
  | 0 => [[], [4]]
  | 1 => [[], [0]]
  | 2 => [[5], [1], [6]]
  | 3 => [[1, 5], []]
  | _ => []
theorem room_c (b : Bool) (n : Int) : ACall Try.prog 46 [.lit (.bool b), .lit (.int .i64 n)] (.lit (.int .i64 (roomI b n))) := by
  refine acall_of (n := 7) (rs := [.tmp 4]) Try.func46 rfl (by kernel_rfl) rfl rfl rfl ?_; simp only [argsE, Nat.reduceAdd]
  repeat (any_goals (first | (refine aops_cons (fun K' h' => ?_); simp only [go_sem, Nat.reduceLT, Nat.reduceLeDiff, Nat.reduceEqDiff, reduceIte, Nat.reduceAdd, Nat.reduceMul, Nat.reduceSub, Int.reduceLT, Int.reduceLE, Int.reduceToNat, Int.reduceNeg, reduceCtorEq]; (try simp (disch := omega) only [wrap_id, getD_map_in, Int.toNat_natCast]); (repeat (refine And.intro (by (first | omega | (simp; done) | (simp; omega) | assumption)) ?_)); refine h' _ ?_; clear h' K') | (refine aops_nil (hK _ ?_); clear hK K gs; try simp only [aThen, aBlock]) | (refine AWp.sreg  dd46 rfl (fun gs K hgs hK => ?_); clear hgs) | refine AWp.seq ?_ | refine ARounds.step ?_ | refine AWp.block ?_ | refine AWp.label ?_ | (refine AWp.ret ?_; try simp only [aThen, aBlock]) | (refine AWp.skip ?_; try simp only [aThen, aBlock]) | (refine AWp.exit ?_; try simp only [aThen, aBlock, Nat.reduceEqDiff, reduceIte]) | (refine AWp.reg  dd46 rfl (fun gs K hgs hK => ?_); clear hgs) | (refine AWp.cond rfl (fun h => ?_) (fun h => ?_) <;> (try simp only [decide_eq_true_eq, decide_eq_false_iff_not, beq_iff_eq, bne_iff_ne, ne_eq, Bool.not_eq_true', Bool.not_eq_false', beq_eq_false_iff_ne, Bool.true_eq_false, Bool.false_eq_true, Int.not_le, Int.not_lt, Bool.and_eq_true, Bool.and_eq_false_iff, Bool.or_eq_true, Bool.or_eq_false_iff, bne_eq_false_iff_eq, reduceCtorEq] at h) <;> (try first | contradiction | (exfalso; omega) | (exfalso; revert h; simp; done) | (exfalso; revert h; simp; omega)))))
  all_goals simp only [Out, outA, outL, resA, go_sem, Nat.reduceLT, Nat.reduceLeDiff, Nat.reduceEqDiff, reduceIte, Nat.reduceAdd, Nat.reduceMul, Nat.reduceSub, Int.reduceLT, Int.reduceLE, Int.reduceToNat, Int.reduceNeg, reduceCtorEq]
  all_goals exact AVle.of_eq (by simp [roomI, *])
def dd49 : Nat → List (List Nat)
  | 0 => [[], [2]]
  | 1 => [[], [], [3], [4], [0], [6], [7], [8], [5, 9], [10]]
  | _ => []
theorem tMark_c (t : Int) : ACall Try.prog 49 [.lit (.int .i64 t)] (.lit (.bool (lowB t))) := by
  have hM := mCheck_c ⟨2, 0, 0, 0, t, 0, 0, 0, 0, 0⟩
  have he : errM ⟨2, 0, 0, 0, t, 0, 0, 0, 0, 0⟩ = if markB t = true then 0 else 8 := by
    unfold errM validM
    simp
  rw [he] at hM
  unfold lowB
  generalize markB t = p at *
  unfold Msg.cells at hM
  simp only at hM
  refine acall_of (n := 11) (rs := [.tmp 2]) Try.func49 rfl (by kernel_rfl) rfl rfl rfl ?_; simp only [argsE, Nat.reduceAdd]
  repeat (any_goals (first | (refine aops_cons (fun K' h' => ?_); simp only [go_sem, Nat.reduceLT, Nat.reduceLeDiff, Nat.reduceEqDiff, reduceIte, Nat.reduceAdd, Nat.reduceMul, Nat.reduceSub, Int.reduceLT, Int.reduceLE, Int.reduceToNat, Int.reduceNeg, reduceCtorEq, hgs]; (try ((first | refine ⟨_, hM, ?_⟩ | refine ⟨_, fun _ => hM, ?_⟩); (try simp only [go_sem, Nat.reduceLT, Nat.reduceLeDiff, Nat.reduceEqDiff, reduceIte, Nat.reduceAdd, Nat.reduceMul, Nat.reduceSub, Int.reduceLT, Int.reduceLE, Int.reduceToNat, Int.reduceNeg, reduceCtorEq, hgs]))); (try simp (disch := omega) only [wrap_id, getD_map_in, Int.toNat_natCast]); (repeat (refine And.intro (by (first | omega | (simp; done) | (simp; omega) | assumption)) ?_)); refine h' _ ?_; clear h' K') | (refine aops_nil (hK _ ?_); clear hK K hgs gs; try simp only [aThen, aBlock]) | ((first | refine AWp.sreg (id := 1) dd49 rfl (fun gs K hgs hK => ?_) | refine AWp.reg (id := 1) dd49 rfl (fun gs K hgs hK => ?_)); replace hgs : gs 2 = some 5 := hgs 2) | (refine AWp.sreg  dd49 rfl (fun gs K hgs hK => ?_); replace hgs : Nat.succ 0 = 1 := rfl) | refine AWp.seq ?_ | refine ARounds.step ?_ | refine AWp.block ?_ | refine AWp.label ?_ | (refine AWp.ret ?_; try simp only [aThen, aBlock]) | (refine AWp.skip ?_; try simp only [aThen, aBlock]) | (refine AWp.exit ?_; try simp only [aThen, aBlock, Nat.reduceEqDiff, reduceIte]) | (refine AWp.reg  dd49 rfl (fun gs K hgs hK => ?_); replace hgs : Nat.succ 0 = 1 := rfl) | (refine AWp.cond rfl (fun h => ?_) (fun h => ?_) <;> (try simp only [decide_eq_true_eq, decide_eq_false_iff_not, beq_iff_eq, bne_iff_ne, ne_eq, Bool.not_eq_true', Bool.not_eq_false', beq_eq_false_iff_ne, Bool.true_eq_false, Bool.false_eq_true, Int.not_le, Int.not_lt, Bool.and_eq_true, Bool.and_eq_false_iff, Bool.or_eq_true, Bool.or_eq_false_iff, bne_eq_false_iff_eq, reduceCtorEq] at h) <;> (try first | contradiction | (exfalso; omega) | (exfalso; revert h; simp; done) | (exfalso; revert h; simp; omega)))))
  all_goals simp only [Out, outA, outL, resA, go_sem, Nat.reduceLT, Nat.reduceLeDiff, Nat.reduceEqDiff, reduceIte, Nat.reduceAdd, Nat.reduceMul, Nat.reduceSub, Int.reduceLT, Int.reduceLE, Int.reduceToNat, Int.reduceNeg, reduceCtorEq]
  all_goals refine AVle.of_eq (congrArg (fun b => AV.lit (.bool b)) ?_)
  all_goals (cases p <;> simp)
def dd78 : Nat → List (List Nat)
  | 0 => [[], [2]]
  | 1 => [[], [], [3], [4], [0], [6], [5, 7], [8]]
  | _ => []
theorem least_c (t : Int) : ACall Try.prog 78 [.lit (.int .i64 t)] (.lit (.bool (lowB t))) := by
  unfold lowB
  refine acall_of (n := 9) (rs := [.tmp 2]) Try.func78 rfl (by kernel_rfl) rfl rfl rfl ?_; simp only [argsE, Nat.reduceAdd]
  repeat (any_goals (first | (refine aops_cons (fun K' h' => ?_); simp only [go_sem, Nat.reduceLT, Nat.reduceLeDiff, Nat.reduceEqDiff, reduceIte, Nat.reduceAdd, Nat.reduceMul, Nat.reduceSub, Int.reduceLT, Int.reduceLE, Int.reduceToNat, Int.reduceNeg, reduceCtorEq, hgs]; (try ((first | refine ⟨_, mark25_c _, ?_⟩ | refine ⟨_, fun _ => mark25_c _, ?_⟩); (try simp only [go_sem, Nat.reduceLT, Nat.reduceLeDiff, Nat.reduceEqDiff, reduceIte, Nat.reduceAdd, Nat.reduceMul, Nat.reduceSub, Int.reduceLT, Int.reduceLE, Int.reduceToNat, Int.reduceNeg, reduceCtorEq, hgs]))); (try simp (disch := omega) only [wrap_id, getD_map_in, Int.toNat_natCast]); (repeat (refine And.intro (by (first | omega | (simp; done) | (simp; omega) | assumption)) ?_)); refine h' _ ?_; clear h' K') | (refine aops_nil (hK _ ?_); clear hK K hgs gs; try simp only [aThen, aBlock]) | ((first | refine AWp.sreg (id := 1) dd78 rfl (fun gs K hgs hK => ?_) | refine AWp.reg (id := 1) dd78 rfl (fun gs K hgs hK => ?_)); replace hgs : gs 2 = some 5 := hgs 2) | (refine AWp.sreg  dd78 rfl (fun gs K hgs hK => ?_); replace hgs : Nat.succ 0 = 1 := rfl) | refine AWp.seq ?_ | refine ARounds.step ?_ | refine AWp.block ?_ | refine AWp.label ?_ | (refine AWp.ret ?_; try simp only [aThen, aBlock]) | (refine AWp.skip ?_; try simp only [aThen, aBlock]) | (refine AWp.exit ?_; try simp only [aThen, aBlock, Nat.reduceEqDiff, reduceIte]) | (refine AWp.reg  dd78 rfl (fun gs K hgs hK => ?_); replace hgs : Nat.succ 0 = 1 := rfl) | (refine AWp.cond rfl (fun h => ?_) (fun h => ?_) <;> (try simp only [decide_eq_true_eq, decide_eq_false_iff_not, beq_iff_eq, bne_iff_ne, ne_eq, Bool.not_eq_true', Bool.not_eq_false', beq_eq_false_iff_ne, Bool.true_eq_false, Bool.false_eq_true, Int.not_le, Int.not_lt, Bool.and_eq_true, Bool.and_eq_false_iff, Bool.or_eq_true, Bool.or_eq_false_iff, bne_eq_false_iff_eq, reduceCtorEq] at h) <;> (try first | contradiction | (exfalso; omega) | (exfalso; revert h; simp; done) | (exfalso; revert h; simp; omega)))))
  all_goals simp only [Out, outA, outL, resA, go_sem, Nat.reduceLT, Nat.reduceLeDiff, Nat.reduceEqDiff, reduceIte, Nat.reduceAdd, Nat.reduceMul, Nat.reduceSub, Int.reduceLT, Int.reduceLE, Int.reduceToNat, Int.reduceNeg, reduceCtorEq]
  all_goals refine AVle.of_eq (congrArg (fun b => AV.lit (.bool b)) ?_)
  all_goals simp
def dd52 : Nat → List (List Nat)
  | 0 => [[], [0], [2]]
  | 1 => [[], [], [], [], [], []]
  | 2 => [[], [], [8], [9]]
  | 3 => [[1, 3, 4, 5, 6, 34], []]
  | 4 => [[], [], [12]]
  | 5 => [[5, 10, 11], []]
  | 6 => [[11], [], [14]]
  | 7 => [[3, 10, 13], []]
  | 8 => [[13], [], [16]]
  | 9 => [[15], [], [18]]
  | 10 => [[3, 4, 10, 17], [], [19], [20], [21], [22], [23]]
  | 11 => [[], [], [24], [25], [26]]
  | 12 => [[17], [], [28]]
  | 13 => [[3, 4, 10, 27], []]
  | 14 => [[], [], [29], [30], [31]]
  | 15 => [[27], [], [33]]
  | 16 => [[6, 10, 32], []]
  | 17 => [[7, 32], [10], [35]]
  | 18 => [[34], []]
  | 19 => [[10, 15], [], [36], [37], [3], [38, 39], [40], [], [42], [43], [4], [44, 45], [41, 46], [47], [], [49], [50], [5], [51, 52], [48, 53], [54], [], [56], [57], [6], [58, 59], [55, 60], [61], [1], [63], [64], [7], [65, 66], [62, 67], [68]]
  | _ => []
theorem kept_c (t : Tsk) : ACall Try.prog 52 [.agg t.cells] (.lit (.bool (keptB t))) := by
  obtain ⟨kd, n, tn, pe, mk, st, ev, rw_, lt⟩ := t
  unfold Tsk.cells keptB sndsV mksV entsV evsV rowsV rcdsV
  simp only
  refine acall_of (n := 69) (rs := [.tmp 2]) Try.func52 rfl (by kernel_rfl) rfl rfl rfl ?_; simp only [argsE, Nat.reduceAdd]
  repeat (any_goals (first | (refine aops_cons (fun K' h' => ?_); simp only [go_sem, Nat.reduceLT, Nat.reduceLeDiff, Nat.reduceEqDiff, reduceIte, Nat.reduceAdd, Nat.reduceMul, Nat.reduceSub, Int.reduceLT, Int.reduceLE, Int.reduceToNat, Int.reduceNeg, reduceCtorEq, hgs]; (try simp (disch := omega) only [wrap_id, getD_map_in, Int.toNat_natCast]); (repeat (refine And.intro (by (first | omega | (simp; done) | (simp; omega) | assumption)) ?_)); refine h' _ ?_; clear h' K') | (refine aops_nil (hK _ ?_); clear hK K hgs gs; try simp only [aThen, aBlock]) | ((first | refine AWp.sreg (id := 19) dd52 rfl (fun gs K hgs hK => ?_) | refine AWp.reg (id := 19) dd52 rfl (fun gs K hgs hK => ?_)); replace hgs : gs 5 = some 41 ∧ gs 12 = some 48 ∧ gs 19 = some 55 ∧ gs 26 = some 62 := ⟨hgs 5, hgs 12, hgs 19, hgs 26⟩) | (refine AWp.sreg  dd52 rfl (fun gs K hgs hK => ?_); replace hgs : Nat.succ 0 = 1 := rfl) | refine AWp.seq ?_ | refine ARounds.step ?_ | refine AWp.block ?_ | refine AWp.label ?_ | (refine AWp.ret ?_; try simp only [aThen, aBlock]) | (refine AWp.skip ?_; try simp only [aThen, aBlock]) | (refine AWp.exit ?_; try simp only [aThen, aBlock, Nat.reduceEqDiff, reduceIte]) | (refine AWp.reg  dd52 rfl (fun gs K hgs hK => ?_); replace hgs : Nat.succ 0 = 1 := rfl) | (refine aops_consG (fun K' h' => ?_); simp only [go_sem, Nat.reduceLT, Nat.reduceLeDiff, Nat.reduceEqDiff, reduceIte, Nat.reduceAdd, Nat.reduceMul, Nat.reduceSub, Int.reduceLT, Int.reduceLE, Int.reduceToNat, Int.reduceNeg, reduceCtorEq, hgs]; (try simp (disch := omega) only [wrap_id, getD_map_in, Int.toNat_natCast]); (repeat (refine And.intro (by (first | omega | (simp; done) | (simp; omega) | assumption)) ?_)); refine h' _ ?_; clear h' K') | (refine AWp.cond rfl (fun h => ?_) (fun h => ?_) <;> (try simp only [decide_eq_true_eq, decide_eq_false_iff_not, beq_iff_eq, bne_iff_ne, ne_eq, Bool.not_eq_true', Bool.not_eq_false', beq_eq_false_iff_ne, Bool.true_eq_false, Bool.false_eq_true, Int.not_le, Int.not_lt, Bool.and_eq_true, Bool.and_eq_false_iff, Bool.or_eq_true, Bool.or_eq_false_iff, bne_eq_false_iff_eq, reduceCtorEq] at h) <;> (try first | contradiction | (exfalso; omega) | (exfalso; revert h; simp; done) | (exfalso; revert h; simp; omega)))))
  all_goals simp only [Out, outA, outL, resA, go_sem, Nat.reduceLT, Nat.reduceLeDiff, Nat.reduceEqDiff, reduceIte, Nat.reduceAdd, Nat.reduceMul, Nat.reduceSub, Int.reduceLT, Int.reduceLE, Int.reduceToNat, Int.reduceNeg, reduceCtorEq]
  all_goals refine AVle.of_eq (congrArg (fun b => AV.lit (.bool b)) ?_)
  all_goals rw [Bool.eq_iff_iff]
  all_goals simp only [Bool.and_eq_true, decide_eq_true_eq, beq_iff_eq, Bool.false_eq_true, false_iff]
  all_goals first
    | omega
    | (split <;> (try split) <;> omega)
def dd54 : Nat → List (List Nat)
  | 0 => [[], [0], [2]]
  | 1 => [[], []]
  | 2 => [[], [], [], [8], [9], [7, 10]]
  | 3 => [[20], [3], [12], [13]]
  | 4 => [[11], [], [14], [], [15, 16], [17], [18], [19]]
  | 5 => [[1, 3, 20], []]
  | 6 => [[3, 11], []]
  | 7 => [[], [], [], [22], [23], [21, 24]]
  | 8 => [[34], [4], [26], [27]]
  | 9 => [[25], [], [28], [], [29, 30], [31], [32], [33]]
  | 10 => [[1, 4, 34], []]
  | 11 => [[4, 25], []]
  | 12 => [[], [], [], [36], [37], [35, 38]]
  | 13 => [[48], [5], [40], [41]]
  | 14 => [[39], [], [42], [], [43, 44], [45], [46], [47]]
  | 15 => [[1, 5, 48], []]
  | 16 => [[5, 39], []]
  | 17 => [[], [], [], [50], [51], [49, 52]]
  | 18 => [[62], [6], [54], [55]]
  | 19 => [[53], [], [56], [], [57, 58], [59], [60], [61]]
  | 20 => [[1, 6, 62], []]
  | 21 => [[1, 6, 53], []]
  | _ => []
theorem lists_c (t : Tsk) (h1 : t.marks.length ≤ maxLen) (h2 : t.evs.length ≤ maxLen) (h3 : t.rows.length ≤ maxLen) (h4 : t.late.length ≤ maxLen) : ACall Try.prog 54 [.agg t.cells] (.lit (.bool (listsB t))) := by
  obtain ⟨kd, n, tn, pe, mk, st, ev, rw_, lt⟩ := t
  unfold maxLen at h1 h2 h3 h4
  unfold Tsk.cells listsB sndsV mksV entsV evsV rowsV rcdsV allL
  simp only at h1 h2 h3 h4 ⊢
  obtain ⟨B, hB⟩ : ∃ B : List AV, B = [.lit (.int .u8 kd), .lit (.int .i64 n), .lit (.int .i64 tn), .ro 11 (pe.map Snd.cells), .ro 1 (mk.map intC), .ro 11 (st.map Ent.cells), .ro 5 (ev.map Ev.cells), .ro 5 (rw_.map RowT.cells), .ro 3 (lt.map Rcd.cells)] := ⟨_, rfl⟩
  refine acall_of (n := 63) (rs := [.tmp 2]) Try.func54 rfl (by kernel_rfl) rfl rfl rfl ?_; simp only [argsE, Nat.reduceAdd]
  repeat ((first | (refine aops_cons (fun K' h' => ?_); simp only [go_sem, Nat.reduceLT, Nat.reduceLeDiff, Nat.reduceEqDiff, reduceIte, Nat.reduceAdd, Nat.reduceMul, Nat.reduceSub, Int.reduceLT, Int.reduceLE, Int.reduceToNat, Int.reduceNeg, reduceCtorEq]; (try ((first | refine ⟨_, hEv, ?_⟩ | refine ⟨_, fun _ => hEv, ?_⟩ | refine ⟨_, least_c _, ?_⟩ | refine ⟨_, fun _ => least_c _, ?_⟩ | refine ⟨_, row25_c _ _ _ _ _, ?_⟩ | refine ⟨_, fun _ => row25_c _ _ _ _ _, ?_⟩ | refine ⟨_, right25_c _ _ _, ?_⟩ | refine ⟨_, fun _ => right25_c _ _ _, ?_⟩); (try simp only [go_sem, Nat.reduceLT, Nat.reduceLeDiff, Nat.reduceEqDiff, reduceIte, Nat.reduceAdd, Nat.reduceMul, Nat.reduceSub, Int.reduceLT, Int.reduceLE, Int.reduceToNat, Int.reduceNeg, reduceCtorEq]))); (try simp (disch := omega) only [wrap_id, getD_map_in, Int.toNat_natCast]); (repeat (refine And.intro (by (first | omega | (simp; done) | (simp; omega) | assumption)) ?_)); refine h' _ ?_; clear h' K') | (refine aops_nil (hK _ ?_); clear hK K gs; try simp only [aThen, aBlock]) | (refine AWp.sreg  dd54 rfl (fun gs K hgs hK => ?_); clear hgs) | refine AWp.seq ?_ | refine ARounds.step ?_ | refine AWp.block ?_ | refine AWp.label ?_ | (refine AWp.ret ?_; try simp only [aThen, aBlock]) | (refine AWp.skip ?_; try simp only [aThen, aBlock]) | (refine AWp.exit ?_; try simp only [aThen, aBlock, Nat.reduceEqDiff, reduceIte]) | (refine AWp.reg  dd54 rfl (fun gs K hgs hK => ?_); clear hgs)))
  refine AWp.loopN mk.length (fun k => lowB (mk.getD k default) = true) (fun k => ⟨[(1, .bp 0 0), (3, .lit (.int .i64 (k : Int)))], [B], []⟩) ?_ ?_
  · subst hB
    refine Wk.of rfl rfl ?_
    simp [subE, eget, ASt.drop, dropE, keepR, lowE, AV.lowB, lowL, Nat.blt, Nat.ble]
  · intro k hk hall
    subst hB
    repeat ((first | (refine aops_cons (fun K' h' => ?_); simp only [go_sem, Nat.reduceLT, Nat.reduceLeDiff, Nat.reduceEqDiff, reduceIte, Nat.reduceAdd, Nat.reduceMul, Nat.reduceSub, Int.reduceLT, Int.reduceLE, Int.reduceToNat, Int.reduceNeg, reduceCtorEq]; (try ((first | refine ⟨_, hEv, ?_⟩ | refine ⟨_, fun _ => hEv, ?_⟩ | refine ⟨_, least_c _, ?_⟩ | refine ⟨_, fun _ => least_c _, ?_⟩ | refine ⟨_, row25_c _ _ _ _ _, ?_⟩ | refine ⟨_, fun _ => row25_c _ _ _ _ _, ?_⟩ | refine ⟨_, right25_c _ _ _, ?_⟩ | refine ⟨_, fun _ => right25_c _ _ _, ?_⟩); (try simp only [go_sem, Nat.reduceLT, Nat.reduceLeDiff, Nat.reduceEqDiff, reduceIte, Nat.reduceAdd, Nat.reduceMul, Nat.reduceSub, Int.reduceLT, Int.reduceLE, Int.reduceToNat, Int.reduceNeg, reduceCtorEq]))); (try simp (disch := omega) only [wrap_id, getD_map_in, Int.toNat_natCast]); (repeat (refine And.intro (by (first | omega | (simp; done) | (simp; omega) | assumption)) ?_)); refine h' _ ?_; clear h' K') | (refine aops_nil (hK _ ?_); clear hK K gs; try simp only [aThen, aBlock]) | (refine AWp.sreg  dd54 rfl (fun gs K hgs hK => ?_); clear hgs) | refine AWp.seq ?_ | refine ARounds.step ?_ | refine AWp.block ?_ | refine AWp.label ?_ | (refine AWp.ret ?_; try simp only [aThen, aBlock]) | (refine AWp.skip ?_; try simp only [aThen, aBlock]) | (refine AWp.exit ?_; try simp only [aThen, aBlock, Nat.reduceEqDiff, reduceIte]) | (refine AWp.reg  dd54 rfl (fun gs K hgs hK => ?_); clear hgs)))
    (refine AWp.cond rfl (fun h => ?_) (fun h => ?_) <;> (try simp only [decide_eq_true_eq, decide_eq_false_iff_not, beq_iff_eq, bne_iff_ne, ne_eq, Bool.not_eq_true', Bool.not_eq_false', beq_eq_false_iff_ne, Bool.true_eq_false, Bool.false_eq_true, Int.not_le, Int.not_lt, Bool.and_eq_true, Bool.and_eq_false_iff, Bool.or_eq_true, Bool.or_eq_false_iff, bne_eq_false_iff_eq, reduceCtorEq] at h) <;> (try first | contradiction | (exfalso; omega) | (exfalso; revert h; simp; done) | (exfalso; revert h; simp; omega)))
    · obtain ⟨x, hx⟩ : ∃ x, mk.getD k default = x := ⟨_, rfl⟩
      repeat (any_goals (first | (refine aops_cons (fun K' h' => ?_); simp only [go_sem, Nat.reduceLT, Nat.reduceLeDiff, Nat.reduceEqDiff, reduceIte, Nat.reduceAdd, Nat.reduceMul, Nat.reduceSub, Int.reduceLT, Int.reduceLE, Int.reduceToNat, Int.reduceNeg, reduceCtorEq, hx, intC]; (try ((first | refine ⟨_, hEv, ?_⟩ | refine ⟨_, fun _ => hEv, ?_⟩ | refine ⟨_, least_c _, ?_⟩ | refine ⟨_, fun _ => least_c _, ?_⟩ | refine ⟨_, row25_c _ _ _ _ _, ?_⟩ | refine ⟨_, fun _ => row25_c _ _ _ _ _, ?_⟩ | refine ⟨_, right25_c _ _ _, ?_⟩ | refine ⟨_, fun _ => right25_c _ _ _, ?_⟩); (try simp only [go_sem, Nat.reduceLT, Nat.reduceLeDiff, Nat.reduceEqDiff, reduceIte, Nat.reduceAdd, Nat.reduceMul, Nat.reduceSub, Int.reduceLT, Int.reduceLE, Int.reduceToNat, Int.reduceNeg, reduceCtorEq, hx, intC]))); (try simp (disch := omega) only [wrap_id, getD_map_in, Int.toNat_natCast, hx, intC]); (repeat (refine And.intro (by (first | omega | (simp; done) | (simp; omega) | assumption)) ?_)); refine h' _ ?_; clear h' K') | (refine aops_nil (hK _ ?_); clear hK K gs; try simp only [aThen, aBlock]) | (refine AWp.sreg  dd54 rfl (fun gs K hgs hK => ?_); clear hgs) | refine AWp.seq ?_ | refine ARounds.step ?_ | refine AWp.block ?_ | refine AWp.label ?_ | (refine AWp.ret ?_; try simp only [aThen, aBlock]) | (refine AWp.skip ?_; try simp only [aThen, aBlock]) | (refine AWp.exit ?_; try simp only [aThen, aBlock, Nat.reduceEqDiff, reduceIte]) | (refine AWp.reg  dd54 rfl (fun gs K hgs hK => ?_); clear hgs) | (refine AWp.cond rfl (fun h => ?_) (fun h => ?_) <;> (try simp only [decide_eq_true_eq, decide_eq_false_iff_not, beq_iff_eq, bne_iff_ne, ne_eq, Bool.not_eq_true', Bool.not_eq_false', beq_eq_false_iff_ne, Bool.true_eq_false, Bool.false_eq_true, Int.not_le, Int.not_lt, Bool.and_eq_true, Bool.and_eq_false_iff, Bool.or_eq_true, Bool.or_eq_false_iff, bne_eq_false_iff_eq, reduceCtorEq] at h) <;> (try first | contradiction | (exfalso; omega) | (exfalso; revert h; simp; done) | (exfalso; revert h; simp; omega)))))
      · simp only [Out, outA, outL, resA, go_sem, Nat.reduceLT, Nat.reduceLeDiff, Nat.reduceEqDiff, reduceIte, Nat.reduceAdd, Nat.reduceMul, Nat.reduceSub, Int.reduceLT, Int.reduceLE, Int.reduceToNat, Int.reduceNeg, reduceCtorEq]
        rw [allN_false (n := mk.length) (k := k) (p := fun k => lowB (mk.getD k default)) (by omega) (by simp only [hx]; exact h)]
        exact AVle.refl _
      · refine ⟨by omega, by rw [hx]; exact h, Wk.of rfl rfl ?_⟩
        first
          | (simp [subE, eget, ASt.drop, dropE, keepR, lowE, AV.lowB, lowL, Nat.blt, Nat.ble]; done)
          | (simp [subE, eget, ASt.drop, dropE, keepR, lowE, AV.lowB, lowL, Nat.blt, Nat.ble]; omega)
    · rw [allN_true (n := mk.length) (p := fun k => lowB (mk.getD k default)) fun j hj => hall j (by omega), Bool.true_and]
      clear hall hk h
      obtain ⟨B, hB⟩ : ∃ B : List AV, B = [.lit (.int .u8 kd), .lit (.int .i64 n), .lit (.int .i64 tn), .ro 11 (pe.map Snd.cells), .ro 1 (mk.map intC), .ro 11 (st.map Ent.cells), .ro 5 (ev.map Ev.cells), .ro 5 (rw_.map RowT.cells), .ro 3 (lt.map Rcd.cells)] := ⟨_, rfl⟩
      repeat ((first | (refine aops_cons (fun K' h' => ?_); simp only [go_sem, Nat.reduceLT, Nat.reduceLeDiff, Nat.reduceEqDiff, reduceIte, Nat.reduceAdd, Nat.reduceMul, Nat.reduceSub, Int.reduceLT, Int.reduceLE, Int.reduceToNat, Int.reduceNeg, reduceCtorEq]; (try ((first | refine ⟨_, hEv, ?_⟩ | refine ⟨_, fun _ => hEv, ?_⟩ | refine ⟨_, least_c _, ?_⟩ | refine ⟨_, fun _ => least_c _, ?_⟩ | refine ⟨_, row25_c _ _ _ _ _, ?_⟩ | refine ⟨_, fun _ => row25_c _ _ _ _ _, ?_⟩ | refine ⟨_, right25_c _ _ _, ?_⟩ | refine ⟨_, fun _ => right25_c _ _ _, ?_⟩); (try simp only [go_sem, Nat.reduceLT, Nat.reduceLeDiff, Nat.reduceEqDiff, reduceIte, Nat.reduceAdd, Nat.reduceMul, Nat.reduceSub, Int.reduceLT, Int.reduceLE, Int.reduceToNat, Int.reduceNeg, reduceCtorEq]))); (try simp (disch := omega) only [wrap_id, getD_map_in, Int.toNat_natCast]); (repeat (refine And.intro (by (first | omega | (simp; done) | (simp; omega) | assumption)) ?_)); refine h' _ ?_; clear h' K') | (refine aops_nil (hK _ ?_); clear hK K gs; try simp only [aThen, aBlock]) | (refine AWp.sreg  dd54 rfl (fun gs K hgs hK => ?_); clear hgs) | refine AWp.seq ?_ | refine ARounds.step ?_ | refine AWp.block ?_ | refine AWp.label ?_ | (refine AWp.ret ?_; try simp only [aThen, aBlock]) | (refine AWp.skip ?_; try simp only [aThen, aBlock]) | (refine AWp.exit ?_; try simp only [aThen, aBlock, Nat.reduceEqDiff, reduceIte]) | (refine AWp.reg  dd54 rfl (fun gs K hgs hK => ?_); clear hgs)))
      refine AWp.loopN ev.length (fun k => okE (ev.getD k default) = true) (fun k => ⟨[(1, .bp 0 0), (4, .lit (.int .i64 (k : Int)))], [B], []⟩) ?_ ?_
      · subst hB
        refine Wk.of rfl rfl ?_
        simp [subE, eget, ASt.drop, dropE, keepR, lowE, AV.lowB, lowL, Nat.blt, Nat.ble]
      · intro k hk hall
        subst hB
        repeat ((first | (refine aops_cons (fun K' h' => ?_); simp only [go_sem, Nat.reduceLT, Nat.reduceLeDiff, Nat.reduceEqDiff, reduceIte, Nat.reduceAdd, Nat.reduceMul, Nat.reduceSub, Int.reduceLT, Int.reduceLE, Int.reduceToNat, Int.reduceNeg, reduceCtorEq]; (try ((first | refine ⟨_, hEv, ?_⟩ | refine ⟨_, fun _ => hEv, ?_⟩ | refine ⟨_, least_c _, ?_⟩ | refine ⟨_, fun _ => least_c _, ?_⟩ | refine ⟨_, row25_c _ _ _ _ _, ?_⟩ | refine ⟨_, fun _ => row25_c _ _ _ _ _, ?_⟩ | refine ⟨_, right25_c _ _ _, ?_⟩ | refine ⟨_, fun _ => right25_c _ _ _, ?_⟩); (try simp only [go_sem, Nat.reduceLT, Nat.reduceLeDiff, Nat.reduceEqDiff, reduceIte, Nat.reduceAdd, Nat.reduceMul, Nat.reduceSub, Int.reduceLT, Int.reduceLE, Int.reduceToNat, Int.reduceNeg, reduceCtorEq]))); (try simp (disch := omega) only [wrap_id, getD_map_in, Int.toNat_natCast]); (repeat (refine And.intro (by (first | omega | (simp; done) | (simp; omega) | assumption)) ?_)); refine h' _ ?_; clear h' K') | (refine aops_nil (hK _ ?_); clear hK K gs; try simp only [aThen, aBlock]) | (refine AWp.sreg  dd54 rfl (fun gs K hgs hK => ?_); clear hgs) | refine AWp.seq ?_ | refine ARounds.step ?_ | refine AWp.block ?_ | refine AWp.label ?_ | (refine AWp.ret ?_; try simp only [aThen, aBlock]) | (refine AWp.skip ?_; try simp only [aThen, aBlock]) | (refine AWp.exit ?_; try simp only [aThen, aBlock, Nat.reduceEqDiff, reduceIte]) | (refine AWp.reg  dd54 rfl (fun gs K hgs hK => ?_); clear hgs)))
        (refine AWp.cond rfl (fun h => ?_) (fun h => ?_) <;> (try simp only [decide_eq_true_eq, decide_eq_false_iff_not, beq_iff_eq, bne_iff_ne, ne_eq, Bool.not_eq_true', Bool.not_eq_false', beq_eq_false_iff_ne, Bool.true_eq_false, Bool.false_eq_true, Int.not_le, Int.not_lt, Bool.and_eq_true, Bool.and_eq_false_iff, Bool.or_eq_true, Bool.or_eq_false_iff, bne_eq_false_iff_eq, reduceCtorEq] at h) <;> (try first | contradiction | (exfalso; omega) | (exfalso; revert h; simp; done) | (exfalso; revert h; simp; omega)))
        · obtain ⟨x, hx⟩ : ∃ x, ev.getD k default = x := ⟨_, rfl⟩
          have hEv := event25_c x
          unfold errE at hEv
          obtain ⟨p, hp⟩ : ∃ p, okE x = p := ⟨_, rfl⟩
          rw [hp] at hEv
          obtain ⟨em, et, ek, ert, evv⟩ := x
          repeat (any_goals (first | (refine aops_cons (fun K' h' => ?_); simp only [go_sem, Nat.reduceLT, Nat.reduceLeDiff, Nat.reduceEqDiff, reduceIte, Nat.reduceAdd, Nat.reduceMul, Nat.reduceSub, Int.reduceLT, Int.reduceLE, Int.reduceToNat, Int.reduceNeg, reduceCtorEq, hx, Ev.cells]; (try ((first | refine ⟨_, hEv, ?_⟩ | refine ⟨_, fun _ => hEv, ?_⟩ | refine ⟨_, least_c _, ?_⟩ | refine ⟨_, fun _ => least_c _, ?_⟩ | refine ⟨_, row25_c _ _ _ _ _, ?_⟩ | refine ⟨_, fun _ => row25_c _ _ _ _ _, ?_⟩ | refine ⟨_, right25_c _ _ _, ?_⟩ | refine ⟨_, fun _ => right25_c _ _ _, ?_⟩); (try simp only [go_sem, Nat.reduceLT, Nat.reduceLeDiff, Nat.reduceEqDiff, reduceIte, Nat.reduceAdd, Nat.reduceMul, Nat.reduceSub, Int.reduceLT, Int.reduceLE, Int.reduceToNat, Int.reduceNeg, reduceCtorEq, hx, Ev.cells]))); (try simp (disch := omega) only [wrap_id, getD_map_in, Int.toNat_natCast, hx, Ev.cells]); (repeat (refine And.intro (by (first | omega | (simp; done) | (simp; omega) | assumption)) ?_)); refine h' _ ?_; clear h' K') | (refine aops_nil (hK _ ?_); clear hK K gs; try simp only [aThen, aBlock]) | (refine AWp.sreg  dd54 rfl (fun gs K hgs hK => ?_); clear hgs) | refine AWp.seq ?_ | refine ARounds.step ?_ | refine AWp.block ?_ | refine AWp.label ?_ | (refine AWp.ret ?_; try simp only [aThen, aBlock]) | (refine AWp.skip ?_; try simp only [aThen, aBlock]) | (refine AWp.exit ?_; try simp only [aThen, aBlock, Nat.reduceEqDiff, reduceIte]) | (refine AWp.reg  dd54 rfl (fun gs K hgs hK => ?_); clear hgs) | (refine AWp.cond rfl (fun h => ?_) (fun h => ?_) <;> (try simp only [decide_eq_true_eq, decide_eq_false_iff_not, beq_iff_eq, bne_iff_ne, ne_eq, Bool.not_eq_true', Bool.not_eq_false', beq_eq_false_iff_ne, Bool.true_eq_false, Bool.false_eq_true, Int.not_le, Int.not_lt, Bool.and_eq_true, Bool.and_eq_false_iff, Bool.or_eq_true, Bool.or_eq_false_iff, bne_eq_false_iff_eq, reduceCtorEq] at h) <;> (try first | contradiction | (exfalso; omega) | (exfalso; revert h; simp; done) | (exfalso; revert h; simp; omega)))))
          · simp only [Out, outA, outL, resA, go_sem, Nat.reduceLT, Nat.reduceLeDiff, Nat.reduceEqDiff, reduceIte, Nat.reduceAdd, Nat.reduceMul, Nat.reduceSub, Int.reduceLT, Int.reduceLE, Int.reduceToNat, Int.reduceNeg, reduceCtorEq]
            rw [allN_false (n := ev.length) (k := k) (p := fun k => okE (ev.getD k default)) (by omega) (by simp only [hx, hp]; cases p <;> simp_all)]
            exact AVle.refl _
          · refine ⟨by omega, by rw [hx, hp]; cases p <;> simp_all, Wk.of rfl rfl ?_⟩
            first
              | (simp [subE, eget, ASt.drop, dropE, keepR, lowE, AV.lowB, lowL, Nat.blt, Nat.ble]; done)
              | (simp [subE, eget, ASt.drop, dropE, keepR, lowE, AV.lowB, lowL, Nat.blt, Nat.ble]; omega)
        · rw [allN_true (n := ev.length) (p := fun k => okE (ev.getD k default)) fun j hj => hall j (by omega), Bool.true_and]
          clear hall hk h
          obtain ⟨B, hB⟩ : ∃ B : List AV, B = [.lit (.int .u8 kd), .lit (.int .i64 n), .lit (.int .i64 tn), .ro 11 (pe.map Snd.cells), .ro 1 (mk.map intC), .ro 11 (st.map Ent.cells), .ro 5 (ev.map Ev.cells), .ro 5 (rw_.map RowT.cells), .ro 3 (lt.map Rcd.cells)] := ⟨_, rfl⟩
          repeat ((first | (refine aops_cons (fun K' h' => ?_); simp only [go_sem, Nat.reduceLT, Nat.reduceLeDiff, Nat.reduceEqDiff, reduceIte, Nat.reduceAdd, Nat.reduceMul, Nat.reduceSub, Int.reduceLT, Int.reduceLE, Int.reduceToNat, Int.reduceNeg, reduceCtorEq]; (try ((first | refine ⟨_, hEv, ?_⟩ | refine ⟨_, fun _ => hEv, ?_⟩ | refine ⟨_, least_c _, ?_⟩ | refine ⟨_, fun _ => least_c _, ?_⟩ | refine ⟨_, row25_c _ _ _ _ _, ?_⟩ | refine ⟨_, fun _ => row25_c _ _ _ _ _, ?_⟩ | refine ⟨_, right25_c _ _ _, ?_⟩ | refine ⟨_, fun _ => right25_c _ _ _, ?_⟩); (try simp only [go_sem, Nat.reduceLT, Nat.reduceLeDiff, Nat.reduceEqDiff, reduceIte, Nat.reduceAdd, Nat.reduceMul, Nat.reduceSub, Int.reduceLT, Int.reduceLE, Int.reduceToNat, Int.reduceNeg, reduceCtorEq]))); (try simp (disch := omega) only [wrap_id, getD_map_in, Int.toNat_natCast]); (repeat (refine And.intro (by (first | omega | (simp; done) | (simp; omega) | assumption)) ?_)); refine h' _ ?_; clear h' K') | (refine aops_nil (hK _ ?_); clear hK K gs; try simp only [aThen, aBlock]) | (refine AWp.sreg  dd54 rfl (fun gs K hgs hK => ?_); clear hgs) | refine AWp.seq ?_ | refine ARounds.step ?_ | refine AWp.block ?_ | refine AWp.label ?_ | (refine AWp.ret ?_; try simp only [aThen, aBlock]) | (refine AWp.skip ?_; try simp only [aThen, aBlock]) | (refine AWp.exit ?_; try simp only [aThen, aBlock, Nat.reduceEqDiff, reduceIte]) | (refine AWp.reg  dd54 rfl (fun gs K hgs hK => ?_); clear hgs)))
          refine AWp.loopN rw_.length (fun k => rowB (rw_.getD k default).s (rw_.getD k default).e = true) (fun k => ⟨[(1, .bp 0 0), (5, .lit (.int .i64 (k : Int)))], [B], []⟩) ?_ ?_
          · subst hB
            refine Wk.of rfl rfl ?_
            simp [subE, eget, ASt.drop, dropE, keepR, lowE, AV.lowB, lowL, Nat.blt, Nat.ble]
          · intro k hk hall
            subst hB
            repeat ((first | (refine aops_cons (fun K' h' => ?_); simp only [go_sem, Nat.reduceLT, Nat.reduceLeDiff, Nat.reduceEqDiff, reduceIte, Nat.reduceAdd, Nat.reduceMul, Nat.reduceSub, Int.reduceLT, Int.reduceLE, Int.reduceToNat, Int.reduceNeg, reduceCtorEq]; (try ((first | refine ⟨_, hEv, ?_⟩ | refine ⟨_, fun _ => hEv, ?_⟩ | refine ⟨_, least_c _, ?_⟩ | refine ⟨_, fun _ => least_c _, ?_⟩ | refine ⟨_, row25_c _ _ _ _ _, ?_⟩ | refine ⟨_, fun _ => row25_c _ _ _ _ _, ?_⟩ | refine ⟨_, right25_c _ _ _, ?_⟩ | refine ⟨_, fun _ => right25_c _ _ _, ?_⟩); (try simp only [go_sem, Nat.reduceLT, Nat.reduceLeDiff, Nat.reduceEqDiff, reduceIte, Nat.reduceAdd, Nat.reduceMul, Nat.reduceSub, Int.reduceLT, Int.reduceLE, Int.reduceToNat, Int.reduceNeg, reduceCtorEq]))); (try simp (disch := omega) only [wrap_id, getD_map_in, Int.toNat_natCast]); (repeat (refine And.intro (by (first | omega | (simp; done) | (simp; omega) | assumption)) ?_)); refine h' _ ?_; clear h' K') | (refine aops_nil (hK _ ?_); clear hK K gs; try simp only [aThen, aBlock]) | (refine AWp.sreg  dd54 rfl (fun gs K hgs hK => ?_); clear hgs) | refine AWp.seq ?_ | refine ARounds.step ?_ | refine AWp.block ?_ | refine AWp.label ?_ | (refine AWp.ret ?_; try simp only [aThen, aBlock]) | (refine AWp.skip ?_; try simp only [aThen, aBlock]) | (refine AWp.exit ?_; try simp only [aThen, aBlock, Nat.reduceEqDiff, reduceIte]) | (refine AWp.reg  dd54 rfl (fun gs K hgs hK => ?_); clear hgs)))
            (refine AWp.cond rfl (fun h => ?_) (fun h => ?_) <;> (try simp only [decide_eq_true_eq, decide_eq_false_iff_not, beq_iff_eq, bne_iff_ne, ne_eq, Bool.not_eq_true', Bool.not_eq_false', beq_eq_false_iff_ne, Bool.true_eq_false, Bool.false_eq_true, Int.not_le, Int.not_lt, Bool.and_eq_true, Bool.and_eq_false_iff, Bool.or_eq_true, Bool.or_eq_false_iff, bne_eq_false_iff_eq, reduceCtorEq] at h) <;> (try first | contradiction | (exfalso; omega) | (exfalso; revert h; simp; done) | (exfalso; revert h; simp; omega)))
            · obtain ⟨x, hx⟩ : ∃ x, rw_.getD k default = x := ⟨_, rfl⟩
              obtain ⟨rk, rs, re, rv0, rv1⟩ := x
              repeat (any_goals (first | (refine aops_cons (fun K' h' => ?_); simp only [go_sem, Nat.reduceLT, Nat.reduceLeDiff, Nat.reduceEqDiff, reduceIte, Nat.reduceAdd, Nat.reduceMul, Nat.reduceSub, Int.reduceLT, Int.reduceLE, Int.reduceToNat, Int.reduceNeg, reduceCtorEq, hx, RowT.cells]; (try ((first | refine ⟨_, hEv, ?_⟩ | refine ⟨_, fun _ => hEv, ?_⟩ | refine ⟨_, least_c _, ?_⟩ | refine ⟨_, fun _ => least_c _, ?_⟩ | refine ⟨_, row25_c _ _ _ _ _, ?_⟩ | refine ⟨_, fun _ => row25_c _ _ _ _ _, ?_⟩ | refine ⟨_, right25_c _ _ _, ?_⟩ | refine ⟨_, fun _ => right25_c _ _ _, ?_⟩); (try simp only [go_sem, Nat.reduceLT, Nat.reduceLeDiff, Nat.reduceEqDiff, reduceIte, Nat.reduceAdd, Nat.reduceMul, Nat.reduceSub, Int.reduceLT, Int.reduceLE, Int.reduceToNat, Int.reduceNeg, reduceCtorEq, hx, RowT.cells]))); (try simp (disch := omega) only [wrap_id, getD_map_in, Int.toNat_natCast, hx, RowT.cells]); (repeat (refine And.intro (by (first | omega | (simp; done) | (simp; omega) | assumption)) ?_)); refine h' _ ?_; clear h' K') | (refine aops_nil (hK _ ?_); clear hK K gs; try simp only [aThen, aBlock]) | (refine AWp.sreg  dd54 rfl (fun gs K hgs hK => ?_); clear hgs) | refine AWp.seq ?_ | refine ARounds.step ?_ | refine AWp.block ?_ | refine AWp.label ?_ | (refine AWp.ret ?_; try simp only [aThen, aBlock]) | (refine AWp.skip ?_; try simp only [aThen, aBlock]) | (refine AWp.exit ?_; try simp only [aThen, aBlock, Nat.reduceEqDiff, reduceIte]) | (refine AWp.reg  dd54 rfl (fun gs K hgs hK => ?_); clear hgs) | (refine AWp.cond rfl (fun h => ?_) (fun h => ?_) <;> (try simp only [decide_eq_true_eq, decide_eq_false_iff_not, beq_iff_eq, bne_iff_ne, ne_eq, Bool.not_eq_true', Bool.not_eq_false', beq_eq_false_iff_ne, Bool.true_eq_false, Bool.false_eq_true, Int.not_le, Int.not_lt, Bool.and_eq_true, Bool.and_eq_false_iff, Bool.or_eq_true, Bool.or_eq_false_iff, bne_eq_false_iff_eq, reduceCtorEq] at h) <;> (try first | contradiction | (exfalso; omega) | (exfalso; revert h; simp; done) | (exfalso; revert h; simp; omega)))))
              · simp only [Out, outA, outL, resA, go_sem, Nat.reduceLT, Nat.reduceLeDiff, Nat.reduceEqDiff, reduceIte, Nat.reduceAdd, Nat.reduceMul, Nat.reduceSub, Int.reduceLT, Int.reduceLE, Int.reduceToNat, Int.reduceNeg, reduceCtorEq]
                rw [allN_false (n := rw_.length) (k := k) (p := fun k => rowB (rw_.getD k default).s (rw_.getD k default).e) (by omega) (by simp only [hx]; exact h)]
                exact AVle.refl _
              · refine ⟨by omega, by rw [hx]; exact h, Wk.of rfl rfl ?_⟩
                first
                  | (simp [subE, eget, ASt.drop, dropE, keepR, lowE, AV.lowB, lowL, Nat.blt, Nat.ble]; done)
                  | (simp [subE, eget, ASt.drop, dropE, keepR, lowE, AV.lowB, lowL, Nat.blt, Nat.ble]; omega)
            · rw [allN_true (n := rw_.length) (p := fun k => rowB (rw_.getD k default).s (rw_.getD k default).e) fun j hj => hall j (by omega), Bool.true_and]
              clear hall hk h
              obtain ⟨B, hB⟩ : ∃ B : List AV, B = [.lit (.int .u8 kd), .lit (.int .i64 n), .lit (.int .i64 tn), .ro 11 (pe.map Snd.cells), .ro 1 (mk.map intC), .ro 11 (st.map Ent.cells), .ro 5 (ev.map Ev.cells), .ro 5 (rw_.map RowT.cells), .ro 3 (lt.map Rcd.cells)] := ⟨_, rfl⟩
              repeat ((first | (refine aops_cons (fun K' h' => ?_); simp only [go_sem, Nat.reduceLT, Nat.reduceLeDiff, Nat.reduceEqDiff, reduceIte, Nat.reduceAdd, Nat.reduceMul, Nat.reduceSub, Int.reduceLT, Int.reduceLE, Int.reduceToNat, Int.reduceNeg, reduceCtorEq]; (try ((first | refine ⟨_, hEv, ?_⟩ | refine ⟨_, fun _ => hEv, ?_⟩ | refine ⟨_, least_c _, ?_⟩ | refine ⟨_, fun _ => least_c _, ?_⟩ | refine ⟨_, row25_c _ _ _ _ _, ?_⟩ | refine ⟨_, fun _ => row25_c _ _ _ _ _, ?_⟩ | refine ⟨_, right25_c _ _ _, ?_⟩ | refine ⟨_, fun _ => right25_c _ _ _, ?_⟩); (try simp only [go_sem, Nat.reduceLT, Nat.reduceLeDiff, Nat.reduceEqDiff, reduceIte, Nat.reduceAdd, Nat.reduceMul, Nat.reduceSub, Int.reduceLT, Int.reduceLE, Int.reduceToNat, Int.reduceNeg, reduceCtorEq]))); (try simp (disch := omega) only [wrap_id, getD_map_in, Int.toNat_natCast]); (repeat (refine And.intro (by (first | omega | (simp; done) | (simp; omega) | assumption)) ?_)); refine h' _ ?_; clear h' K') | (refine aops_nil (hK _ ?_); clear hK K gs; try simp only [aThen, aBlock]) | (refine AWp.sreg  dd54 rfl (fun gs K hgs hK => ?_); clear hgs) | refine AWp.seq ?_ | refine ARounds.step ?_ | refine AWp.block ?_ | refine AWp.label ?_ | (refine AWp.ret ?_; try simp only [aThen, aBlock]) | (refine AWp.skip ?_; try simp only [aThen, aBlock]) | (refine AWp.exit ?_; try simp only [aThen, aBlock, Nat.reduceEqDiff, reduceIte]) | (refine AWp.reg  dd54 rfl (fun gs K hgs hK => ?_); clear hgs)))
              refine AWp.loopN lt.length (fun k => isTimeB (lt.getD k default).t = true) (fun k => ⟨[(1, .bp 0 0), (6, .lit (.int .i64 (k : Int)))], [B], []⟩) ?_ ?_
              · subst hB
                refine Wk.of rfl rfl ?_
                simp [subE, eget, ASt.drop, dropE, keepR, lowE, AV.lowB, lowL, Nat.blt, Nat.ble]
              · intro k hk hall
                subst hB
                repeat ((first | (refine aops_cons (fun K' h' => ?_); simp only [go_sem, Nat.reduceLT, Nat.reduceLeDiff, Nat.reduceEqDiff, reduceIte, Nat.reduceAdd, Nat.reduceMul, Nat.reduceSub, Int.reduceLT, Int.reduceLE, Int.reduceToNat, Int.reduceNeg, reduceCtorEq]; (try ((first | refine ⟨_, hEv, ?_⟩ | refine ⟨_, fun _ => hEv, ?_⟩ | refine ⟨_, least_c _, ?_⟩ | refine ⟨_, fun _ => least_c _, ?_⟩ | refine ⟨_, row25_c _ _ _ _ _, ?_⟩ | refine ⟨_, fun _ => row25_c _ _ _ _ _, ?_⟩ | refine ⟨_, right25_c _ _ _, ?_⟩ | refine ⟨_, fun _ => right25_c _ _ _, ?_⟩); (try simp only [go_sem, Nat.reduceLT, Nat.reduceLeDiff, Nat.reduceEqDiff, reduceIte, Nat.reduceAdd, Nat.reduceMul, Nat.reduceSub, Int.reduceLT, Int.reduceLE, Int.reduceToNat, Int.reduceNeg, reduceCtorEq]))); (try simp (disch := omega) only [wrap_id, getD_map_in, Int.toNat_natCast]); (repeat (refine And.intro (by (first | omega | (simp; done) | (simp; omega) | assumption)) ?_)); refine h' _ ?_; clear h' K') | (refine aops_nil (hK _ ?_); clear hK K gs; try simp only [aThen, aBlock]) | (refine AWp.sreg  dd54 rfl (fun gs K hgs hK => ?_); clear hgs) | refine AWp.seq ?_ | refine ARounds.step ?_ | refine AWp.block ?_ | refine AWp.label ?_ | (refine AWp.ret ?_; try simp only [aThen, aBlock]) | (refine AWp.skip ?_; try simp only [aThen, aBlock]) | (refine AWp.exit ?_; try simp only [aThen, aBlock, Nat.reduceEqDiff, reduceIte]) | (refine AWp.reg  dd54 rfl (fun gs K hgs hK => ?_); clear hgs)))
                (refine AWp.cond rfl (fun h => ?_) (fun h => ?_) <;> (try simp only [decide_eq_true_eq, decide_eq_false_iff_not, beq_iff_eq, bne_iff_ne, ne_eq, Bool.not_eq_true', Bool.not_eq_false', beq_eq_false_iff_ne, Bool.true_eq_false, Bool.false_eq_true, Int.not_le, Int.not_lt, Bool.and_eq_true, Bool.and_eq_false_iff, Bool.or_eq_true, Bool.or_eq_false_iff, bne_eq_false_iff_eq, reduceCtorEq] at h) <;> (try first | contradiction | (exfalso; omega) | (exfalso; revert h; simp; done) | (exfalso; revert h; simp; omega)))
                · obtain ⟨x, hx⟩ : ∃ x, lt.getD k default = x := ⟨_, rfl⟩
                  obtain ⟨rk, rt, rv⟩ := x
                  repeat (any_goals (first | (refine aops_cons (fun K' h' => ?_); simp only [go_sem, Nat.reduceLT, Nat.reduceLeDiff, Nat.reduceEqDiff, reduceIte, Nat.reduceAdd, Nat.reduceMul, Nat.reduceSub, Int.reduceLT, Int.reduceLE, Int.reduceToNat, Int.reduceNeg, reduceCtorEq, hx, Rcd.cells]; (try ((first | refine ⟨_, hEv, ?_⟩ | refine ⟨_, fun _ => hEv, ?_⟩ | refine ⟨_, least_c _, ?_⟩ | refine ⟨_, fun _ => least_c _, ?_⟩ | refine ⟨_, row25_c _ _ _ _ _, ?_⟩ | refine ⟨_, fun _ => row25_c _ _ _ _ _, ?_⟩ | refine ⟨_, right25_c _ _ _, ?_⟩ | refine ⟨_, fun _ => right25_c _ _ _, ?_⟩); (try simp only [go_sem, Nat.reduceLT, Nat.reduceLeDiff, Nat.reduceEqDiff, reduceIte, Nat.reduceAdd, Nat.reduceMul, Nat.reduceSub, Int.reduceLT, Int.reduceLE, Int.reduceToNat, Int.reduceNeg, reduceCtorEq, hx, Rcd.cells]))); (try simp (disch := omega) only [wrap_id, getD_map_in, Int.toNat_natCast, hx, Rcd.cells]); (repeat (refine And.intro (by (first | omega | (simp; done) | (simp; omega) | assumption)) ?_)); refine h' _ ?_; clear h' K') | (refine aops_nil (hK _ ?_); clear hK K gs; try simp only [aThen, aBlock]) | (refine AWp.sreg  dd54 rfl (fun gs K hgs hK => ?_); clear hgs) | refine AWp.seq ?_ | refine ARounds.step ?_ | refine AWp.block ?_ | refine AWp.label ?_ | (refine AWp.ret ?_; try simp only [aThen, aBlock]) | (refine AWp.skip ?_; try simp only [aThen, aBlock]) | (refine AWp.exit ?_; try simp only [aThen, aBlock, Nat.reduceEqDiff, reduceIte]) | (refine AWp.reg  dd54 rfl (fun gs K hgs hK => ?_); clear hgs) | (refine AWp.cond rfl (fun h => ?_) (fun h => ?_) <;> (try simp only [decide_eq_true_eq, decide_eq_false_iff_not, beq_iff_eq, bne_iff_ne, ne_eq, Bool.not_eq_true', Bool.not_eq_false', beq_eq_false_iff_ne, Bool.true_eq_false, Bool.false_eq_true, Int.not_le, Int.not_lt, Bool.and_eq_true, Bool.and_eq_false_iff, Bool.or_eq_true, Bool.or_eq_false_iff, bne_eq_false_iff_eq, reduceCtorEq] at h) <;> (try first | contradiction | (exfalso; omega) | (exfalso; revert h; simp; done) | (exfalso; revert h; simp; omega)))))
                  · simp only [Out, outA, outL, resA, go_sem, Nat.reduceLT, Nat.reduceLeDiff, Nat.reduceEqDiff, reduceIte, Nat.reduceAdd, Nat.reduceMul, Nat.reduceSub, Int.reduceLT, Int.reduceLE, Int.reduceToNat, Int.reduceNeg, reduceCtorEq]
                    rw [allN_false (n := lt.length) (k := k) (p := fun k => isTimeB (lt.getD k default).t) (by omega) (by simp only [hx]; exact h)]
                    exact AVle.refl _
                  · refine ⟨by omega, by rw [hx]; exact h, Wk.of rfl rfl ?_⟩
                    first
                      | (simp [subE, eget, ASt.drop, dropE, keepR, lowE, AV.lowB, lowL, Nat.blt, Nat.ble]; done)
                      | (simp [subE, eget, ASt.drop, dropE, keepR, lowE, AV.lowB, lowL, Nat.blt, Nat.ble]; omega)
                · rw [allN_true (n := lt.length) (p := fun k => isTimeB (lt.getD k default).t) fun j hj => hall j (by omega)]
                  repeat (any_goals (first | (refine aops_cons (fun K' h' => ?_); simp only [go_sem, Nat.reduceLT, Nat.reduceLeDiff, Nat.reduceEqDiff, reduceIte, Nat.reduceAdd, Nat.reduceMul, Nat.reduceSub, Int.reduceLT, Int.reduceLE, Int.reduceToNat, Int.reduceNeg, reduceCtorEq]; (try ((first | refine ⟨_, hEv, ?_⟩ | refine ⟨_, fun _ => hEv, ?_⟩ | refine ⟨_, least_c _, ?_⟩ | refine ⟨_, fun _ => least_c _, ?_⟩ | refine ⟨_, row25_c _ _ _ _ _, ?_⟩ | refine ⟨_, fun _ => row25_c _ _ _ _ _, ?_⟩ | refine ⟨_, right25_c _ _ _, ?_⟩ | refine ⟨_, fun _ => right25_c _ _ _, ?_⟩); (try simp only [go_sem, Nat.reduceLT, Nat.reduceLeDiff, Nat.reduceEqDiff, reduceIte, Nat.reduceAdd, Nat.reduceMul, Nat.reduceSub, Int.reduceLT, Int.reduceLE, Int.reduceToNat, Int.reduceNeg, reduceCtorEq]))); (try simp (disch := omega) only [wrap_id, getD_map_in, Int.toNat_natCast]); (repeat (refine And.intro (by (first | omega | (simp; done) | (simp; omega) | assumption)) ?_)); refine h' _ ?_; clear h' K') | (refine aops_nil (hK _ ?_); clear hK K gs; try simp only [aThen, aBlock]) | (refine AWp.sreg  dd54 rfl (fun gs K hgs hK => ?_); clear hgs) | refine AWp.seq ?_ | refine ARounds.step ?_ | refine AWp.block ?_ | refine AWp.label ?_ | (refine AWp.ret ?_; try simp only [aThen, aBlock]) | (refine AWp.skip ?_; try simp only [aThen, aBlock]) | (refine AWp.exit ?_; try simp only [aThen, aBlock, Nat.reduceEqDiff, reduceIte]) | (refine AWp.reg  dd54 rfl (fun gs K hgs hK => ?_); clear hgs) | (refine AWp.cond rfl (fun h => ?_) (fun h => ?_) <;> (try simp only [decide_eq_true_eq, decide_eq_false_iff_not, beq_iff_eq, bne_iff_ne, ne_eq, Bool.not_eq_true', Bool.not_eq_false', beq_eq_false_iff_ne, Bool.true_eq_false, Bool.false_eq_true, Int.not_le, Int.not_lt, Bool.and_eq_true, Bool.and_eq_false_iff, Bool.or_eq_true, Bool.or_eq_false_iff, bne_eq_false_iff_eq, reduceCtorEq] at h) <;> (try first | contradiction | (exfalso; omega) | (exfalso; revert h; simp; done) | (exfalso; revert h; simp; omega)))))
                  simp only [Out, outA, outL, resA, go_sem, Nat.reduceLT, Nat.reduceLeDiff, Nat.reduceEqDiff, reduceIte, Nat.reduceAdd, Nat.reduceMul, Nat.reduceSub, Int.reduceLT, Int.reduceLE, Int.reduceToNat, Int.reduceNeg, reduceCtorEq]
                  exact AVle.refl _
end Go.Proofs.Ytlpmgkillalhbaa
