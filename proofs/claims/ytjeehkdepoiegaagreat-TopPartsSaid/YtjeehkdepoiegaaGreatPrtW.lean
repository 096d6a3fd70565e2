/-
  The walks over parts of keys, and over splits.
-/
import Derived.Test.YtjeehkdepoiegaaGreatTskW67
namespace Go.Proofs.YtjeehkdepoiegaaGreat
open Go.AL Go.RowKit
set_option linter.unusedSimpArgs false
set_option linter.unusedVariables false
set_option maxRecDepth 10000
set_option maxHeartbeats 8000000
theorem tmod3 (k n : Int) (h : n = 1 ∨ n = 2 ∨ n = 3) : k.tmod n = if 0 ≤ k ∨ k % n = 0 then k % n else k % n - n := by
  rw [Int.tmod_eq_emod]
  rcases h with rfl | rfl | rfl
  all_goals
    by_cases h0 : 0 ≤ k
    · simp [h0]
    · simp only [h0, false_or, Int.dvd_iff_emod_eq_zero]
      split <;> simp
theorem emod_bd (k n : Int) (h : n = 1 ∨ n = 2 ∨ n = 3) : 0 ≤ k % n ∧ k % n < n := by
  rcases h with rfl | rfl | rfl <;> omega
def ofP (k n : Int) : Int := if n < 1 ∨ 3 < n then 0 else k % n
def ofX (n : Int) : Int := if n < 1 ∨ 3 < n then 2 else 0
def dd34 : Nat → List (List Nat)
  | 0 => [[], [4], [5]]
  | 1 => [[], [], [7], [8], [], [10], [9, 11]]
  | 2 => [[0, 1, 12], [], []]
  | 3 => [[12], [1], [13]]
  | 4 => [[], [0], [], [14, 15], [], [16, 17], [6], [18, 19], [20], []]
  | _ => []
theorem ofP_c (k n : Int) : ACall Tryz.prog 34 [.lit (.int .i64 k), .lit (.int .i64 n)] (.tup [.lit (.int .i64 (ofP k n)), .lit (.int .i64 (ofX n))]) := by
  unfold ofP ofX
  by_cases h : n < 1 ∨ 3 < n
  · rw [if_pos h, if_pos h]
    refine acall_of (n := 21) (rs := [.tmp 4, .tmp 5]) Tryz.func34 rfl (by kernel_rfl) rfl rfl rfl ?_; simp only [argsE, Nat.reduceAdd]
    repeat (any_goals (first | (refine aops_cons (fun K' h' => ?_); simp only [go_sem, Nat.reduceLT, Nat.reduceLeDiff, Nat.reduceEqDiff, reduceIte, Nat.reduceAdd, Nat.reduceMul, Nat.reduceSub, Int.reduceLT, Int.reduceLE, Int.reduceToNat, Int.reduceNeg, reduceCtorEq, hgs]; (try simp (disch := omega) only [wrap_id, getD_map_in, Int.toNat_natCast]); (repeat (refine And.intro (by (omega)) ?_)); refine h' _ ?_; clear h' K') | (refine aops_nil (hK _ ?_); clear hK K hgs gs; try simp only [aThen, aBlock]) | ((refine AWp.sreg (id := 1) dd34 rfl (fun gs K hgs hK => ?_)); replace hgs : gs 2 = some 9 := hgs 2) | (refine AWp.sreg  dd34 rfl (fun gs K hgs hK => ?_); replace hgs : Nat.succ 0 = 1 := rfl) | refine AWp.seq ?_ | (refine AWp.ret ?_; try simp only [aThen, aBlock]) | (refine AWp.cond rfl (fun h => ?_) (fun h => ?_) <;> (try simp only [decide_eq_true_eq, decide_eq_false_iff_not, beq_iff_eq, bne_iff_ne, ne_eq, Bool.not_eq_true', Bool.not_eq_false', beq_eq_false_iff_ne, Bool.true_eq_false, Bool.false_eq_true, Int.not_le, Int.not_lt, Bool.and_eq_true, Bool.and_eq_false_iff, Bool.or_eq_true, Bool.or_eq_false_iff, bne_eq_false_iff_eq, reduceCtorEq] at h) <;> (try first | (exfalso; omega)))))
    simp only [Out, outA, outL, resA, go_sem, Nat.reduceLT, Nat.reduceLeDiff, Nat.reduceEqDiff, reduceIte, Nat.reduceAdd, Nat.reduceMul, Nat.reduceSub, Int.reduceLT, Int.reduceLE, Int.reduceToNat, Int.reduceNeg, reduceCtorEq]
    exact AVle.refl _
  · rw [if_neg h, if_neg h]
    have h3 : n = 1 ∨ n = 2 ∨ n = 3 := by omega
    have ht := tmod3 k n h3
    have hb := emod_bd k n h3
    have ht2 : (k.tmod n + n).tmod n = k % n := by
      rw [tmod3 _ n h3, if_pos (.inl (by split at ht <;> omega)), ht]
      split
      · rw [Int.add_emod_right, Int.emod_emod_of_dvd _ (Int.dvd_refl n)]
      · rw [show k % n - n + n = k % n by omega, Int.emod_emod_of_dvd _ (Int.dvd_refl n)]
    have hw : IntKind.i64.wrap (k.tmod n + n) = k.tmod n + n := wrap_id (by split at ht <;> omega) (by split at ht <;> omega)
    generalize hm : k.tmod n = t at *
    generalize k % n = e at *
    refine acall_of (n := 21) (rs := [.tmp 4, .tmp 5]) Tryz.func34 rfl (by kernel_rfl) rfl rfl rfl ?_; simp only [argsE, Nat.reduceAdd]
    repeat (any_goals (first | (refine aops_cons (fun K' h' => ?_); simp only [go_sem, Nat.reduceLT, Nat.reduceLeDiff, Nat.reduceEqDiff, reduceIte, Nat.reduceAdd, Nat.reduceMul, Nat.reduceSub, Int.reduceLT, Int.reduceLE, Int.reduceToNat, Int.reduceNeg, reduceCtorEq, hgs, hm, hw, ht2]; (try simp (disch := omega) only [wrap_id, getD_map_in, Int.toNat_natCast, hm, hw, ht2]); (repeat (refine And.intro (by (omega)) ?_)); refine h' _ ?_; clear h' K') | (refine aops_nil (hK _ ?_); clear hK K hgs gs; try simp only [aThen, aBlock]) | ((refine AWp.sreg (id := 1) dd34 rfl (fun gs K hgs hK => ?_)); replace hgs : gs 2 = some 9 := hgs 2) | (refine AWp.sreg  dd34 rfl (fun gs K hgs hK => ?_); replace hgs : Nat.succ 0 = 1 := rfl) | refine AWp.seq ?_ | (refine AWp.ret ?_; try simp only [aThen, aBlock]) | (refine AWp.skip ?_; try simp only [aThen, aBlock]) | (refine AWp.cond rfl (fun h => ?_) (fun h => ?_) <;> (try simp only [decide_eq_true_eq, decide_eq_false_iff_not, beq_iff_eq, bne_iff_ne, ne_eq, Bool.not_eq_true', Bool.not_eq_false', beq_eq_false_iff_ne, Bool.true_eq_false, Bool.false_eq_true, Int.not_le, Int.not_lt, Bool.and_eq_true, Bool.and_eq_false_iff, Bool.or_eq_true, Bool.or_eq_false_iff, bne_eq_false_iff_eq, reduceCtorEq] at h) <;> (try first | contradiction))))
    simp only [Out, outA, outL, resA, go_sem, Nat.reduceLT, Nat.reduceLeDiff, Nat.reduceEqDiff, reduceIte, Nat.reduceAdd, Nat.reduceMul, Nat.reduceSub, Int.reduceLT, Int.reduceLE, Int.reduceToNat, Int.reduceNeg, reduceCtorEq]
    exact AVle.refl _
def newX (n : Int) : Int := if n < 0 ∨ 3 < n then 2 else 0
def newT (n : Int) : Tsk := if n < 0 ∨ 3 < n then zeroT else ⟨3, n, 0, [], [], [], [], [], []⟩
theorem splitT_le (k n : Int) : AVle (.agg [.lit (.int .u8 k), .lit (.int .i64 n), .lit (.int .i64 0), .lit (.slice none 0 0), .lit (.slice none 0 0), .lit (.slice none 0 0), .lit (.slice none 0 0), .lit (.slice none 0 0), .lit (.slice none 0 0)]) (.agg (Tsk.mk k n 0 [] [] [] [] [] []).cells) :=
  AVle.agg ⟨AVle.refl _, AVle.refl _, AVle.refl _, AVle.nil 11, AVle.nil 1, AVle.nil 11, AVle.nil 5, AVle.nil 5, AVle.nil 3, trivial⟩
def dd30 : Nat → List (List Nat)
  | 0 => [[], [], [3]]
  | 1 => [[], [], [4], [5], [], [7], [6, 8]]
  | 2 => [[0, 9], [], [10], []]
  | 3 => [[9], [0], [11], [12], [13], []]
  | _ => []
theorem newP_c (n : Int) : ACall Tryz.prog 30 [.lit (.int .i64 n)] (.tup [.agg (newT n).cells, .lit (.int .i64 (newX n))]) := by
  obtain ⟨R, hR⟩ : ∃ R, R = AV.tup [.agg (newT n).cells, .lit (.int .i64 (newX n))] := ⟨_, rfl⟩
  rw [← hR]
  unfold newT newX at hR
  refine acall_of (n := 14) (rs := [.cell 2 39, .tmp 3]) Tryz.func30 rfl (by kernel_rfl) rfl rfl rfl ?_; simp only [argsE, Nat.reduceAdd]
  repeat (any_goals (first | (refine aops_cons (fun K' h' => ?_); simp only [go_sem, Nat.reduceLT, Nat.reduceLeDiff, Nat.reduceEqDiff, reduceIte, Nat.reduceAdd, Nat.reduceMul, Nat.reduceSub, Int.reduceLT, Int.reduceLE, Int.reduceToNat, Int.reduceNeg, reduceCtorEq, hgs]; (try simp (disch := omega) only [wrap_id, getD_map_in, Int.toNat_natCast]); (repeat (refine And.intro (by (omega)) ?_)); refine h' _ ?_; clear h' K') | (refine aops_nil (hK _ ?_); clear hK K hgs gs; try simp only [aThen, aBlock]) | ((refine AWp.sreg (id := 1) dd30 rfl (fun gs K hgs hK => ?_)); replace hgs : gs 2 = some 6 := hgs 2) | (refine AWp.sreg  dd30 rfl (fun gs K hgs hK => ?_); replace hgs : Nat.succ 0 = 1 := rfl) | refine AWp.seq ?_ | (refine AWp.ret ?_; try simp only [aThen, aBlock]) | (refine AWp.skip ?_; try simp only [aThen, aBlock]) | (refine AWp.cond rfl (fun h => ?_) (fun h => ?_) <;> (try simp only [decide_eq_true_eq, decide_eq_false_iff_not, beq_iff_eq, bne_iff_ne, ne_eq, Bool.not_eq_true', Bool.not_eq_false', beq_eq_false_iff_ne, Bool.true_eq_false, Bool.false_eq_true, Int.not_le, Int.not_lt, Bool.and_eq_true, Bool.and_eq_false_iff, Bool.or_eq_true, Bool.or_eq_false_iff, bne_eq_false_iff_eq, reduceCtorEq] at h))))
  all_goals simp only [Out, outA, outL, resA, go_sem, Nat.reduceLT, Nat.reduceLeDiff, Nat.reduceEqDiff, reduceIte, Nat.reduceAdd, Nat.reduceMul, Nat.reduceSub, Int.reduceLT, Int.reduceLE, Int.reduceToNat, Int.reduceNeg, reduceCtorEq]
  all_goals rw [hR]
  · rw [if_pos (by omega), if_pos (by omega)]
    exact AVle.tup ⟨zeroT_le, AVle.refl _, trivial⟩
  · rw [if_neg (by omega), if_neg (by omega)]
    exact AVle.tup ⟨splitT_le 3 n, AVle.refl _, trivial⟩
def dd54 : Nat → List (List Nat)
  | 0 => [[], [0], [4]]
  | 1 => [[], []]
  | 2 => [[], [1], [], []]
  | 3 => [[], []]
  | 4 => [[11], [], [12], [13]]
  | 5 => [[], [5], [7], [], [15, 16], [17], [14, 18], [19]]
  | 6 => [[], [10], [20]]
  | 7 => [[2, 8, 9, 10, 11], [5], [21]]
  | _ => []
theorem to_1 (m : Msg) (a : Int) : ACall Tryz.prog 54 [.agg m.cells, .ro 1 [[.lit (.int .i64 a)]]] (sndsV [⟨a, m⟩]) := by
  obtain ⟨kd, k, rt, v, t, r1, r2, r3, r4, r5⟩ := m
  unfold sndsV Snd.cells Msg.cells
  simp only [List.map_cons, List.map_nil]
  refine acall_of (n := 22) (rs := [.tmp 4]) Tryz.func54 rfl (by kernel_rfl) rfl rfl rfl ?_; simp only [argsE, Nat.reduceAdd]
  repeat (any_goals (first | (refine aops_cons (fun K' h' => ?_); simp only [go_sem, Nat.reduceLT, Nat.reduceLeDiff, Nat.reduceEqDiff, reduceIte, Nat.reduceAdd, Nat.reduceMul, Nat.reduceSub, Int.reduceLT, Int.reduceLE, Int.reduceToNat, Int.reduceNeg, reduceCtorEq]; (try simp (disch := omega) only [wrap_id, getD_map_in, Int.toNat_natCast]); (repeat (refine And.intro (by (omega)) ?_)); refine h' _ ?_; clear h' K') | (refine aops_nil (hK _ ?_); clear hK K gs; try simp only [aThen, aBlock]) | (refine AWp.sreg  dd54 rfl (fun gs K hgs hK => ?_); clear hgs) | refine AWp.seq ?_ | refine AWp.block ?_))
  refine AWp.loopR 2 ?_
  repeat (any_goals (first | (refine aops_cons (fun K' h' => ?_); simp only [go_sem, Nat.reduceLT, Nat.reduceLeDiff, Nat.reduceEqDiff, reduceIte, Nat.reduceAdd, Nat.reduceMul, Nat.reduceSub, Int.reduceLT, Int.reduceLE, Int.reduceToNat, Int.reduceNeg, reduceCtorEq, Int.reduceAdd, Int.zero_add]; (try simp (disch := omega) only [wrap_id, getD_map_in, Int.toNat_natCast, Int.reduceAdd, Int.zero_add]); (repeat (refine And.intro (by (omega)) ?_)); refine h' _ ?_; clear h' K') | (refine aops_nil (hK _ ?_); clear hK K gs; try simp only [aThen, aBlock]) | (refine AWp.sreg  dd54 rfl (fun gs K hgs hK => ?_); clear hgs) | refine AWp.seq ?_ | refine AWp.block ?_ | (refine AWp.ret ?_; try simp only [aThen, aBlock]) | (refine AWp.skip ?_; try simp only [aThen, aBlock]) | (refine AWp.exit ?_; try simp only [aThen, aBlock, Nat.reduceEqDiff, reduceIte]) | (refine AWp.reg  dd54 rfl (fun gs K hgs hK => ?_); clear hgs) | (refine AWp.cond rfl (fun h => ?_) (fun h => ?_) <;> (try simp only [decide_eq_true_eq, decide_eq_false_iff_not, beq_iff_eq, bne_iff_ne, ne_eq, Bool.not_eq_true', Bool.not_eq_false', beq_eq_false_iff_ne, Bool.true_eq_false, Bool.false_eq_true, Int.not_le, Int.not_lt, Bool.and_eq_true, Bool.and_eq_false_iff, Bool.or_eq_true, Bool.or_eq_false_iff, bne_eq_false_iff_eq, reduceCtorEq] at h) <;> (try first | contradiction))))
  all_goals simp only [Out, outA, outL, resA, go_sem, Nat.reduceLT, Nat.reduceLeDiff, Nat.reduceEqDiff, reduceIte, Nat.reduceAdd, Nat.reduceMul, Nat.reduceSub, Int.reduceLT, Int.reduceLE, Int.reduceToNat, Int.reduceNeg, reduceCtorEq]
  all_goals exact AVle.of_eq (by simp)
theorem to_2 (m : Msg) (a b : Int) : ACall Tryz.prog 54 [.agg m.cells, .ro 1 [[.lit (.int .i64 a)], [.lit (.int .i64 b)]]] (sndsV [⟨a, m⟩, ⟨b, m⟩]) := by
  obtain ⟨kd, k, rt, v, t, r1, r2, r3, r4, r5⟩ := m
  unfold sndsV Snd.cells Msg.cells
  simp only [List.map_cons, List.map_nil]
  refine acall_of (n := 22) (rs := [.tmp 4]) Tryz.func54 rfl (by kernel_rfl) rfl rfl rfl ?_; simp only [argsE, Nat.reduceAdd]
  repeat (any_goals (first | (refine aops_cons (fun K' h' => ?_); simp only [go_sem, Nat.reduceLT, Nat.reduceLeDiff, Nat.reduceEqDiff, reduceIte, Nat.reduceAdd, Nat.reduceMul, Nat.reduceSub, Int.reduceLT, Int.reduceLE, Int.reduceToNat, Int.reduceNeg, reduceCtorEq]; (try simp (disch := omega) only [wrap_id, getD_map_in, Int.toNat_natCast]); (repeat (refine And.intro (by (omega)) ?_)); refine h' _ ?_; clear h' K') | (refine aops_nil (hK _ ?_); clear hK K gs; try simp only [aThen, aBlock]) | (refine AWp.sreg  dd54 rfl (fun gs K hgs hK => ?_); clear hgs) | refine AWp.seq ?_ | refine AWp.block ?_))
  refine AWp.loopR 3 ?_
  repeat (any_goals (first | (refine aops_cons (fun K' h' => ?_); simp only [go_sem, Nat.reduceLT, Nat.reduceLeDiff, Nat.reduceEqDiff, reduceIte, Nat.reduceAdd, Nat.reduceMul, Nat.reduceSub, Int.reduceLT, Int.reduceLE, Int.reduceToNat, Int.reduceNeg, reduceCtorEq, Int.reduceAdd, Int.zero_add]; (try simp (disch := omega) only [wrap_id, getD_map_in, Int.toNat_natCast, Int.reduceAdd, Int.zero_add]); (repeat (refine And.intro (by (omega)) ?_)); refine h' _ ?_; clear h' K') | (refine aops_nil (hK _ ?_); clear hK K gs; try simp only [aThen, aBlock]) | (refine AWp.sreg  dd54 rfl (fun gs K hgs hK => ?_); clear hgs) | refine AWp.seq ?_ | refine AWp.block ?_ | (refine AWp.ret ?_; try simp only [aThen, aBlock]) | (refine AWp.skip ?_; try simp only [aThen, aBlock]) | (refine AWp.exit ?_; try simp only [aThen, aBlock, Nat.reduceEqDiff, reduceIte]) | (refine AWp.reg  dd54 rfl (fun gs K hgs hK => ?_); clear hgs) | (refine AWp.cond rfl (fun h => ?_) (fun h => ?_) <;> (try simp only [decide_eq_true_eq, decide_eq_false_iff_not, beq_iff_eq, bne_iff_ne, ne_eq, Bool.not_eq_true', Bool.not_eq_false', beq_eq_false_iff_ne, Bool.true_eq_false, Bool.false_eq_true, Int.not_le, Int.not_lt, Bool.and_eq_true, Bool.and_eq_false_iff, Bool.or_eq_true, Bool.or_eq_false_iff, bne_eq_false_iff_eq, reduceCtorEq] at h) <;> (try first | contradiction))))
  all_goals simp only [Out, outA, outL, resA, go_sem, Nat.reduceLT, Nat.reduceLeDiff, Nat.reduceEqDiff, reduceIte, Nat.reduceAdd, Nat.reduceMul, Nat.reduceSub, Int.reduceLT, Int.reduceLE, Int.reduceToNat, Int.reduceNeg, reduceCtorEq]
  all_goals exact AVle.of_eq (by simp)
theorem to_3 (m : Msg) (a b c : Int) : ACall Tryz.prog 54 [.agg m.cells, .ro 1 [[.lit (.int .i64 a)], [.lit (.int .i64 b)], [.lit (.int .i64 c)]]] (sndsV [⟨a, m⟩, ⟨b, m⟩, ⟨c, m⟩]) := by
  obtain ⟨kd, k, rt, v, t, r1, r2, r3, r4, r5⟩ := m
  unfold sndsV Snd.cells Msg.cells
  simp only [List.map_cons, List.map_nil]
  refine acall_of (n := 22) (rs := [.tmp 4]) Tryz.func54 rfl (by kernel_rfl) rfl rfl rfl ?_; simp only [argsE, Nat.reduceAdd]
  repeat (any_goals (first | (refine aops_cons (fun K' h' => ?_); simp only [go_sem, Nat.reduceLT, Nat.reduceLeDiff, Nat.reduceEqDiff, reduceIte, Nat.reduceAdd, Nat.reduceMul, Nat.reduceSub, Int.reduceLT, Int.reduceLE, Int.reduceToNat, Int.reduceNeg, reduceCtorEq]; (try simp (disch := omega) only [wrap_id, getD_map_in, Int.toNat_natCast]); (repeat (refine And.intro (by (omega)) ?_)); refine h' _ ?_; clear h' K') | (refine aops_nil (hK _ ?_); clear hK K gs; try simp only [aThen, aBlock]) | (refine AWp.sreg  dd54 rfl (fun gs K hgs hK => ?_); clear hgs) | refine AWp.seq ?_ | refine AWp.block ?_))
  refine AWp.loopR 4 ?_
  repeat (any_goals (first | (refine aops_cons (fun K' h' => ?_); simp only [go_sem, Nat.reduceLT, Nat.reduceLeDiff, Nat.reduceEqDiff, reduceIte, Nat.reduceAdd, Nat.reduceMul, Nat.reduceSub, Int.reduceLT, Int.reduceLE, Int.reduceToNat, Int.reduceNeg, reduceCtorEq, Int.reduceAdd, Int.zero_add]; (try simp (disch := omega) only [wrap_id, getD_map_in, Int.toNat_natCast, Int.reduceAdd, Int.zero_add]); (repeat (refine And.intro (by (omega)) ?_)); refine h' _ ?_; clear h' K') | (refine aops_nil (hK _ ?_); clear hK K gs; try simp only [aThen, aBlock]) | (refine AWp.sreg  dd54 rfl (fun gs K hgs hK => ?_); clear hgs) | refine AWp.seq ?_ | refine AWp.block ?_ | (refine AWp.ret ?_; try simp only [aThen, aBlock]) | (refine AWp.skip ?_; try simp only [aThen, aBlock]) | (refine AWp.exit ?_; try simp only [aThen, aBlock, Nat.reduceEqDiff, reduceIte]) | (refine AWp.reg  dd54 rfl (fun gs K hgs hK => ?_); clear hgs) | (refine AWp.cond rfl (fun h => ?_) (fun h => ?_) <;> (try simp only [decide_eq_true_eq, decide_eq_false_iff_not, beq_iff_eq, bne_iff_ne, ne_eq, Bool.not_eq_true', Bool.not_eq_false', beq_eq_false_iff_ne, Bool.true_eq_false, Bool.false_eq_true, Int.not_le, Int.not_lt, Bool.and_eq_true, Bool.and_eq_false_iff, Bool.or_eq_true, Bool.or_eq_false_iff, bne_eq_false_iff_eq, reduceCtorEq] at h) <;> (try first | contradiction))))
  all_goals simp only [Out, outA, outL, resA, go_sem, Nat.reduceLT, Nat.reduceLeDiff, Nat.reduceEqDiff, reduceIte, Nat.reduceAdd, Nat.reduceMul, Nat.reduceSub, Int.reduceLT, Int.reduceLE, Int.reduceToNat, Int.reduceNeg, reduceCtorEq]
  all_goals exact AVle.of_eq (by simp)
def carrB (m : Msg) : Bool := validM m && (m.kind == 1 || m.kind == 2)
def takeE (t : Tsk) (m : Msg) (p : Int) : Int := if tskE t ≠ 0 then tskE t else if t.kind ≠ 3 ∨ p < 1 ∨ 3 < p then 2 else if carrB m = false then 8 else if 0 < t.pend.length then 18 else 0
def outsL (m : Msg) (p : Int) : List Snd := if m.kind = 1 then [⟨m.key % p, m⟩] else if p = 1 then [⟨0, m⟩] else if p = 2 then [⟨0, m⟩, ⟨1, m⟩] else [⟨0, m⟩, ⟨1, m⟩, ⟨2, m⟩]
def takeT (t : Tsk) (m : Msg) (p : Int) : Tsk := if takeE t m p = 0 then { t with pend := outsL m p } else zeroT
theorem outsL_ok {m : Msg} {p : Int} (hm : carrB m = true) (hp : p = 1 ∨ p = 2 ∨ p = 3) : allL (outsL m p) sendB = true ∧ (outsL m p).length ≤ 3 := by
  have hv : validM m = true := by unfold carrB at hm; simp at hm; exact hm.1
  have hb := emod_bd m.key p hp
  rw [allL_all]
  unfold outsL
  by_cases hk : m.kind = 1
  · rw [if_pos hk]
    refine ⟨?_, by simp⟩
    simp [sendB, hv]; omega
  · rw [if_neg hk]
    rcases hp with rfl | rfl | rfl <;> simp [sendB, hv]
end Go.Proofs.YtjeehkdepoiegaaGreat
