/-
  The laws PartKeys and PartNext.
-/
import Derived.Test.YtbciabkniljjgaaPrtA
namespace Go.Proofs.Ytbciabkniljjgaa
open Go.AL Go.RowKit
set_option linter.unusedSimpArgs false
set_option linter.unusedVariables false
set_option maxRecDepth 10000
set_option maxHeartbeats 8000000

theorem tmod_diff (a b n : Int) (h : n = 1 ∨ n = 2 ∨ n = 3) : ((a.tmod n - b.tmod n).tmod n = 0 ↔ a % n = b % n) ∧ -2 ≤ a.tmod n ∧ a.tmod n ≤ 2 ∧ -2 ≤ b.tmod n ∧ b.tmod n ≤ 2 := by
  have ha := tmod3 a n h
  have hb := tmod3 b n h
  have ea := emod_bd a n h
  have eb := emod_bd b n h
  have hc := tmod3 (a.tmod n - b.tmod n) n h
  have hd : (a.tmod n - b.tmod n) % n = (a % n - b % n) % n := by
    rw [ha, hb]
    rcases h with rfl | rfl | rfl <;> (repeat' split) <;> omega
  refine ⟨?_, by split at ha <;> omega, by split at ha <;> omega, by split at hb <;> omega, by split at hb <;> omega⟩
  rw [hc, hd]
  generalize a.tmod n - b.tmod n = d at *
  generalize a % n = x at *
  generalize b % n = y at *
  clear ha hb hc hd
  rcases h with rfl | rfl | rfl <;> split <;> omega

def dd5 : Nat → List (List Nat)
  | 0 => [[], [6]]
  | 1 => [[], [], [15]]
  | 2 => [[], [], [16], [17], [], [19], [18, 20], [21], [], [23], [22, 24]]
  | 3 => [[0, 1, 2, 25], [7], [26]]
  | 4 => [[25], [], [], [28, 29], [30], [], [27], [31], [32]]
  | 5 => [[], [], [], [34, 35], [36], [], [33], [37], [38]]
  | 6 => [[], [], [40], [41], [], [39], [42], [43]]
  | 7 => [[], [9], [44], [45], [11], [47], [46, 48], [49], [], [51], [50, 52], [53], [], [], [55, 56], [54, 57], [58], [], [60], [59, 61], [62], [], [], [64, 65], [63, 66], [67], [13], [69], [68, 70], [71], [12], [73], [72, 74]]
  | 8 => [[0, 1, 2, 7, 8, 10, 75], []]
  | 9 => [[75], [2], [76]]
  | _ => []
def fo5 : Nat → List Nat
  | 10 => [6]
  | _ => []
theorem pkeys_law (a b p : Int) : ACall Try.prog 5 [.lit (.int .i64 a), .lit (.int .i64 b), .lit (.int .i64 p)] (.lit (.bool true)) := by
  by_cases hp : p = 1 ∨ p = 2 ∨ p = 3
  · have hOa := ofP_c a p
    have hOb := ofP_c b p
    have hO1 := ofP_c a 1
    have e1 : ofX p = 0 := by unfold ofX; rw [if_neg (by omega)]
    have e2 : ofP a p = a % p := by unfold ofP; rw [if_neg (by omega)]
    have e3 : ofP b p = b % p := by unfold ofP; rw [if_neg (by omega)]
    have e4 : ofP a 1 = 0 := by unfold ofP; rw [if_neg (by omega)]; omega
    rw [e1, e2] at hOa
    rw [e1, e3] at hOb
    rw [e4, show ofX 1 = 0 by decide] at hO1
    have ea := emod_bd a p hp
    have eb := emod_bd b p hp
    obtain ⟨hd, d1, d2, d3, d4⟩ := tmod_diff a b p hp
    have hw : IntKind.i64.wrap (a.tmod p - b.tmod p) = a.tmod p - b.tmod p := wrap_id (by omega) (by omega)
    clear e1 e2 e3 e4
    generalize a % p = x at *
    generalize b % p = y at *
    generalize hta : a.tmod p = ta at *
    generalize htb : b.tmod p = tb at *
    generalize hz : (ta - tb).tmod p = z at *
    have hp0 : p ≠ 0 := by omega
    have hbe : (x == y) = (z == 0) := by
      rw [Bool.eq_iff_iff]
      simp only [beq_iff_eq]
      exact hd.symm
    refine acall_of (n := 94) (rs := [.tmp 6]) Try.func5 rfl (by kernel_rfl) rfl rfl rfl ?_; simp only [argsE, Nat.reduceAdd]
    repeat (any_goals (first | (refine aops_cons (fun K' h' => ?_); simp only [go_sem, Nat.reduceLT, Nat.reduceLeDiff, Nat.reduceEqDiff, reduceIte, Nat.reduceAdd, Nat.reduceMul, Nat.reduceSub, Int.reduceLT, Int.reduceLE, Int.reduceToNat, Int.reduceNeg, reduceCtorEq, hgs, Option.toArray_none, Option.toArray_some, List.toList_toArray, hta, htb, hw, hz]; (try simp (disch := omega) only [wrap_id, getD_map_in, Int.toNat_natCast, Option.toArray_none, Option.toArray_some, List.toList_toArray, hta, htb, hw, hz]); (repeat (refine And.intro (by (first | omega | (simp; done) | (simp; omega) | assumption)) ?_)); refine h' _ ?_; clear h' K') | (refine aops_nil (hK _ ?_); clear hK K hgs gs; try simp only [aThen, aBlock]) | ((first | refine aops_cons (fun K' h' => ?_) | refine aopsD_cons (fun K' h' => ?_)); simp only [go_sem, Nat.reduceLT, Nat.reduceLeDiff, Nat.reduceEqDiff, reduceIte, Nat.reduceAdd, Nat.reduceMul, Nat.reduceSub, Int.reduceLT, Int.reduceLE, Int.reduceToNat, Int.reduceNeg, reduceCtorEq, hgs, Option.toArray_none, Option.toArray_some, List.toList_toArray, hta, htb, hw, hz]; (first | refine ⟨_, alive30_c, ?_⟩ | refine ⟨_, fun _ => alive30_c, ?_⟩ | refine ⟨_, hOa, ?_⟩ | refine ⟨_, fun _ => hOa, ?_⟩ | refine ⟨_, hOb, ?_⟩ | refine ⟨_, fun _ => hOb, ?_⟩ | refine ⟨_, hO1, ?_⟩ | refine ⟨_, fun _ => hO1, ?_⟩); (try simp only [go_sem, Nat.reduceLT, Nat.reduceLeDiff, Nat.reduceEqDiff, reduceIte, Nat.reduceAdd, Nat.reduceMul, Nat.reduceSub, Int.reduceLT, Int.reduceLE, Int.reduceToNat, Int.reduceNeg, reduceCtorEq, hgs, Option.toArray_none, Option.toArray_some, List.toList_toArray, hta, htb, hw, hz]); (repeat (refine And.intro (by (first | omega | (simp; done) | (simp; omega) | assumption)) ?_)); refine h' _ ?_; clear h' K') | (refine AWp.sreg (id := 2) dd5 rfl (fun gs K hgs hK => ?_); replace hgs : gs 2 = some 18 ∧ gs 6 = some 22 := ⟨hgs 2, hgs 6⟩) | (refine AWp.sreg (id := 7) dd5 rfl (fun gs K hgs hK => ?_); replace hgs : gs 2 = some 46 ∧ gs 6 = some 50 ∧ gs 10 = some 54 ∧ gs 15 = some 59 ∧ gs 19 = some 63 ∧ gs 24 = some 68 ∧ gs 28 = some 72 := ⟨hgs 2, hgs 6, hgs 10, hgs 15, hgs 19, hgs 24, hgs 28⟩) | (refine AWp.reg (id := 2) dd5 rfl (fun gs K hgs hK => ?_); replace hgs : gs 2 = some 18 ∧ gs 6 = some 22 := ⟨hgs 2, hgs 6⟩) | (refine AWp.reg (id := 7) dd5 rfl (fun gs K hgs hK => ?_); replace hgs : gs 2 = some 46 ∧ gs 6 = some 50 ∧ gs 10 = some 54 ∧ gs 15 = some 59 ∧ gs 19 = some 63 ∧ gs 24 = some 68 ∧ gs 28 = some 72 := ⟨hgs 2, hgs 6, hgs 10, hgs 15, hgs 19, hgs 24, hgs 28⟩) | (refine AWp.sreg  dd5 rfl (fun gs K hgs hK => ?_); replace hgs : Nat.succ 0 = 1 := rfl) | refine AWp.seq ?_ | refine ARounds.step ?_ | refine AWp.block ?_ | refine AWp.label ?_ | (refine AWp.ret ?_; try simp only [aThen, aBlock]) | (refine AWp.skip ?_; try simp only [aThen, aBlock]) | (refine AWp.exit ?_; try simp only [aThen, aBlock, Nat.reduceEqDiff, reduceIte]) | (refine AWp.reg  dd5 rfl (fun gs K hgs hK => ?_); replace hgs : Nat.succ 0 = 1 := rfl) | (refine AWp.sregD (id := 10) fo5 mo_fact (by kernel_rfl) (fun gs K hgs hK => ?_); replace hgs : gs 1 = some 78 := hgs 1) | (refine AWp.sregD  fo5 mo_fact (by kernel_rfl) (fun gs K hgs hK => ?_); replace hgs : Nat.succ 0 = 1 := rfl) | (refine AWp.regD (id := 10) fo5 mo_fact (by kernel_rfl) (fun gs K hgs hK => ?_); replace hgs : gs 1 = some 78 := hgs 1) | (refine AWp.regD  fo5 mo_fact (by kernel_rfl) (fun gs K hgs hK => ?_); replace hgs : Nat.succ 0 = 1 := rfl) | (refine aopsD_cons (fun K' h' => ?_); simp only [go_sem, Nat.reduceLT, Nat.reduceLeDiff, Nat.reduceEqDiff, reduceIte, Nat.reduceAdd, Nat.reduceMul, Nat.reduceSub, Int.reduceLT, Int.reduceLE, Int.reduceToNat, Int.reduceNeg, reduceCtorEq, hgs, Option.toArray_none, Option.toArray_some, List.toList_toArray, hta, htb, hw, hz]; (try simp (disch := omega) only [wrap_id, getD_map_in, Int.toNat_natCast, Option.toArray_none, Option.toArray_some, List.toList_toArray, hta, htb, hw, hz]); (repeat (refine And.intro (by (first | omega | (simp; done) | (simp; omega) | assumption)) ?_)); refine h' _ ?_; clear h' K') | (refine aopsD_nil (hK _ ?_); clear hK K hgs gs; simp only [fo5]; simp only [ASt.prune, pruneE, keepB, keepR, Bool.or_false, Bool.or_true, Bool.true_or, Bool.false_or, reduceIte, Bool.or_self, Bool.false_eq_true, aThen, aBlock, Nat.reduceEqDiff]) | (refine AWp.cond rfl (fun h => ?_) (fun h => ?_) <;> (try simp only [decide_eq_true_eq, decide_eq_false_iff_not, beq_iff_eq, bne_iff_ne, ne_eq, Bool.not_eq_true', Bool.not_eq_false', beq_eq_false_iff_ne, Bool.true_eq_false, Bool.false_eq_true, Int.not_le, Int.not_lt, Bool.and_eq_true, Bool.and_eq_false_iff, Bool.or_eq_true, Bool.or_eq_false_iff, bne_eq_false_iff_eq, reduceCtorEq] at h) <;> (try first | contradiction | (exfalso; omega) | (exfalso; revert h; simp; done) | (exfalso; revert h; simp; omega)))))
    all_goals first
      | (exfalso; omega)
      | skip
    all_goals simp only [Out, outA, outL, resA, go_sem, Nat.reduceLT, Nat.reduceLeDiff, Nat.reduceEqDiff, reduceIte, Nat.reduceAdd, Nat.reduceMul, Nat.reduceSub, Int.reduceLT, Int.reduceLE, Int.reduceToNat, Int.reduceNeg, reduceCtorEq]
    all_goals refine AVle.of_eq (congrArg (fun b => AV.lit (.bool b)) ?_)
    all_goals simp [hbe]
  · refine acall_of (n := 94) (rs := [.tmp 6]) Try.func5 rfl (by kernel_rfl) rfl rfl rfl ?_; simp only [argsE, Nat.reduceAdd]
    repeat (any_goals (first | (refine aops_cons (fun K' h' => ?_); simp only [go_sem, Nat.reduceLT, Nat.reduceLeDiff, Nat.reduceEqDiff, reduceIte, Nat.reduceAdd, Nat.reduceMul, Nat.reduceSub, Int.reduceLT, Int.reduceLE, Int.reduceToNat, Int.reduceNeg, reduceCtorEq, hgs, Option.toArray_none, Option.toArray_some, List.toList_toArray]; (try simp (disch := omega) only [wrap_id, getD_map_in, Int.toNat_natCast, Option.toArray_none, Option.toArray_some, List.toList_toArray]); (repeat (refine And.intro (by (first | omega | (simp; done) | (simp; omega) | assumption)) ?_)); refine h' _ ?_; clear h' K') | (refine aops_nil (hK _ ?_); clear hK K hgs gs; try simp only [aThen, aBlock]) | ((first | refine aops_cons (fun K' h' => ?_) | refine aopsD_cons (fun K' h' => ?_)); simp only [go_sem, Nat.reduceLT, Nat.reduceLeDiff, Nat.reduceEqDiff, reduceIte, Nat.reduceAdd, Nat.reduceMul, Nat.reduceSub, Int.reduceLT, Int.reduceLE, Int.reduceToNat, Int.reduceNeg, reduceCtorEq, hgs, Option.toArray_none, Option.toArray_some, List.toList_toArray]; (first | refine ⟨_, alive30_c, ?_⟩ | refine ⟨_, fun _ => alive30_c, ?_⟩ | refine ⟨_, hOa, ?_⟩ | refine ⟨_, fun _ => hOa, ?_⟩ | refine ⟨_, hOb, ?_⟩ | refine ⟨_, fun _ => hOb, ?_⟩ | refine ⟨_, hO1, ?_⟩ | refine ⟨_, fun _ => hO1, ?_⟩); (try simp only [go_sem, Nat.reduceLT, Nat.reduceLeDiff, Nat.reduceEqDiff, reduceIte, Nat.reduceAdd, Nat.reduceMul, Nat.reduceSub, Int.reduceLT, Int.reduceLE, Int.reduceToNat, Int.reduceNeg, reduceCtorEq, hgs, Option.toArray_none, Option.toArray_some, List.toList_toArray]); (repeat (refine And.intro (by (first | omega | (simp; done) | (simp; omega) | assumption)) ?_)); refine h' _ ?_; clear h' K') | (refine AWp.sreg (id := 2) dd5 rfl (fun gs K hgs hK => ?_); replace hgs : gs 2 = some 18 ∧ gs 6 = some 22 := ⟨hgs 2, hgs 6⟩) | (refine AWp.sreg (id := 7) dd5 rfl (fun gs K hgs hK => ?_); replace hgs : gs 2 = some 46 ∧ gs 6 = some 50 ∧ gs 10 = some 54 ∧ gs 15 = some 59 ∧ gs 19 = some 63 ∧ gs 24 = some 68 ∧ gs 28 = some 72 := ⟨hgs 2, hgs 6, hgs 10, hgs 15, hgs 19, hgs 24, hgs 28⟩) | (refine AWp.reg (id := 2) dd5 rfl (fun gs K hgs hK => ?_); replace hgs : gs 2 = some 18 ∧ gs 6 = some 22 := ⟨hgs 2, hgs 6⟩) | (refine AWp.reg (id := 7) dd5 rfl (fun gs K hgs hK => ?_); replace hgs : gs 2 = some 46 ∧ gs 6 = some 50 ∧ gs 10 = some 54 ∧ gs 15 = some 59 ∧ gs 19 = some 63 ∧ gs 24 = some 68 ∧ gs 28 = some 72 := ⟨hgs 2, hgs 6, hgs 10, hgs 15, hgs 19, hgs 24, hgs 28⟩) | (refine AWp.sreg  dd5 rfl (fun gs K hgs hK => ?_); replace hgs : Nat.succ 0 = 1 := rfl) | refine AWp.seq ?_ | refine ARounds.step ?_ | refine AWp.block ?_ | refine AWp.label ?_ | (refine AWp.ret ?_; try simp only [aThen, aBlock]) | (refine AWp.skip ?_; try simp only [aThen, aBlock]) | (refine AWp.exit ?_; try simp only [aThen, aBlock, Nat.reduceEqDiff, reduceIte]) | (refine AWp.reg  dd5 rfl (fun gs K hgs hK => ?_); replace hgs : Nat.succ 0 = 1 := rfl) | (refine AWp.sregD (id := 10) fo5 mo_fact (by kernel_rfl) (fun gs K hgs hK => ?_); replace hgs : gs 1 = some 78 := hgs 1) | (refine AWp.sregD  fo5 mo_fact (by kernel_rfl) (fun gs K hgs hK => ?_); replace hgs : Nat.succ 0 = 1 := rfl) | (refine AWp.regD (id := 10) fo5 mo_fact (by kernel_rfl) (fun gs K hgs hK => ?_); replace hgs : gs 1 = some 78 := hgs 1) | (refine AWp.regD  fo5 mo_fact (by kernel_rfl) (fun gs K hgs hK => ?_); replace hgs : Nat.succ 0 = 1 := rfl) | (refine aopsD_cons (fun K' h' => ?_); simp only [go_sem, Nat.reduceLT, Nat.reduceLeDiff, Nat.reduceEqDiff, reduceIte, Nat.reduceAdd, Nat.reduceMul, Nat.reduceSub, Int.reduceLT, Int.reduceLE, Int.reduceToNat, Int.reduceNeg, reduceCtorEq, hgs, Option.toArray_none, Option.toArray_some, List.toList_toArray]; (try simp (disch := omega) only [wrap_id, getD_map_in, Int.toNat_natCast, Option.toArray_none, Option.toArray_some, List.toList_toArray]); (repeat (refine And.intro (by (first | omega | (simp; done) | (simp; omega) | assumption)) ?_)); refine h' _ ?_; clear h' K') | (refine aopsD_nil (hK _ ?_); clear hK K hgs gs; simp only [fo5]; simp only [ASt.prune, pruneE, keepB, keepR, Bool.or_false, Bool.or_true, Bool.true_or, Bool.false_or, reduceIte, Bool.or_self, Bool.false_eq_true, aThen, aBlock, Nat.reduceEqDiff]) | (refine AWp.cond rfl (fun h => ?_) (fun h => ?_) <;> (try simp only [decide_eq_true_eq, decide_eq_false_iff_not, beq_iff_eq, bne_iff_ne, ne_eq, Bool.not_eq_true', Bool.not_eq_false', beq_eq_false_iff_ne, Bool.true_eq_false, Bool.false_eq_true, Int.not_le, Int.not_lt, Bool.and_eq_true, Bool.and_eq_false_iff, Bool.or_eq_true, Bool.or_eq_false_iff, bne_eq_false_iff_eq, reduceCtorEq] at h) <;> (try first | contradiction | (exfalso; omega) | (exfalso; revert h; simp; done) | (exfalso; revert h; simp; omega)))))
    all_goals first
      | (exfalso; omega)
      | (simp only [Out, outA, outL, resA, go_sem, Nat.reduceLT, Nat.reduceLeDiff, Nat.reduceEqDiff, reduceIte, Nat.reduceAdd, Nat.reduceMul, Nat.reduceSub, Int.reduceLT, Int.reduceLE, Int.reduceToNat, Int.reduceNeg, reduceCtorEq]
         exact AVle.refl _)

def dd6 : Nat → List (List Nat)
  | 0 => [[], [4]]
  | 1 => [[], [], [10]]
  | 2 => [[], [], [11], [12], [], [14], [13, 15], [16], [], [18], [17, 19], [20], [], [22], [21, 23]]
  | 3 => [[0, 1, 24], [5], [25]]
  | 4 => [[24], [], [], [27, 28], [29], [], [26], [30], [31]]
  | 5 => [[], [0], [33], [], [34, 35], [36], [], [32], [37], [38]]
  | 6 => [[], [5], [39], [7], [41], [40, 42], [43], [9], [45], [44, 46], [47], [], [], [50], [49, 51], [52], [8], [54], [55], [6], [1], [58], [57, 59], [56, 60], [53, 61], [48, 62], [63]]
  | _ => []
theorem pnext_law (k p : Int) (hk : -9223372036854775808 ≤ k ∧ k ≤ 9223372036854775807) : ACall Try.prog 6 [.lit (.int .i64 k), .lit (.int .i64 p)] (.lit (.bool true)) := by
  by_cases hp : (p = 1 ∨ p = 2 ∨ p = 3) ∧ k ≠ 9223372036854775807
  · obtain ⟨hp, hk2⟩ := hp
    have hOa := ofP_c k p
    have hOb := ofP_c (k + 1) p
    have e1 : ofX p = 0 := by unfold ofX; rw [if_neg (by omega)]
    have e2 : ofP k p = k % p := by unfold ofP; rw [if_neg (by omega)]
    have e3 : ofP (k + 1) p = (k + 1) % p := by unfold ofP; rw [if_neg (by omega)]
    rw [e1, e2] at hOa
    rw [e1, e3] at hOb
    have hnx : (k + 1) % p = k % p + 1 ∨ ((k + 1) % p = 0 ∧ k % p = p - 1) := by rcases hp with rfl | rfl | rfl <;> omega
    have ea := emod_bd k p hp
    have hw : IntKind.i64.wrap (k + 1) = k + 1 := wrap_id (by omega) (by omega)
    clear e1 e2 e3
    generalize k % p = x at *
    generalize (k + 1) % p = y at *
    have hw2 : IntKind.i64.wrap (x + 1) = x + 1 := wrap_id (by omega) (by omega)
    have hw3 : IntKind.i64.wrap (p - 1) = p - 1 := wrap_id (by omega) (by omega)
    refine acall_of (n := 64) (rs := [.tmp 4]) Try.func6 rfl (by kernel_rfl) rfl rfl rfl ?_; simp only [argsE, Nat.reduceAdd]
    repeat (any_goals (first | (refine aops_cons (fun K' h' => ?_); simp only [go_sem, Nat.reduceLT, Nat.reduceLeDiff, Nat.reduceEqDiff, reduceIte, Nat.reduceAdd, Nat.reduceMul, Nat.reduceSub, Int.reduceLT, Int.reduceLE, Int.reduceToNat, Int.reduceNeg, reduceCtorEq, hgs, Option.toArray_none, Option.toArray_some, List.toList_toArray, hw, hw2, hw3]; (try simp (disch := omega) only [wrap_id, getD_map_in, Int.toNat_natCast, Option.toArray_none, Option.toArray_some, List.toList_toArray, hw, hw2, hw3]); (repeat (refine And.intro (by (first | omega | (simp; done) | (simp; omega) | assumption)) ?_)); refine h' _ ?_; clear h' K') | (refine aops_nil (hK _ ?_); clear hK K hgs gs; try simp only [aThen, aBlock]) | ((first | refine aops_cons (fun K' h' => ?_) | refine aopsD_cons (fun K' h' => ?_)); simp only [go_sem, Nat.reduceLT, Nat.reduceLeDiff, Nat.reduceEqDiff, reduceIte, Nat.reduceAdd, Nat.reduceMul, Nat.reduceSub, Int.reduceLT, Int.reduceLE, Int.reduceToNat, Int.reduceNeg, reduceCtorEq, hgs, Option.toArray_none, Option.toArray_some, List.toList_toArray, hw, hw2, hw3]; (first | refine ⟨_, alive30_c, ?_⟩ | refine ⟨_, fun _ => alive30_c, ?_⟩ | refine ⟨_, hOa, ?_⟩ | refine ⟨_, fun _ => hOa, ?_⟩ | refine ⟨_, hOb, ?_⟩ | refine ⟨_, fun _ => hOb, ?_⟩ | refine ⟨_, hO1, ?_⟩ | refine ⟨_, fun _ => hO1, ?_⟩); (try simp only [go_sem, Nat.reduceLT, Nat.reduceLeDiff, Nat.reduceEqDiff, reduceIte, Nat.reduceAdd, Nat.reduceMul, Nat.reduceSub, Int.reduceLT, Int.reduceLE, Int.reduceToNat, Int.reduceNeg, reduceCtorEq, hgs, Option.toArray_none, Option.toArray_some, List.toList_toArray, hw, hw2, hw3]); (repeat (refine And.intro (by (first | omega | (simp; done) | (simp; omega) | assumption)) ?_)); refine h' _ ?_; clear h' K') | (refine AWp.sreg (id := 2) dd6 rfl (fun gs K hgs hK => ?_); replace hgs : gs 2 = some 13 ∧ gs 6 = some 17 ∧ gs 10 = some 21 := ⟨hgs 2, hgs 6, hgs 10⟩) | (refine AWp.sreg (id := 6) dd6 rfl (fun gs K hgs hK => ?_); replace hgs : gs 1 = some 40 ∧ gs 5 = some 44 ∧ gs 9 = some 48 ∧ gs 14 = some 53 ∧ gs 17 = some 56 := ⟨hgs 1, hgs 5, hgs 9, hgs 14, hgs 17⟩) | (refine AWp.reg (id := 2) dd6 rfl (fun gs K hgs hK => ?_); replace hgs : gs 2 = some 13 ∧ gs 6 = some 17 ∧ gs 10 = some 21 := ⟨hgs 2, hgs 6, hgs 10⟩) | (refine AWp.reg (id := 6) dd6 rfl (fun gs K hgs hK => ?_); replace hgs : gs 1 = some 40 ∧ gs 5 = some 44 ∧ gs 9 = some 48 ∧ gs 14 = some 53 ∧ gs 17 = some 56 := ⟨hgs 1, hgs 5, hgs 9, hgs 14, hgs 17⟩) | (refine AWp.sreg  dd6 rfl (fun gs K hgs hK => ?_); replace hgs : Nat.succ 0 = 1 := rfl) | refine AWp.seq ?_ | refine ARounds.step ?_ | refine AWp.block ?_ | refine AWp.label ?_ | (refine AWp.ret ?_; try simp only [aThen, aBlock]) | (refine AWp.skip ?_; try simp only [aThen, aBlock]) | (refine AWp.exit ?_; try simp only [aThen, aBlock, Nat.reduceEqDiff, reduceIte]) | (refine AWp.reg  dd6 rfl (fun gs K hgs hK => ?_); replace hgs : Nat.succ 0 = 1 := rfl) | (refine AWp.cond rfl (fun h => ?_) (fun h => ?_) <;> (try simp only [decide_eq_true_eq, decide_eq_false_iff_not, beq_iff_eq, bne_iff_ne, ne_eq, Bool.not_eq_true', Bool.not_eq_false', beq_eq_false_iff_ne, Bool.true_eq_false, Bool.false_eq_true, Int.not_le, Int.not_lt, Bool.and_eq_true, Bool.and_eq_false_iff, Bool.or_eq_true, Bool.or_eq_false_iff, bne_eq_false_iff_eq, reduceCtorEq] at h) <;> (try first | contradiction | (exfalso; omega) | (exfalso; revert h; simp; done) | (exfalso; revert h; simp; omega)))))
    all_goals first
      | (exfalso; omega)
      | skip
    all_goals simp only [Out, outA, outL, resA, go_sem, Nat.reduceLT, Nat.reduceLeDiff, Nat.reduceEqDiff, reduceIte, Nat.reduceAdd, Nat.reduceMul, Nat.reduceSub, Int.reduceLT, Int.reduceLE, Int.reduceToNat, Int.reduceNeg, reduceCtorEq]
    all_goals refine AVle.of_eq (congrArg (fun b => AV.lit (.bool b)) ?_)
    all_goals (rcases hnx with h1 | ⟨h1, h2⟩ <;> simp_all)
  · have hp' : p < 1 ∨ 3 < p ∨ k = 9223372036854775807 := by omega
    refine acall_of (n := 64) (rs := [.tmp 4]) Try.func6 rfl (by kernel_rfl) rfl rfl rfl ?_; simp only [argsE, Nat.reduceAdd]
    repeat (any_goals (first | (refine aops_cons (fun K' h' => ?_); simp only [go_sem, Nat.reduceLT, Nat.reduceLeDiff, Nat.reduceEqDiff, reduceIte, Nat.reduceAdd, Nat.reduceMul, Nat.reduceSub, Int.reduceLT, Int.reduceLE, Int.reduceToNat, Int.reduceNeg, reduceCtorEq, hgs, Option.toArray_none, Option.toArray_some, List.toList_toArray]; (try simp (disch := omega) only [wrap_id, getD_map_in, Int.toNat_natCast, Option.toArray_none, Option.toArray_some, List.toList_toArray]); (repeat (refine And.intro (by (first | omega | (simp; done) | (simp; omega) | assumption)) ?_)); refine h' _ ?_; clear h' K') | (refine aops_nil (hK _ ?_); clear hK K hgs gs; try simp only [aThen, aBlock]) | ((first | refine aops_cons (fun K' h' => ?_) | refine aopsD_cons (fun K' h' => ?_)); simp only [go_sem, Nat.reduceLT, Nat.reduceLeDiff, Nat.reduceEqDiff, reduceIte, Nat.reduceAdd, Nat.reduceMul, Nat.reduceSub, Int.reduceLT, Int.reduceLE, Int.reduceToNat, Int.reduceNeg, reduceCtorEq, hgs, Option.toArray_none, Option.toArray_some, List.toList_toArray]; (first | refine ⟨_, alive30_c, ?_⟩ | refine ⟨_, fun _ => alive30_c, ?_⟩ | refine ⟨_, hOa, ?_⟩ | refine ⟨_, fun _ => hOa, ?_⟩ | refine ⟨_, hOb, ?_⟩ | refine ⟨_, fun _ => hOb, ?_⟩ | refine ⟨_, hO1, ?_⟩ | refine ⟨_, fun _ => hO1, ?_⟩); (try simp only [go_sem, Nat.reduceLT, Nat.reduceLeDiff, Nat.reduceEqDiff, reduceIte, Nat.reduceAdd, Nat.reduceMul, Nat.reduceSub, Int.reduceLT, Int.reduceLE, Int.reduceToNat, Int.reduceNeg, reduceCtorEq, hgs, Option.toArray_none, Option.toArray_some, List.toList_toArray]); (repeat (refine And.intro (by (first | omega | (simp; done) | (simp; omega) | assumption)) ?_)); refine h' _ ?_; clear h' K') | (refine AWp.sreg (id := 2) dd6 rfl (fun gs K hgs hK => ?_); replace hgs : gs 2 = some 13 ∧ gs 6 = some 17 ∧ gs 10 = some 21 := ⟨hgs 2, hgs 6, hgs 10⟩) | (refine AWp.sreg (id := 6) dd6 rfl (fun gs K hgs hK => ?_); replace hgs : gs 1 = some 40 ∧ gs 5 = some 44 ∧ gs 9 = some 48 ∧ gs 14 = some 53 ∧ gs 17 = some 56 := ⟨hgs 1, hgs 5, hgs 9, hgs 14, hgs 17⟩) | (refine AWp.reg (id := 2) dd6 rfl (fun gs K hgs hK => ?_); replace hgs : gs 2 = some 13 ∧ gs 6 = some 17 ∧ gs 10 = some 21 := ⟨hgs 2, hgs 6, hgs 10⟩) | (refine AWp.reg (id := 6) dd6 rfl (fun gs K hgs hK => ?_); replace hgs : gs 1 = some 40 ∧ gs 5 = some 44 ∧ gs 9 = some 48 ∧ gs 14 = some 53 ∧ gs 17 = some 56 := ⟨hgs 1, hgs 5, hgs 9, hgs 14, hgs 17⟩) | (refine AWp.sreg  dd6 rfl (fun gs K hgs hK => ?_); replace hgs : Nat.succ 0 = 1 := rfl) | refine AWp.seq ?_ | refine ARounds.step ?_ | refine AWp.block ?_ | refine AWp.label ?_ | (refine AWp.ret ?_; try simp only [aThen, aBlock]) | (refine AWp.skip ?_; try simp only [aThen, aBlock]) | (refine AWp.exit ?_; try simp only [aThen, aBlock, Nat.reduceEqDiff, reduceIte]) | (refine AWp.reg  dd6 rfl (fun gs K hgs hK => ?_); replace hgs : Nat.succ 0 = 1 := rfl) | (refine AWp.cond rfl (fun h => ?_) (fun h => ?_) <;> (try simp only [decide_eq_true_eq, decide_eq_false_iff_not, beq_iff_eq, bne_iff_ne, ne_eq, Bool.not_eq_true', Bool.not_eq_false', beq_eq_false_iff_ne, Bool.true_eq_false, Bool.false_eq_true, Int.not_le, Int.not_lt, Bool.and_eq_true, Bool.and_eq_false_iff, Bool.or_eq_true, Bool.or_eq_false_iff, bne_eq_false_iff_eq, reduceCtorEq] at h) <;> (try first | contradiction | (exfalso; omega) | (exfalso; revert h; simp; done) | (exfalso; revert h; simp; omega)))))
    all_goals first
      | (exfalso; omega)
      | (simp only [Out, outA, outL, resA, go_sem, Nat.reduceLT, Nat.reduceLeDiff, Nat.reduceEqDiff, reduceIte, Nat.reduceAdd, Nat.reduceMul, Nat.reduceSub, Int.reduceLT, Int.reduceLE, Int.reduceToNat, Int.reduceNeg, reduceCtorEq]
         exact AVle.refl _)
theorem int_shape2 {a : AV} {t : TypeId} (h : ShpA Try.prog 8 t a) (h1 : stT Try.prog t = none) (h2 : inT Try.prog t = some .i64) : ∃ n : Int, a = .lit (.int .i64 n) ∧ -9223372036854775808 ≤ n ∧ n ≤ 9223372036854775807 := by
  obtain ⟨n, e, hw⟩ := shp_in (k := .i64) h2 (shpA_one h1 h)
  exact ⟨n, by simpa using e, wf_i64 hw⟩
theorem pkeys_all : ∀ xs, ShpAs Try.prog 8 Try.f5.params.toList xs → ACall Try.prog 5 xs (.lit (.bool true)) := by
  intro xs h
  have hp : Try.f5.params.toList = [2, 2, 3] := by kernel_rfl
  rw [hp] at h
  obtain ⟨a, r, rfl, ha, h1⟩ := h
  obtain ⟨b, r, rfl, hb, h2⟩ := h1
  obtain ⟨c, r, rfl, hc, h3⟩ := h2
  obtain rfl : r = [] := h3
  obtain ⟨x, rfl, _⟩ := int_shape2 ha (by kernel_rfl) (by kernel_rfl)
  obtain ⟨y, rfl, _⟩ := int_shape2 hb (by kernel_rfl) (by kernel_rfl)
  obtain ⟨z, rfl, _⟩ := int_shape2 hc (by kernel_rfl) (by kernel_rfl)
  exact pkeys_law x y z
theorem pnext_all : ∀ xs, ShpAs Try.prog 8 Try.f6.params.toList xs → ACall Try.prog 6 xs (.lit (.bool true)) := by
  intro xs h
  have hp : Try.f6.params.toList = [2, 3] := by kernel_rfl
  rw [hp] at h
  obtain ⟨a, r, rfl, ha, h1⟩ := h
  obtain ⟨b, r, rfl, hb, h2⟩ := h1
  obtain rfl : r = [] := h2
  obtain ⟨x, rfl, hx⟩ := int_shape2 ha (by kernel_rfl) (by kernel_rfl)
  obtain ⟨y, rfl, _⟩ := int_shape2 hb (by kernel_rfl) (by kernel_rfl)
  exact pnext_law x y hx
end Go.Proofs.Ytbciabkniljjgaa
