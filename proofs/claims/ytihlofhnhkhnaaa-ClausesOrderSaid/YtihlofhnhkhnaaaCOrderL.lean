/-
  The law ClausesOrder.
-/
import Derived.Test.YtihlofhnhkhnaaaAbsP
import Derived.Test.YtihlofhnhkhnaaaCJoinL
namespace Go.Proofs.Ytihlofhnhkhnaaa
open Go.AL Go.RowKit
set_option linter.unusedSimpArgs false
set_option linter.unusedVariables false
set_option maxRecDepth 10000
set_option maxHeartbeats 4000000

theorem turned_perm {α : Type} (l : List α) (m : Nat) : (l.drop m ++ l.take m).Perm l :=
  List.perm_append_comm.trans (by rw [List.take_append_drop])
theorem srcNB0 : srcN (nameB 0) = 0 ∧ srcX (nameB 0) = 0 ∧ (nameB 0).size = 1 := by decide
theorem srcNB1 : srcN (nameB 1) = 1 ∧ srcX (nameB 1) = 0 ∧ (nameB 1).size = 1 := by decide
theorem srcNB2 : srcN (nameB 2) = 2 ∧ srcX (nameB 2) = 0 ∧ (nameB 2).size = 1 := by decide
theorem srcNB3 : srcN (nameB 3) = 3 ∧ srcX (nameB 3) = 0 ∧ (nameB 3).size = 1 := by decide

def dd4 : Nat → List (List Nat)
  | 0 => [[], [6]]
  | 1 => [[], [], [13], [14], [15], [], [17], [16, 18], [19], [], [], [22], [21, 23], [20, 24]]
  | 2 => [[0, 1, 2, 25], [], [26]]
  | 4 => [[], [0], [], [36, 37], [7], [1], [39, 40], [38, 41]]
  | 5 => [[42], []]
  | 6 => [[42], []]
  | 7 => [[], [], [43]]
  | 8 => [[72], [8], [45], [46]]
  | 9 => [[44], [], [48], [49], [], [47], [50], [51]]
  | 10 => [[], [], [53], [54], [], [52], [55], [56]]
  | 11 => [[], [10], [57], [58], [12], [60], [59, 61], [62], [11], [], [64, 65], [63, 66], [67], [9], [69], [70], [68, 71]]
  | 12 => [[8, 72], []]
  | 13 => [[8, 44], [], [73]]
  | _ => []
def fo4 : Nat → List Nat
  | 3 => [0, 1, 7]
  | _ => []
theorem corder_law (l : List Int) (jn : Bool) (p : Int) (hm : l.length ≤ maxLen) (hw : ∀ x ∈ l, -9223372036854775808 ≤ x ∧ x ≤ 9223372036854775807) :
    ACall Try.prog 4 [intsV l, .lit (.bool jn), .lit (.int .i64 p)] (.lit (.bool true)) := by
  unfold maxLen at hm
  by_cases hv : l.length ≤ 4 ∧ 0 ≤ p ∧ p ≤ l.length
  · obtain ⟨hl, hp0, hp1⟩ := hv
    obtain ⟨m, rfl⟩ : ∃ m : Nat, p = m := ⟨p.toNat, by omega⟩
    have hml : m ≤ l.length := by omega
    have hS1 := sources_c l jn (by omega) hw
    have hS2 := sources_c (l.drop m ++ l.take m) jn (by simp; omega) (fun x hx => hw x ((turned_perm l m).mem_iff.1 hx))
    rw [srcE_perm (turned_perm l m)] at hS2
    have hN0 := name_ok 0 (by omega)
    have hN1 := name_ok 1 (by omega)
    have hN2 := name_ok 2 (by omega)
    have hN3 := name_ok 3 (by omega)
    have hR0 := source_c (nameB 0)
    have hR1 := source_c (nameB 1)
    have hR2 := source_c (nameB 2)
    have hR3 := source_c (nameB 3)
    rw [srcNB0.1, srcNB0.2.1] at hR0
    rw [srcNB1.1, srcNB1.2.1] at hR1
    rw [srcNB2.1, srcNB2.2.1] at hR2
    rw [srcNB3.1, srcNB3.2.1] at hR3
    have hz0 := srcNB0.2.2
    have hz1 := srcNB1.2.2
    have hz2 := srcNB2.2.2
    have hz3 := srcNB3.2.2
    generalize nameB 0 = b0 at *
    generalize nameB 1 = b1 at *
    generalize nameB 2 = b2 at *
    generalize nameB 3 = b3 at *
    generalize srcE l jn = se at *
    have hlm : (l.map fun x => [AV.lit (.int .i64 x)]).length = l.length := by simp
    have e1 : List.take (l.length - m) (List.drop m (l.map fun x => [AV.lit (.int .i64 x)])) = (l.drop m).map fun x => [AV.lit (.int .i64 x)] := by
      rw [List.take_of_length_le (by simp), List.map_drop]
    have e2 : List.take (m - 0) (l.map fun x => [AV.lit (.int .i64 x)]) = (l.take m).map fun x => [AV.lit (.int .i64 x)] := by
      rw [Nat.sub_zero, List.map_take]
    have e3 : List.take (l.drop m).length ((l.drop m).map fun x => [AV.lit (.int .i64 x)]) = (l.drop m).map fun x => [AV.lit (.int .i64 x)] := List.take_of_length_le (by simp)
    have e4 : (l.drop m).length + (l.take m).length = l.length := by simp; omega
    have e5 : ((l.drop m).map fun x => [AV.lit (.int .i64 x)]) ++ ((l.take m).map fun x => [AV.lit (.int .i64 x)]) = (l.drop m ++ l.take m).map fun x => [AV.lit (.int .i64 x)] := by rw [List.map_append]
    have e6 : List.take l.length ((l.drop m ++ l.take m).map fun x => [AV.lit (.int .i64 x)]) = (l.drop m ++ l.take m).map fun x => [AV.lit (.int .i64 x)] := List.take_of_length_le (by simp; omega)
    unfold intsV at *
    refine acall_of (n := 74) (rs := [.tmp 6]) Try.func4 rfl (by kernel_rfl) rfl rfl rfl ?_; simp only [argsE, Nat.reduceAdd]
    repeat (any_goals (first | (refine aops_cons (fun K' h' => ?_); simp only [go_sem, Nat.reduceLT, Nat.reduceLeDiff, Nat.reduceEqDiff, reduceIte, Nat.reduceAdd, Nat.reduceMul, Nat.reduceSub, Int.reduceLT, Int.reduceLE, Int.reduceToNat, Int.reduceNeg, reduceCtorEq, hgs, Option.toArray_none, Option.toArray_some, List.toList_toArray, e1, e2, e3, e4, e5, e6]; (try simp (disch := omega) only [wrap_id, getD_map_in, Int.toNat_natCast, Option.toArray_none, Option.toArray_some, List.toList_toArray, e1, e2, e3, e4, e5, e6]); (repeat (refine And.intro (by (first | omega | (simp; done) | (simp; omega) | assumption)) ?_)); refine h' _ ?_; clear h' K') | (refine aops_nil (hK _ ?_); clear hK K hgs gs; try simp only [aThen, aBlock]) | ((first | refine aops_cons (fun K' h' => ?_) | refine aopsD_cons (fun K' h' => ?_) | refine aopsP_cons (fun K' h' => ?_)); simp only [go_sem, Nat.reduceLT, Nat.reduceLeDiff, Nat.reduceEqDiff, reduceIte, Nat.reduceAdd, Nat.reduceMul, Nat.reduceSub, Int.reduceLT, Int.reduceLE, Int.reduceToNat, Int.reduceNeg, reduceCtorEq, hgs, Option.toArray_none, Option.toArray_some, List.toList_toArray, e1, e2, e3, e4, e5, e6]; (first | refine ⟨_, hS1, ?_⟩ | refine ⟨_, fun _ => hS1, ?_⟩ | refine ⟨_, hS2, ?_⟩ | refine ⟨_, fun _ => hS2, ?_⟩ | refine ⟨_, alive8_c, ?_⟩ | refine ⟨_, fun _ => alive8_c, ?_⟩ | refine ⟨_, hN0, ?_⟩ | refine ⟨_, fun _ => hN0, ?_⟩ | refine ⟨_, hN1, ?_⟩ | refine ⟨_, fun _ => hN1, ?_⟩ | refine ⟨_, hN2, ?_⟩ | refine ⟨_, fun _ => hN2, ?_⟩ | refine ⟨_, hN3, ?_⟩ | refine ⟨_, fun _ => hN3, ?_⟩ | refine ⟨_, hR0, ?_⟩ | refine ⟨_, fun _ => hR0, ?_⟩ | refine ⟨_, hR1, ?_⟩ | refine ⟨_, fun _ => hR1, ?_⟩ | refine ⟨_, hR2, ?_⟩ | refine ⟨_, fun _ => hR2, ?_⟩ | refine ⟨_, hR3, ?_⟩ | refine ⟨_, fun _ => hR3, ?_⟩); (try simp only [go_sem, Nat.reduceLT, Nat.reduceLeDiff, Nat.reduceEqDiff, reduceIte, Nat.reduceAdd, Nat.reduceMul, Nat.reduceSub, Int.reduceLT, Int.reduceLE, Int.reduceToNat, Int.reduceNeg, reduceCtorEq, hgs, Option.toArray_none, Option.toArray_some, List.toList_toArray, e1, e2, e3, e4, e5, e6]); (repeat (refine And.intro (by (first | omega | (simp; done) | (simp; omega) | assumption)) ?_)); refine h' _ ?_; clear h' K') | (refine AWp.sreg (id := 1) dd4 rfl (fun gs K hgs hK => ?_); replace hgs : gs 3 = some 16 ∧ gs 7 = some 20 := ⟨hgs 3, hgs 7⟩) | (refine AWp.sreg (id := 11) dd4 rfl (fun gs K hgs hK => ?_); replace hgs : gs 2 = some 59 ∧ gs 6 = some 63 ∧ gs 11 = some 68 := ⟨hgs 2, hgs 6, hgs 11⟩) | (refine AWp.reg (id := 1) dd4 rfl (fun gs K hgs hK => ?_); replace hgs : gs 3 = some 16 ∧ gs 7 = some 20 := ⟨hgs 3, hgs 7⟩) | (refine AWp.reg (id := 11) dd4 rfl (fun gs K hgs hK => ?_); replace hgs : gs 2 = some 59 ∧ gs 6 = some 63 ∧ gs 11 = some 68 := ⟨hgs 2, hgs 6, hgs 11⟩) | (refine AWp.sreg  dd4 rfl (fun gs K hgs hK => ?_); replace hgs : Nat.succ 0 = 1 := rfl) | refine AWp.seq ?_ | refine ARounds.step ?_ | refine AWp.block ?_ | refine AWp.label ?_ | (refine AWp.ret ?_; try simp only [aThen, aBlock]) | (refine AWp.skip ?_; try simp only [aThen, aBlock]) | (refine AWp.exit ?_; try simp only [aThen, aBlock, Nat.reduceEqDiff, reduceIte]) | (refine AWp.reg  dd4 rfl (fun gs K hgs hK => ?_); replace hgs : Nat.succ 0 = 1 := rfl) | (refine AWp.sregP (id := 3) fo4 (false, false) mo_fact (by kernel_rfl) (by kernel_rfl) (fun gs K hgs hK => ?_); replace hgs : Nat.succ 0 = 1 := rfl) | (refine AWp.regP (id := 3) fo4 (false, false) mo_fact (by kernel_rfl) (by kernel_rfl) (fun gs K hgs hK => ?_); replace hgs : Nat.succ 0 = 1 := rfl) | (refine aopsP_cons (fun K' h' => ?_); simp only [go_sem, Nat.reduceLT, Nat.reduceLeDiff, Nat.reduceEqDiff, reduceIte, Nat.reduceAdd, Nat.reduceMul, Nat.reduceSub, Int.reduceLT, Int.reduceLE, Int.reduceToNat, Int.reduceNeg, reduceCtorEq, hgs, Option.toArray_none, Option.toArray_some, List.toList_toArray, e1, e2, e3, e4, e5, e6]; (try simp (disch := omega) only [wrap_id, getD_map_in, Int.toNat_natCast, Option.toArray_none, Option.toArray_some, List.toList_toArray, e1, e2, e3, e4, e5, e6]); (repeat (refine And.intro (by (first | omega | (simp; done) | (simp; omega) | assumption)) ?_)); refine h' _ ?_; clear h' K') | (refine aopsP_nil (hK _ ?_); clear hK K hgs gs; simp only [fo4]; simp only [ASt.prune, pruneE, keepB, keepR, Bool.or_false, Bool.or_true, Bool.true_or, Bool.false_or, reduceIte, Bool.or_self, Bool.false_eq_true, aThen, aBlock, Nat.reduceEqDiff]) | (refine AWp.cond rfl (fun h => ?_) (fun h => ?_) <;> (try simp only [decide_eq_true_eq, decide_eq_false_iff_not, beq_iff_eq, bne_iff_ne, ne_eq, Bool.not_eq_true', Bool.not_eq_false', beq_eq_false_iff_ne, Bool.true_eq_false, Bool.false_eq_true, Int.not_le, Int.not_lt, Bool.and_eq_true, Bool.and_eq_false_iff, Bool.or_eq_true, Bool.or_eq_false_iff, bne_eq_false_iff_eq, reduceCtorEq] at h) <;> (try first | contradiction | (exfalso; omega) | (exfalso; revert h; simp; done) | (exfalso; revert h; simp; omega)))))
    refine AWp.loopR 5 ?_
    repeat (any_goals (first | (refine aops_cons (fun K' h' => ?_); simp only [go_sem, Nat.reduceLT, Nat.reduceLeDiff, Nat.reduceEqDiff, reduceIte, Nat.reduceAdd, Nat.reduceMul, Nat.reduceSub, Int.reduceLT, Int.reduceLE, Int.reduceToNat, Int.reduceNeg, reduceCtorEq, hgs, Option.toArray_none, Option.toArray_some, List.toList_toArray, Int.reduceAdd, Int.zero_add, hz0, hz1, hz2, hz3]; (try simp (disch := omega) only [wrap_id, getD_map_in, Int.toNat_natCast, Option.toArray_none, Option.toArray_some, List.toList_toArray, Int.reduceAdd, Int.zero_add, hz0, hz1, hz2, hz3]); (repeat (refine And.intro (by (first | omega | (simp; done) | (simp; omega) | assumption)) ?_)); refine h' _ ?_; clear h' K') | (refine aops_nil (hK _ ?_); clear hK K hgs gs; try simp only [aThen, aBlock]) | ((first | refine aops_cons (fun K' h' => ?_) | refine aopsD_cons (fun K' h' => ?_) | refine aopsP_cons (fun K' h' => ?_)); simp only [go_sem, Nat.reduceLT, Nat.reduceLeDiff, Nat.reduceEqDiff, reduceIte, Nat.reduceAdd, Nat.reduceMul, Nat.reduceSub, Int.reduceLT, Int.reduceLE, Int.reduceToNat, Int.reduceNeg, reduceCtorEq, hgs, Option.toArray_none, Option.toArray_some, List.toList_toArray, Int.reduceAdd, Int.zero_add, hz0, hz1, hz2, hz3]; (first | refine ⟨_, hS1, ?_⟩ | refine ⟨_, fun _ => hS1, ?_⟩ | refine ⟨_, hS2, ?_⟩ | refine ⟨_, fun _ => hS2, ?_⟩ | refine ⟨_, alive8_c, ?_⟩ | refine ⟨_, fun _ => alive8_c, ?_⟩ | refine ⟨_, hN0, ?_⟩ | refine ⟨_, fun _ => hN0, ?_⟩ | refine ⟨_, hN1, ?_⟩ | refine ⟨_, fun _ => hN1, ?_⟩ | refine ⟨_, hN2, ?_⟩ | refine ⟨_, fun _ => hN2, ?_⟩ | refine ⟨_, hN3, ?_⟩ | refine ⟨_, fun _ => hN3, ?_⟩ | refine ⟨_, hR0, ?_⟩ | refine ⟨_, fun _ => hR0, ?_⟩ | refine ⟨_, hR1, ?_⟩ | refine ⟨_, fun _ => hR1, ?_⟩ | refine ⟨_, hR2, ?_⟩ | refine ⟨_, fun _ => hR2, ?_⟩ | refine ⟨_, hR3, ?_⟩ | refine ⟨_, fun _ => hR3, ?_⟩); (try simp only [go_sem, Nat.reduceLT, Nat.reduceLeDiff, Nat.reduceEqDiff, reduceIte, Nat.reduceAdd, Nat.reduceMul, Nat.reduceSub, Int.reduceLT, Int.reduceLE, Int.reduceToNat, Int.reduceNeg, reduceCtorEq, hgs, Option.toArray_none, Option.toArray_some, List.toList_toArray, Int.reduceAdd, Int.zero_add, hz0, hz1, hz2, hz3]); (repeat (refine And.intro (by (first | omega | (simp; done) | (simp; omega) | assumption)) ?_)); refine h' _ ?_; clear h' K') | (refine AWp.sreg (id := 1) dd4 rfl (fun gs K hgs hK => ?_); replace hgs : gs 3 = some 16 ∧ gs 7 = some 20 := ⟨hgs 3, hgs 7⟩) | (refine AWp.sreg (id := 11) dd4 rfl (fun gs K hgs hK => ?_); replace hgs : gs 2 = some 59 ∧ gs 6 = some 63 ∧ gs 11 = some 68 := ⟨hgs 2, hgs 6, hgs 11⟩) | (refine AWp.reg (id := 1) dd4 rfl (fun gs K hgs hK => ?_); replace hgs : gs 3 = some 16 ∧ gs 7 = some 20 := ⟨hgs 3, hgs 7⟩) | (refine AWp.reg (id := 11) dd4 rfl (fun gs K hgs hK => ?_); replace hgs : gs 2 = some 59 ∧ gs 6 = some 63 ∧ gs 11 = some 68 := ⟨hgs 2, hgs 6, hgs 11⟩) | (refine AWp.sreg  dd4 rfl (fun gs K hgs hK => ?_); replace hgs : Nat.succ 0 = 1 := rfl) | refine AWp.seq ?_ | refine ARounds.step ?_ | refine AWp.block ?_ | refine AWp.label ?_ | (refine AWp.ret ?_; try simp only [aThen, aBlock]) | (refine AWp.skip ?_; try simp only [aThen, aBlock]) | (refine AWp.exit ?_; try simp only [aThen, aBlock, Nat.reduceEqDiff, reduceIte]) | (refine AWp.reg  dd4 rfl (fun gs K hgs hK => ?_); replace hgs : Nat.succ 0 = 1 := rfl) | (refine AWp.sregP (id := 3) fo4 (false, false) mo_fact (by kernel_rfl) (by kernel_rfl) (fun gs K hgs hK => ?_); replace hgs : Nat.succ 0 = 1 := rfl) | (refine AWp.regP (id := 3) fo4 (false, false) mo_fact (by kernel_rfl) (by kernel_rfl) (fun gs K hgs hK => ?_); replace hgs : Nat.succ 0 = 1 := rfl) | (refine aopsP_cons (fun K' h' => ?_); simp only [go_sem, Nat.reduceLT, Nat.reduceLeDiff, Nat.reduceEqDiff, reduceIte, Nat.reduceAdd, Nat.reduceMul, Nat.reduceSub, Int.reduceLT, Int.reduceLE, Int.reduceToNat, Int.reduceNeg, reduceCtorEq, hgs, Option.toArray_none, Option.toArray_some, List.toList_toArray, Int.reduceAdd, Int.zero_add, hz0, hz1, hz2, hz3]; (try simp (disch := omega) only [wrap_id, getD_map_in, Int.toNat_natCast, Option.toArray_none, Option.toArray_some, List.toList_toArray, Int.reduceAdd, Int.zero_add, hz0, hz1, hz2, hz3]); (repeat (refine And.intro (by (first | omega | (simp; done) | (simp; omega) | assumption)) ?_)); refine h' _ ?_; clear h' K') | (refine aopsP_nil (hK _ ?_); clear hK K hgs gs; simp only [fo4]; simp only [ASt.prune, pruneE, keepB, keepR, Bool.or_false, Bool.or_true, Bool.true_or, Bool.false_or, reduceIte, Bool.or_self, Bool.false_eq_true, aThen, aBlock, Nat.reduceEqDiff]) | (refine AWp.cond rfl (fun h => ?_) (fun h => ?_) <;> (try simp only [decide_eq_true_eq, decide_eq_false_iff_not, beq_iff_eq, bne_iff_ne, ne_eq, Bool.not_eq_true', Bool.not_eq_false', beq_eq_false_iff_ne, Bool.true_eq_false, Bool.false_eq_true, Int.not_le, Int.not_lt, Bool.and_eq_true, Bool.and_eq_false_iff, Bool.or_eq_true, Bool.or_eq_false_iff, bne_eq_false_iff_eq, reduceCtorEq] at h) <;> (try first | contradiction | (exfalso; omega) | (exfalso; revert h; simp; done) | (exfalso; revert h; simp; omega)))))
    all_goals first
      | (exfalso; simp_all; done)
      | (simp only [Out, outA, outL, resA, go_sem, Nat.reduceLT, Nat.reduceLeDiff, Nat.reduceEqDiff, reduceIte, Nat.reduceAdd, Nat.reduceMul, Nat.reduceSub, Int.reduceLT, Int.reduceLE, Int.reduceToNat, Int.reduceNeg, reduceCtorEq]
         exact AVle.of_eq (by simp [*]))
      | trace_state
  · unfold intsV
    refine acall_of (n := 74) (rs := [.tmp 6]) Try.func4 rfl (by kernel_rfl) rfl rfl rfl ?_; simp only [argsE, Nat.reduceAdd]
    repeat (any_goals (first | (refine aops_cons (fun K' h' => ?_); simp only [go_sem, Nat.reduceLT, Nat.reduceLeDiff, Nat.reduceEqDiff, reduceIte, Nat.reduceAdd, Nat.reduceMul, Nat.reduceSub, Int.reduceLT, Int.reduceLE, Int.reduceToNat, Int.reduceNeg, reduceCtorEq, hgs, Option.toArray_none, Option.toArray_some, List.toList_toArray]; (try simp (disch := omega) only [wrap_id, getD_map_in, Int.toNat_natCast, Option.toArray_none, Option.toArray_some, List.toList_toArray]); (repeat (refine And.intro (by (first | omega | (simp; done) | (simp; omega) | assumption)) ?_)); refine h' _ ?_; clear h' K') | (refine aops_nil (hK _ ?_); clear hK K hgs gs; try simp only [aThen, aBlock]) | ((first | refine aops_cons (fun K' h' => ?_) | refine aopsD_cons (fun K' h' => ?_) | refine aopsP_cons (fun K' h' => ?_)); simp only [go_sem, Nat.reduceLT, Nat.reduceLeDiff, Nat.reduceEqDiff, reduceIte, Nat.reduceAdd, Nat.reduceMul, Nat.reduceSub, Int.reduceLT, Int.reduceLE, Int.reduceToNat, Int.reduceNeg, reduceCtorEq, hgs, Option.toArray_none, Option.toArray_some, List.toList_toArray]; (first | refine ⟨_, hS1, ?_⟩ | refine ⟨_, fun _ => hS1, ?_⟩ | refine ⟨_, hS2, ?_⟩ | refine ⟨_, fun _ => hS2, ?_⟩ | refine ⟨_, alive8_c, ?_⟩ | refine ⟨_, fun _ => alive8_c, ?_⟩ | refine ⟨_, hN0, ?_⟩ | refine ⟨_, fun _ => hN0, ?_⟩ | refine ⟨_, hN1, ?_⟩ | refine ⟨_, fun _ => hN1, ?_⟩ | refine ⟨_, hN2, ?_⟩ | refine ⟨_, fun _ => hN2, ?_⟩ | refine ⟨_, hN3, ?_⟩ | refine ⟨_, fun _ => hN3, ?_⟩ | refine ⟨_, hR0, ?_⟩ | refine ⟨_, fun _ => hR0, ?_⟩ | refine ⟨_, hR1, ?_⟩ | refine ⟨_, fun _ => hR1, ?_⟩ | refine ⟨_, hR2, ?_⟩ | refine ⟨_, fun _ => hR2, ?_⟩ | refine ⟨_, hR3, ?_⟩ | refine ⟨_, fun _ => hR3, ?_⟩); (try simp only [go_sem, Nat.reduceLT, Nat.reduceLeDiff, Nat.reduceEqDiff, reduceIte, Nat.reduceAdd, Nat.reduceMul, Nat.reduceSub, Int.reduceLT, Int.reduceLE, Int.reduceToNat, Int.reduceNeg, reduceCtorEq, hgs, Option.toArray_none, Option.toArray_some, List.toList_toArray]); (repeat (refine And.intro (by (first | omega | (simp; done) | (simp; omega) | assumption)) ?_)); refine h' _ ?_; clear h' K') | (refine AWp.sreg (id := 1) dd4 rfl (fun gs K hgs hK => ?_); replace hgs : gs 3 = some 16 ∧ gs 7 = some 20 := ⟨hgs 3, hgs 7⟩) | (refine AWp.sreg (id := 11) dd4 rfl (fun gs K hgs hK => ?_); replace hgs : gs 2 = some 59 ∧ gs 6 = some 63 ∧ gs 11 = some 68 := ⟨hgs 2, hgs 6, hgs 11⟩) | (refine AWp.reg (id := 1) dd4 rfl (fun gs K hgs hK => ?_); replace hgs : gs 3 = some 16 ∧ gs 7 = some 20 := ⟨hgs 3, hgs 7⟩) | (refine AWp.reg (id := 11) dd4 rfl (fun gs K hgs hK => ?_); replace hgs : gs 2 = some 59 ∧ gs 6 = some 63 ∧ gs 11 = some 68 := ⟨hgs 2, hgs 6, hgs 11⟩) | (refine AWp.sreg  dd4 rfl (fun gs K hgs hK => ?_); replace hgs : Nat.succ 0 = 1 := rfl) | refine AWp.seq ?_ | refine ARounds.step ?_ | refine AWp.block ?_ | refine AWp.label ?_ | (refine AWp.ret ?_; try simp only [aThen, aBlock]) | (refine AWp.skip ?_; try simp only [aThen, aBlock]) | (refine AWp.exit ?_; try simp only [aThen, aBlock, Nat.reduceEqDiff, reduceIte]) | (refine AWp.reg  dd4 rfl (fun gs K hgs hK => ?_); replace hgs : Nat.succ 0 = 1 := rfl) | (refine AWp.sregP (id := 3) fo4 (false, false) mo_fact (by kernel_rfl) (by kernel_rfl) (fun gs K hgs hK => ?_); replace hgs : Nat.succ 0 = 1 := rfl) | (refine AWp.regP (id := 3) fo4 (false, false) mo_fact (by kernel_rfl) (by kernel_rfl) (fun gs K hgs hK => ?_); replace hgs : Nat.succ 0 = 1 := rfl) | (refine aopsP_cons (fun K' h' => ?_); simp only [go_sem, Nat.reduceLT, Nat.reduceLeDiff, Nat.reduceEqDiff, reduceIte, Nat.reduceAdd, Nat.reduceMul, Nat.reduceSub, Int.reduceLT, Int.reduceLE, Int.reduceToNat, Int.reduceNeg, reduceCtorEq, hgs, Option.toArray_none, Option.toArray_some, List.toList_toArray]; (try simp (disch := omega) only [wrap_id, getD_map_in, Int.toNat_natCast, Option.toArray_none, Option.toArray_some, List.toList_toArray]); (repeat (refine And.intro (by (first | omega | (simp; done) | (simp; omega) | assumption)) ?_)); refine h' _ ?_; clear h' K') | (refine aopsP_nil (hK _ ?_); clear hK K hgs gs; simp only [fo4]; simp only [ASt.prune, pruneE, keepB, keepR, Bool.or_false, Bool.or_true, Bool.true_or, Bool.false_or, reduceIte, Bool.or_self, Bool.false_eq_true, aThen, aBlock, Nat.reduceEqDiff]) | (refine AWp.cond rfl (fun h => ?_) (fun h => ?_) <;> (try simp only [decide_eq_true_eq, decide_eq_false_iff_not, beq_iff_eq, bne_iff_ne, ne_eq, Bool.not_eq_true', Bool.not_eq_false', beq_eq_false_iff_ne, Bool.true_eq_false, Bool.false_eq_true, Int.not_le, Int.not_lt, Bool.and_eq_true, Bool.and_eq_false_iff, Bool.or_eq_true, Bool.or_eq_false_iff, bne_eq_false_iff_eq, reduceCtorEq] at h) <;> (try first | contradiction | (exfalso; omega) | (exfalso; revert h; simp; done) | (exfalso; revert h; simp; omega)))))
    all_goals first
      | (exfalso; omega)
      | (simp only [Out, outA, outL, resA, go_sem, Nat.reduceLT, Nat.reduceLeDiff, Nat.reduceEqDiff, reduceIte, Nat.reduceAdd, Nat.reduceMul, Nat.reduceSub, Int.reduceLT, Int.reduceLE, Int.reduceToNat, Int.reduceNeg, reduceCtorEq]
         exact AVle.refl _)
theorem corder_all : ∀ xs, ShpAs Try.prog 8 Try.f4.params.toList xs → ACall Try.prog 4 xs (.lit (.bool true)) := by
  intro xs h
  have hp : Try.f4.params.toList = [24, 4, 3] := by kernel_rfl
  rw [hp] at h
  obtain ⟨a, r, rfl, ha, h1⟩ := h
  obtain ⟨b, r, rfl, hb, h2⟩ := h1
  obtain ⟨c, r, rfl, hc, h3⟩ := h2
  obtain rfl : r = [] := h3
  obtain ⟨l, rfl, hm, hw⟩ := ints_shape ha
  obtain ⟨j, rfl⟩ := bool_shape hb
  obtain ⟨n, rfl, _⟩ := int_shape hc
  exact corder_law l j n hm hw
end Go.Proofs.Ytihlofhnhkhnaaa
