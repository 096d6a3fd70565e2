/-
  The law ClausesParts.
-/
import Derived.Test.YtihlofhnhkhnaaaSrcW
namespace Go.Proofs.Ytihlofhnhkhnaaa
open Go.AL Go.RowKit
set_option linter.unusedSimpArgs false
set_option linter.unusedVariables false
set_option maxRecDepth 10000
set_option maxHeartbeats 4000000

theorem ba_refl (b : ByteArray) : (b == b) = true := by
  obtain ⟨d⟩ := b
  show (d == d) = true
  simp

def dd3 : Nat → List (List Nat)
  | 0 => [[], [0], [10]]
  | 1 => [[], [], [19], [20], [21], [], [23], [24], [22, 25]]
  | 2 => [[1, 2, 3, 4, 5, 26], []]
  | 3 => [[26], [], [28], [29], [], [27], [30], [31]]
  | 4 => [[], [3], [33], [34], [], [32], [35], [36]]
  | 5 => [[], [], [38], [39], [], [37], [40], [41]]
  | 6 => [[], [4], [43], [44], [], [42], [45], [46]]
  | _ => []
def fo3 : Nat → List Nat
  | 7 => [10]
  | _ => []
theorem cparts_law (w : Win) (l : List Int) (jn : Bool) (n : Int) (s : ByteArray) (hw : ∀ x ∈ l, -9223372036854775808 ≤ x ∧ x ≤ 9223372036854775807) (hml : l.length ≤ maxLen) (hms : s.size ≤ maxLen) :
    ACall Try.prog 3 [.agg w.cells, intsV l, .lit (.bool jn), .lit (.int .i64 n), .lit (.string s)] (.lit (.bool true)) := by
  unfold maxLen at hml hms
  by_cases hv : l.length ≤ 10 ∧ s.size ≤ 20
  · obtain ⟨hl, hs⟩ := hv
    have hR1 := source_c s
    have hR2 := rSource_c s
    have hW1 := window_c w
    have hW2 := rWindow_c w
    have hS1 := sources_c l jn (by omega) hw
    have hS2 := rSources_c l jn (by omega)
    generalize srcN s = sn at *
    generalize srcX s = sx at *
    generalize winE w = we at *
    generalize srcE l jn = se at *
    obtain ⟨kd, sz, ev⟩ := w
    by_cases hn : 0 ≤ n ∧ n < 4
    · obtain ⟨i, rfl⟩ : ∃ i : Nat, n = i := ⟨n.toNat, by omega⟩
      have hN1 := name_ok i (by omega)
      have hN2 := rName_ok i (by omega)
      generalize nameB i = nb at *
      unfold Win.cells intsV at *
      refine acall_of (n := 81) (rs := [.tmp 10]) Try.func3 rfl (by kernel_rfl) rfl rfl rfl ?_; simp only [argsE, Nat.reduceAdd]
      repeat (any_goals (first | (refine aops_cons (fun K' h' => ?_); simp only [go_sem, Nat.reduceLT, Nat.reduceLeDiff, Nat.reduceEqDiff, reduceIte, Nat.reduceAdd, Nat.reduceMul, Nat.reduceSub, Int.reduceLT, Int.reduceLE, Int.reduceToNat, Int.reduceNeg, reduceCtorEq, hgs, Option.toArray_none, Option.toArray_some, List.toList_toArray]; (try simp (disch := omega) only [wrap_id, getD_map_in, Int.toNat_natCast, Option.toArray_none, Option.toArray_some, List.toList_toArray]); (repeat (refine And.intro (by (first | omega | (simp; done) | (simp; omega) | assumption)) ?_)); refine h' _ ?_; clear h' K') | (refine aops_nil (hK _ ?_); clear hK K hgs gs; try simp only [aThen, aBlock]) | ((first | refine aops_cons (fun K' h' => ?_) | refine aopsD_cons (fun K' h' => ?_)); simp only [go_sem, Nat.reduceLT, Nat.reduceLeDiff, Nat.reduceEqDiff, reduceIte, Nat.reduceAdd, Nat.reduceMul, Nat.reduceSub, Int.reduceLT, Int.reduceLE, Int.reduceToNat, Int.reduceNeg, reduceCtorEq, hgs, Option.toArray_none, Option.toArray_some, List.toList_toArray]; (first | refine ⟨_, hN1, ?_⟩ | refine ⟨_, fun _ => hN1, ?_⟩ | refine ⟨_, hN2, ?_⟩ | refine ⟨_, fun _ => hN2, ?_⟩ | refine ⟨_, hR1, ?_⟩ | refine ⟨_, fun _ => hR1, ?_⟩ | refine ⟨_, hR2, ?_⟩ | refine ⟨_, fun _ => hR2, ?_⟩ | refine ⟨_, hW1, ?_⟩ | refine ⟨_, fun _ => hW1, ?_⟩ | refine ⟨_, hW2, ?_⟩ | refine ⟨_, fun _ => hW2, ?_⟩ | refine ⟨_, hS1, ?_⟩ | refine ⟨_, fun _ => hS1, ?_⟩ | refine ⟨_, hS2, ?_⟩ | refine ⟨_, fun _ => hS2, ?_⟩); (try simp only [go_sem, Nat.reduceLT, Nat.reduceLeDiff, Nat.reduceEqDiff, reduceIte, Nat.reduceAdd, Nat.reduceMul, Nat.reduceSub, Int.reduceLT, Int.reduceLE, Int.reduceToNat, Int.reduceNeg, reduceCtorEq, hgs, Option.toArray_none, Option.toArray_some, List.toList_toArray]); (repeat (refine And.intro (by (first | omega | (simp; done) | (simp; omega) | assumption)) ?_)); refine h' _ ?_; clear h' K') | (refine AWp.sreg (id := 1) dd3 rfl (fun gs K hgs hK => ?_); replace hgs : gs 3 = some 22 := hgs 3) | (refine AWp.reg (id := 1) dd3 rfl (fun gs K hgs hK => ?_); replace hgs : gs 3 = some 22 := hgs 3) | (refine AWp.sreg  dd3 rfl (fun gs K hgs hK => ?_); replace hgs : Nat.succ 0 = 1 := rfl) | refine AWp.seq ?_ | refine ARounds.step ?_ | refine AWp.block ?_ | refine AWp.label ?_ | (refine AWp.ret ?_; try simp only [aThen, aBlock]) | (refine AWp.skip ?_; try simp only [aThen, aBlock]) | (refine AWp.exit ?_; try simp only [aThen, aBlock, Nat.reduceEqDiff, reduceIte]) | (refine AWp.reg  dd3 rfl (fun gs K hgs hK => ?_); replace hgs : Nat.succ 0 = 1 := rfl) | (refine AWp.sregD (id := 7) fo3 mo_fact (by kernel_rfl) (fun gs K hgs hK => ?_); replace hgs : gs 5 = some 52 ∧ gs 14 = some 61 ∧ gs 19 = some 66 ∧ gs 24 = some 71 ∧ gs 29 = some 76 := ⟨hgs 5, hgs 14, hgs 19, hgs 24, hgs 29⟩) | (refine AWp.sregD  fo3 mo_fact (by kernel_rfl) (fun gs K hgs hK => ?_); replace hgs : Nat.succ 0 = 1 := rfl) | (refine AWp.regD (id := 7) fo3 mo_fact (by kernel_rfl) (fun gs K hgs hK => ?_); replace hgs : gs 5 = some 52 ∧ gs 14 = some 61 ∧ gs 19 = some 66 ∧ gs 24 = some 71 ∧ gs 29 = some 76 := ⟨hgs 5, hgs 14, hgs 19, hgs 24, hgs 29⟩) | (refine AWp.regD  fo3 mo_fact (by kernel_rfl) (fun gs K hgs hK => ?_); replace hgs : Nat.succ 0 = 1 := rfl) | (refine aopsD_cons (fun K' h' => ?_); simp only [go_sem, Nat.reduceLT, Nat.reduceLeDiff, Nat.reduceEqDiff, reduceIte, Nat.reduceAdd, Nat.reduceMul, Nat.reduceSub, Int.reduceLT, Int.reduceLE, Int.reduceToNat, Int.reduceNeg, reduceCtorEq, hgs, Option.toArray_none, Option.toArray_some, List.toList_toArray]; (try simp (disch := omega) only [wrap_id, getD_map_in, Int.toNat_natCast, Option.toArray_none, Option.toArray_some, List.toList_toArray]); (repeat (refine And.intro (by (first | omega | (simp; done) | (simp; omega) | assumption)) ?_)); refine h' _ ?_; clear h' K') | (refine aopsD_nil (hK _ ?_); clear hK K hgs gs; simp only [fo3]; simp only [ASt.prune, pruneE, keepB, keepR, Bool.or_false, Bool.or_true, Bool.true_or, Bool.false_or, reduceIte, Bool.or_self, Bool.false_eq_true, aThen, aBlock, Nat.reduceEqDiff]) | (refine AWp.cond rfl (fun h => ?_) (fun h => ?_) <;> (try simp only [decide_eq_true_eq, decide_eq_false_iff_not, beq_iff_eq, bne_iff_ne, ne_eq, Bool.not_eq_true', Bool.not_eq_false', beq_eq_false_iff_ne, Bool.true_eq_false, Bool.false_eq_true, Int.not_le, Int.not_lt, Bool.and_eq_true, Bool.and_eq_false_iff, Bool.or_eq_true, Bool.or_eq_false_iff, bne_eq_false_iff_eq, reduceCtorEq] at h) <;> (try first | contradiction | (exfalso; omega) | (exfalso; revert h; simp; done) | (exfalso; revert h; simp; omega)))))
      all_goals simp only [Out, outA, outL, resA, go_sem, Nat.reduceLT, Nat.reduceLeDiff, Nat.reduceEqDiff, reduceIte, Nat.reduceAdd, Nat.reduceMul, Nat.reduceSub, Int.reduceLT, Int.reduceLE, Int.reduceToNat, Int.reduceNeg, reduceCtorEq]
      all_goals exact AVle.of_eq (congrArg (fun b => AV.lit (.bool b)) (by simp [ba_refl]))
    · have hN1 := name_bad n (by omega)
      have hN2 := rName_bad n (by omega)
      unfold Win.cells intsV at *
      refine acall_of (n := 81) (rs := [.tmp 10]) Try.func3 rfl (by kernel_rfl) rfl rfl rfl ?_; simp only [argsE, Nat.reduceAdd]
      repeat (any_goals (first | (refine aops_cons (fun K' h' => ?_); simp only [go_sem, Nat.reduceLT, Nat.reduceLeDiff, Nat.reduceEqDiff, reduceIte, Nat.reduceAdd, Nat.reduceMul, Nat.reduceSub, Int.reduceLT, Int.reduceLE, Int.reduceToNat, Int.reduceNeg, reduceCtorEq, hgs, Option.toArray_none, Option.toArray_some, List.toList_toArray]; (try simp (disch := omega) only [wrap_id, getD_map_in, Int.toNat_natCast, Option.toArray_none, Option.toArray_some, List.toList_toArray]); (repeat (refine And.intro (by (first | omega | (simp; done) | (simp; omega) | assumption)) ?_)); refine h' _ ?_; clear h' K') | (refine aops_nil (hK _ ?_); clear hK K hgs gs; try simp only [aThen, aBlock]) | ((first | refine aops_cons (fun K' h' => ?_) | refine aopsD_cons (fun K' h' => ?_)); simp only [go_sem, Nat.reduceLT, Nat.reduceLeDiff, Nat.reduceEqDiff, reduceIte, Nat.reduceAdd, Nat.reduceMul, Nat.reduceSub, Int.reduceLT, Int.reduceLE, Int.reduceToNat, Int.reduceNeg, reduceCtorEq, hgs, Option.toArray_none, Option.toArray_some, List.toList_toArray]; (first | refine ⟨_, hN1, ?_⟩ | refine ⟨_, fun _ => hN1, ?_⟩ | refine ⟨_, hN2, ?_⟩ | refine ⟨_, fun _ => hN2, ?_⟩ | refine ⟨_, hR1, ?_⟩ | refine ⟨_, fun _ => hR1, ?_⟩ | refine ⟨_, hR2, ?_⟩ | refine ⟨_, fun _ => hR2, ?_⟩ | refine ⟨_, hW1, ?_⟩ | refine ⟨_, fun _ => hW1, ?_⟩ | refine ⟨_, hW2, ?_⟩ | refine ⟨_, fun _ => hW2, ?_⟩ | refine ⟨_, hS1, ?_⟩ | refine ⟨_, fun _ => hS1, ?_⟩ | refine ⟨_, hS2, ?_⟩ | refine ⟨_, fun _ => hS2, ?_⟩); (try simp only [go_sem, Nat.reduceLT, Nat.reduceLeDiff, Nat.reduceEqDiff, reduceIte, Nat.reduceAdd, Nat.reduceMul, Nat.reduceSub, Int.reduceLT, Int.reduceLE, Int.reduceToNat, Int.reduceNeg, reduceCtorEq, hgs, Option.toArray_none, Option.toArray_some, List.toList_toArray]); (repeat (refine And.intro (by (first | omega | (simp; done) | (simp; omega) | assumption)) ?_)); refine h' _ ?_; clear h' K') | (refine AWp.sreg (id := 1) dd3 rfl (fun gs K hgs hK => ?_); replace hgs : gs 3 = some 22 := hgs 3) | (refine AWp.reg (id := 1) dd3 rfl (fun gs K hgs hK => ?_); replace hgs : gs 3 = some 22 := hgs 3) | (refine AWp.sreg  dd3 rfl (fun gs K hgs hK => ?_); replace hgs : Nat.succ 0 = 1 := rfl) | refine AWp.seq ?_ | refine ARounds.step ?_ | refine AWp.block ?_ | refine AWp.label ?_ | (refine AWp.ret ?_; try simp only [aThen, aBlock]) | (refine AWp.skip ?_; try simp only [aThen, aBlock]) | (refine AWp.exit ?_; try simp only [aThen, aBlock, Nat.reduceEqDiff, reduceIte]) | (refine AWp.reg  dd3 rfl (fun gs K hgs hK => ?_); replace hgs : Nat.succ 0 = 1 := rfl) | (refine AWp.sregD (id := 7) fo3 mo_fact (by kernel_rfl) (fun gs K hgs hK => ?_); replace hgs : gs 5 = some 52 ∧ gs 14 = some 61 ∧ gs 19 = some 66 ∧ gs 24 = some 71 ∧ gs 29 = some 76 := ⟨hgs 5, hgs 14, hgs 19, hgs 24, hgs 29⟩) | (refine AWp.sregD  fo3 mo_fact (by kernel_rfl) (fun gs K hgs hK => ?_); replace hgs : Nat.succ 0 = 1 := rfl) | (refine AWp.regD (id := 7) fo3 mo_fact (by kernel_rfl) (fun gs K hgs hK => ?_); replace hgs : gs 5 = some 52 ∧ gs 14 = some 61 ∧ gs 19 = some 66 ∧ gs 24 = some 71 ∧ gs 29 = some 76 := ⟨hgs 5, hgs 14, hgs 19, hgs 24, hgs 29⟩) | (refine AWp.regD  fo3 mo_fact (by kernel_rfl) (fun gs K hgs hK => ?_); replace hgs : Nat.succ 0 = 1 := rfl) | (refine aopsD_cons (fun K' h' => ?_); simp only [go_sem, Nat.reduceLT, Nat.reduceLeDiff, Nat.reduceEqDiff, reduceIte, Nat.reduceAdd, Nat.reduceMul, Nat.reduceSub, Int.reduceLT, Int.reduceLE, Int.reduceToNat, Int.reduceNeg, reduceCtorEq, hgs, Option.toArray_none, Option.toArray_some, List.toList_toArray]; (try simp (disch := omega) only [wrap_id, getD_map_in, Int.toNat_natCast, Option.toArray_none, Option.toArray_some, List.toList_toArray]); (repeat (refine And.intro (by (first | omega | (simp; done) | (simp; omega) | assumption)) ?_)); refine h' _ ?_; clear h' K') | (refine aopsD_nil (hK _ ?_); clear hK K hgs gs; simp only [fo3]; simp only [ASt.prune, pruneE, keepB, keepR, Bool.or_false, Bool.or_true, Bool.true_or, Bool.false_or, reduceIte, Bool.or_self, Bool.false_eq_true, aThen, aBlock, Nat.reduceEqDiff]) | (refine AWp.cond rfl (fun h => ?_) (fun h => ?_) <;> (try simp only [decide_eq_true_eq, decide_eq_false_iff_not, beq_iff_eq, bne_iff_ne, ne_eq, Bool.not_eq_true', Bool.not_eq_false', beq_eq_false_iff_ne, Bool.true_eq_false, Bool.false_eq_true, Int.not_le, Int.not_lt, Bool.and_eq_true, Bool.and_eq_false_iff, Bool.or_eq_true, Bool.or_eq_false_iff, bne_eq_false_iff_eq, reduceCtorEq] at h) <;> (try first | contradiction | (exfalso; omega) | (exfalso; revert h; simp; done) | (exfalso; revert h; simp; omega)))))
      all_goals simp only [Out, outA, outL, resA, go_sem, Nat.reduceLT, Nat.reduceLeDiff, Nat.reduceEqDiff, reduceIte, Nat.reduceAdd, Nat.reduceMul, Nat.reduceSub, Int.reduceLT, Int.reduceLE, Int.reduceToNat, Int.reduceNeg, reduceCtorEq]
      all_goals exact AVle.of_eq (congrArg (fun b => AV.lit (.bool b)) (by simp [ba_refl]))
  · obtain ⟨kd, sz, ev⟩ := w
    unfold Win.cells intsV at *
    refine acall_of (n := 81) (rs := [.tmp 10]) Try.func3 rfl (by kernel_rfl) rfl rfl rfl ?_; simp only [argsE, Nat.reduceAdd]
    repeat (any_goals (first | (refine aops_cons (fun K' h' => ?_); simp only [go_sem, Nat.reduceLT, Nat.reduceLeDiff, Nat.reduceEqDiff, reduceIte, Nat.reduceAdd, Nat.reduceMul, Nat.reduceSub, Int.reduceLT, Int.reduceLE, Int.reduceToNat, Int.reduceNeg, reduceCtorEq, hgs, Option.toArray_none, Option.toArray_some, List.toList_toArray]; (try simp (disch := omega) only [wrap_id, getD_map_in, Int.toNat_natCast, Option.toArray_none, Option.toArray_some, List.toList_toArray]); (repeat (refine And.intro (by (first | omega | (simp; done) | (simp; omega) | assumption)) ?_)); refine h' _ ?_; clear h' K') | (refine aops_nil (hK _ ?_); clear hK K hgs gs; try simp only [aThen, aBlock]) | ((first | refine aops_cons (fun K' h' => ?_) | refine aopsD_cons (fun K' h' => ?_)); simp only [go_sem, Nat.reduceLT, Nat.reduceLeDiff, Nat.reduceEqDiff, reduceIte, Nat.reduceAdd, Nat.reduceMul, Nat.reduceSub, Int.reduceLT, Int.reduceLE, Int.reduceToNat, Int.reduceNeg, reduceCtorEq, hgs, Option.toArray_none, Option.toArray_some, List.toList_toArray]; (first | refine ⟨_, hN1, ?_⟩ | refine ⟨_, fun _ => hN1, ?_⟩ | refine ⟨_, hN2, ?_⟩ | refine ⟨_, fun _ => hN2, ?_⟩ | refine ⟨_, hR1, ?_⟩ | refine ⟨_, fun _ => hR1, ?_⟩ | refine ⟨_, hR2, ?_⟩ | refine ⟨_, fun _ => hR2, ?_⟩ | refine ⟨_, hW1, ?_⟩ | refine ⟨_, fun _ => hW1, ?_⟩ | refine ⟨_, hW2, ?_⟩ | refine ⟨_, fun _ => hW2, ?_⟩ | refine ⟨_, hS1, ?_⟩ | refine ⟨_, fun _ => hS1, ?_⟩ | refine ⟨_, hS2, ?_⟩ | refine ⟨_, fun _ => hS2, ?_⟩); (try simp only [go_sem, Nat.reduceLT, Nat.reduceLeDiff, Nat.reduceEqDiff, reduceIte, Nat.reduceAdd, Nat.reduceMul, Nat.reduceSub, Int.reduceLT, Int.reduceLE, Int.reduceToNat, Int.reduceNeg, reduceCtorEq, hgs, Option.toArray_none, Option.toArray_some, List.toList_toArray]); (repeat (refine And.intro (by (first | omega | (simp; done) | (simp; omega) | assumption)) ?_)); refine h' _ ?_; clear h' K') | (refine AWp.sreg (id := 1) dd3 rfl (fun gs K hgs hK => ?_); replace hgs : gs 3 = some 22 := hgs 3) | (refine AWp.reg (id := 1) dd3 rfl (fun gs K hgs hK => ?_); replace hgs : gs 3 = some 22 := hgs 3) | (refine AWp.sreg  dd3 rfl (fun gs K hgs hK => ?_); replace hgs : Nat.succ 0 = 1 := rfl) | refine AWp.seq ?_ | refine ARounds.step ?_ | refine AWp.block ?_ | refine AWp.label ?_ | (refine AWp.ret ?_; try simp only [aThen, aBlock]) | (refine AWp.skip ?_; try simp only [aThen, aBlock]) | (refine AWp.exit ?_; try simp only [aThen, aBlock, Nat.reduceEqDiff, reduceIte]) | (refine AWp.reg  dd3 rfl (fun gs K hgs hK => ?_); replace hgs : Nat.succ 0 = 1 := rfl) | (refine AWp.sregD (id := 7) fo3 mo_fact (by kernel_rfl) (fun gs K hgs hK => ?_); replace hgs : gs 5 = some 52 ∧ gs 14 = some 61 ∧ gs 19 = some 66 ∧ gs 24 = some 71 ∧ gs 29 = some 76 := ⟨hgs 5, hgs 14, hgs 19, hgs 24, hgs 29⟩) | (refine AWp.sregD  fo3 mo_fact (by kernel_rfl) (fun gs K hgs hK => ?_); replace hgs : Nat.succ 0 = 1 := rfl) | (refine AWp.regD (id := 7) fo3 mo_fact (by kernel_rfl) (fun gs K hgs hK => ?_); replace hgs : gs 5 = some 52 ∧ gs 14 = some 61 ∧ gs 19 = some 66 ∧ gs 24 = some 71 ∧ gs 29 = some 76 := ⟨hgs 5, hgs 14, hgs 19, hgs 24, hgs 29⟩) | (refine AWp.regD  fo3 mo_fact (by kernel_rfl) (fun gs K hgs hK => ?_); replace hgs : Nat.succ 0 = 1 := rfl) | (refine aopsD_cons (fun K' h' => ?_); simp only [go_sem, Nat.reduceLT, Nat.reduceLeDiff, Nat.reduceEqDiff, reduceIte, Nat.reduceAdd, Nat.reduceMul, Nat.reduceSub, Int.reduceLT, Int.reduceLE, Int.reduceToNat, Int.reduceNeg, reduceCtorEq, hgs, Option.toArray_none, Option.toArray_some, List.toList_toArray]; (try simp (disch := omega) only [wrap_id, getD_map_in, Int.toNat_natCast, Option.toArray_none, Option.toArray_some, List.toList_toArray]); (repeat (refine And.intro (by (first | omega | (simp; done) | (simp; omega) | assumption)) ?_)); refine h' _ ?_; clear h' K') | (refine aopsD_nil (hK _ ?_); clear hK K hgs gs; simp only [fo3]; simp only [ASt.prune, pruneE, keepB, keepR, Bool.or_false, Bool.or_true, Bool.true_or, Bool.false_or, reduceIte, Bool.or_self, Bool.false_eq_true, aThen, aBlock, Nat.reduceEqDiff]) | (refine AWp.cond rfl (fun h => ?_) (fun h => ?_) <;> (try simp only [decide_eq_true_eq, decide_eq_false_iff_not, beq_iff_eq, bne_iff_ne, ne_eq, Bool.not_eq_true', Bool.not_eq_false', beq_eq_false_iff_ne, Bool.true_eq_false, Bool.false_eq_true, Int.not_le, Int.not_lt, Bool.and_eq_true, Bool.and_eq_false_iff, Bool.or_eq_true, Bool.or_eq_false_iff, bne_eq_false_iff_eq, reduceCtorEq] at h) <;> (try first | contradiction | (exfalso; omega) | (exfalso; revert h; simp; done) | (exfalso; revert h; simp; omega)))))
    all_goals first
      | (exfalso; omega)
      | (simp only [Out, outA, outL, resA, go_sem, Nat.reduceLT, Nat.reduceLeDiff, Nat.reduceEqDiff, reduceIte, Nat.reduceAdd, Nat.reduceMul, Nat.reduceSub, Int.reduceLT, Int.reduceLE, Int.reduceToNat, Int.reduceNeg, reduceCtorEq]
         exact AVle.refl _)
theorem win_shape {a : AV} (h : ShpA Try.prog 8 23 a) : ∃ w : Win, a = .agg w.cells ∧ (-9223372036854775808 ≤ w.size ∧ w.size ≤ 9223372036854775807) ∧ (-9223372036854775808 ≤ w.every ∧ w.every ≤ 9223372036854775807) := by
  obtain ⟨cs, rfl, hs⟩ := shpA_st (ts := [5, 2, 2]) (by kernel_rfl) h
  obtain ⟨a, r, rfl, ha, h1⟩ := hs
  obtain ⟨b, r, rfl, hb, h2⟩ := h1
  obtain ⟨c, r, rfl, hc, h3⟩ := h2
  obtain rfl : r = [] := h3
  obtain ⟨xk, rfl, _⟩ := shp_in (k := .u8) (by kernel_rfl) ha
  obtain ⟨xs, rfl, w2⟩ := shp_in (k := .i64) (by kernel_rfl) hb
  obtain ⟨xe, rfl, w3⟩ := shp_in (k := .i64) (by kernel_rfl) hc
  exact ⟨⟨xk, xs, xe⟩, rfl, wf_i64 w2, wf_i64 w3⟩
theorem list_of2 {α : Type} {f : α → List AV} {p : α → Prop} : ∀ {xs : List (List AV)}, (∀ x ∈ xs, ∃ e, x = f e ∧ p e) → ∃ l : List α, xs = l.map f ∧ ∀ e ∈ l, p e
  | [], _ => ⟨[], rfl, fun e h => by cases h⟩
  | x :: xs, h => by
    obtain ⟨e, h1, h2⟩ := h x (by simp)
    obtain ⟨l, h3, h4⟩ := list_of2 (xs := xs) fun y hy => h y (by simp [hy])
    refine ⟨e :: l, by simp [h1, h3], fun y hy => ?_⟩
    rcases List.mem_cons.1 hy with rfl | hy
    · exact h2
    · exact h4 y hy
theorem ints_shape {a : AV} (h : ShpA Try.prog 8 24 a) : ∃ l : List Int, a = intsV l ∧ l.length ≤ maxLen ∧ ∀ x ∈ l, -9223372036854775808 ≤ x ∧ x ≤ 9223372036854775807 := by
  obtain ⟨xs, e, hm, hx⟩ := shp_sl (q := (3, 1)) (by kernel_rfl) (shpA_one (by kernel_rfl) h)
  obtain ⟨l, rfl, hp⟩ := list_of2 (f := fun x : Int => [AV.lit (.int .i64 x)]) (p := fun x => -9223372036854775808 ≤ x ∧ x ≤ 9223372036854775807) fun x hx' => by
    obtain ⟨n, e, hw⟩ := shp_in (k := .i64) (by kernel_rfl) (hx x hx')
    exact ⟨n, e, wf_i64 hw⟩
  refine ⟨l, ?_, by simpa using hm, hp⟩
  simpa [intsV] using e
theorem int_shape {a : AV} (h : ShpA Try.prog 8 3 a) : ∃ n : Int, a = .lit (.int .i64 n) ∧ -9223372036854775808 ≤ n ∧ n ≤ 9223372036854775807 := by
  obtain ⟨n, e, hw⟩ := shp_in (k := .i64) (by kernel_rfl) (shpA_one (by kernel_rfl) h)
  exact ⟨n, by simpa using e, wf_i64 hw⟩
theorem bool_shape {a : AV} (h : ShpA Try.prog 8 4 a) : ∃ b : Bool, a = .lit (.bool b) := by
  obtain ⟨b, e⟩ := shp_bo (by kernel_rfl) (shpA_one (by kernel_rfl) h)
  exact ⟨b, by simpa using e⟩
theorem str_shape {a : AV} (h : ShpA Try.prog 8 9 a) : ∃ s : ByteArray, a = .lit (.string s) ∧ s.size ≤ maxLen := by
  obtain ⟨s, e, hm⟩ := shp_str (by kernel_rfl) (shpA_one (by kernel_rfl) h)
  exact ⟨s, by simpa using e, hm⟩
theorem cparts_all : ∀ xs, ShpAs Try.prog 8 Try.f3.params.toList xs → ACall Try.prog 3 xs (.lit (.bool true)) := by
  intro xs h
  have hp : Try.f3.params.toList = [23, 24, 4, 3, 9] := by kernel_rfl
  rw [hp] at h
  obtain ⟨a, r, rfl, ha, h1⟩ := h
  obtain ⟨b, r, rfl, hb, h2⟩ := h1
  obtain ⟨c, r, rfl, hc, h3⟩ := h2
  obtain ⟨d, r, rfl, hd, h4⟩ := h3
  obtain ⟨e, r, rfl, he, h5⟩ := h4
  obtain rfl : r = [] := h5
  obtain ⟨w, rfl, _⟩ := win_shape ha
  obtain ⟨l, rfl, hml, hw⟩ := ints_shape hb
  obtain ⟨jn, rfl⟩ := bool_shape hc
  obtain ⟨n, rfl, _⟩ := int_shape hd
  obtain ⟨s, rfl, hms⟩ := str_shape he
  exact cparts_law w l jn n s hw hml hms
end Go.Proofs.Ytihlofhnhkhnaaa
