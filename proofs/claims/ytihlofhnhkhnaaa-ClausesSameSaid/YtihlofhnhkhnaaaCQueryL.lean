/-
  The law ClausesQueries.
-/
import Derived.Test.YtihlofhnhkhnaaaQRefW
import Derived.Test.YtihlofhnhkhnaaaCJoinL
namespace Go.Proofs.Ytihlofhnhkhnaaa
open Go.AL Go.RowKit
set_option linter.unusedSimpArgs false
set_option linter.unusedVariables false
set_option maxRecDepth 10000
set_option maxHeartbeats 4000000

theorem qSame_all (p q : Qry) (h1 : p.arg.length ≤ 1000) (h2 : p.wh.length ≤ 1000) (h3 : p.src.length ≤ 1000) (hw : ∀ x ∈ p.src, -9223372036854775808 ≤ x ∧ x ≤ 9223372036854775807)
    (h4 : q.arg.length ≤ 1000) (h5 : q.wh.length ≤ 1000) (h6 : q.src.length ≤ 1000) (hw2 : ∀ x ∈ q.src, -9223372036854775808 ≤ x ∧ x ≤ 9223372036854775807) :
    ACall Try.prog 25 [.agg p.cells, .agg q.cells] (.tup [.lit (.bool (decide (chkE p = 0) && decide (chkE q = 0) && alikeQ p q)), .lit (.int .i64 (if chkE p ≠ 0 then chkE p else chkE q))]) := by
  by_cases hp : chkE p = 0
  · by_cases hq : chkE q = 0
    · have := qSame_ok p q h1 h2 h3 hw hp h4 h5 h6 hw2 hq
      simpa [hp, hq] using this
    · have := qSame_badQ p q h1 h2 h3 hw hp h4 h5 h6 hw2 hq
      simpa [hp, hq] using this
  · have := qSame_badP p q h1 h2 h3 hw hp
    simpa [hp] using this
theorem greatQ_false {q : Qry} (h : greatQ q = false) : q.arg.length ≤ 70 ∧ q.wh.length ≤ 70 ∧ q.src.length ≤ 10 := by
  unfold greatQ at h
  simp at h; omega
theorem alikeQ_refl (q : Qry) : alikeQ q q = true := by
  unfold alikeQ
  simp [sameN]

def dd7 : Nat → List (List Nat)
  | 0 => [[], [0], [1], [4]]
  | 1 => [[], [], [10], [11], [], [13], [12, 14]]
  | 2 => [[2, 3, 15], []]
  | 3 => [[15], [], [16], [], [17]]
  | 4 => [[], [], [], [19, 20], [21], [], [18], [22], [23]]
  | 5 => [[], [], [3], [25, 26], [27], [], [24], [28], [29]]
  | _ => []
def fo7 : Nat → List Nat
  | 6 => [4]
  | _ => []
theorem cquery_law (p q : Qry) (h1 : p.arg.length ≤ maxLen) (h2 : p.wh.length ≤ maxLen) (h3 : p.src.length ≤ maxLen) (hw : ∀ x ∈ p.src, -9223372036854775808 ≤ x ∧ x ≤ 9223372036854775807)
    (h4 : q.arg.length ≤ maxLen) (h5 : q.wh.length ≤ maxLen) (h6 : q.src.length ≤ maxLen) (hw2 : ∀ x ∈ q.src, -9223372036854775808 ≤ x ∧ x ≤ 9223372036854775807) :
    ACall Try.prog 7 [.agg p.cells, .agg q.cells] (.lit (.bool true)) := by
  have hGp := greatQ_c p h1 h2 h3
  have hGq := greatQ_c q h4 h5 h6
  by_cases hv : greatQ p = false ∧ greatQ q = false
  · obtain ⟨gp, gq⟩ := hv
    obtain ⟨a1, a2, a3⟩ := greatQ_false gp
    obtain ⟨b1, b2, b3⟩ := greatQ_false gq
    have hT := twin_c p (by omega) (by omega) (by omega)
    have hS1 := qSame_all p q (by omega) (by omega) (by omega) hw (by omega) (by omega) (by omega) hw2
    have hS2 := rqSame_c p q (by omega) (by omega) (by omega) (by omega) (by omega) (by omega)
    have hC1 := qCheck_c p (by omega) (by omega) (by omega) hw
    have hC2 := rqCheck_c p h1 h2 h3
    have hE := rEqualQ_c p p (by omega) (by omega) (by omega) (by omega) (by omega) (by omega)
    rw [alikeQ_refl p, decide_eq_true (rfl : p.arg = p.arg), decide_eq_true (rfl : p.wh = p.wh)] at hE
    rw [gp] at hGp
    rw [gq] at hGq
    generalize (if chkE p ≠ 0 then chkE p else chkE q) = es at *
    generalize (decide (chkE p = 0) && decide (chkE q = 0) && alikeQ p q) = bs at *
    generalize chkE p = ce at *
    clear gp gq hw hw2
    obtain ⟨ag, ar, sr, jn, wh, ⟨kd, sz, ev⟩, bk, lt⟩ := p
    obtain ⟨ag2, ar2, sr2, jn2, wh2, ⟨kd2, sz2, ev2⟩, bk2, lt2⟩ := q
    unfold Qry.cells nodesV intsV at *
    refine acall_of (n := 50) (rs := [.tmp 4]) Try.func7 rfl (by kernel_rfl) rfl rfl rfl ?_; simp only [argsE, Nat.reduceAdd]
    repeat (any_goals (first | (refine aops_cons (fun K' h' => ?_); simp only [go_sem, Nat.reduceLT, Nat.reduceLeDiff, Nat.reduceEqDiff, reduceIte, Nat.reduceAdd, Nat.reduceMul, Nat.reduceSub, Int.reduceLT, Int.reduceLE, Int.reduceToNat, Int.reduceNeg, reduceCtorEq, hgs, Option.toArray_none, Option.toArray_some, List.toList_toArray]; (try simp (disch := omega) only [wrap_id, getD_map_in, Int.toNat_natCast, Option.toArray_none, Option.toArray_some, List.toList_toArray]); (repeat (refine And.intro (by (first | omega | (simp; done) | (simp; omega) | assumption)) ?_)); refine h' _ ?_; clear h' K') | (refine aops_nil (hK _ ?_); clear hK K hgs gs; try simp only [aThen, aBlock]) | ((first | refine aops_cons (fun K' h' => ?_) | refine aopsD_cons (fun K' h' => ?_)); simp only [go_sem, Nat.reduceLT, Nat.reduceLeDiff, Nat.reduceEqDiff, reduceIte, Nat.reduceAdd, Nat.reduceMul, Nat.reduceSub, Int.reduceLT, Int.reduceLE, Int.reduceToNat, Int.reduceNeg, reduceCtorEq, hgs, Option.toArray_none, Option.toArray_some, List.toList_toArray]; (first | refine ⟨_, hGp, ?_⟩ | refine ⟨_, fun _ => hGp, ?_⟩ | refine ⟨_, hGq, ?_⟩ | refine ⟨_, fun _ => hGq, ?_⟩ | refine ⟨_, hT, ?_⟩ | refine ⟨_, fun _ => hT, ?_⟩ | refine ⟨_, hS1, ?_⟩ | refine ⟨_, fun _ => hS1, ?_⟩ | refine ⟨_, hS2, ?_⟩ | refine ⟨_, fun _ => hS2, ?_⟩ | refine ⟨_, hC1, ?_⟩ | refine ⟨_, fun _ => hC1, ?_⟩ | refine ⟨_, hC2, ?_⟩ | refine ⟨_, fun _ => hC2, ?_⟩ | refine ⟨_, hE, ?_⟩ | refine ⟨_, fun _ => hE, ?_⟩); (try simp only [go_sem, Nat.reduceLT, Nat.reduceLeDiff, Nat.reduceEqDiff, reduceIte, Nat.reduceAdd, Nat.reduceMul, Nat.reduceSub, Int.reduceLT, Int.reduceLE, Int.reduceToNat, Int.reduceNeg, reduceCtorEq, hgs, Option.toArray_none, Option.toArray_some, List.toList_toArray]); (repeat (refine And.intro (by (first | omega | (simp; done) | (simp; omega) | assumption)) ?_)); refine h' _ ?_; clear h' K') | (refine AWp.sreg (id := 1) dd7 rfl (fun gs K hgs hK => ?_); replace hgs : gs 2 = some 12 := hgs 2) | (refine AWp.reg (id := 1) dd7 rfl (fun gs K hgs hK => ?_); replace hgs : gs 2 = some 12 := hgs 2) | (refine AWp.sreg  dd7 rfl (fun gs K hgs hK => ?_); replace hgs : Nat.succ 0 = 1 := rfl) | refine AWp.seq ?_ | refine ARounds.step ?_ | refine AWp.block ?_ | refine AWp.label ?_ | (refine AWp.ret ?_; try simp only [aThen, aBlock]) | (refine AWp.skip ?_; try simp only [aThen, aBlock]) | (refine AWp.exit ?_; try simp only [aThen, aBlock, Nat.reduceEqDiff, reduceIte]) | (refine AWp.reg  dd7 rfl (fun gs K hgs hK => ?_); replace hgs : Nat.succ 0 = 1 := rfl) | (refine AWp.sregD (id := 6) fo7 mo_fact (by kernel_rfl) (fun gs K hgs hK => ?_); replace hgs : gs 5 = some 35 ∧ gs 10 = some 40 ∧ gs 15 = some 45 := ⟨hgs 5, hgs 10, hgs 15⟩) | (refine AWp.sregD  fo7 mo_fact (by kernel_rfl) (fun gs K hgs hK => ?_); replace hgs : Nat.succ 0 = 1 := rfl) | (refine AWp.regD (id := 6) fo7 mo_fact (by kernel_rfl) (fun gs K hgs hK => ?_); replace hgs : gs 5 = some 35 ∧ gs 10 = some 40 ∧ gs 15 = some 45 := ⟨hgs 5, hgs 10, hgs 15⟩) | (refine AWp.regD  fo7 mo_fact (by kernel_rfl) (fun gs K hgs hK => ?_); replace hgs : Nat.succ 0 = 1 := rfl) | (refine aopsD_cons (fun K' h' => ?_); simp only [go_sem, Nat.reduceLT, Nat.reduceLeDiff, Nat.reduceEqDiff, reduceIte, Nat.reduceAdd, Nat.reduceMul, Nat.reduceSub, Int.reduceLT, Int.reduceLE, Int.reduceToNat, Int.reduceNeg, reduceCtorEq, hgs, Option.toArray_none, Option.toArray_some, List.toList_toArray]; (try simp (disch := omega) only [wrap_id, getD_map_in, Int.toNat_natCast, Option.toArray_none, Option.toArray_some, List.toList_toArray]); (repeat (refine And.intro (by (first | omega | (simp; done) | (simp; omega) | assumption)) ?_)); refine h' _ ?_; clear h' K') | (refine aopsD_nil (hK _ ?_); clear hK K hgs gs; simp only [fo7]; simp only [ASt.prune, pruneE, keepB, keepR, Bool.or_false, Bool.or_true, Bool.true_or, Bool.false_or, reduceIte, Bool.or_self, Bool.false_eq_true, aThen, aBlock, Nat.reduceEqDiff]) | (refine AWp.cond rfl (fun h => ?_) (fun h => ?_) <;> (try simp only [decide_eq_true_eq, decide_eq_false_iff_not, beq_iff_eq, bne_iff_ne, ne_eq, Bool.not_eq_true', Bool.not_eq_false', beq_eq_false_iff_ne, Bool.true_eq_false, Bool.false_eq_true, Int.not_le, Int.not_lt, Bool.and_eq_true, Bool.and_eq_false_iff, Bool.or_eq_true, Bool.or_eq_false_iff, bne_eq_false_iff_eq, reduceCtorEq] at h) <;> (try first | contradiction | (exfalso; omega) | (exfalso; revert h; simp; done) | (exfalso; revert h; simp; omega)))))
    all_goals simp only [Out, outA, outL, resA, go_sem, Nat.reduceLT, Nat.reduceLeDiff, Nat.reduceEqDiff, reduceIte, Nat.reduceAdd, Nat.reduceMul, Nat.reduceSub, Int.reduceLT, Int.reduceLE, Int.reduceToNat, Int.reduceNeg, reduceCtorEq]
    all_goals refine AVle.of_eq (congrArg (fun b => AV.lit (.bool b)) ?_)
    all_goals simp
  · have hv' : greatQ p = true ∨ greatQ q = true := by
      cases hgp : greatQ p with
      | true => exact .inl rfl
      | false =>
        cases hgq : greatQ q with
        | true => exact .inr rfl
        | false => exact absurd ⟨hgp, hgq⟩ hv
    clear hv hw hw2
    generalize greatQ p = gp at *
    generalize greatQ q = gq at *
    obtain ⟨ag, ar, sr, jn, wh, ⟨kd, sz, ev⟩, bk, lt⟩ := p
    obtain ⟨ag2, ar2, sr2, jn2, wh2, ⟨kd2, sz2, ev2⟩, bk2, lt2⟩ := q
    unfold Qry.cells nodesV intsV at *
    rcases hv' with rfl | rfl
    all_goals refine acall_of (n := 50) (rs := [.tmp 4]) Try.func7 rfl (by kernel_rfl) rfl rfl rfl ?_; simp only [argsE, Nat.reduceAdd]
    repeat (any_goals (first | (refine aops_cons (fun K' h' => ?_); simp only [go_sem, Nat.reduceLT, Nat.reduceLeDiff, Nat.reduceEqDiff, reduceIte, Nat.reduceAdd, Nat.reduceMul, Nat.reduceSub, Int.reduceLT, Int.reduceLE, Int.reduceToNat, Int.reduceNeg, reduceCtorEq, hgs, Option.toArray_none, Option.toArray_some, List.toList_toArray]; (try simp (disch := omega) only [wrap_id, getD_map_in, Int.toNat_natCast, Option.toArray_none, Option.toArray_some, List.toList_toArray]); (repeat (refine And.intro (by (first | omega | (simp; done) | (simp; omega) | assumption)) ?_)); refine h' _ ?_; clear h' K') | (refine aops_nil (hK _ ?_); clear hK K hgs gs; try simp only [aThen, aBlock]) | ((first | refine aops_cons (fun K' h' => ?_) | refine aopsD_cons (fun K' h' => ?_)); simp only [go_sem, Nat.reduceLT, Nat.reduceLeDiff, Nat.reduceEqDiff, reduceIte, Nat.reduceAdd, Nat.reduceMul, Nat.reduceSub, Int.reduceLT, Int.reduceLE, Int.reduceToNat, Int.reduceNeg, reduceCtorEq, hgs, Option.toArray_none, Option.toArray_some, List.toList_toArray]; (first | refine ⟨_, hGp, ?_⟩ | refine ⟨_, fun _ => hGp, ?_⟩ | refine ⟨_, hGq, ?_⟩ | refine ⟨_, fun _ => hGq, ?_⟩ | refine ⟨_, hT, ?_⟩ | refine ⟨_, fun _ => hT, ?_⟩ | refine ⟨_, hS1, ?_⟩ | refine ⟨_, fun _ => hS1, ?_⟩ | refine ⟨_, hS2, ?_⟩ | refine ⟨_, fun _ => hS2, ?_⟩ | refine ⟨_, hC1, ?_⟩ | refine ⟨_, fun _ => hC1, ?_⟩ | refine ⟨_, hC2, ?_⟩ | refine ⟨_, fun _ => hC2, ?_⟩ | refine ⟨_, hE, ?_⟩ | refine ⟨_, fun _ => hE, ?_⟩); (try simp only [go_sem, Nat.reduceLT, Nat.reduceLeDiff, Nat.reduceEqDiff, reduceIte, Nat.reduceAdd, Nat.reduceMul, Nat.reduceSub, Int.reduceLT, Int.reduceLE, Int.reduceToNat, Int.reduceNeg, reduceCtorEq, hgs, Option.toArray_none, Option.toArray_some, List.toList_toArray]); (repeat (refine And.intro (by (first | omega | (simp; done) | (simp; omega) | assumption)) ?_)); refine h' _ ?_; clear h' K') | (refine AWp.sreg (id := 1) dd7 rfl (fun gs K hgs hK => ?_); replace hgs : gs 2 = some 12 := hgs 2) | (refine AWp.reg (id := 1) dd7 rfl (fun gs K hgs hK => ?_); replace hgs : gs 2 = some 12 := hgs 2) | (refine AWp.sreg  dd7 rfl (fun gs K hgs hK => ?_); replace hgs : Nat.succ 0 = 1 := rfl) | refine AWp.seq ?_ | refine ARounds.step ?_ | refine AWp.block ?_ | refine AWp.label ?_ | (refine AWp.ret ?_; try simp only [aThen, aBlock]) | (refine AWp.skip ?_; try simp only [aThen, aBlock]) | (refine AWp.exit ?_; try simp only [aThen, aBlock, Nat.reduceEqDiff, reduceIte]) | (refine AWp.reg  dd7 rfl (fun gs K hgs hK => ?_); replace hgs : Nat.succ 0 = 1 := rfl) | (refine AWp.sregD (id := 6) fo7 mo_fact (by kernel_rfl) (fun gs K hgs hK => ?_); replace hgs : gs 5 = some 35 ∧ gs 10 = some 40 ∧ gs 15 = some 45 := ⟨hgs 5, hgs 10, hgs 15⟩) | (refine AWp.sregD  fo7 mo_fact (by kernel_rfl) (fun gs K hgs hK => ?_); replace hgs : Nat.succ 0 = 1 := rfl) | (refine AWp.regD (id := 6) fo7 mo_fact (by kernel_rfl) (fun gs K hgs hK => ?_); replace hgs : gs 5 = some 35 ∧ gs 10 = some 40 ∧ gs 15 = some 45 := ⟨hgs 5, hgs 10, hgs 15⟩) | (refine AWp.regD  fo7 mo_fact (by kernel_rfl) (fun gs K hgs hK => ?_); replace hgs : Nat.succ 0 = 1 := rfl) | (refine aopsD_cons (fun K' h' => ?_); simp only [go_sem, Nat.reduceLT, Nat.reduceLeDiff, Nat.reduceEqDiff, reduceIte, Nat.reduceAdd, Nat.reduceMul, Nat.reduceSub, Int.reduceLT, Int.reduceLE, Int.reduceToNat, Int.reduceNeg, reduceCtorEq, hgs, Option.toArray_none, Option.toArray_some, List.toList_toArray]; (try simp (disch := omega) only [wrap_id, getD_map_in, Int.toNat_natCast, Option.toArray_none, Option.toArray_some, List.toList_toArray]); (repeat (refine And.intro (by (first | omega | (simp; done) | (simp; omega) | assumption)) ?_)); refine h' _ ?_; clear h' K') | (refine aopsD_nil (hK _ ?_); clear hK K hgs gs; simp only [fo7]; simp only [ASt.prune, pruneE, keepB, keepR, Bool.or_false, Bool.or_true, Bool.true_or, Bool.false_or, reduceIte, Bool.or_self, Bool.false_eq_true, aThen, aBlock, Nat.reduceEqDiff]) | (refine AWp.cond rfl (fun h => ?_) (fun h => ?_) <;> (try simp only [decide_eq_true_eq, decide_eq_false_iff_not, beq_iff_eq, bne_iff_ne, ne_eq, Bool.not_eq_true', Bool.not_eq_false', beq_eq_false_iff_ne, Bool.true_eq_false, Bool.false_eq_true, Int.not_le, Int.not_lt, Bool.and_eq_true, Bool.and_eq_false_iff, Bool.or_eq_true, Bool.or_eq_false_iff, bne_eq_false_iff_eq, reduceCtorEq] at h) <;> (try first | contradiction | (exfalso; omega) | (exfalso; revert h; simp; done) | (exfalso; revert h; simp; omega)))))
    all_goals first
      | (simp only [Out, outA, outL, resA, go_sem, Nat.reduceLT, Nat.reduceLeDiff, Nat.reduceEqDiff, reduceIte, Nat.reduceAdd, Nat.reduceMul, Nat.reduceSub, Int.reduceLT, Int.reduceLE, Int.reduceToNat, Int.reduceNeg, reduceCtorEq]
         exact AVle.refl _)
      | (exfalso; simp_all; done)
theorem cquery_all : ∀ xs, ShpAs Try.prog 8 Try.f7.params.toList xs → ACall Try.prog 7 xs (.lit (.bool true)) := by
  intro xs h
  have hp : Try.f7.params.toList = [43, 43] := by kernel_rfl
  rw [hp] at h
  obtain ⟨a, r, rfl, ha, h1⟩ := h
  obtain ⟨b, r, rfl, hb, h2⟩ := h1
  obtain rfl : r = [] := h2
  obtain ⟨p, rfl, h1, h2, h3, hw⟩ := qry_shape ha
  obtain ⟨q, rfl, h4, h5, h6, hw2⟩ := qry_shape hb
  exact cquery_law p q h1 h2 h3 hw h4 h5 h6 hw2
end Go.Proofs.Ytihlofhnhkhnaaa
