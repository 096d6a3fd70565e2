/-
  The law TaskTells.
-/
import Derived.Test.YtlpmgkillalhbaaTLaw0
namespace Go.Proofs.Ytlpmgkillalhbaa
open Go.AL Go.RowKit
set_option linter.unusedSimpArgs false
set_option linter.unusedVariables false
set_option maxRecDepth 10000
set_option maxHeartbeats 8000000

theorem great_few2 {t : Tsk} (h : greatT t = false) : t.few := by
  unfold greatT gN at h
  simp only [Bool.or_eq_false_iff, decide_eq_false_iff_not] at h
  obtain ⟨⟨a1, a2⟩, ⟨b1, b2⟩, ⟨c1, c2⟩, d, e, f⟩ := h
  exact ⟨by omega, by omega, by omega, by omega, by omega, by omega⟩
theorem greatQs_few {l : List Que} (h : greatQs l = false) : l.length ≤ 10 ∧ ∀ q ∈ l, q.list.length ≤ 20 := by
  unfold greatQs at h
  simp only [Bool.or_eq_false_iff, decide_eq_false_iff_not] at h
  refine ⟨by omega, fun q hq => ?_⟩
  have h1 := h.1
  rw [List.take_of_length_le (by omega), List.any_eq_false] at h1
  have := h1 q hq
  unfold greatQu at this
  simpa using this
theorem zeroT_ok : zeroT.ok := ⟨by simp [zeroT], by simp [zeroT], by simp [zeroT], by simp [zeroT], by simp [zeroT], by simp [zeroT]⟩
theorem turnT_ok {t : Tsk} {ins : List Que} (h : t.ok) : (turnT t ins).ok := by
  unfold turnT
  split
  · exact ⟨h.p, h.m, h.s, h.e, h.r, h.l⟩
  · exact zeroT_ok

def dd4 : Nat → List (List Nat)
  | 0 => [[], [0], [6]]
  | 1 => [[], [], [18], [19], [], [21], [20, 22], [23], [], [25], [24, 26]]
  | 2 => [[1, 2, 3, 27], []]
  | 3 => [[27], [], [28], [], [29]]
  | 4 => [[], [], [], [], [31, 32, 33], [34], [], [30], [35], [36]]
  | 5 => [[], [], [], [2], [38, 39, 40], [41], [], [37], [42], [43]]
  | 6 => [[], [], [], [45, 46], [47], [], [], [44], [], [48], [49], [50]]
  | 7 => [[], [], [1], [52, 53], [54], [], [], [51], [], [55], [56], [57]]
  | _ => []
def fo4 : Nat → List Nat
  | 8 => [6]
  | _ => []
theorem ttells_law (t : Tsk) (ins outs : List Que) (hok : t.ok) (hi : ins.length ≤ maxLen) (ho : outs.length ≤ maxLen) (oi : ∀ q ∈ ins, q.ok) (oo : ∀ q ∈ outs, q.ok) :
    ACall Try.prog 4 [.agg t.cells, quesV ins, quesV outs] (.lit (.bool true)) := by
  have hGr := greatT_c t hok
  have hGi := greatAll_c ins hi oi
  have hGo := greatAll_c outs ho oo
  by_cases hv : greatT t = false ∧ greatQs ins = false ∧ greatQs outs = false
  · obtain ⟨v1, v2, v3⟩ := hv
    have hf := great_few2 v1
    rw [v1] at hGr
    rw [v2] at hGi
    rw [v3] at hGo
    have hTw := (fun (f : t.few) => match f with | ⟨f1, f2, f3, f4, f5, f6⟩ => twinT_c t f1 f2 f3 f4 f5 f6) hf
    have hEn := ena_c t ins outs hok hi ho
    have hEn2 := ena27_c t ins outs hok hi ho
    have hTu := turn_c t ins hok hi
    have hTu2 := turn27_c t ins hok hi
    have hCk := tCheck_c t hok
    have hCk2 := tCheck27_c t hok
    have hS1 := sameT_c (turnT t ins) (turnT t ins) (turnT_ok hok) (turnT_ok hok)
    have hS2 := sameT_c t t hok hok
    rw [decide_eq_true rfl] at hS1 hS2
    generalize turnT t ins = tt at hTu hTu2 hS1
    generalize turnE t ins = te at hTu hTu2
    generalize turnK t ins = tk at hTu hTu2
    generalize enaE t ins outs = ee at hEn hEn2
    generalize enaB t ins outs = eb at hEn hEn2
    generalize tskE t = ce at hCk hCk2
    clear v1 v2 v3 hf hok oi oo
    obtain ⟨kd, nn, tn1, pe, mk, st, ev, rw_, lt⟩ := t
    obtain ⟨kd3, nn3, tn3, pe3, mk3, st3, ev3, rw_3, lt3⟩ := tt
    unfold Tsk.cells sndsV mksV entsV evsV rowsV rcdsV quesV at *
    simp only at *
    refine acall_of (n := 93) (rs := [.tmp 6]) Try.func4 rfl (by kernel_rfl) rfl rfl rfl ?_; simp only [argsE, Nat.reduceAdd]
    repeat (any_goals (first | ((first | refine aops_cons (fun K' h' => ?_) | refine aopsD_cons (fun K' h' => ?_)); simp only [go_sem, Nat.reduceLT, Nat.reduceLeDiff, Nat.reduceEqDiff, reduceIte, Nat.reduceAdd, Nat.reduceMul, Nat.reduceSub, Int.reduceLT, Int.reduceLE, Int.reduceToNat, Int.reduceNeg, reduceCtorEq, hgs, aopG, beq_self_eq_true, List.length_map]; (try ((first | refine ⟨_, hGr, ?_⟩ | refine ⟨_, fun _ => hGr, ?_⟩ | refine ⟨_, hGi, ?_⟩ | refine ⟨_, fun _ => hGi, ?_⟩ | refine ⟨_, hGo, ?_⟩ | refine ⟨_, fun _ => hGo, ?_⟩ | refine ⟨_, hTw, ?_⟩ | refine ⟨_, fun _ => hTw, ?_⟩ | refine ⟨_, hEn, ?_⟩ | refine ⟨_, fun _ => hEn, ?_⟩ | refine ⟨_, hEn2, ?_⟩ | refine ⟨_, fun _ => hEn2, ?_⟩ | refine ⟨_, hTu, ?_⟩ | refine ⟨_, fun _ => hTu, ?_⟩ | refine ⟨_, hTu2, ?_⟩ | refine ⟨_, fun _ => hTu2, ?_⟩ | refine ⟨_, hCk, ?_⟩ | refine ⟨_, fun _ => hCk, ?_⟩ | refine ⟨_, hCk2, ?_⟩ | refine ⟨_, fun _ => hCk2, ?_⟩ | refine ⟨_, hS1, ?_⟩ | refine ⟨_, fun _ => hS1, ?_⟩ | refine ⟨_, hS2, ?_⟩ | refine ⟨_, fun _ => hS2, ?_⟩); (try simp only [go_sem, Nat.reduceLT, Nat.reduceLeDiff, Nat.reduceEqDiff, reduceIte, Nat.reduceAdd, Nat.reduceMul, Nat.reduceSub, Int.reduceLT, Int.reduceLE, Int.reduceToNat, Int.reduceNeg, reduceCtorEq, hgs, aopG, beq_self_eq_true, List.length_map]))); (try simp (disch := omega) only [wrap_id, getD_map_in, Int.toNat_natCast, aopG, beq_self_eq_true, List.length_map]); (repeat (refine And.intro (by (first | omega | (simp; done) | (simp; omega) | assumption)) ?_)); refine h' _ ?_; clear h' K') | (refine aops_nil (hK _ ?_); clear hK K hgs gs; try simp only [aThen, aBlock]) | ((first | refine AWp.sreg (id := 1) dd4 rfl (fun gs K hgs hK => ?_) | refine AWp.reg (id := 1) dd4 rfl (fun gs K hgs hK => ?_)); replace hgs : gs 2 = some 20 ∧ gs 6 = some 24 := ⟨hgs 2, hgs 6⟩) | (refine AWp.sreg  dd4 rfl (fun gs K hgs hK => ?_); replace hgs : Nat.succ 0 = 1 := rfl) | refine AWp.seq ?_ | refine ARounds.step ?_ | refine AWp.block ?_ | refine AWp.label ?_ | (refine AWp.ret ?_; try simp only [aThen, aBlock]) | (refine AWp.skip ?_; try simp only [aThen, aBlock]) | (refine AWp.exit ?_; try simp only [aThen, aBlock, Nat.reduceEqDiff, reduceIte]) | (refine AWp.reg  dd4 rfl (fun gs K hgs hK => ?_); replace hgs : Nat.succ 0 = 1 := rfl) | ((first | refine AWp.sregD (id := 8) fo4 mo_fact (by kernel_rfl) (fun gs K hgs hK => ?_) | refine AWp.regD (id := 8) fo4 mo_fact (by kernel_rfl) (fun gs K hgs hK => ?_)); replace hgs : gs 3 = some 61 ∧ gs 8 = some 66 ∧ gs 13 = some 71 ∧ gs 18 = some 76 ∧ gs 23 = some 81 ∧ gs 30 = some 88 := ⟨hgs 3, hgs 8, hgs 13, hgs 18, hgs 23, hgs 30⟩) | ((first | refine AWp.sregD  fo4 mo_fact (by kernel_rfl) (fun gs K hgs hK => ?_) | refine AWp.regD  fo4 mo_fact (by kernel_rfl) (fun gs K hgs hK => ?_)); replace hgs : Nat.succ 0 = 1 := rfl) | (refine aopsD_nil (hK _ ?_); clear hK K hgs gs; simp only [fo4]; simp only [ASt.prune, pruneE, keepB, keepR, Bool.or_false, Bool.or_true, Bool.true_or, Bool.false_or, reduceIte, Bool.or_self, Bool.false_eq_true, aThen, aBlock, Nat.reduceEqDiff]) | (refine aops_consG (fun K' h' => ?_); simp only [go_sem, Nat.reduceLT, Nat.reduceLeDiff, Nat.reduceEqDiff, reduceIte, Nat.reduceAdd, Nat.reduceMul, Nat.reduceSub, Int.reduceLT, Int.reduceLE, Int.reduceToNat, Int.reduceNeg, reduceCtorEq, hgs, aopG, beq_self_eq_true, List.length_map]; (try simp (disch := omega) only [wrap_id, getD_map_in, Int.toNat_natCast, aopG, beq_self_eq_true, List.length_map]); (repeat (refine And.intro (by (first | omega | (simp; done) | (simp; omega) | assumption)) ?_)); refine h' _ ?_; clear h' K') | (refine AWp.cond rfl (fun h => ?_) (fun h => ?_) <;> (try simp only [decide_eq_true_eq, decide_eq_false_iff_not, beq_iff_eq, bne_iff_ne, ne_eq, Bool.not_eq_true', Bool.not_eq_false', beq_eq_false_iff_ne, Bool.true_eq_false, Bool.false_eq_true, Int.not_le, Int.not_lt, Bool.and_eq_true, Bool.and_eq_false_iff, Bool.or_eq_true, Bool.or_eq_false_iff, bne_eq_false_iff_eq, reduceCtorEq] at h) <;> (try first | contradiction | (exfalso; omega) | (exfalso; revert h; simp; done) | (exfalso; revert h; simp; omega)))))
    all_goals simp only [Out, outA, outL, resA, go_sem, Nat.reduceLT, Nat.reduceLeDiff, Nat.reduceEqDiff, reduceIte, Nat.reduceAdd, Nat.reduceMul, Nat.reduceSub, Int.reduceLT, Int.reduceLE, Int.reduceToNat, Int.reduceNeg, reduceCtorEq]
    all_goals exact AVle.of_eq (by simp)
  · have hv2 : greatT t = true ∨ (greatT t = false ∧ greatQs ins = true) ∨ (greatT t = false ∧ greatQs ins = false ∧ greatQs outs = true) := by
      cases h1 : greatT t <;> cases h2 : greatQs ins <;> cases h3 : greatQs outs <;> simp_all
    generalize greatT t = g1 at *
    generalize greatQs ins = g2 at *
    generalize greatQs outs = g3 at *
    clear hok oi oo hv
    obtain ⟨kd, nn, tn1, pe, mk, st, ev, rw_, lt⟩ := t
    unfold Tsk.cells sndsV mksV entsV evsV rowsV rcdsV quesV at *
    simp only at *
    rcases hv2 with rfl | ⟨rfl, rfl⟩ | ⟨rfl, rfl, rfl⟩
    all_goals
      refine acall_of (n := 93) (rs := [.tmp 6]) Try.func4 rfl (by kernel_rfl) rfl rfl rfl ?_; simp only [argsE, Nat.reduceAdd]
      repeat (any_goals (first | ((first | refine aops_cons (fun K' h' => ?_) | refine aopsD_cons (fun K' h' => ?_)); simp only [go_sem, Nat.reduceLT, Nat.reduceLeDiff, Nat.reduceEqDiff, reduceIte, Nat.reduceAdd, Nat.reduceMul, Nat.reduceSub, Int.reduceLT, Int.reduceLE, Int.reduceToNat, Int.reduceNeg, reduceCtorEq, hgs, aopG, beq_self_eq_true, List.length_map]; (try ((first | refine ⟨_, hGr, ?_⟩ | refine ⟨_, fun _ => hGr, ?_⟩ | refine ⟨_, hGi, ?_⟩ | refine ⟨_, fun _ => hGi, ?_⟩ | refine ⟨_, hGo, ?_⟩ | refine ⟨_, fun _ => hGo, ?_⟩ | refine ⟨_, hTw, ?_⟩ | refine ⟨_, fun _ => hTw, ?_⟩ | refine ⟨_, hEn, ?_⟩ | refine ⟨_, fun _ => hEn, ?_⟩ | refine ⟨_, hEn2, ?_⟩ | refine ⟨_, fun _ => hEn2, ?_⟩ | refine ⟨_, hTu, ?_⟩ | refine ⟨_, fun _ => hTu, ?_⟩ | refine ⟨_, hTu2, ?_⟩ | refine ⟨_, fun _ => hTu2, ?_⟩ | refine ⟨_, hCk, ?_⟩ | refine ⟨_, fun _ => hCk, ?_⟩ | refine ⟨_, hCk2, ?_⟩ | refine ⟨_, fun _ => hCk2, ?_⟩ | refine ⟨_, hS1, ?_⟩ | refine ⟨_, fun _ => hS1, ?_⟩ | refine ⟨_, hS2, ?_⟩ | refine ⟨_, fun _ => hS2, ?_⟩); (try simp only [go_sem, Nat.reduceLT, Nat.reduceLeDiff, Nat.reduceEqDiff, reduceIte, Nat.reduceAdd, Nat.reduceMul, Nat.reduceSub, Int.reduceLT, Int.reduceLE, Int.reduceToNat, Int.reduceNeg, reduceCtorEq, hgs, aopG, beq_self_eq_true, List.length_map]))); (try simp (disch := omega) only [wrap_id, getD_map_in, Int.toNat_natCast, aopG, beq_self_eq_true, List.length_map]); (repeat (refine And.intro (by (first | omega | (simp; done) | (simp; omega) | assumption)) ?_)); refine h' _ ?_; clear h' K') | (refine aops_nil (hK _ ?_); clear hK K hgs gs; try simp only [aThen, aBlock]) | ((first | refine AWp.sreg (id := 1) dd4 rfl (fun gs K hgs hK => ?_) | refine AWp.reg (id := 1) dd4 rfl (fun gs K hgs hK => ?_)); replace hgs : gs 2 = some 20 ∧ gs 6 = some 24 := ⟨hgs 2, hgs 6⟩) | (refine AWp.sreg  dd4 rfl (fun gs K hgs hK => ?_); replace hgs : Nat.succ 0 = 1 := rfl) | refine AWp.seq ?_ | refine ARounds.step ?_ | refine AWp.block ?_ | refine AWp.label ?_ | (refine AWp.ret ?_; try simp only [aThen, aBlock]) | (refine AWp.skip ?_; try simp only [aThen, aBlock]) | (refine AWp.exit ?_; try simp only [aThen, aBlock, Nat.reduceEqDiff, reduceIte]) | (refine AWp.reg  dd4 rfl (fun gs K hgs hK => ?_); replace hgs : Nat.succ 0 = 1 := rfl) | ((first | refine AWp.sregD (id := 8) fo4 mo_fact (by kernel_rfl) (fun gs K hgs hK => ?_) | refine AWp.regD (id := 8) fo4 mo_fact (by kernel_rfl) (fun gs K hgs hK => ?_)); replace hgs : gs 3 = some 61 ∧ gs 8 = some 66 ∧ gs 13 = some 71 ∧ gs 18 = some 76 ∧ gs 23 = some 81 ∧ gs 30 = some 88 := ⟨hgs 3, hgs 8, hgs 13, hgs 18, hgs 23, hgs 30⟩) | ((first | refine AWp.sregD  fo4 mo_fact (by kernel_rfl) (fun gs K hgs hK => ?_) | refine AWp.regD  fo4 mo_fact (by kernel_rfl) (fun gs K hgs hK => ?_)); replace hgs : Nat.succ 0 = 1 := rfl) | (refine aopsD_nil (hK _ ?_); clear hK K hgs gs; simp only [fo4]; simp only [ASt.prune, pruneE, keepB, keepR, Bool.or_false, Bool.or_true, Bool.true_or, Bool.false_or, reduceIte, Bool.or_self, Bool.false_eq_true, aThen, aBlock, Nat.reduceEqDiff]) | (refine aops_consG (fun K' h' => ?_); simp only [go_sem, Nat.reduceLT, Nat.reduceLeDiff, Nat.reduceEqDiff, reduceIte, Nat.reduceAdd, Nat.reduceMul, Nat.reduceSub, Int.reduceLT, Int.reduceLE, Int.reduceToNat, Int.reduceNeg, reduceCtorEq, hgs, aopG, beq_self_eq_true, List.length_map]; (try simp (disch := omega) only [wrap_id, getD_map_in, Int.toNat_natCast, aopG, beq_self_eq_true, List.length_map]); (repeat (refine And.intro (by (first | omega | (simp; done) | (simp; omega) | assumption)) ?_)); refine h' _ ?_; clear h' K') | (refine AWp.cond rfl (fun h => ?_) (fun h => ?_) <;> (try simp only [decide_eq_true_eq, decide_eq_false_iff_not, beq_iff_eq, bne_iff_ne, ne_eq, Bool.not_eq_true', Bool.not_eq_false', beq_eq_false_iff_ne, Bool.true_eq_false, Bool.false_eq_true, Int.not_le, Int.not_lt, Bool.and_eq_true, Bool.and_eq_false_iff, Bool.or_eq_true, Bool.or_eq_false_iff, bne_eq_false_iff_eq, reduceCtorEq] at h) <;> (try first | contradiction | (exfalso; omega) | (exfalso; revert h; simp; done) | (exfalso; revert h; simp; omega)))))
      all_goals simp only [Out, outA, outL, resA, go_sem, Nat.reduceLT, Nat.reduceLeDiff, Nat.reduceEqDiff, reduceIte, Nat.reduceAdd, Nat.reduceMul, Nat.reduceSub, Int.reduceLT, Int.reduceLE, Int.reduceToNat, Int.reduceNeg, reduceCtorEq]
      all_goals exact AVle.refl _
theorem ttells_all : ∀ xs, ShpAs Try.prog 8 Try.f4.params.toList xs → ACall Try.prog 4 xs (.lit (.bool true)) := by
  intro xs h
  have hp : Try.f4.params.toList = [31, 32, 32] := by kernel_rfl
  rw [hp] at h
  obtain ⟨a, r, rfl, ha, h⟩ := h
  obtain ⟨b, r, rfl, hb, h⟩ := h
  obtain ⟨c, r, rfl, hc, h⟩ := h
  obtain rfl : r = [] := h
  obtain ⟨t, rfl, hok⟩ := tsk_shape ha
  obtain ⟨ins, rfl, hi, oi⟩ := ques_shape hb
  obtain ⟨outs, rfl, ho, oo⟩ := ques_shape hc
  exact ttells_law t ins outs hok hi ho oi oo
end Go.Proofs.Ytlpmgkillalhbaa
