/-
  The law SourceSame.
-/
import Derived.Test.YtbciabkniljjgaaSStepL
import Derived.Test.YtbciabkniljjgaaSrcA
namespace Go.Proofs.Ytbciabkniljjgaa
open Go.AL Go.RowKit
set_option linter.unusedSimpArgs false
set_option linter.unusedVariables false
set_option maxRecDepth 10000
set_option maxHeartbeats 8000000

theorem step_keeps {t : Tsk} (h1 : askE t = 0) (h2 : stepE t = 0) : ∃ e es, t.evs = e :: es ∧ t.pend = [] ∧ stepT t = { t with pend := [⟨0, told e⟩], evs := es } ∧ askE (stepT t) = 0 ∧ sentL (stepT t) = sentL t := by
  have hE : stepE t = if askE t ≠ 0 then askE t else if 0 < t.pend.length then 18 else if t.evs.length = 0 then 6 else 0 := rfl
  rw [h2, if_neg (fun h => h h1)] at hE
  split at hE
  · omega
  split at hE
  · omega
  rename_i g1 g2
  have hp : t.pend = [] := List.eq_nil_of_length_eq_zero (by omega)
  cases hev : t.evs with
  | nil => rw [hev] at g2; exact absurd rfl g2
  | cons e es =>
    obtain ⟨a1, a2⟩ := askE_0 h1
    obtain ⟨q1, q2⟩ := tsk_tail a1 hev
    have hT : stepT t = { t with pend := [⟨0, told e⟩], evs := es } := by unfold stepT; rw [if_pos h2, hev]; rfl
    refine ⟨e, es, rfl, hp, hT, ?_, ?_⟩
    · rw [hT]
      have hg := (goodT_few q1).1
      have : goodT { t with pend := [⟨0, told e⟩], evs := es } = true := by
        unfold goodT at hg ⊢
        simp only [Bool.and_eq_true, decide_eq_true_eq] at hg ⊢
        obtain ⟨b1, b2, b3, b4, b5, b6, b7⟩ := hg
        exact ⟨b1, by simp, b3, by simp [allL_all, send_told q2], b5, b6, b7⟩
      unfold askE tskE
      rw [if_pos this, if_neg (by simp), if_neg (by simp only; omega)]
    · rw [hT]
      unfold sentL
      rw [hp, hev]
      rfl

def dd13 : Nat → List (List Nat)
  | 0 => [[], [0], [2]]
  | 1 => [[], [], [10]]
  | 2 => [[], [], [11], [12], [], [14], [15], [13, 16], [17], [], [19], [20], [21], [18, 22], [23], [], [25], [24, 26]]
  | 3 => [[1, 27], [3], [28]]
  | 4 => [[27], [], [30], [31], [], [29], [32], [33]]
  | 5 => [[], [], [35], [36], [], [34], [], [37], [38]]
  | 6 => [[], [5], [39], [40], [], [42], [], [44], [45], [], [47], [48], [46, 49], [43, 50], [41, 51]]
  | 7 => [[1, 3, 4, 6, 7, 52], []]
  | 8 => [[52], [], [53]]
  | 9 => [[4, 6, 54], [3], [55], [], [57], [], [59], [60], [61], [58, 62], [56, 63], [64], [7], [66], [], [68], [69], [70], [71], [1], [73], [74], [75], [72, 76], [67, 77], [65, 78], [79]]
  | 10 => [[7, 54], [], [81], [82], [], [80], [83], [84]]
  | 11 => [[], [3], [85], [9], [87], [86, 88], [89], [4], [8], [91, 92], [90, 93], [94], [], [96], [97], [98], [95, 99], [100], [6], [102], [103], [1], [105], [106], [107], [104, 108], [101, 109], [110]]
  | _ => []
theorem ssame_law (t : Tsk) (hok : t.ok) : ACall Try.prog 13 [.agg t.cells] (.lit (.bool true)) := by
  have hGr := greatT_c t hok
  have hCk := tCheck27_c t hok
  by_cases hv : greatT t = false ∧ tskE t = 0 ∧ t.kind = 1
  · obtain ⟨v1, v2, v3⟩ := hv
    have hf := great_few2 v1
    have hA : askE t = 0 := by unfold askE; rw [if_neg (fun h => h v2), if_neg (fun h => h v3)]
    have hN1 := sent_c t hok
    have hP := step_c t hok
    have hlen : ((sentL t).map Msg.cells).length = t.pend.length + t.evs.length := by simp [sentL]
    have hR : sentR t = sentL t := by unfold sentR; rw [if_pos hA]
    rw [hA, hR] at hN1
    rw [v1] at hGr
    rw [v2] at hCk
    have hb : t.pend.length ≤ 4100 ∧ t.evs.length ≤ 4100 := by obtain ⟨f1, f2, f3, f4, f5, f6⟩ := hf; exact ⟨f1, f4⟩
    by_cases hs : stepE t = 0
    · obtain ⟨e, es, k1, k2, k3, k4, k5⟩ := step_keeps hA hs
      have hN2 := sent_c (stepT t) (stepT_ok hok)
      have hR2 : sentR (stepT t) = sentL t := by unfold sentR; rw [if_pos k4, k5]
      rw [k4, hR2, k3] at hN2
      rw [hs, k3] at hP
      have hL := sameList_c (sentL t) (sentL t) (hR ▸ sentR_len hf) (hR ▸ sentR_len hf)
      rw [decide_eq_true rfl] at hL
      rw [k1, k2] at hlen
      generalize sentL t = sl at *
      clear hok v1 v2 hA hR hR2 hs k3 k4 k5 hf
      obtain ⟨kd, nn, tn1, pe, mk, st, ev, rw_, lt⟩ := t
      simp only at k1 k2 v3 hb
      subst k1 k2 v3
      unfold Tsk.cells sndsV mksV entsV evsV rowsV rcdsV at hGr hCk hN1 hP hN2 ⊢
      simp only [List.length_cons, List.length_nil, List.length_map] at hGr hCk hN1 hP hN2 hlen hb ⊢
      refine acall_of (n := 111) (rs := [.tmp 2]) Try.func13 rfl (by kernel_rfl) rfl rfl rfl ?_; simp only [argsE, Nat.reduceAdd]
      repeat (any_goals (first | (refine aops_cons (fun K' h' => ?_); simp only [go_sem, Nat.reduceLT, Nat.reduceLeDiff, Nat.reduceEqDiff, reduceIte, Nat.reduceAdd, Nat.reduceMul, Nat.reduceSub, Int.reduceLT, Int.reduceLE, Int.reduceToNat, Int.reduceNeg, reduceCtorEq, hgs, aopG, beq_self_eq_true, Option.toArray_none, Option.toArray_some, List.toList_toArray, List.length_map]; (try simp (disch := omega) only [wrap_id, getD_map_in, Int.toNat_natCast, aopG, beq_self_eq_true, Option.toArray_none, Option.toArray_some, List.toList_toArray, List.length_map]); (repeat (refine And.intro (by (first | omega | (simp; done) | (simp; omega) | assumption)) ?_)); refine h' _ ?_; clear h' K') | (refine aops_nil (hK _ ?_); clear hK K hgs gs; try simp only [aThen, aBlock]) | ((first | refine aops_cons (fun K' h' => ?_) | refine aopsD_cons (fun K' h' => ?_)); simp only [go_sem, Nat.reduceLT, Nat.reduceLeDiff, Nat.reduceEqDiff, reduceIte, Nat.reduceAdd, Nat.reduceMul, Nat.reduceSub, Int.reduceLT, Int.reduceLE, Int.reduceToNat, Int.reduceNeg, reduceCtorEq, hgs, aopG, beq_self_eq_true, Option.toArray_none, Option.toArray_some, List.toList_toArray, List.length_map]; (first | refine ⟨_, alive28_c, ?_⟩ | refine ⟨_, fun _ => alive28_c, ?_⟩ | refine ⟨_, hGr, ?_⟩ | refine ⟨_, fun _ => hGr, ?_⟩ | refine ⟨_, hCk, ?_⟩ | refine ⟨_, fun _ => hCk, ?_⟩ | refine ⟨_, hN1, ?_⟩ | refine ⟨_, fun _ => hN1, ?_⟩ | refine ⟨_, hN2, ?_⟩ | refine ⟨_, fun _ => hN2, ?_⟩ | refine ⟨_, hP, ?_⟩ | refine ⟨_, fun _ => hP, ?_⟩ | refine ⟨_, hL, ?_⟩ | refine ⟨_, fun _ => hL, ?_⟩); (try simp only [go_sem, Nat.reduceLT, Nat.reduceLeDiff, Nat.reduceEqDiff, reduceIte, Nat.reduceAdd, Nat.reduceMul, Nat.reduceSub, Int.reduceLT, Int.reduceLE, Int.reduceToNat, Int.reduceNeg, reduceCtorEq, hgs, aopG, beq_self_eq_true, Option.toArray_none, Option.toArray_some, List.toList_toArray, List.length_map]); (repeat (refine And.intro (by (first | omega | (simp; done) | (simp; omega) | assumption)) ?_)); refine h' _ ?_; clear h' K') | (refine AWp.sreg (id := 2) dd13 rfl (fun gs K hgs hK => ?_); replace hgs : gs 2 = some 13 ∧ gs 7 = some 18 ∧ gs 13 = some 24 := ⟨hgs 2, hgs 7, hgs 13⟩) | (refine AWp.sreg (id := 6) dd13 rfl (fun gs K hgs hK => ?_); replace hgs : gs 2 = some 41 := hgs 2) | (refine AWp.sreg (id := 9) dd13 rfl (fun gs K hgs hK => ?_); replace hgs : gs 1 = some 56 ∧ gs 10 = some 65 ∧ gs 17 = some 72 := ⟨hgs 1, hgs 10, hgs 17⟩) | (refine AWp.sreg (id := 11) dd13 rfl (fun gs K hgs hK => ?_); replace hgs : gs 1 = some 86 ∧ gs 5 = some 90 ∧ gs 10 = some 95 ∧ gs 16 = some 101 := ⟨hgs 1, hgs 5, hgs 10, hgs 16⟩) | (refine AWp.reg (id := 2) dd13 rfl (fun gs K hgs hK => ?_); replace hgs : gs 2 = some 13 ∧ gs 7 = some 18 ∧ gs 13 = some 24 := ⟨hgs 2, hgs 7, hgs 13⟩) | (refine AWp.reg (id := 6) dd13 rfl (fun gs K hgs hK => ?_); replace hgs : gs 2 = some 41 := hgs 2) | (refine AWp.reg (id := 9) dd13 rfl (fun gs K hgs hK => ?_); replace hgs : gs 1 = some 56 ∧ gs 10 = some 65 ∧ gs 17 = some 72 := ⟨hgs 1, hgs 10, hgs 17⟩) | (refine AWp.reg (id := 11) dd13 rfl (fun gs K hgs hK => ?_); replace hgs : gs 1 = some 86 ∧ gs 5 = some 90 ∧ gs 10 = some 95 ∧ gs 16 = some 101 := ⟨hgs 1, hgs 5, hgs 10, hgs 16⟩) | (refine AWp.sreg  dd13 rfl (fun gs K hgs hK => ?_); replace hgs : Nat.succ 0 = 1 := rfl) | refine AWp.seq ?_ | refine ARounds.step ?_ | refine AWp.block ?_ | refine AWp.label ?_ | (refine AWp.ret ?_; try simp only [aThen, aBlock]) | (refine AWp.skip ?_; try simp only [aThen, aBlock]) | (refine AWp.exit ?_; try simp only [aThen, aBlock, Nat.reduceEqDiff, reduceIte]) | (refine AWp.reg  dd13 rfl (fun gs K hgs hK => ?_); replace hgs : Nat.succ 0 = 1 := rfl) | (refine aops_consG (fun K' h' => ?_); simp only [go_sem, Nat.reduceLT, Nat.reduceLeDiff, Nat.reduceEqDiff, reduceIte, Nat.reduceAdd, Nat.reduceMul, Nat.reduceSub, Int.reduceLT, Int.reduceLE, Int.reduceToNat, Int.reduceNeg, reduceCtorEq, hgs, aopG, beq_self_eq_true, Option.toArray_none, Option.toArray_some, List.toList_toArray, List.length_map]; (try simp (disch := omega) only [wrap_id, getD_map_in, Int.toNat_natCast, aopG, beq_self_eq_true, Option.toArray_none, Option.toArray_some, List.toList_toArray, List.length_map]); (repeat (refine And.intro (by (first | omega | (simp; done) | (simp; omega) | assumption)) ?_)); refine h' _ ?_; clear h' K') | (refine AWp.cond rfl (fun h => ?_) (fun h => ?_) <;> (try simp only [decide_eq_true_eq, decide_eq_false_iff_not, beq_iff_eq, bne_iff_ne, ne_eq, Bool.not_eq_true', Bool.not_eq_false', beq_eq_false_iff_ne, Bool.true_eq_false, Bool.false_eq_true, Int.not_le, Int.not_lt, Bool.and_eq_true, Bool.and_eq_false_iff, Bool.or_eq_true, Bool.or_eq_false_iff, bne_eq_false_iff_eq, reduceCtorEq] at h) <;> (try first | contradiction | (exfalso; omega) | (exfalso; revert h; simp; done) | (exfalso; revert h; simp; omega)))))
      all_goals first
        | (exfalso; omega)
        | skip
      all_goals simp only [Out, outA, outL, resA, go_sem, Nat.reduceLT, Nat.reduceLeDiff, Nat.reduceEqDiff, reduceIte, Nat.reduceAdd, Nat.reduceMul, Nat.reduceSub, Int.reduceLT, Int.reduceLE, Int.reduceToNat, Int.reduceNeg, reduceCtorEq]
      all_goals exact AVle.of_eq (by simp)
    · have hT : stepT t = zeroT := by unfold stepT; rw [if_neg hs]
      have hE : stepE t = if askE t ≠ 0 then askE t else if 0 < t.pend.length then 18 else if t.evs.length = 0 then 6 else 0 := rfl
      rw [if_neg (fun h => h hA)] at hE
      rw [hT] at hP
      have hc : (0 < t.pend.length ∧ stepE t = 18) ∨ (t.pend.length = 0 ∧ t.evs.length = 0 ∧ stepE t = 6) := by
        split at hE
        · exact .inl ⟨by assumption, hE⟩
        · split at hE
          · exact .inr ⟨by omega, by assumption, hE⟩
          · exact absurd hE hs
      generalize sentL t = sl at *
      generalize stepE t = se at *
      clear hok v1 v2 hA hR hs hT hE hf
      obtain ⟨kd, nn, tn1, pe, mk, st, ev, rw_, lt⟩ := t
      simp only at v3 hb hc hlen
      subst v3
      unfold zeroT at hP
      unfold Tsk.cells sndsV mksV entsV evsV rowsV rcdsV at hGr hCk hN1 hP ⊢
      simp only [List.length_map] at hGr hCk hN1 hP hlen hb ⊢
      rcases hc with ⟨c1, rfl⟩ | ⟨c1, c2, rfl⟩
      all_goals
        refine acall_of (n := 111) (rs := [.tmp 2]) Try.func13 rfl (by kernel_rfl) rfl rfl rfl ?_; simp only [argsE, Nat.reduceAdd]
        repeat (any_goals (first | (refine aops_cons (fun K' h' => ?_); simp only [go_sem, Nat.reduceLT, Nat.reduceLeDiff, Nat.reduceEqDiff, reduceIte, Nat.reduceAdd, Nat.reduceMul, Nat.reduceSub, Int.reduceLT, Int.reduceLE, Int.reduceToNat, Int.reduceNeg, reduceCtorEq, hgs, aopG, beq_self_eq_true, Option.toArray_none, Option.toArray_some, List.toList_toArray, List.length_map]; (try simp (disch := omega) only [wrap_id, getD_map_in, Int.toNat_natCast, aopG, beq_self_eq_true, Option.toArray_none, Option.toArray_some, List.toList_toArray, List.length_map]); (repeat (refine And.intro (by (first | omega | (simp; done) | (simp; omega) | assumption)) ?_)); refine h' _ ?_; clear h' K') | (refine aops_nil (hK _ ?_); clear hK K hgs gs; try simp only [aThen, aBlock]) | ((first | refine aops_cons (fun K' h' => ?_) | refine aopsD_cons (fun K' h' => ?_)); simp only [go_sem, Nat.reduceLT, Nat.reduceLeDiff, Nat.reduceEqDiff, reduceIte, Nat.reduceAdd, Nat.reduceMul, Nat.reduceSub, Int.reduceLT, Int.reduceLE, Int.reduceToNat, Int.reduceNeg, reduceCtorEq, hgs, aopG, beq_self_eq_true, Option.toArray_none, Option.toArray_some, List.toList_toArray, List.length_map]; (first | refine ⟨_, alive28_c, ?_⟩ | refine ⟨_, fun _ => alive28_c, ?_⟩ | refine ⟨_, hGr, ?_⟩ | refine ⟨_, fun _ => hGr, ?_⟩ | refine ⟨_, hCk, ?_⟩ | refine ⟨_, fun _ => hCk, ?_⟩ | refine ⟨_, hN1, ?_⟩ | refine ⟨_, fun _ => hN1, ?_⟩ | refine ⟨_, hN2, ?_⟩ | refine ⟨_, fun _ => hN2, ?_⟩ | refine ⟨_, hP, ?_⟩ | refine ⟨_, fun _ => hP, ?_⟩ | refine ⟨_, hL, ?_⟩ | refine ⟨_, fun _ => hL, ?_⟩); (try simp only [go_sem, Nat.reduceLT, Nat.reduceLeDiff, Nat.reduceEqDiff, reduceIte, Nat.reduceAdd, Nat.reduceMul, Nat.reduceSub, Int.reduceLT, Int.reduceLE, Int.reduceToNat, Int.reduceNeg, reduceCtorEq, hgs, aopG, beq_self_eq_true, Option.toArray_none, Option.toArray_some, List.toList_toArray, List.length_map]); (repeat (refine And.intro (by (first | omega | (simp; done) | (simp; omega) | assumption)) ?_)); refine h' _ ?_; clear h' K') | (refine AWp.sreg (id := 2) dd13 rfl (fun gs K hgs hK => ?_); replace hgs : gs 2 = some 13 ∧ gs 7 = some 18 ∧ gs 13 = some 24 := ⟨hgs 2, hgs 7, hgs 13⟩) | (refine AWp.sreg (id := 6) dd13 rfl (fun gs K hgs hK => ?_); replace hgs : gs 2 = some 41 := hgs 2) | (refine AWp.sreg (id := 9) dd13 rfl (fun gs K hgs hK => ?_); replace hgs : gs 1 = some 56 ∧ gs 10 = some 65 ∧ gs 17 = some 72 := ⟨hgs 1, hgs 10, hgs 17⟩) | (refine AWp.sreg (id := 11) dd13 rfl (fun gs K hgs hK => ?_); replace hgs : gs 1 = some 86 ∧ gs 5 = some 90 ∧ gs 10 = some 95 ∧ gs 16 = some 101 := ⟨hgs 1, hgs 5, hgs 10, hgs 16⟩) | (refine AWp.reg (id := 2) dd13 rfl (fun gs K hgs hK => ?_); replace hgs : gs 2 = some 13 ∧ gs 7 = some 18 ∧ gs 13 = some 24 := ⟨hgs 2, hgs 7, hgs 13⟩) | (refine AWp.reg (id := 6) dd13 rfl (fun gs K hgs hK => ?_); replace hgs : gs 2 = some 41 := hgs 2) | (refine AWp.reg (id := 9) dd13 rfl (fun gs K hgs hK => ?_); replace hgs : gs 1 = some 56 ∧ gs 10 = some 65 ∧ gs 17 = some 72 := ⟨hgs 1, hgs 10, hgs 17⟩) | (refine AWp.reg (id := 11) dd13 rfl (fun gs K hgs hK => ?_); replace hgs : gs 1 = some 86 ∧ gs 5 = some 90 ∧ gs 10 = some 95 ∧ gs 16 = some 101 := ⟨hgs 1, hgs 5, hgs 10, hgs 16⟩) | (refine AWp.sreg  dd13 rfl (fun gs K hgs hK => ?_); replace hgs : Nat.succ 0 = 1 := rfl) | refine AWp.seq ?_ | refine ARounds.step ?_ | refine AWp.block ?_ | refine AWp.label ?_ | (refine AWp.ret ?_; try simp only [aThen, aBlock]) | (refine AWp.skip ?_; try simp only [aThen, aBlock]) | (refine AWp.exit ?_; try simp only [aThen, aBlock, Nat.reduceEqDiff, reduceIte]) | (refine AWp.reg  dd13 rfl (fun gs K hgs hK => ?_); replace hgs : Nat.succ 0 = 1 := rfl) | (refine aops_consG (fun K' h' => ?_); simp only [go_sem, Nat.reduceLT, Nat.reduceLeDiff, Nat.reduceEqDiff, reduceIte, Nat.reduceAdd, Nat.reduceMul, Nat.reduceSub, Int.reduceLT, Int.reduceLE, Int.reduceToNat, Int.reduceNeg, reduceCtorEq, hgs, aopG, beq_self_eq_true, Option.toArray_none, Option.toArray_some, List.toList_toArray, List.length_map]; (try simp (disch := omega) only [wrap_id, getD_map_in, Int.toNat_natCast, aopG, beq_self_eq_true, Option.toArray_none, Option.toArray_some, List.toList_toArray, List.length_map]); (repeat (refine And.intro (by (first | omega | (simp; done) | (simp; omega) | assumption)) ?_)); refine h' _ ?_; clear h' K') | (refine AWp.cond rfl (fun h => ?_) (fun h => ?_) <;> (try simp only [decide_eq_true_eq, decide_eq_false_iff_not, beq_iff_eq, bne_iff_ne, ne_eq, Bool.not_eq_true', Bool.not_eq_false', beq_eq_false_iff_ne, Bool.true_eq_false, Bool.false_eq_true, Int.not_le, Int.not_lt, Bool.and_eq_true, Bool.and_eq_false_iff, Bool.or_eq_true, Bool.or_eq_false_iff, bne_eq_false_iff_eq, reduceCtorEq] at h) <;> (try first | contradiction | (exfalso; omega) | (exfalso; revert h; simp; done) | (exfalso; revert h; simp; omega)))))
        all_goals first
          | (exfalso; omega)
          | skip
        all_goals simp only [Out, outA, outL, resA, go_sem, Nat.reduceLT, Nat.reduceLeDiff, Nat.reduceEqDiff, reduceIte, Nat.reduceAdd, Nat.reduceMul, Nat.reduceSub, Int.reduceLT, Int.reduceLE, Int.reduceToNat, Int.reduceNeg, reduceCtorEq]
        all_goals refine AVle.of_eq (congrArg (fun b => AV.lit (.bool b)) ?_)
        all_goals (clear hP hN1 hGr hCk; generalize pe.length = a at *; generalize ev.length = b at *; simp; omega)
  · by_cases v1 : greatT t = true
    · rw [v1] at hGr
      clear hv
      have v3 := v1
      obtain ⟨kd, nn, tn1, pe, mk, st, ev, rw_, lt⟩ := t
      unfold Tsk.cells sndsV mksV entsV evsV rowsV rcdsV at hGr hCk ⊢
      simp only at hGr hCk v3 ⊢
      refine acall_of (n := 111) (rs := [.tmp 2]) Try.func13 rfl (by kernel_rfl) rfl rfl rfl ?_; simp only [argsE, Nat.reduceAdd]
      repeat (any_goals (first | (refine aops_cons (fun K' h' => ?_); simp only [go_sem, Nat.reduceLT, Nat.reduceLeDiff, Nat.reduceEqDiff, reduceIte, Nat.reduceAdd, Nat.reduceMul, Nat.reduceSub, Int.reduceLT, Int.reduceLE, Int.reduceToNat, Int.reduceNeg, reduceCtorEq, hgs, aopG, beq_self_eq_true, Option.toArray_none, Option.toArray_some, List.toList_toArray, List.length_map]; (try simp (disch := omega) only [wrap_id, getD_map_in, Int.toNat_natCast, aopG, beq_self_eq_true, Option.toArray_none, Option.toArray_some, List.toList_toArray, List.length_map]); (repeat (refine And.intro (by (first | omega | (simp; done) | (simp; omega) | assumption)) ?_)); refine h' _ ?_; clear h' K') | (refine aops_nil (hK _ ?_); clear hK K hgs gs; try simp only [aThen, aBlock]) | ((first | refine aops_cons (fun K' h' => ?_) | refine aopsD_cons (fun K' h' => ?_)); simp only [go_sem, Nat.reduceLT, Nat.reduceLeDiff, Nat.reduceEqDiff, reduceIte, Nat.reduceAdd, Nat.reduceMul, Nat.reduceSub, Int.reduceLT, Int.reduceLE, Int.reduceToNat, Int.reduceNeg, reduceCtorEq, hgs, aopG, beq_self_eq_true, Option.toArray_none, Option.toArray_some, List.toList_toArray, List.length_map]; (first | refine ⟨_, alive28_c, ?_⟩ | refine ⟨_, fun _ => alive28_c, ?_⟩ | refine ⟨_, hGr, ?_⟩ | refine ⟨_, fun _ => hGr, ?_⟩ | refine ⟨_, hCk, ?_⟩ | refine ⟨_, fun _ => hCk, ?_⟩ | refine ⟨_, hN1, ?_⟩ | refine ⟨_, fun _ => hN1, ?_⟩ | refine ⟨_, hN2, ?_⟩ | refine ⟨_, fun _ => hN2, ?_⟩ | refine ⟨_, hP, ?_⟩ | refine ⟨_, fun _ => hP, ?_⟩ | refine ⟨_, hL, ?_⟩ | refine ⟨_, fun _ => hL, ?_⟩); (try simp only [go_sem, Nat.reduceLT, Nat.reduceLeDiff, Nat.reduceEqDiff, reduceIte, Nat.reduceAdd, Nat.reduceMul, Nat.reduceSub, Int.reduceLT, Int.reduceLE, Int.reduceToNat, Int.reduceNeg, reduceCtorEq, hgs, aopG, beq_self_eq_true, Option.toArray_none, Option.toArray_some, List.toList_toArray, List.length_map]); (repeat (refine And.intro (by (first | omega | (simp; done) | (simp; omega) | assumption)) ?_)); refine h' _ ?_; clear h' K') | (refine AWp.sreg (id := 2) dd13 rfl (fun gs K hgs hK => ?_); replace hgs : gs 2 = some 13 ∧ gs 7 = some 18 ∧ gs 13 = some 24 := ⟨hgs 2, hgs 7, hgs 13⟩) | (refine AWp.sreg (id := 6) dd13 rfl (fun gs K hgs hK => ?_); replace hgs : gs 2 = some 41 := hgs 2) | (refine AWp.sreg (id := 9) dd13 rfl (fun gs K hgs hK => ?_); replace hgs : gs 1 = some 56 ∧ gs 10 = some 65 ∧ gs 17 = some 72 := ⟨hgs 1, hgs 10, hgs 17⟩) | (refine AWp.sreg (id := 11) dd13 rfl (fun gs K hgs hK => ?_); replace hgs : gs 1 = some 86 ∧ gs 5 = some 90 ∧ gs 10 = some 95 ∧ gs 16 = some 101 := ⟨hgs 1, hgs 5, hgs 10, hgs 16⟩) | (refine AWp.reg (id := 2) dd13 rfl (fun gs K hgs hK => ?_); replace hgs : gs 2 = some 13 ∧ gs 7 = some 18 ∧ gs 13 = some 24 := ⟨hgs 2, hgs 7, hgs 13⟩) | (refine AWp.reg (id := 6) dd13 rfl (fun gs K hgs hK => ?_); replace hgs : gs 2 = some 41 := hgs 2) | (refine AWp.reg (id := 9) dd13 rfl (fun gs K hgs hK => ?_); replace hgs : gs 1 = some 56 ∧ gs 10 = some 65 ∧ gs 17 = some 72 := ⟨hgs 1, hgs 10, hgs 17⟩) | (refine AWp.reg (id := 11) dd13 rfl (fun gs K hgs hK => ?_); replace hgs : gs 1 = some 86 ∧ gs 5 = some 90 ∧ gs 10 = some 95 ∧ gs 16 = some 101 := ⟨hgs 1, hgs 5, hgs 10, hgs 16⟩) | (refine AWp.sreg  dd13 rfl (fun gs K hgs hK => ?_); replace hgs : Nat.succ 0 = 1 := rfl) | refine AWp.seq ?_ | refine ARounds.step ?_ | refine AWp.block ?_ | refine AWp.label ?_ | (refine AWp.ret ?_; try simp only [aThen, aBlock]) | (refine AWp.skip ?_; try simp only [aThen, aBlock]) | (refine AWp.exit ?_; try simp only [aThen, aBlock, Nat.reduceEqDiff, reduceIte]) | (refine AWp.reg  dd13 rfl (fun gs K hgs hK => ?_); replace hgs : Nat.succ 0 = 1 := rfl) | (refine aops_consG (fun K' h' => ?_); simp only [go_sem, Nat.reduceLT, Nat.reduceLeDiff, Nat.reduceEqDiff, reduceIte, Nat.reduceAdd, Nat.reduceMul, Nat.reduceSub, Int.reduceLT, Int.reduceLE, Int.reduceToNat, Int.reduceNeg, reduceCtorEq, hgs, aopG, beq_self_eq_true, Option.toArray_none, Option.toArray_some, List.toList_toArray, List.length_map]; (try simp (disch := omega) only [wrap_id, getD_map_in, Int.toNat_natCast, aopG, beq_self_eq_true, Option.toArray_none, Option.toArray_some, List.toList_toArray, List.length_map]); (repeat (refine And.intro (by (first | omega | (simp; done) | (simp; omega) | assumption)) ?_)); refine h' _ ?_; clear h' K') | (refine AWp.cond rfl (fun h => ?_) (fun h => ?_) <;> (try simp only [decide_eq_true_eq, decide_eq_false_iff_not, beq_iff_eq, bne_iff_ne, ne_eq, Bool.not_eq_true', Bool.not_eq_false', beq_eq_false_iff_ne, Bool.true_eq_false, Bool.false_eq_true, Int.not_le, Int.not_lt, Bool.and_eq_true, Bool.and_eq_false_iff, Bool.or_eq_true, Bool.or_eq_false_iff, bne_eq_false_iff_eq, reduceCtorEq] at h) <;> (try first | contradiction | (exfalso; omega) | (exfalso; revert h; simp; done) | (exfalso; revert h; simp; omega)))))
      all_goals first
        | (exfalso; omega)
        | skip
      all_goals simp only [Out, outA, outL, resA, go_sem, Nat.reduceLT, Nat.reduceLeDiff, Nat.reduceEqDiff, reduceIte, Nat.reduceAdd, Nat.reduceMul, Nat.reduceSub, Int.reduceLT, Int.reduceLE, Int.reduceToNat, Int.reduceNeg, reduceCtorEq]
      all_goals first
        | exact AVle.refl _
        | exact AVle.of_eq (by simp)
    · rw [Bool.not_eq_true] at v1
      rw [v1] at hGr
      have v3 : tskE t ≠ 0 ∨ t.kind ≠ 1 := by
        by_cases a : tskE t = 0
        · exact .inr fun b => hv ⟨v1, a, b⟩
        · exact .inl a
      clear hv v1
      generalize tskE t = te at *
      obtain ⟨kd, nn, tn1, pe, mk, st, ev, rw_, lt⟩ := t
      unfold Tsk.cells sndsV mksV entsV evsV rowsV rcdsV at hGr hCk ⊢
      simp only at hGr hCk v3 ⊢
      refine acall_of (n := 111) (rs := [.tmp 2]) Try.func13 rfl (by kernel_rfl) rfl rfl rfl ?_; simp only [argsE, Nat.reduceAdd]
      repeat (any_goals (first | (refine aops_cons (fun K' h' => ?_); simp only [go_sem, Nat.reduceLT, Nat.reduceLeDiff, Nat.reduceEqDiff, reduceIte, Nat.reduceAdd, Nat.reduceMul, Nat.reduceSub, Int.reduceLT, Int.reduceLE, Int.reduceToNat, Int.reduceNeg, reduceCtorEq, hgs, aopG, beq_self_eq_true, Option.toArray_none, Option.toArray_some, List.toList_toArray, List.length_map]; (try simp (disch := omega) only [wrap_id, getD_map_in, Int.toNat_natCast, aopG, beq_self_eq_true, Option.toArray_none, Option.toArray_some, List.toList_toArray, List.length_map]); (repeat (refine And.intro (by (first | omega | (simp; done) | (simp; omega) | assumption)) ?_)); refine h' _ ?_; clear h' K') | (refine aops_nil (hK _ ?_); clear hK K hgs gs; try simp only [aThen, aBlock]) | ((first | refine aops_cons (fun K' h' => ?_) | refine aopsD_cons (fun K' h' => ?_)); simp only [go_sem, Nat.reduceLT, Nat.reduceLeDiff, Nat.reduceEqDiff, reduceIte, Nat.reduceAdd, Nat.reduceMul, Nat.reduceSub, Int.reduceLT, Int.reduceLE, Int.reduceToNat, Int.reduceNeg, reduceCtorEq, hgs, aopG, beq_self_eq_true, Option.toArray_none, Option.toArray_some, List.toList_toArray, List.length_map]; (first | refine ⟨_, alive28_c, ?_⟩ | refine ⟨_, fun _ => alive28_c, ?_⟩ | refine ⟨_, hGr, ?_⟩ | refine ⟨_, fun _ => hGr, ?_⟩ | refine ⟨_, hCk, ?_⟩ | refine ⟨_, fun _ => hCk, ?_⟩ | refine ⟨_, hN1, ?_⟩ | refine ⟨_, fun _ => hN1, ?_⟩ | refine ⟨_, hN2, ?_⟩ | refine ⟨_, fun _ => hN2, ?_⟩ | refine ⟨_, hP, ?_⟩ | refine ⟨_, fun _ => hP, ?_⟩ | refine ⟨_, hL, ?_⟩ | refine ⟨_, fun _ => hL, ?_⟩); (try simp only [go_sem, Nat.reduceLT, Nat.reduceLeDiff, Nat.reduceEqDiff, reduceIte, Nat.reduceAdd, Nat.reduceMul, Nat.reduceSub, Int.reduceLT, Int.reduceLE, Int.reduceToNat, Int.reduceNeg, reduceCtorEq, hgs, aopG, beq_self_eq_true, Option.toArray_none, Option.toArray_some, List.toList_toArray, List.length_map]); (repeat (refine And.intro (by (first | omega | (simp; done) | (simp; omega) | assumption)) ?_)); refine h' _ ?_; clear h' K') | (refine AWp.sreg (id := 2) dd13 rfl (fun gs K hgs hK => ?_); replace hgs : gs 2 = some 13 ∧ gs 7 = some 18 ∧ gs 13 = some 24 := ⟨hgs 2, hgs 7, hgs 13⟩) | (refine AWp.sreg (id := 6) dd13 rfl (fun gs K hgs hK => ?_); replace hgs : gs 2 = some 41 := hgs 2) | (refine AWp.sreg (id := 9) dd13 rfl (fun gs K hgs hK => ?_); replace hgs : gs 1 = some 56 ∧ gs 10 = some 65 ∧ gs 17 = some 72 := ⟨hgs 1, hgs 10, hgs 17⟩) | (refine AWp.sreg (id := 11) dd13 rfl (fun gs K hgs hK => ?_); replace hgs : gs 1 = some 86 ∧ gs 5 = some 90 ∧ gs 10 = some 95 ∧ gs 16 = some 101 := ⟨hgs 1, hgs 5, hgs 10, hgs 16⟩) | (refine AWp.reg (id := 2) dd13 rfl (fun gs K hgs hK => ?_); replace hgs : gs 2 = some 13 ∧ gs 7 = some 18 ∧ gs 13 = some 24 := ⟨hgs 2, hgs 7, hgs 13⟩) | (refine AWp.reg (id := 6) dd13 rfl (fun gs K hgs hK => ?_); replace hgs : gs 2 = some 41 := hgs 2) | (refine AWp.reg (id := 9) dd13 rfl (fun gs K hgs hK => ?_); replace hgs : gs 1 = some 56 ∧ gs 10 = some 65 ∧ gs 17 = some 72 := ⟨hgs 1, hgs 10, hgs 17⟩) | (refine AWp.reg (id := 11) dd13 rfl (fun gs K hgs hK => ?_); replace hgs : gs 1 = some 86 ∧ gs 5 = some 90 ∧ gs 10 = some 95 ∧ gs 16 = some 101 := ⟨hgs 1, hgs 5, hgs 10, hgs 16⟩) | (refine AWp.sreg  dd13 rfl (fun gs K hgs hK => ?_); replace hgs : Nat.succ 0 = 1 := rfl) | refine AWp.seq ?_ | refine ARounds.step ?_ | refine AWp.block ?_ | refine AWp.label ?_ | (refine AWp.ret ?_; try simp only [aThen, aBlock]) | (refine AWp.skip ?_; try simp only [aThen, aBlock]) | (refine AWp.exit ?_; try simp only [aThen, aBlock, Nat.reduceEqDiff, reduceIte]) | (refine AWp.reg  dd13 rfl (fun gs K hgs hK => ?_); replace hgs : Nat.succ 0 = 1 := rfl) | (refine aops_consG (fun K' h' => ?_); simp only [go_sem, Nat.reduceLT, Nat.reduceLeDiff, Nat.reduceEqDiff, reduceIte, Nat.reduceAdd, Nat.reduceMul, Nat.reduceSub, Int.reduceLT, Int.reduceLE, Int.reduceToNat, Int.reduceNeg, reduceCtorEq, hgs, aopG, beq_self_eq_true, Option.toArray_none, Option.toArray_some, List.toList_toArray, List.length_map]; (try simp (disch := omega) only [wrap_id, getD_map_in, Int.toNat_natCast, aopG, beq_self_eq_true, Option.toArray_none, Option.toArray_some, List.toList_toArray, List.length_map]); (repeat (refine And.intro (by (first | omega | (simp; done) | (simp; omega) | assumption)) ?_)); refine h' _ ?_; clear h' K') | (refine AWp.cond rfl (fun h => ?_) (fun h => ?_) <;> (try simp only [decide_eq_true_eq, decide_eq_false_iff_not, beq_iff_eq, bne_iff_ne, ne_eq, Bool.not_eq_true', Bool.not_eq_false', beq_eq_false_iff_ne, Bool.true_eq_false, Bool.false_eq_true, Int.not_le, Int.not_lt, Bool.and_eq_true, Bool.and_eq_false_iff, Bool.or_eq_true, Bool.or_eq_false_iff, bne_eq_false_iff_eq, reduceCtorEq] at h) <;> (try first | contradiction | (exfalso; omega) | (exfalso; revert h; simp; done) | (exfalso; revert h; simp; omega)))))
      all_goals first
        | (exfalso; omega)
        | skip
      all_goals simp only [Out, outA, outL, resA, go_sem, Nat.reduceLT, Nat.reduceLeDiff, Nat.reduceEqDiff, reduceIte, Nat.reduceAdd, Nat.reduceMul, Nat.reduceSub, Int.reduceLT, Int.reduceLE, Int.reduceToNat, Int.reduceNeg, reduceCtorEq]
      all_goals first
        | exact AVle.refl _
        | exact AVle.of_eq (by simp)
theorem ssame_all : ∀ xs, ShpAs Try.prog 8 Try.f13.params.toList xs → ACall Try.prog 13 xs (.lit (.bool true)) := by
  intro xs h
  have hp : Try.f13.params.toList = [31] := by kernel_rfl
  rw [hp] at h
  obtain ⟨a, r, rfl, ha, h⟩ := h
  obtain rfl : r = [] := h
  obtain ⟨t, rfl, hok⟩ := tsk_shape ha
  exact ssame_law t hok
end Go.Proofs.Ytbciabkniljjgaa
