/-
  The walk over a source's step (the program's).
-/
import Derived.Test.YtjeehkdepoiegaaGreatStpW
namespace Go.Proofs.YtjeehkdepoiegaaGreat
open Go.AL Go.RowKit
set_option linter.unusedSimpArgs false
set_option linter.unusedVariables false
set_option maxRecDepth 10000
set_option maxHeartbeats 8000000
theorem tsk_tail {t : Tsk} {e : Ev} {es : List Ev} (h : tskE t = 0) (he : t.evs = e :: es) : tskE { t with evs := es } = 0 ∧ okE e = true := by
  have hg := (goodT_few h).1
  obtain ⟨kd, n, tn, pe, mk, st, ev, rw_, lt⟩ := t
  simp only at he
  subst he
  unfold goodT at hg
  simp only [Bool.and_eq_true, decide_eq_true_eq] at hg
  obtain ⟨a1, a2, a3, a4, a5, a6, a7⟩ := hg
  unfold listsB at a6
  simp only [Bool.and_eq_true, allL_all, List.all_cons] at a6
  obtain ⟨b1, ⟨b2, b3⟩, b4, b5⟩ := a6
  refine ⟨?_, b2⟩
  unfold keptB at a3
  have a3 := of_decide_eq_true a3
  simp only [List.length_cons] at a3
  have hk : keptB ⟨kd, n, tn, pe, mk, st, es, rw_, lt⟩ = true := by
    refine decide_eq_true ?_
    rcases a3 with c | c | c | c | c | c | c
    · exact .inl ⟨c.1, c.2.1, c.2.2.1, Nat.le_of_succ_le c.2.2.2.1, c.2.2.2.2.1, c.2.2.2.2.2⟩
    · exact absurd c.2.2.2.1 (Nat.succ_ne_zero _)
    · exact absurd c.2.2.2.1 (Nat.succ_ne_zero _)
    · exact absurd c.2.2.2.1 (Nat.succ_ne_zero _)
    · exact absurd c.2.2.1 (Nat.succ_ne_zero _)
    · exact absurd c.2.2.2.1 (Nat.succ_ne_zero _)
    · exact absurd c.2.2.2.1 (Nat.succ_ne_zero _)
  have hl : listsB ⟨kd, n, tn, pe, mk, st, es, rw_, lt⟩ = true := by
    unfold listsB
    simp only [Bool.and_eq_true, allL_all]
    exact ⟨b1, b3, b4, b5⟩
  have : goodT ⟨kd, n, tn, pe, mk, st, es, rw_, lt⟩ = true := by
    unfold goodT
    simp only [Bool.and_eq_true, decide_eq_true_eq]
    exact ⟨a1, a2, hk, a4, a5, hl, a7⟩
  unfold tskE
  rw [if_pos this]
theorem send_told {e : Ev} (h : okE e = true) : sendB ⟨0, told e⟩ = true := by
  obtain ⟨y1, y2, y3, y4, y5⟩ := e
  unfold okE at h
  unfold sendB told validM
  cases y1 <;> simp at h ⊢
  · exact h.2
  · exact h.1
def dd9 : Nat → List (List Nat)
  | 0 => [[], [0], [], [3]]
  | 1 => [[], [], [9], [10]]
  | 2 => [[], [], [11]]
  | 3 => [[1, 12], [], [4], [13], [14]]
  | 4 => [[4, 12], [], [15], [16], [17]]
  | 5 => [[], [], [19], [20], [21], [22]]
  | 6 => [[1, 5, 18], [], [23], []]
  | 7 => [[18], [], [25], [26]]
  | 8 => [[1, 5, 24], [], [27], []]
  | 9 => [[24], [], [29], [30], [31], [32], [33], [], [28], [], [34], [7, 35]]
  | 10 => [[], [], [36], [37], [38]]
  | 11 => [[], [8], [], [5], [39, 40, 41], [], [42, 43]]
  | 12 => [[], [1], [6], [45], [46], [44, 47], [], [48], [49], [50]]
  | _ => []
theorem step_c (t : Tsk) (hok : t.ok) : ACall Tryz.prog 9 [.agg t.cells] (.tup [.agg (stepT t).cells, .lit (.int .i64 (stepE t))]) := by
  have hAk := asked_c t hok
  by_cases hg : stepE t = 0
  · have hall : askE t = 0 ∧ t.pend = [] ∧ ∃ e es, t.evs = e :: es := by
      unfold stepE at hg
      split at hg
      · omega
      · split at hg
        · omega
        · split at hg
          · omega
          · rename_i g1 g2 g3
            refine ⟨Classical.not_not.1 g1, List.eq_nil_of_length_eq_zero (by omega), ?_⟩
            cases hev : t.evs with
            | nil => rw [hev] at g3; exact absurd rfl g3
            | cons e es => exact ⟨e, es, rfl⟩
    obtain ⟨h1, h2, e, es, h3⟩ := hall
    obtain ⟨q1, q2⟩ := tsk_tail (askE_0 h1).1 h3
    obtain ⟨_, hf, _⟩ := goodT_few (askE_0 h1).1
    have hev : t.evs.length ≤ 4100 := by obtain ⟨f1, f2, f3, f4, f5, f6⟩ := hf; exact f4
    have hCl := cloneEvt_c t.evs hev
    have hPd := pend_c { t with evs := es } [⟨0, told e⟩] (goodT_few q1).2.1.ok (by simp [maxLen])
    have hE0 : pendE { t with evs := es } [⟨0, told e⟩] = 0 := by
      unfold pendE
      rw [if_neg (fun h => h q1), if_neg (by simp [allL_all, send_told q2]), if_neg (by simp [h2])]
    have hT0 : pendT { t with evs := es } [⟨0, told e⟩] = { t with pend := [⟨0, told e⟩], evs := es } := by
      unfold pendT
      rw [if_pos hE0]
      simp [h2]
    rw [hE0, hT0] at hPd
    have hOf := of_c e
    rw [told_ok q2] at hOf
    have hT : stepT t = { t with pend := [⟨0, told e⟩], evs := es } := by unfold stepT; rw [if_pos hg, h3]; rfl
    rw [hT, hg]
    rw [h1] at hAk
    rw [h3] at hev
    simp only [List.length_cons] at hev
    clear hT hg h1 hok q1 q2 hf hE0 hT0
    obtain ⟨kd, n, tn, pe, mk, st, ev, rw_, lt⟩ := t
    simp only at h2 h3 hCl hPd
    subst h2 h3
    generalize told e = x at *
    generalize errE e = er at *
    obtain ⟨mkd, mkk, mrt, mvv, mtt, p1, p2, p3, p4, p5⟩ := x
    obtain ⟨y1, y2, y3, y4, y5⟩ := e
    unfold Tsk.cells sndsV mksV entsV evsV rowsV rcdsV at hAk hPd ⊢
    simp only [List.map_cons, List.map_nil, List.length_cons, Snd.cells, Msg.cells, Ev.cells] at hAk hCl hPd hOf ⊢
    have htk : List.take (((es.length + 1 : Nat) : Int).toNat - 1) (es.map Ev.cells) = es.map Ev.cells := List.take_of_length_le (by simp)
    refine acall_of (n := 51) (rs := [.cell 2 39, .tmp 3]) Tryz.func9 rfl (by kernel_rfl) rfl rfl rfl ?_; simp only [argsE, Nat.reduceAdd]
    repeat (any_goals (first | (refine aops_cons (fun K' h' => ?_); simp only [go_sem, Nat.reduceLT, Nat.reduceLeDiff, Nat.reduceEqDiff, reduceIte, Nat.reduceAdd, Nat.reduceMul, Nat.reduceSub, Int.reduceLT, Int.reduceLE, Int.reduceToNat, Int.reduceNeg, reduceCtorEq, htk]; (try ((first | refine ⟨_, hAk, ?_⟩ | refine ⟨_, hOf, ?_⟩ | refine ⟨_, hCl, ?_⟩); (try simp only [go_sem, Nat.reduceLT, Nat.reduceLeDiff, Nat.reduceEqDiff, reduceIte, Nat.reduceAdd, Nat.reduceMul, Nat.reduceSub, Int.reduceLT, Int.reduceLE, Int.reduceToNat, Int.reduceNeg, reduceCtorEq, htk]))); (try simp (disch := omega) only [wrap_id, getD_map_in, Int.toNat_natCast, htk]); (repeat (refine And.intro (by (omega)) ?_)); refine h' _ ?_; clear h' K') | (refine aops_nil (hK _ ?_); clear hK K gs; try simp only [aThen, aBlock]) | (refine aops_consF [] (fun K' h' => ?_); simp only [go_sem, Nat.reduceLT, Nat.reduceLeDiff, Nat.reduceEqDiff, reduceIte, Nat.reduceAdd, Nat.reduceMul, Nat.reduceSub, Int.reduceLT, Int.reduceLE, Int.reduceToNat, Int.reduceNeg, reduceCtorEq, htk]; refine ⟨_, hPd, ?_⟩; (try simp only [go_sem, Nat.reduceLT, Nat.reduceLeDiff, Nat.reduceEqDiff, reduceIte, Nat.reduceAdd, Nat.reduceMul, Nat.reduceSub, Int.reduceLT, Int.reduceLE, Int.reduceToNat, Int.reduceNeg, reduceCtorEq, htk]); (repeat (refine And.intro (by (omega)) ?_)); refine h' _ ?_; clear h' K') | (refine AWp.sreg  dd9 rfl (fun gs K hgs hK => ?_); clear hgs) | refine AWp.seq ?_ | refine AWp.block ?_ | (refine AWp.ret ?_; try simp only [aThen, aBlock]) | (refine AWp.skip ?_; try simp only [aThen, aBlock]) | (refine AWp.cond rfl (fun h => ?_) (fun h => ?_) <;> (try simp only [decide_eq_true_eq, decide_eq_false_iff_not, beq_iff_eq, bne_iff_ne, ne_eq, Bool.not_eq_true', Bool.not_eq_false', beq_eq_false_iff_ne, Bool.true_eq_false, Bool.false_eq_true, Int.not_le, Int.not_lt, Bool.and_eq_true, Bool.and_eq_false_iff, Bool.or_eq_true, Bool.or_eq_false_iff, bne_eq_false_iff_eq, reduceCtorEq] at h) <;> (try first | contradiction | (exfalso; omega)))))
    all_goals simp only [Out, outA, outL, resA, go_sem, Nat.reduceLT, Nat.reduceLeDiff, Nat.reduceEqDiff, reduceIte, Nat.reduceAdd, Nat.reduceMul, Nat.reduceSub, Int.reduceLT, Int.reduceLE, Int.reduceToNat, Int.reduceNeg, reduceCtorEq]
    all_goals exact AVle.refl _
  · have hT : stepT t = zeroT := by unfold stepT; rw [if_neg hg]
    rw [hT]
    clear hT
    obtain ⟨R, hR⟩ : ∃ R, R = AV.tup [.agg zeroT.cells, .lit (.int .i64 (stepE t))] := ⟨_, rfl⟩
    have hE : stepE t = if askE t ≠ 0 then askE t else if 0 < t.pend.length then 18 else if t.evs.length = 0 then 6 else 0 := rfl
    rw [← hR]
    have hnz : askE t = 0 → t.pend.length = 0 → t.evs.length = 0 := by
      intro z1 z2
      rw [if_neg (by omega), if_neg (by omega)] at hE
      split at hE
      · assumption
      · exact absurd hE hg
    generalize stepE t = se at *
    generalize askE t = ae at *
    clear hok
    obtain ⟨kd, n, tn, pe, mk, st, ev, rw_, lt⟩ := t
    unfold Tsk.cells sndsV mksV entsV evsV rowsV rcdsV at hAk ⊢
    simp only at hAk hE hnz ⊢
    refine acall_of (n := 51) (rs := [.cell 2 39, .tmp 3]) Tryz.func9 rfl (by kernel_rfl) rfl rfl rfl ?_; simp only [argsE, Nat.reduceAdd]
    repeat (any_goals (first | (refine aops_cons (fun K' h' => ?_); simp only [go_sem, Nat.reduceLT, Nat.reduceLeDiff, Nat.reduceEqDiff, reduceIte, Nat.reduceAdd, Nat.reduceMul, Nat.reduceSub, Int.reduceLT, Int.reduceLE, Int.reduceToNat, Int.reduceNeg, reduceCtorEq]; (try ((refine ⟨_, hAk, ?_⟩); (try simp only [go_sem, Nat.reduceLT, Nat.reduceLeDiff, Nat.reduceEqDiff, reduceIte, Nat.reduceAdd, Nat.reduceMul, Nat.reduceSub, Int.reduceLT, Int.reduceLE, Int.reduceToNat, Int.reduceNeg, reduceCtorEq]))); (try simp (disch := omega) only [wrap_id, getD_map_in, Int.toNat_natCast]); (repeat (refine And.intro (by (omega)) ?_)); refine h' _ ?_; clear h' K') | (refine aops_nil (hK _ ?_); clear hK K gs; try simp only [aThen, aBlock]) | (refine AWp.sreg  dd9 rfl (fun gs K hgs hK => ?_); clear hgs) | refine AWp.seq ?_ | refine AWp.block ?_ | (refine AWp.ret ?_; try simp only [aThen, aBlock]) | (refine AWp.skip ?_; try simp only [aThen, aBlock]) | (refine AWp.cond rfl (fun h => ?_) (fun h => ?_) <;> (try simp only [decide_eq_true_eq, decide_eq_false_iff_not, beq_iff_eq, bne_iff_ne, ne_eq, Bool.not_eq_true', Bool.not_eq_false', beq_eq_false_iff_ne, Bool.true_eq_false, Bool.false_eq_true, Int.not_le, Int.not_lt, Bool.and_eq_true, Bool.and_eq_false_iff, Bool.or_eq_true, Bool.or_eq_false_iff, bne_eq_false_iff_eq, reduceCtorEq] at h) <;> (try first | (exfalso; omega)))))
    all_goals first
      | (exfalso; omega)
      | skip
    all_goals simp only [Out, outA, outL, resA, go_sem, Nat.reduceLT, Nat.reduceLeDiff, Nat.reduceEqDiff, reduceIte, Nat.reduceAdd, Nat.reduceMul, Nat.reduceSub, Int.reduceLT, Int.reduceLE, Int.reduceToNat, Int.reduceNeg, reduceCtorEq]
    all_goals rw [hR]
    · rw [if_pos h] at hE
      rw [hE]
      exact AVle.tup ⟨zeroT_le, AVle.refl _, trivial⟩
    · rw [if_neg (by omega), if_pos (by omega)] at hE
      rw [hE]
      exact AVle.tup ⟨zeroT_le, AVle.refl _, trivial⟩
    · rw [if_neg (by omega), if_neg (by omega), if_pos (by omega)] at hE
      rw [hE]
      exact AVle.tup ⟨zeroT_le, AVle.refl _, trivial⟩
end Go.Proofs.YtjeehkdepoiegaaGreat
