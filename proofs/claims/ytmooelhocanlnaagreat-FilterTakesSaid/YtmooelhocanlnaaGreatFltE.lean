/-
  The walk over a filter's Take, with its errors.
-/
import Derived.Test.YtmooelhocanlnaaGreatFltW2
namespace Go.Proofs.YtmooelhocanlnaaGreat
open Go.AL Go.RowKit
set_option linter.unusedSimpArgs false
set_option linter.unusedVariables false
set_option maxRecDepth 10000
set_option maxHeartbeats 8000000
theorem carrF_no {m : Msg} (h : carrF m = false) : errM m = 8 ∨ (errM m = 0 ∧ m.kind ≠ 1 ∧ m.kind ≠ 2) := by
  unfold errM
  cases hv : validM m
  · exact .inl rfl
  · refine .inr ⟨rfl, fun g => ?_, fun g => ?_⟩
    · unfold carrF at h; rw [hv, g] at h; simp at h
    · unfold carrF at h; rw [hv, g] at h; simp at h
theorem carrF_yes {m : Msg} (h : carrF m = true) : errM m = 0 ∧ (m.kind = 1 ∨ m.kind = 2) := by
  obtain ⟨hv, hk⟩ := carrF_valid h
  exact ⟨by unfold errM; rw [if_pos hv], hk⟩
theorem tkE_good {q : Qry} {t : Tsk} {m : Msg} (h : tkE q t m = 0) : accE q = 0 ∧ tskE t = 0 ∧ t.kind = 2 ∧ carrF m = true ∧ t.pend = [] := by
  unfold tkE at h
  split at h
  · exact absurd h (by decide)
  · rename_i g1
    split at h
    · rename_i g2; exact absurd h g2
    · rename_i g2
      split at h
      · exact absurd h (by decide)
      · rename_i g3
        split at h
        · exact absurd h (by decide)
        · rename_i g4
          split at h
          · exact absurd h (by decide)
          · rename_i g5
            exact ⟨Classical.not_not.1 g1, Classical.not_not.1 g2, Classical.not_not.1 g3, by simpa using g4, List.eq_nil_of_length_eq_zero (by omega)⟩
theorem tk_shape {t : Tsk} (h1 : tskE t = 0) (h2 : t.kind = 2) (h3 : t.pend = []) : ∃ mk, t = ⟨2, t.n, t.turn, [], [mk], [], [], [], []⟩ := by
  obtain ⟨mk, e1, e2, e3, e4, e5⟩ := goodT_filt h1 h2
  obtain ⟨kd, n, tn, pe, mks, st, ev, rw_, lt⟩ := t
  simp only at *
  subst e1 e2 e3 e4 e5 h2 h3
  exact ⟨mk, rfl⟩
theorem takeF_c (q : Qry) (t : Tsk) (m : Msg) (hq : q.fit) (hok : t.ok) (hr : m.rcd.B) : ACall Tryz.prog 7 [.agg q.cells, .agg t.cells, .agg m.cells] (.tup [.agg (tkT q t m).cells, .lit (.int .i64 (tkE q t m))]) := by
  by_cases hgood : tkE q t m = 0
  · obtain ⟨a1, a2, a3, a4, a5⟩ := tkE_good hgood
    obtain ⟨mk, e⟩ := tk_shape a2 a3 a5
    have hT : tkT q t m = ⟨2, t.n, t.turn, fouts q mk m, [fmark mk m], [], [], [], []⟩ := by
      unfold tkT
      rw [if_pos hgood, e]
      rfl
    rw [hT, hgood]
    rw [e] at a2
    have := takeF_good q t.n t.turn mk m hq hr a1 a2 a4
    rw [← e] at this
    exact this
  · have hT : tkT q t m = zeroT := by unfold tkT; rw [if_neg hgood]
    have hE : tkE q t m = if accE q ≠ 0 then 8 else if tskE t ≠ 0 then tskE t else if t.kind ≠ 2 then 2 else if carrF m = false then 8 else if 0 < t.pend.length then 18 else 0 := rfl
    have hAc := accepted_c q hq
    have hCk := tCheck_c t hok
    have hM := mCheck_c m
    have hcr : (carrF m = false ∧ (errM m = 8 ∨ (errM m = 0 ∧ m.kind ≠ 1 ∧ m.kind ≠ 2))) ∨ (carrF m = true ∧ errM m = 0 ∧ (m.kind = 1 ∨ m.kind = 2)) := by
      cases hc : carrF m
      · exact .inl ⟨rfl, carrF_no hc⟩
      · exact .inr ⟨rfl, carrF_yes hc⟩
    have hz := zeroT_le
    rw [hT]
    clear hT hq hr
    obtain ⟨R, hR⟩ : ∃ R, R = AV.tup [.agg zeroT.cells, .lit (.int .i64 (tkE q t m))] := ⟨_, rfl⟩
    rw [← hR]
    generalize tkE q t m = te at *
    generalize accE q = ac at *
    generalize tskE t = ts at *
    generalize errM m = em at *
    generalize carrF m = cm at *
    generalize zeroT = zt at *
    obtain ⟨h1, -, -, -, -, -⟩ := hok
    obtain ⟨ag, ar, sr, jn, wh, ⟨kd, sz, ev⟩, bk, lt⟩ := q
    obtain ⟨tk, n, tn, pe, mks, st, evs, rw_, lat⟩ := t
    obtain ⟨kdm, k, rt, v, tt, r1, r2, r3, r4, r5⟩ := m
    unfold maxLen at h1
    unfold Qry.cells Msg.cells nodesV intsV at *
    rw [show (Tsk.mk tk n tn pe mks st evs rw_ lat).cells = [.lit (.int .u8 tk), .lit (.int .i64 n), .lit (.int .i64 tn), .ro 11 (pe.map Snd.cells), .ro 1 (mks.map intC), .ro 11 (st.map Ent.cells), .ro 5 (evs.map Ev.cells), .ro 5 (rw_.map RowT.cells), .ro 3 (lat.map Rcd.cells)] from rfl] at *
    simp only at *
    obtain ⟨db, hdb⟩ : ∃ b, decide (ac = 0) = b := ⟨_, rfl⟩
    rw [hdb] at hAc
    have key : (db = false ∧ te = 8) ∨ (db = true ∧ ts ≠ 0 ∧ te = ts) ∨ (db = true ∧ ts = 0 ∧ tk ≠ 2 ∧ te = 2) ∨ (db = true ∧ ts = 0 ∧ tk = 2 ∧ cm = false ∧ te = 8) ∨ (db = true ∧ ts = 0 ∧ tk = 2 ∧ cm = true ∧ 0 < pe.length ∧ te = 18) := by
      rw [← hdb]
      by_cases c1 : ac = 0
      · rw [if_neg (fun h => h c1)] at hE
        by_cases c2 : ts = 0
        · rw [if_neg (fun h => h c2)] at hE
          by_cases c3 : tk = 2
          · rw [if_neg (fun h => h c3)] at hE
            cases cm
            · rw [if_pos rfl] at hE
              exact .inr (.inr (.inr (.inl ⟨decide_eq_true c1, c2, c3, rfl, hE⟩)))
            · rw [if_neg (by simp)] at hE
              have hp : 0 < pe.length := by
                split at hE
                · assumption
                · exact absurd hE hgood
              rw [if_pos hp] at hE
              exact .inr (.inr (.inr (.inr ⟨decide_eq_true c1, c2, c3, rfl, hp, hE⟩)))
          · rw [if_pos c3] at hE
            exact .inr (.inr (.inl ⟨decide_eq_true c1, c2, c3, hE⟩))
        · rw [if_pos c2] at hE
          exact .inr (.inl ⟨decide_eq_true c1, c2, hE⟩)
      · rw [if_pos c1] at hE
        exact .inl ⟨decide_eq_false c1, hE⟩
    clear hE hdb
    rcases key with ⟨rfl, rfl⟩ | ⟨rfl, c2, rfl⟩ | ⟨rfl, rfl, c3, rfl⟩ | ⟨rfl, rfl, rfl, rfl, rfl⟩ | ⟨rfl, rfl, rfl, rfl, hp, rfl⟩
    all_goals rcases hcr with ⟨q1, rfl | ⟨rfl, hc1, hc2⟩⟩ | ⟨q1, rfl, rfl | rfl⟩
    all_goals try (cases q1; done)
    all_goals
      refine acall_of (n := 124) (rs := [.cell 6 37, .tmp 7]) Tryz.func7 rfl (by kernel_rfl) rfl rfl rfl ?_; simp only [argsE, Nat.reduceAdd]
    repeat (any_goals (first | (refine aops_cons (fun K' h' => ?_); simp only [go_sem, Nat.reduceLT, Nat.reduceLeDiff, Nat.reduceEqDiff, reduceIte, Nat.reduceAdd, Nat.reduceMul, Nat.reduceSub, Int.reduceLT, Int.reduceLE, Int.reduceToNat, Int.reduceNeg, reduceCtorEq, hgs, aopG, bne_self_eq_false, Bool.not_false, beq_self_eq_true]; (try ((first | refine ⟨_, hAc, ?_⟩ | refine ⟨_, fun _ => hAc, ?_⟩ | refine ⟨_, hCk, ?_⟩ | refine ⟨_, fun _ => hCk, ?_⟩ | refine ⟨_, hM, ?_⟩ | refine ⟨_, fun _ => hM, ?_⟩); (try simp only [go_sem, Nat.reduceLT, Nat.reduceLeDiff, Nat.reduceEqDiff, reduceIte, Nat.reduceAdd, Nat.reduceMul, Nat.reduceSub, Int.reduceLT, Int.reduceLE, Int.reduceToNat, Int.reduceNeg, reduceCtorEq, hgs, aopG, bne_self_eq_false, Bool.not_false, beq_self_eq_true]))); (try simp (disch := omega) only [wrap_id, getD_map_in, Int.toNat_natCast, aopG, bne_self_eq_false, Bool.not_false, beq_self_eq_true]); (repeat (refine And.intro (by (first | omega | (simp; done) | (simp; omega) | assumption)) ?_)); refine h' _ ?_; clear h' K') | (refine aops_nil (hK _ ?_); clear hK K hgs gs; try simp only [aThen, aBlock]) | ((first | refine AWp.sreg (id := 8) dd7 rfl (fun gs K hgs hK => ?_) | refine AWp.reg (id := 8) dd7 rfl (fun gs K hgs hK => ?_)); replace hgs : gs 3 = some 33 ∧ gs 7 = some 37 := ⟨hgs 3, hgs 7⟩) | (refine AWp.sreg  dd7 rfl (fun gs K hgs hK => ?_); replace hgs : Nat.succ 0 = 1 := rfl) | refine AWp.seq ?_ | refine ARounds.step ?_ | refine AWp.block ?_ | refine AWp.label ?_ | (refine AWp.ret ?_; try simp only [aThen, aBlock]) | (refine AWp.skip ?_; try simp only [aThen, aBlock]) | (refine AWp.exit ?_; try simp only [aThen, aBlock, Nat.reduceEqDiff, reduceIte]) | (refine AWp.reg  dd7 rfl (fun gs K hgs hK => ?_); replace hgs : Nat.succ 0 = 1 := rfl) | (refine aops_consG (fun K' h' => ?_); simp only [go_sem, Nat.reduceLT, Nat.reduceLeDiff, Nat.reduceEqDiff, reduceIte, Nat.reduceAdd, Nat.reduceMul, Nat.reduceSub, Int.reduceLT, Int.reduceLE, Int.reduceToNat, Int.reduceNeg, reduceCtorEq, hgs, aopG, bne_self_eq_false, Bool.not_false, beq_self_eq_true]; (try simp (disch := omega) only [wrap_id, getD_map_in, Int.toNat_natCast, aopG, bne_self_eq_false, Bool.not_false, beq_self_eq_true]); (repeat (refine And.intro (by (first | omega | (simp; done) | (simp; omega) | assumption)) ?_)); refine h' _ ?_; clear h' K') | (refine AWp.cond rfl (fun h => ?_) (fun h => ?_) <;> (try simp only [decide_eq_true_eq, decide_eq_false_iff_not, beq_iff_eq, bne_iff_ne, ne_eq, Bool.not_eq_true', Bool.not_eq_false', beq_eq_false_iff_ne, Bool.true_eq_false, Bool.false_eq_true, Int.not_le, Int.not_lt, Bool.and_eq_true, Bool.and_eq_false_iff, Bool.or_eq_true, Bool.or_eq_false_iff, bne_eq_false_iff_eq, reduceCtorEq] at h) <;> (try first | contradiction | (exfalso; omega) | (exfalso; revert h; simp; done) | (exfalso; revert h; simp; omega)))))
    all_goals first
      | (exfalso; omega)
      | (simp only [Out, outA, outL, resA, go_sem, Nat.reduceLT, Nat.reduceLeDiff, Nat.reduceEqDiff, reduceIte, Nat.reduceAdd, Nat.reduceMul, Nat.reduceSub, Int.reduceLT, Int.reduceLE, Int.reduceToNat, Int.reduceNeg, reduceCtorEq]
         rw [hR]
         exact AVle.tup ⟨hz, AVle.refl _, trivial⟩)
end Go.Proofs.YtmooelhocanlnaaGreat
