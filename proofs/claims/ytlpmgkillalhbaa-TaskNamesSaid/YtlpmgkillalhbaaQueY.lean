/-
  The walks over tasks and queues: whether a task is enabled, its turn.
-/
import Derived.Test.YtlpmgkillalhbaaQueX
namespace Go.Proofs.Ytlpmgkillalhbaa
open Go.AL Go.RowKit
set_option linter.unusedSimpArgs false
set_option linter.unusedVariables false
set_option maxRecDepth 10000
set_option maxHeartbeats 8000000

theorem firstQ_lt {turn : Int} {ins : List Que} : firstQ turn ins < (ins.length : Int) := by
  unfold firstQ
  rcases firstIx_spec (if (ins.length : Int) ≤ turn then 0 else turn.toNat) ins ins.length 0 with ⟨h1, _⟩ | ⟨j, _, h2, _, _, h5⟩
  · rw [h1]
    omega
  · rw [h5]
    have : firstAt (if (ins.length : Int) ≤ turn then 0 else turn.toNat) ins j < ins.length := Nat.mod_lt _ (by omega)
    omega
theorem goodT_turn {t : Tsk} (h : tskE t = 0) : 0 ≤ t.turn ∧ t.turn < 20 ∧ ∀ s ∈ t.pend, 0 ≤ s.out ∧ s.out < 3 ∧ validM s.m = true := by
  have hg : goodT t = true := by
    unfold tskE at h
    split at h
    · assumption
    · cases h
  unfold goodT numsB at hg
  simp only [Bool.and_eq_true, decide_eq_true_eq] at hg
  refine ⟨hg.1.1, hg.1.2.1, fun s hs => ?_⟩
  have := hg.2.2.2.1
  rw [allL_all, List.all_eq_true] at this
  have := this s hs
  unfold sendB at this
  simp only [Bool.and_eq_true, decide_eq_true_eq] at this
  exact ⟨this.1.1, this.1.2, this.2⟩
theorem outsB_allN (t : Tsk) (outs : List Que) : outsB t outs = allN t.pend.length fun k => decide ((t.pend.getD k default).out < (outs.length : Int)) := by
  unfold outsB
  rw [← allL_all]
  rfl

theorem ableB_cons {t : Tsk} {ins outs : List Que} {s : Snd} {l : List Snd} (h : t.pend = s :: l) : ableB t ins outs = roomB (outs.getD s.out.toNat default) := by
  unfold ableB
  rw [h]
theorem ableB_nil {t : Tsk} {ins outs : List Que} (h : t.pend = []) : ableB t ins outs = if t.kind = 1 then decide (0 < t.evs.length) else decide (0 ≤ firstQ 0 ins) := by
  unfold ableB
  rw [h]
theorem getQ_mem {l : List Que} {k : Nat} (h : k < l.length) : l.getD k default ∈ l := by
  rw [List.getD_eq_getElem?_getD, List.getElem?_eq_getElem h]
  exact List.getElem_mem _
def dd13 : Nat → List (List Nat)
  | 0 => [[], [0], [6], [7]]
  | 1 => [[], [], [], [], [13, 14, 15], [16]]
  | 2 => [[], [], [17]]
  | 3 => [[1, 2, 3, 18], [8], [], [19]]
  | 4 => [[8, 18], [], [20], [], []]
  | 5 => [[], []]
  | 6 => [[24], [], [25], [], [26]]
  | 7 => [[], [10], [27], [], [29], [28, 30]]
  | 8 => [[1, 2, 3, 21, 22, 23, 31], [], []]
  | 9 => [[31], [23], [32]]
  | 10 => [[21, 22, 23, 24], [], [34], [35], [36], [37]]
  | 11 => [[1, 33], [2], [3], [40], [41], [42], [43], [39, 44], [45], [46], [47], [], [38], [48], [12, 49]]
  | 12 => [[], [11], [50], [51], []]
  | 13 => [[2, 33], [], [53], [54], [55], [56]]
  | 14 => [[1, 52], [3], [57], [58], [59], [60], []]
  | 15 => [[3, 52], [1], [61], [62], [63], []]
  | _ => []
theorem ena_c (t : Tsk) (ins outs : List Que) (hok : t.ok) (hi : ins.length ≤ maxLen) (ho : outs.length ≤ maxLen) : ACall Try.prog 13 [.agg t.cells, quesV ins, quesV outs] (.tup [.lit (.bool (enaB t ins outs)), .lit (.int .i64 (enaE t ins outs))]) := by
  have hAk := askedQ_c t ins outs hok hi ho
  by_cases h0 : askQ t ins outs = 0
  · obtain ⟨q1, q2, q3, q4, q5⟩ := askQ_0 h0
    obtain ⟨_, hf, hp⟩ := goodT_few q1
    obtain ⟨_, _, g3⟩ := goodT_turn q1
    have hoa := outsB_allN t outs
    have hFi := first_c 0 ins (by omega) q2
    have e1 : enaE t ins outs = if outsB t outs = true then 0 else 2 := by unfold enaE; rw [if_neg (by simp [h0])]
    have e2 : enaB t ins outs = if enaE t ins outs = 0 then ableB t ins outs else false := rfl
    have a1 := @ableB_cons t ins outs
    have a2 := @ableB_nil t ins outs
    have hev := hok.e
    rw [h0] at hAk
    generalize ableB t ins outs = ab at *
    generalize enaE t ins outs = ee at *
    generalize enaB t ins outs = eb at *
    generalize outsB t outs = ob at *
    generalize firstQ 0 ins = fq at *
    clear h0 hf hok q1
    obtain ⟨kd, n, tn, pe, mk, st, ev, rw_, lt⟩ := t
    unfold maxLen at hev
    simp only at hp hoa g3 a1 a2 hev
    unfold quesV at *
    unfold Tsk.cells sndsV mksV entsV evsV rowsV rcdsV at *
    simp only at hAk
    obtain ⟨B, hB⟩ : ∃ B : List AV, B = [.lit (.int .u8 kd), .lit (.int .i64 n), .lit (.int .i64 tn), .ro 11 (pe.map Snd.cells), .ro 1 (mk.map intC), .ro 11 (st.map Ent.cells), .ro 5 (ev.map Ev.cells), .ro 5 (rw_.map RowT.cells), .ro 3 (lt.map Rcd.cells)] := ⟨_, rfl⟩
    refine acall_of (n := 64) (rs := [.tmp 6, .tmp 7]) Try.func13 rfl (by kernel_rfl) rfl rfl rfl ?_; simp only [argsE, Nat.reduceAdd]
    repeat (any_goals (first | (refine aops_cons (fun K' h' => ?_); simp only [go_sem, Nat.reduceLT, Nat.reduceLeDiff, Nat.reduceEqDiff, reduceIte, Nat.reduceAdd, Nat.reduceMul, Nat.reduceSub, Int.reduceLT, Int.reduceLE, Int.reduceToNat, Int.reduceNeg, reduceCtorEq, Que.cells]; (try ((first | refine ⟨_, hAk, ?_⟩ | refine ⟨_, fun _ => hAk, ?_⟩ | refine ⟨_, hFi, ?_⟩ | refine ⟨_, fun _ => hFi, ?_⟩ | refine ⟨_, hLe, ?_⟩ | refine ⟨_, fun _ => hLe, ?_⟩); (try simp only [go_sem, Nat.reduceLT, Nat.reduceLeDiff, Nat.reduceEqDiff, reduceIte, Nat.reduceAdd, Nat.reduceMul, Nat.reduceSub, Int.reduceLT, Int.reduceLE, Int.reduceToNat, Int.reduceNeg, reduceCtorEq, Que.cells]))); (try simp (disch := omega) only [wrap_id, getD_map_in, Int.toNat_natCast, Que.cells]); (repeat (refine And.intro (by (first | omega | (simp; done) | (simp; omega) | assumption)) ?_)); refine h' _ ?_; clear h' K') | (refine aops_nil (hK _ ?_); clear hK K gs; try simp only [aThen, aBlock]) | (refine AWp.sreg  dd13 rfl (fun gs K hgs hK => ?_); clear hgs) | refine AWp.seq ?_ | refine ARounds.step ?_ | refine AWp.block ?_ | refine AWp.label ?_ | (refine AWp.ret ?_; try simp only [aThen, aBlock]) | (refine AWp.skip ?_; try simp only [aThen, aBlock]) | (refine AWp.exit ?_; try simp only [aThen, aBlock, Nat.reduceEqDiff, reduceIte]) | (refine AWp.reg  dd13 rfl (fun gs K hgs hK => ?_); clear hgs) | (refine AWp.cond rfl (fun h => ?_) (fun h => ?_) <;> (try simp only [decide_eq_true_eq, decide_eq_false_iff_not, beq_iff_eq, bne_iff_ne, ne_eq, Bool.not_eq_true', Bool.not_eq_false', beq_eq_false_iff_ne, Bool.true_eq_false, Bool.false_eq_true, Int.not_le, Int.not_lt, Bool.and_eq_true, Bool.and_eq_false_iff, Bool.or_eq_true, Bool.or_eq_false_iff, bne_eq_false_iff_eq, reduceCtorEq] at h) <;> (try first | contradiction | (exfalso; omega) | (exfalso; revert h; simp; done) | (exfalso; revert h; simp; omega)))))
    refine AWp.loopN pe.length (fun k => (pe.getD k default).out < (outs.length : Int)) (fun k => ⟨[(1, .ro 2 (ins.map Que.cells)), (2, .ro 2 (outs.map Que.cells)), (3, .bp 0 0), (21, .ro 11 (pe.map Snd.cells)), (22, .lit (.int .i64 (pe.length : Int))), (23, .lit (.int .i64 (k : Int)))], [B], []⟩) ?_ ?_
    · subst hB
      refine Wk.of rfl rfl ?_
      simp [subE, eget, ASt.drop, dropE, keepR, lowE, AV.lowB, lowL, Nat.blt, Nat.ble]
    · intro k hk hall
      subst hB
      repeat ((first | (refine aops_cons (fun K' h' => ?_); simp only [go_sem, Nat.reduceLT, Nat.reduceLeDiff, Nat.reduceEqDiff, reduceIte, Nat.reduceAdd, Nat.reduceMul, Nat.reduceSub, Int.reduceLT, Int.reduceLE, Int.reduceToNat, Int.reduceNeg, reduceCtorEq, Que.cells]; (try ((first | refine ⟨_, hAk, ?_⟩ | refine ⟨_, fun _ => hAk, ?_⟩ | refine ⟨_, hFi, ?_⟩ | refine ⟨_, fun _ => hFi, ?_⟩ | refine ⟨_, hLe, ?_⟩ | refine ⟨_, fun _ => hLe, ?_⟩); (try simp only [go_sem, Nat.reduceLT, Nat.reduceLeDiff, Nat.reduceEqDiff, reduceIte, Nat.reduceAdd, Nat.reduceMul, Nat.reduceSub, Int.reduceLT, Int.reduceLE, Int.reduceToNat, Int.reduceNeg, reduceCtorEq, Que.cells]))); (try simp (disch := omega) only [wrap_id, getD_map_in, Int.toNat_natCast, Que.cells]); (repeat (refine And.intro (by (first | omega | (simp; done) | (simp; omega) | assumption)) ?_)); refine h' _ ?_; clear h' K') | (refine aops_nil (hK _ ?_); clear hK K gs; try simp only [aThen, aBlock]) | (refine AWp.sreg  dd13 rfl (fun gs K hgs hK => ?_); clear hgs) | refine AWp.seq ?_ | refine ARounds.step ?_ | refine AWp.block ?_ | refine AWp.label ?_ | (refine AWp.ret ?_; try simp only [aThen, aBlock]) | (refine AWp.skip ?_; try simp only [aThen, aBlock]) | (refine AWp.exit ?_; try simp only [aThen, aBlock, Nat.reduceEqDiff, reduceIte]) | (refine AWp.reg  dd13 rfl (fun gs K hgs hK => ?_); clear hgs)))
      (refine AWp.cond rfl (fun h => ?_) (fun h => ?_) <;> (try simp only [decide_eq_true_eq, decide_eq_false_iff_not, beq_iff_eq, bne_iff_ne, ne_eq, Bool.not_eq_true', Bool.not_eq_false', beq_eq_false_iff_ne, Bool.true_eq_false, Bool.false_eq_true, Int.not_le, Int.not_lt, Bool.and_eq_true, Bool.and_eq_false_iff, Bool.or_eq_true, Bool.or_eq_false_iff, bne_eq_false_iff_eq, reduceCtorEq] at h) <;> (try first | contradiction | (exfalso; omega) | (exfalso; revert h; simp; done) | (exfalso; revert h; simp; omega)))
      · obtain ⟨x, hx⟩ : ∃ x, pe.getD k default = x := ⟨_, rfl⟩
        have h9 : (pe.getD k default).out < (outs.length : Int) ∨ ob = false := by
          by_cases h : (pe.getD k default).out < (outs.length : Int)
          · exact .inl h
          · refine .inr ?_
            rw [hoa]
            exact allN_false (k := k) (by omega) (by simpa using h)
        rw [hx] at h9 ⊢
        obtain ⟨o, kd', k1, rt, v, t, r1, r2, r3, r4, r5⟩ := x
        simp only at h9 ⊢
        clear hAk hoa hall a1 a2 g3 hFi q4 q5
        repeat (any_goals (first | (refine aops_cons (fun K' h' => ?_); simp only [go_sem, Nat.reduceLT, Nat.reduceLeDiff, Nat.reduceEqDiff, reduceIte, Nat.reduceAdd, Nat.reduceMul, Nat.reduceSub, Int.reduceLT, Int.reduceLE, Int.reduceToNat, Int.reduceNeg, reduceCtorEq, Que.cells, hx, Snd.cells, Msg.cells]; (try ((first | refine ⟨_, hAk, ?_⟩ | refine ⟨_, fun _ => hAk, ?_⟩ | refine ⟨_, hFi, ?_⟩ | refine ⟨_, fun _ => hFi, ?_⟩ | refine ⟨_, hLe, ?_⟩ | refine ⟨_, fun _ => hLe, ?_⟩); (try simp only [go_sem, Nat.reduceLT, Nat.reduceLeDiff, Nat.reduceEqDiff, reduceIte, Nat.reduceAdd, Nat.reduceMul, Nat.reduceSub, Int.reduceLT, Int.reduceLE, Int.reduceToNat, Int.reduceNeg, reduceCtorEq, Que.cells, hx, Snd.cells, Msg.cells]))); (try simp (disch := omega) only [wrap_id, getD_map_in, Int.toNat_natCast, Que.cells, hx, Snd.cells, Msg.cells]); (repeat (refine And.intro (by (first | omega | (simp; done) | (simp; omega) | assumption)) ?_)); refine h' _ ?_; clear h' K') | (refine aops_nil (hK _ ?_); clear hK K gs; try simp only [aThen, aBlock]) | (refine AWp.sreg  dd13 rfl (fun gs K hgs hK => ?_); clear hgs) | refine AWp.seq ?_ | refine ARounds.step ?_ | refine AWp.block ?_ | refine AWp.label ?_ | (refine AWp.ret ?_; try simp only [aThen, aBlock]) | (refine AWp.skip ?_; try simp only [aThen, aBlock]) | (refine AWp.exit ?_; try simp only [aThen, aBlock, Nat.reduceEqDiff, reduceIte]) | (refine AWp.reg  dd13 rfl (fun gs K hgs hK => ?_); clear hgs) | (refine AWp.cond rfl (fun h => ?_) (fun h => ?_) <;> (try simp only [decide_eq_true_eq, decide_eq_false_iff_not, beq_iff_eq, bne_iff_ne, ne_eq, Bool.not_eq_true', Bool.not_eq_false', beq_eq_false_iff_ne, Bool.true_eq_false, Bool.false_eq_true, Int.not_le, Int.not_lt, Bool.and_eq_true, Bool.and_eq_false_iff, Bool.or_eq_true, Bool.or_eq_false_iff, bne_eq_false_iff_eq, reduceCtorEq] at h) <;> (try first | contradiction | (exfalso; omega) | (exfalso; revert h; simp; done) | (exfalso; revert h; simp; omega)))))
        · simp only [Out, outA, outL, resA, go_sem, Nat.reduceLT, Nat.reduceLeDiff, Nat.reduceEqDiff, reduceIte, Nat.reduceAdd, Nat.reduceMul, Nat.reduceSub, Int.reduceLT, Int.reduceLE, Int.reduceToNat, Int.reduceNeg, reduceCtorEq]
          rcases h9 with h9 | h9
          · omega
          · subst h9
            simp at e1
            subst e1
            simp at e2
            subst e2
            exact AVle.refl _
        · refine ⟨by omega, by omega, Wk.ofCut 1 0 rfl rfl ?_⟩
          first
            | (simp [subE, eget, ASt.drop, dropE, keepR, lowE, AV.lowB, lowL, Nat.blt, Nat.ble]; done)
            | (simp [subE, eget, ASt.drop, dropE, keepR, lowE, AV.lowB, lowL, Nat.blt, Nat.ble]; omega)
      · have hob : ob = true := by
          rw [hoa]
          exact allN_true fun j hj => by simpa using hall j (by omega)
        subst hob
        simp at e1
        subst e1
        simp at e2
        subst e2
        have h00 := hall 0
        clear hall hoa
        cases pe with
        | nil =>
          replace a2 := a2 rfl
          clear a1 g3 h00
          simp only [List.map_nil, List.length_nil] at *
          by_cases hk1 : kd = 1
          · subst hk1
            rw [if_pos rfl] at a2
            subst a2
            repeat (any_goals (first | (refine aops_cons (fun K' h' => ?_); simp only [go_sem, Nat.reduceLT, Nat.reduceLeDiff, Nat.reduceEqDiff, reduceIte, Nat.reduceAdd, Nat.reduceMul, Nat.reduceSub, Int.reduceLT, Int.reduceLE, Int.reduceToNat, Int.reduceNeg, reduceCtorEq, Que.cells]; (try ((first | refine ⟨_, hAk, ?_⟩ | refine ⟨_, fun _ => hAk, ?_⟩ | refine ⟨_, hFi, ?_⟩ | refine ⟨_, fun _ => hFi, ?_⟩ | refine ⟨_, hLe, ?_⟩ | refine ⟨_, fun _ => hLe, ?_⟩); (try simp only [go_sem, Nat.reduceLT, Nat.reduceLeDiff, Nat.reduceEqDiff, reduceIte, Nat.reduceAdd, Nat.reduceMul, Nat.reduceSub, Int.reduceLT, Int.reduceLE, Int.reduceToNat, Int.reduceNeg, reduceCtorEq, Que.cells]))); (try simp (disch := omega) only [wrap_id, getD_map_in, Int.toNat_natCast, Que.cells]); (repeat (refine And.intro (by (first | omega | (simp; done) | (simp; omega) | assumption)) ?_)); refine h' _ ?_; clear h' K') | (refine aops_nil (hK _ ?_); clear hK K gs; try simp only [aThen, aBlock]) | (refine AWp.sreg  dd13 rfl (fun gs K hgs hK => ?_); clear hgs) | refine AWp.seq ?_ | refine ARounds.step ?_ | refine AWp.block ?_ | refine AWp.label ?_ | (refine AWp.ret ?_; try simp only [aThen, aBlock]) | (refine AWp.skip ?_; try simp only [aThen, aBlock]) | (refine AWp.exit ?_; try simp only [aThen, aBlock, Nat.reduceEqDiff, reduceIte]) | (refine AWp.reg  dd13 rfl (fun gs K hgs hK => ?_); clear hgs) | (refine AWp.cond rfl (fun h => ?_) (fun h => ?_) <;> (try simp only [decide_eq_true_eq, decide_eq_false_iff_not, beq_iff_eq, bne_iff_ne, ne_eq, Bool.not_eq_true', Bool.not_eq_false', beq_eq_false_iff_ne, Bool.true_eq_false, Bool.false_eq_true, Int.not_le, Int.not_lt, Bool.and_eq_true, Bool.and_eq_false_iff, Bool.or_eq_true, Bool.or_eq_false_iff, bne_eq_false_iff_eq, reduceCtorEq] at h) <;> (try first | contradiction | (exfalso; omega) | (exfalso; revert h; simp; done) | (exfalso; revert h; simp; omega)))))
            simp only [Out, outA, outL, resA, go_sem, Nat.reduceLT, Nat.reduceLeDiff, Nat.reduceEqDiff, reduceIte, Nat.reduceAdd, Nat.reduceMul, Nat.reduceSub, Int.reduceLT, Int.reduceLE, Int.reduceToNat, Int.reduceNeg, reduceCtorEq]
            exact AVle.of_eq (by simp)
          · rw [if_neg hk1] at a2
            subst a2
            repeat (any_goals (first | (refine aops_cons (fun K' h' => ?_); simp only [go_sem, Nat.reduceLT, Nat.reduceLeDiff, Nat.reduceEqDiff, reduceIte, Nat.reduceAdd, Nat.reduceMul, Nat.reduceSub, Int.reduceLT, Int.reduceLE, Int.reduceToNat, Int.reduceNeg, reduceCtorEq, Que.cells]; (try ((first | refine ⟨_, hAk, ?_⟩ | refine ⟨_, fun _ => hAk, ?_⟩ | refine ⟨_, hFi, ?_⟩ | refine ⟨_, fun _ => hFi, ?_⟩ | refine ⟨_, hLe, ?_⟩ | refine ⟨_, fun _ => hLe, ?_⟩); (try simp only [go_sem, Nat.reduceLT, Nat.reduceLeDiff, Nat.reduceEqDiff, reduceIte, Nat.reduceAdd, Nat.reduceMul, Nat.reduceSub, Int.reduceLT, Int.reduceLE, Int.reduceToNat, Int.reduceNeg, reduceCtorEq, Que.cells]))); (try simp (disch := omega) only [wrap_id, getD_map_in, Int.toNat_natCast, Que.cells]); (repeat (refine And.intro (by (first | omega | (simp; done) | (simp; omega) | assumption)) ?_)); refine h' _ ?_; clear h' K') | (refine aops_nil (hK _ ?_); clear hK K gs; try simp only [aThen, aBlock]) | (refine AWp.sreg  dd13 rfl (fun gs K hgs hK => ?_); clear hgs) | refine AWp.seq ?_ | refine ARounds.step ?_ | refine AWp.block ?_ | refine AWp.label ?_ | (refine AWp.ret ?_; try simp only [aThen, aBlock]) | (refine AWp.skip ?_; try simp only [aThen, aBlock]) | (refine AWp.exit ?_; try simp only [aThen, aBlock, Nat.reduceEqDiff, reduceIte]) | (refine AWp.reg  dd13 rfl (fun gs K hgs hK => ?_); clear hgs) | (refine AWp.cond rfl (fun h => ?_) (fun h => ?_) <;> (try simp only [decide_eq_true_eq, decide_eq_false_iff_not, beq_iff_eq, bne_iff_ne, ne_eq, Bool.not_eq_true', Bool.not_eq_false', beq_eq_false_iff_ne, Bool.true_eq_false, Bool.false_eq_true, Int.not_le, Int.not_lt, Bool.and_eq_true, Bool.and_eq_false_iff, Bool.or_eq_true, Bool.or_eq_false_iff, bne_eq_false_iff_eq, reduceCtorEq] at h) <;> (try first | contradiction | (exfalso; omega) | (exfalso; revert h; simp; done) | (exfalso; revert h; simp; omega)))))
            simp only [Out, outA, outL, resA, go_sem, Nat.reduceLT, Nat.reduceLeDiff, Nat.reduceEqDiff, reduceIte, Nat.reduceAdd, Nat.reduceMul, Nat.reduceSub, Int.reduceLT, Int.reduceLE, Int.reduceToNat, Int.reduceNeg, reduceCtorEq]
            exact AVle.of_eq (by simp)
        | cons s l =>
          replace a1 := a1 rfl
          obtain ⟨p1, p2, _⟩ := g3 s (by simp)
          replace h00 : s.out < (outs.length : Int) := by simpa using h00 (by simp only [List.length_cons] at *; omega)
          clear g3 a2 hFi
          have hgx := q5 (outs.getD s.out.toNat default) (getQ_mem (by omega))
          obtain ⟨x, hx⟩ : ∃ x, outs.getD s.out.toNat default = x := ⟨_, rfl⟩
          rw [hx] at a1 hgx
          have hLe := left_c x
          have hqx : queE x = 0 := by unfold queE; rw [if_pos hgx]
          have hlf : leftI x = x.room - x.list.length := by unfold leftI; rw [if_pos hqx]
          rw [hqx, hlf] at hLe
          clear hqx hlf hgx q4 q5
          unfold roomB at a1
          obtain ⟨o, kd', k1, rt, v, t, r1, r2, r3, r4, r5⟩ := s
          obtain ⟨ra, la⟩ := x
          unfold Que.cells at hLe
          simp only [List.map_cons, List.length_cons] at *
          subst a1
          repeat (any_goals (first | (refine aops_cons (fun K' h' => ?_); simp only [go_sem, Nat.reduceLT, Nat.reduceLeDiff, Nat.reduceEqDiff, reduceIte, Nat.reduceAdd, Nat.reduceMul, Nat.reduceSub, Int.reduceLT, Int.reduceLE, Int.reduceToNat, Int.reduceNeg, reduceCtorEq, Que.cells, hx, Snd.cells, Msg.cells]; (try ((first | refine ⟨_, hAk, ?_⟩ | refine ⟨_, fun _ => hAk, ?_⟩ | refine ⟨_, hFi, ?_⟩ | refine ⟨_, fun _ => hFi, ?_⟩ | refine ⟨_, hLe, ?_⟩ | refine ⟨_, fun _ => hLe, ?_⟩); (try simp only [go_sem, Nat.reduceLT, Nat.reduceLeDiff, Nat.reduceEqDiff, reduceIte, Nat.reduceAdd, Nat.reduceMul, Nat.reduceSub, Int.reduceLT, Int.reduceLE, Int.reduceToNat, Int.reduceNeg, reduceCtorEq, Que.cells, hx, Snd.cells, Msg.cells]))); (try simp (disch := omega) only [wrap_id, getD_map_in, Int.toNat_natCast, Que.cells, hx, Snd.cells, Msg.cells]); (repeat (refine And.intro (by (first | omega | (simp; done) | (simp; omega) | assumption)) ?_)); refine h' _ ?_; clear h' K') | (refine aops_nil (hK _ ?_); clear hK K gs; try simp only [aThen, aBlock]) | (refine AWp.sreg  dd13 rfl (fun gs K hgs hK => ?_); clear hgs) | refine AWp.seq ?_ | refine ARounds.step ?_ | refine AWp.block ?_ | refine AWp.label ?_ | (refine AWp.ret ?_; try simp only [aThen, aBlock]) | (refine AWp.skip ?_; try simp only [aThen, aBlock]) | (refine AWp.exit ?_; try simp only [aThen, aBlock, Nat.reduceEqDiff, reduceIte]) | (refine AWp.reg  dd13 rfl (fun gs K hgs hK => ?_); clear hgs) | (refine AWp.cond rfl (fun h => ?_) (fun h => ?_) <;> (try simp only [decide_eq_true_eq, decide_eq_false_iff_not, beq_iff_eq, bne_iff_ne, ne_eq, Bool.not_eq_true', Bool.not_eq_false', beq_eq_false_iff_ne, Bool.true_eq_false, Bool.false_eq_true, Int.not_le, Int.not_lt, Bool.and_eq_true, Bool.and_eq_false_iff, Bool.or_eq_true, Bool.or_eq_false_iff, bne_eq_false_iff_eq, reduceCtorEq] at h) <;> (try first | contradiction | (exfalso; omega) | (exfalso; revert h; simp; done) | (exfalso; revert h; simp; omega)))))
          simp only [Out, outA, outL, resA, go_sem, Nat.reduceLT, Nat.reduceLeDiff, Nat.reduceEqDiff, reduceIte, Nat.reduceAdd, Nat.reduceMul, Nat.reduceSub, Int.reduceLT, Int.reduceLE, Int.reduceToNat, Int.reduceNeg, reduceCtorEq]
          exact AVle.of_eq (by first | (simp; done) | (simp; omega))
  · have e1 : enaE t ins outs = askQ t ins outs := by unfold enaE; rw [if_pos h0]
    have e2 : enaB t ins outs = false := by unfold enaB; rw [e1, if_neg h0]
    rw [e1, e2]
    generalize askQ t ins outs = e at *
    clear hok e1 e2
    obtain ⟨kd, n, tn, pe, mk, st, ev, rw_, lt⟩ := t
    unfold quesV at *
    unfold Tsk.cells sndsV mksV entsV evsV rowsV rcdsV at *
    simp only at *
    refine acall_of (n := 64) (rs := [.tmp 6, .tmp 7]) Try.func13 rfl (by kernel_rfl) rfl rfl rfl ?_; simp only [argsE, Nat.reduceAdd]
    repeat (any_goals (first | (refine aops_cons (fun K' h' => ?_); simp only [go_sem, Nat.reduceLT, Nat.reduceLeDiff, Nat.reduceEqDiff, reduceIte, Nat.reduceAdd, Nat.reduceMul, Nat.reduceSub, Int.reduceLT, Int.reduceLE, Int.reduceToNat, Int.reduceNeg, reduceCtorEq, Que.cells]; (try ((first | refine ⟨_, hAk, ?_⟩ | refine ⟨_, fun _ => hAk, ?_⟩ | refine ⟨_, hFi, ?_⟩ | refine ⟨_, fun _ => hFi, ?_⟩ | refine ⟨_, hLe, ?_⟩ | refine ⟨_, fun _ => hLe, ?_⟩); (try simp only [go_sem, Nat.reduceLT, Nat.reduceLeDiff, Nat.reduceEqDiff, reduceIte, Nat.reduceAdd, Nat.reduceMul, Nat.reduceSub, Int.reduceLT, Int.reduceLE, Int.reduceToNat, Int.reduceNeg, reduceCtorEq, Que.cells]))); (try simp (disch := omega) only [wrap_id, getD_map_in, Int.toNat_natCast, Que.cells]); (repeat (refine And.intro (by (first | omega | (simp; done) | (simp; omega) | assumption)) ?_)); refine h' _ ?_; clear h' K') | (refine aops_nil (hK _ ?_); clear hK K gs; try simp only [aThen, aBlock]) | (refine AWp.sreg  dd13 rfl (fun gs K hgs hK => ?_); clear hgs) | refine AWp.seq ?_ | refine ARounds.step ?_ | refine AWp.block ?_ | refine AWp.label ?_ | (refine AWp.ret ?_; try simp only [aThen, aBlock]) | (refine AWp.skip ?_; try simp only [aThen, aBlock]) | (refine AWp.exit ?_; try simp only [aThen, aBlock, Nat.reduceEqDiff, reduceIte]) | (refine AWp.reg  dd13 rfl (fun gs K hgs hK => ?_); clear hgs) | (refine AWp.cond rfl (fun h => ?_) (fun h => ?_) <;> (try simp only [decide_eq_true_eq, decide_eq_false_iff_not, beq_iff_eq, bne_iff_ne, ne_eq, Bool.not_eq_true', Bool.not_eq_false', beq_eq_false_iff_ne, Bool.true_eq_false, Bool.false_eq_true, Int.not_le, Int.not_lt, Bool.and_eq_true, Bool.and_eq_false_iff, Bool.or_eq_true, Bool.or_eq_false_iff, bne_eq_false_iff_eq, reduceCtorEq] at h) <;> (try first | contradiction | (exfalso; omega) | (exfalso; revert h; simp; done) | (exfalso; revert h; simp; omega)))))
    simp only [Out, outA, outL, resA, go_sem, Nat.reduceLT, Nat.reduceLeDiff, Nat.reduceEqDiff, reduceIte, Nat.reduceAdd, Nat.reduceMul, Nat.reduceSub, Int.reduceLT, Int.reduceLE, Int.reduceToNat, Int.reduceNeg, reduceCtorEq]
    exact AVle.refl _
end Go.Proofs.Ytlpmgkillalhbaa
