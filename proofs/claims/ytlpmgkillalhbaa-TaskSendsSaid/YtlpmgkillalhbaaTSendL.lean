/-
  The law TaskSends.
-/
import Derived.Test.YtlpmgkillalhbaaQueS
import Derived.Test.YtlpmgkillalhbaaTShp
namespace Go.Proofs.Ytlpmgkillalhbaa
open Go.AL Go.RowKit
set_option linter.unusedSimpArgs false
set_option linter.unusedVariables false
set_option maxRecDepth 10000
set_option maxHeartbeats 8000000

def dd28 : Nat → List (List Nat)
  | 0 => [[], [0], [], [5]]
  | 1 => [[], [], [8], [9]]
  | 2 => [[], [], [10]]
  | 3 => [[1, 2, 11], [], [6], [12], [13]]
  | 4 => [[6, 11], [], [14], [15]]
  | 5 => [[1, 2, 16], [], [17], []]
  | 6 => [[16], [], [18], [], [20], [21], [22], [19, 23]]
  | 7 => [[1, 2, 24], [], [25], []]
  | 8 => [[24], [2], [26], [], [27]]
  | 9 => [[], [], [28], [1], [29, 30], [], [31, 32]]
  | 10 => [[], [7], [33], []]
  | _ => []
theorem pend27_c (t : Tsk) (l : List Snd) (hok : t.ok) (hl : l.length ≤ maxLen) : ACall Try.prog 28 [.agg t.cells, sndsV l] (.tup [.agg (pendT t l).cells, .lit (.int .i64 (pendE t l))]) := by
  have hCk := tCheck27_c t hok
  have hSd := sends27_c l hl
  unfold maxLen at hl
  by_cases h0 : tskE t = 0
  · obtain ⟨_, hf, hp⟩ := goodT_few h0
    have hTn := (fun (f : t.few) => match f with | ⟨f1, f2, f3, f4, f5, f6⟩ => twinT_n t f1 f2 f3 f4 f5 f6) hf
    have hpe : pendE t l = if allL l sendB = false then 8 else if 4000 < t.pend.length + l.length then 4 else 0 := by
      unfold pendE
      rw [if_neg (fun h => h h0)]
    rw [h0] at hCk
    have hpt : pendT t l = if pendE t l = 0 then { t with pend := t.pend ++ l } else zeroT := rfl
    generalize pendT t l = pt at *
    generalize pendE t l = pe' at *
    generalize allL l sendB = sb at *
    clear hok hf h0
    obtain ⟨kd, n, tn, pe, mk, st, ev, rw_, lt⟩ := t
    simp only at hp hpe hpt hTn
    rw [show (Tsk.mk kd n tn pe mk st ev rw_ lt).cells = [.lit (.int .u8 kd), .lit (.int .i64 n), .lit (.int .i64 tn), .ro 11 (pe.map Snd.cells), .ro 1 (mk.map intC), .ro 11 (st.map Ent.cells), .ro 5 (ev.map Ev.cells), .ro 5 (rw_.map RowT.cells), .ro 3 (lt.map Rcd.cells)] from rfl] at hCk hTn ⊢
    unfold sndsV at *
    have htk : List.take pe.length (pe.map Snd.cells) = pe.map Snd.cells := List.take_of_length_le (by simp)
    by_cases c1 : sb = true
    · subst c1
      rw [if_neg (by simp)] at hpe
      by_cases c2 : 4000 < pe.length + l.length
      · rw [if_pos c2] at hpe
        rw [hpe, if_neg (by omega)] at hpt
        rw [hpt, hpe]
        clear hTn hpt hpe
        refine acall_of (n := 34) (rs := [.cell 4 31, .tmp 5]) Try.func28 rfl (by kernel_rfl) rfl rfl rfl ?_; simp only [argsE, Nat.reduceAdd]
        repeat (any_goals (first | (refine aops_cons (fun K' h' => ?_); simp only [go_sem, Nat.reduceLT, Nat.reduceLeDiff, Nat.reduceEqDiff, reduceIte, Nat.reduceAdd, Nat.reduceMul, Nat.reduceSub, Int.reduceLT, Int.reduceLE, Int.reduceToNat, Int.reduceNeg, reduceCtorEq, aopG, beq_self_eq_true, List.length_map]; (try ((first | refine ⟨_, hTw, ?_⟩ | refine ⟨_, fun _ => hTw, ?_⟩ | refine ⟨_, hCk, ?_⟩ | refine ⟨_, fun _ => hCk, ?_⟩ | refine ⟨_, hSd, ?_⟩ | refine ⟨_, fun _ => hSd, ?_⟩); (try simp only [go_sem, Nat.reduceLT, Nat.reduceLeDiff, Nat.reduceEqDiff, reduceIte, Nat.reduceAdd, Nat.reduceMul, Nat.reduceSub, Int.reduceLT, Int.reduceLE, Int.reduceToNat, Int.reduceNeg, reduceCtorEq, aopG, beq_self_eq_true, List.length_map]))); (try simp (disch := omega) only [wrap_id, getD_map_in, Int.toNat_natCast, aopG, beq_self_eq_true, List.length_map]); (repeat (refine And.intro (by (first | omega | (simp; done) | (simp; omega) | assumption)) ?_)); refine h' _ ?_; clear h' K') | (refine aops_nil (hK _ ?_); clear hK K gs; try simp only [aThen, aBlock]) | (refine aops_consN  (fun K' h' => ?_); simp only [go_sem, Nat.reduceLT, Nat.reduceLeDiff, Nat.reduceEqDiff, reduceIte, Nat.reduceAdd, Nat.reduceMul, Nat.reduceSub, Int.reduceLT, Int.reduceLE, Int.reduceToNat, Int.reduceNeg, reduceCtorEq, aopG, beq_self_eq_true, List.length_map]; refine ⟨_, _, hTn, ?_⟩; (try simp only [go_sem, Nat.reduceLT, Nat.reduceLeDiff, Nat.reduceEqDiff, reduceIte, Nat.reduceAdd, Nat.reduceMul, Nat.reduceSub, Int.reduceLT, Int.reduceLE, Int.reduceToNat, Int.reduceNeg, reduceCtorEq, aopG, beq_self_eq_true, List.length_map]); (repeat (refine And.intro (by (first | omega | (simp; done) | (simp; omega) | assumption)) ?_)); refine h' _ ?_; clear h' K') | (refine AWp.sreg  dd28 rfl (fun gs K hgs hK => ?_); clear hgs) | refine AWp.seq ?_ | refine ARounds.step ?_ | refine AWp.block ?_ | refine AWp.label ?_ | (refine AWp.ret ?_; try simp only [aThen, aBlock]) | (refine AWp.skip ?_; try simp only [aThen, aBlock]) | (refine AWp.exit ?_; try simp only [aThen, aBlock, Nat.reduceEqDiff, reduceIte]) | (refine AWp.reg  dd28 rfl (fun gs K hgs hK => ?_); clear hgs) | (refine AWp.cond rfl (fun h => ?_) (fun h => ?_) <;> (try simp only [decide_eq_true_eq, decide_eq_false_iff_not, beq_iff_eq, bne_iff_ne, ne_eq, Bool.not_eq_true', Bool.not_eq_false', beq_eq_false_iff_ne, Bool.true_eq_false, Bool.false_eq_true, Int.not_le, Int.not_lt, Bool.and_eq_true, Bool.and_eq_false_iff, Bool.or_eq_true, Bool.or_eq_false_iff, bne_eq_false_iff_eq, reduceCtorEq] at h) <;> (try first | contradiction | (exfalso; omega) | (exfalso; revert h; simp; done) | (exfalso; revert h; simp; omega)))))
        simp only [Out, outA, outL, resA, go_sem, Nat.reduceLT, Nat.reduceLeDiff, Nat.reduceEqDiff, reduceIte, Nat.reduceAdd, Nat.reduceMul, Nat.reduceSub, Int.reduceLT, Int.reduceLE, Int.reduceToNat, Int.reduceNeg, reduceCtorEq]
        exact AVle.tup ⟨zeroT_le, AVle.refl _, trivial⟩
      · rw [if_neg c2] at hpe
        rw [hpe, if_pos rfl] at hpt
        rw [hpt, hpe]
        clear hpt hpe
        refine acall_of (n := 34) (rs := [.cell 4 31, .tmp 5]) Try.func28 rfl (by kernel_rfl) rfl rfl rfl ?_; simp only [argsE, Nat.reduceAdd]
        repeat (any_goals (first | (refine aops_cons (fun K' h' => ?_); simp only [go_sem, Nat.reduceLT, Nat.reduceLeDiff, Nat.reduceEqDiff, reduceIte, Nat.reduceAdd, Nat.reduceMul, Nat.reduceSub, Int.reduceLT, Int.reduceLE, Int.reduceToNat, Int.reduceNeg, reduceCtorEq, aopG, beq_self_eq_true, List.length_map, htk]; (try ((first | refine ⟨_, hTw, ?_⟩ | refine ⟨_, fun _ => hTw, ?_⟩ | refine ⟨_, hCk, ?_⟩ | refine ⟨_, fun _ => hCk, ?_⟩ | refine ⟨_, hSd, ?_⟩ | refine ⟨_, fun _ => hSd, ?_⟩); (try simp only [go_sem, Nat.reduceLT, Nat.reduceLeDiff, Nat.reduceEqDiff, reduceIte, Nat.reduceAdd, Nat.reduceMul, Nat.reduceSub, Int.reduceLT, Int.reduceLE, Int.reduceToNat, Int.reduceNeg, reduceCtorEq, aopG, beq_self_eq_true, List.length_map, htk]))); (try simp (disch := omega) only [wrap_id, getD_map_in, Int.toNat_natCast, aopG, beq_self_eq_true, List.length_map, htk]); (repeat (refine And.intro (by (first | omega | (simp; done) | (simp; omega) | assumption)) ?_)); refine h' _ ?_; clear h' K') | (refine aops_nil (hK _ ?_); clear hK K gs; try simp only [aThen, aBlock]) | (refine aops_consN  (fun K' h' => ?_); simp only [go_sem, Nat.reduceLT, Nat.reduceLeDiff, Nat.reduceEqDiff, reduceIte, Nat.reduceAdd, Nat.reduceMul, Nat.reduceSub, Int.reduceLT, Int.reduceLE, Int.reduceToNat, Int.reduceNeg, reduceCtorEq, aopG, beq_self_eq_true, List.length_map, htk]; refine ⟨_, _, hTn, ?_⟩; (try simp only [go_sem, Nat.reduceLT, Nat.reduceLeDiff, Nat.reduceEqDiff, reduceIte, Nat.reduceAdd, Nat.reduceMul, Nat.reduceSub, Int.reduceLT, Int.reduceLE, Int.reduceToNat, Int.reduceNeg, reduceCtorEq, aopG, beq_self_eq_true, List.length_map, htk]); (repeat (refine And.intro (by (first | omega | (simp; done) | (simp; omega) | assumption)) ?_)); refine h' _ ?_; clear h' K') | (refine AWp.sreg  dd28 rfl (fun gs K hgs hK => ?_); clear hgs) | refine AWp.seq ?_ | refine ARounds.step ?_ | refine AWp.block ?_ | refine AWp.label ?_ | (refine AWp.ret ?_; try simp only [aThen, aBlock]) | (refine AWp.skip ?_; try simp only [aThen, aBlock]) | (refine AWp.exit ?_; try simp only [aThen, aBlock, Nat.reduceEqDiff, reduceIte]) | (refine AWp.reg  dd28 rfl (fun gs K hgs hK => ?_); clear hgs) | (refine AWp.cond rfl (fun h => ?_) (fun h => ?_) <;> (try simp only [decide_eq_true_eq, decide_eq_false_iff_not, beq_iff_eq, bne_iff_ne, ne_eq, Bool.not_eq_true', Bool.not_eq_false', beq_eq_false_iff_ne, Bool.true_eq_false, Bool.false_eq_true, Int.not_le, Int.not_lt, Bool.and_eq_true, Bool.and_eq_false_iff, Bool.or_eq_true, Bool.or_eq_false_iff, bne_eq_false_iff_eq, reduceCtorEq] at h) <;> (try first | contradiction | (exfalso; omega) | (exfalso; revert h; simp; done) | (exfalso; revert h; simp; omega)))))
        simp only [Out, outA, outL, resA, go_sem, Nat.reduceLT, Nat.reduceLeDiff, Nat.reduceEqDiff, reduceIte, Nat.reduceAdd, Nat.reduceMul, Nat.reduceSub, Int.reduceLT, Int.reduceLE, Int.reduceToNat, Int.reduceNeg, reduceCtorEq]
        refine AVle.of_eq ?_
        simp [Tsk.cells, sndsV, mksV, entsV, evsV, rowsV, rcdsV, List.take_of_length_le]
    · have c1 : sb = false := by simpa using c1
      subst c1
      rw [if_pos rfl] at hpe
      rw [hpe, if_neg (by omega)] at hpt
      rw [hpt, hpe]
      clear hTn hpt hpe
      refine acall_of (n := 34) (rs := [.cell 4 31, .tmp 5]) Try.func28 rfl (by kernel_rfl) rfl rfl rfl ?_; simp only [argsE, Nat.reduceAdd]
      repeat (any_goals (first | (refine aops_cons (fun K' h' => ?_); simp only [go_sem, Nat.reduceLT, Nat.reduceLeDiff, Nat.reduceEqDiff, reduceIte, Nat.reduceAdd, Nat.reduceMul, Nat.reduceSub, Int.reduceLT, Int.reduceLE, Int.reduceToNat, Int.reduceNeg, reduceCtorEq, aopG, beq_self_eq_true, List.length_map]; (try ((first | refine ⟨_, hTw, ?_⟩ | refine ⟨_, fun _ => hTw, ?_⟩ | refine ⟨_, hCk, ?_⟩ | refine ⟨_, fun _ => hCk, ?_⟩ | refine ⟨_, hSd, ?_⟩ | refine ⟨_, fun _ => hSd, ?_⟩); (try simp only [go_sem, Nat.reduceLT, Nat.reduceLeDiff, Nat.reduceEqDiff, reduceIte, Nat.reduceAdd, Nat.reduceMul, Nat.reduceSub, Int.reduceLT, Int.reduceLE, Int.reduceToNat, Int.reduceNeg, reduceCtorEq, aopG, beq_self_eq_true, List.length_map]))); (try simp (disch := omega) only [wrap_id, getD_map_in, Int.toNat_natCast, aopG, beq_self_eq_true, List.length_map]); (repeat (refine And.intro (by (first | omega | (simp; done) | (simp; omega) | assumption)) ?_)); refine h' _ ?_; clear h' K') | (refine aops_nil (hK _ ?_); clear hK K gs; try simp only [aThen, aBlock]) | (refine aops_consN  (fun K' h' => ?_); simp only [go_sem, Nat.reduceLT, Nat.reduceLeDiff, Nat.reduceEqDiff, reduceIte, Nat.reduceAdd, Nat.reduceMul, Nat.reduceSub, Int.reduceLT, Int.reduceLE, Int.reduceToNat, Int.reduceNeg, reduceCtorEq, aopG, beq_self_eq_true, List.length_map]; refine ⟨_, _, hTn, ?_⟩; (try simp only [go_sem, Nat.reduceLT, Nat.reduceLeDiff, Nat.reduceEqDiff, reduceIte, Nat.reduceAdd, Nat.reduceMul, Nat.reduceSub, Int.reduceLT, Int.reduceLE, Int.reduceToNat, Int.reduceNeg, reduceCtorEq, aopG, beq_self_eq_true, List.length_map]); (repeat (refine And.intro (by (first | omega | (simp; done) | (simp; omega) | assumption)) ?_)); refine h' _ ?_; clear h' K') | (refine AWp.sreg  dd28 rfl (fun gs K hgs hK => ?_); clear hgs) | refine AWp.seq ?_ | refine ARounds.step ?_ | refine AWp.block ?_ | refine AWp.label ?_ | (refine AWp.ret ?_; try simp only [aThen, aBlock]) | (refine AWp.skip ?_; try simp only [aThen, aBlock]) | (refine AWp.exit ?_; try simp only [aThen, aBlock, Nat.reduceEqDiff, reduceIte]) | (refine AWp.reg  dd28 rfl (fun gs K hgs hK => ?_); clear hgs) | (refine AWp.cond rfl (fun h => ?_) (fun h => ?_) <;> (try simp only [decide_eq_true_eq, decide_eq_false_iff_not, beq_iff_eq, bne_iff_ne, ne_eq, Bool.not_eq_true', Bool.not_eq_false', beq_eq_false_iff_ne, Bool.true_eq_false, Bool.false_eq_true, Int.not_le, Int.not_lt, Bool.and_eq_true, Bool.and_eq_false_iff, Bool.or_eq_true, Bool.or_eq_false_iff, bne_eq_false_iff_eq, reduceCtorEq] at h) <;> (try first | contradiction | (exfalso; omega) | (exfalso; revert h; simp; done) | (exfalso; revert h; simp; omega)))))
      simp only [Out, outA, outL, resA, go_sem, Nat.reduceLT, Nat.reduceLeDiff, Nat.reduceEqDiff, reduceIte, Nat.reduceAdd, Nat.reduceMul, Nat.reduceSub, Int.reduceLT, Int.reduceLE, Int.reduceToNat, Int.reduceNeg, reduceCtorEq]
      exact AVle.tup ⟨zeroT_le, AVle.refl _, trivial⟩
  · obtain ⟨e1, e2⟩ := pendE_bad (l := l) h0
    rw [e1, e2]
    generalize tskE t = te at *
    clear hok e1 e2
    obtain ⟨kd, n, tn, pe, mk, st, ev, rw_, lt⟩ := t
    rw [show (Tsk.mk kd n tn pe mk st ev rw_ lt).cells = [.lit (.int .u8 kd), .lit (.int .i64 n), .lit (.int .i64 tn), .ro 11 (pe.map Snd.cells), .ro 1 (mk.map intC), .ro 11 (st.map Ent.cells), .ro 5 (ev.map Ev.cells), .ro 5 (rw_.map RowT.cells), .ro 3 (lt.map Rcd.cells)] from rfl] at *
    unfold sndsV at *
    refine acall_of (n := 34) (rs := [.cell 4 31, .tmp 5]) Try.func28 rfl (by kernel_rfl) rfl rfl rfl ?_; simp only [argsE, Nat.reduceAdd]
    repeat (any_goals (first | (refine aops_cons (fun K' h' => ?_); simp only [go_sem, Nat.reduceLT, Nat.reduceLeDiff, Nat.reduceEqDiff, reduceIte, Nat.reduceAdd, Nat.reduceMul, Nat.reduceSub, Int.reduceLT, Int.reduceLE, Int.reduceToNat, Int.reduceNeg, reduceCtorEq, aopG, beq_self_eq_true, List.length_map]; (try ((first | refine ⟨_, hTw, ?_⟩ | refine ⟨_, fun _ => hTw, ?_⟩ | refine ⟨_, hCk, ?_⟩ | refine ⟨_, fun _ => hCk, ?_⟩ | refine ⟨_, hSd, ?_⟩ | refine ⟨_, fun _ => hSd, ?_⟩); (try simp only [go_sem, Nat.reduceLT, Nat.reduceLeDiff, Nat.reduceEqDiff, reduceIte, Nat.reduceAdd, Nat.reduceMul, Nat.reduceSub, Int.reduceLT, Int.reduceLE, Int.reduceToNat, Int.reduceNeg, reduceCtorEq, aopG, beq_self_eq_true, List.length_map]))); (try simp (disch := omega) only [wrap_id, getD_map_in, Int.toNat_natCast, aopG, beq_self_eq_true, List.length_map]); (repeat (refine And.intro (by (first | omega | (simp; done) | (simp; omega) | assumption)) ?_)); refine h' _ ?_; clear h' K') | (refine aops_nil (hK _ ?_); clear hK K gs; try simp only [aThen, aBlock]) | (refine aops_consN  (fun K' h' => ?_); simp only [go_sem, Nat.reduceLT, Nat.reduceLeDiff, Nat.reduceEqDiff, reduceIte, Nat.reduceAdd, Nat.reduceMul, Nat.reduceSub, Int.reduceLT, Int.reduceLE, Int.reduceToNat, Int.reduceNeg, reduceCtorEq, aopG, beq_self_eq_true, List.length_map]; refine ⟨_, _, hTn, ?_⟩; (try simp only [go_sem, Nat.reduceLT, Nat.reduceLeDiff, Nat.reduceEqDiff, reduceIte, Nat.reduceAdd, Nat.reduceMul, Nat.reduceSub, Int.reduceLT, Int.reduceLE, Int.reduceToNat, Int.reduceNeg, reduceCtorEq, aopG, beq_self_eq_true, List.length_map]); (repeat (refine And.intro (by (first | omega | (simp; done) | (simp; omega) | assumption)) ?_)); refine h' _ ?_; clear h' K') | (refine AWp.sreg  dd28 rfl (fun gs K hgs hK => ?_); clear hgs) | refine AWp.seq ?_ | refine ARounds.step ?_ | refine AWp.block ?_ | refine AWp.label ?_ | (refine AWp.ret ?_; try simp only [aThen, aBlock]) | (refine AWp.skip ?_; try simp only [aThen, aBlock]) | (refine AWp.exit ?_; try simp only [aThen, aBlock, Nat.reduceEqDiff, reduceIte]) | (refine AWp.reg  dd28 rfl (fun gs K hgs hK => ?_); clear hgs) | (refine AWp.cond rfl (fun h => ?_) (fun h => ?_) <;> (try simp only [decide_eq_true_eq, decide_eq_false_iff_not, beq_iff_eq, bne_iff_ne, ne_eq, Bool.not_eq_true', Bool.not_eq_false', beq_eq_false_iff_ne, Bool.true_eq_false, Bool.false_eq_true, Int.not_le, Int.not_lt, Bool.and_eq_true, Bool.and_eq_false_iff, Bool.or_eq_true, Bool.or_eq_false_iff, bne_eq_false_iff_eq, reduceCtorEq] at h) <;> (try first | contradiction | (exfalso; omega) | (exfalso; revert h; simp; done) | (exfalso; revert h; simp; omega)))))
    simp only [Out, outA, outL, resA, go_sem, Nat.reduceLT, Nat.reduceLeDiff, Nat.reduceEqDiff, reduceIte, Nat.reduceAdd, Nat.reduceMul, Nat.reduceSub, Int.reduceLT, Int.reduceLE, Int.reduceToNat, Int.reduceNeg, reduceCtorEq]
    exact AVle.tup ⟨zeroT_le, AVle.refl _, trivial⟩

theorem sendT_ok {t : Tsk} {outs : List Que} (h : t.ok) : (sendT t outs).ok := by
  unfold sendT
  split
  · have hp := h.p
    exact ⟨by simp only [List.length_tail]; omega, h.m, h.s, h.e, h.r, h.l⟩
  · exact zeroT_ok
theorem pendT_ok {t : Tsk} {l : List Snd} (h : t.ok) (hp : t.pend.length + l.length ≤ 100000) : (pendT t l).ok := by
  unfold pendT
  split
  · exact ⟨by simp only [List.length_append]; unfold maxLen; omega, h.m, h.s, h.e, h.r, h.l⟩
  · exact zeroT_ok
theorem sendL_ok {t : Tsk} {outs : List Que} (h1 : outs.length ≤ 10) (h2 : ∀ q ∈ outs, q.list.length ≤ 20) : (sendL t outs).length ≤ maxLen ∧ ∀ q ∈ sendL t outs, q.ok := by
  unfold sendL
  split
  · split
    · exact ⟨by simp, fun q hq => by cases hq⟩
    · rename_i s l hs
      refine ⟨by simp only [List.length_set]; unfold maxLen; omega, fun q hq => ?_⟩
      unfold Que.ok maxLen
      rcases List.mem_or_eq_of_mem_set hq with hq | rfl
      · have := h2 q hq
        omega
      · unfold putQ
        simp only [List.length_append, List.length_cons, List.length_nil]
        by_cases hk : s.out.toNat < outs.length
        · have := h2 _ (getQ_mem hk)
          omega
        · rw [List.getD_eq_getElem?_getD, List.getElem?_eq_none (by omega)]
          simp [show (default : Que).list = [] from rfl]
  · exact ⟨by simp, fun q hq => by cases hq⟩

def dd7 : Nat → List (List Nat)
  | 0 => [[], [0], [6]]
  | 1 => [[], [], [19], [20], [], [22], [21, 23], [24], [], [26], [27], [28], [], [30], [31], [29, 32], [25, 33], [34], [], [36], [37], [35, 38]]
  | 2 => [[1, 2, 3, 39], []]
  | 3 => [[39], [], [40], [], [42], [], [41], [43]]
  | 4 => [[], [], [], [45, 46], [47], [], [], [44], [], [48], [49], [50]]
  | 5 => [[], [], [], [52, 53], [54], [], [], [51], [], [55], [56], [57]]
  | 6 => [[], [], [], [59, 60], [61], [], [58], [], [62], [63]]
  | 7 => [[], [], [2], [65, 66], [67], [], [64], [], [68], [69]]
  | 8 => [[], [9], [12], [70, 71], [72], [10], [13], [74, 75], [73, 76], [77], [11], [14], [79, 80], [78, 81], [82], [15], [17], [84, 85], [83, 86], [87], [16], [18], [89, 90], [88, 91], [92], [3], [7], [94, 95], [93, 96], [97], [1], [8], [99, 100], [98, 101], [102]]
  | _ => []
theorem tsends_law (t : Tsk) (outs : List Que) (l : List Snd) (hok : t.ok) (ho : outs.length ≤ maxLen) (oo : ∀ q ∈ outs, q.ok) (hl : l.length ≤ maxLen) :
    ACall Try.prog 7 [.agg t.cells, quesV outs, sndsV l] (.lit (.bool true)) := by
  have hGr := greatT_c t hok
  have hGo := greatAll_c outs ho oo
  by_cases hv : greatT t = false ∧ greatQs outs = false ∧ ¬ (100 < l.length ∧ l.length < 3990 ∨ 4010 < l.length)
  · obtain ⟨v1, v2, v3⟩ := hv
    have hf := great_few2 v1
    obtain ⟨w1, w2⟩ := greatQs_few v2
    rw [v1] at hGr
    rw [v2] at hGo
    have hTw := (fun (f : t.few) => match f with | ⟨f1, f2, f3, f4, f5, f6⟩ => twinT_c t f1 f2 f3 f4 f5 f6) hf
    have hTa : ACall Try.prog 25 [.ro 2 (outs.map Que.cells)] (.ro 2 (outs.map Que.cells)) :=
      (twinAll_c outs (by omega) fun q hq => by have := w2 q hq; omega).toCall (by simp only [AV.bor, getRow, List.getElem?_cons_zero, reduceIte]; exact AVle.of_eq (by simp [List.take_of_length_le]))
    have hSe := send_c t outs hok ho
    have hSe2 := send27_c t outs hok ho
    have hPe := pend_c t l hok hl
    have hPe2 := pend27_c t l hok hl
    have hS1 := sameT_c (sendT t outs) (sendT t outs) (sendT_ok hok) (sendT_ok hok)
    have hpl : (pendT t l).ok := pendT_ok hok (by obtain ⟨f1, _⟩ := hf; omega)
    have hS2 := sameT_c (pendT t l) (pendT t l) hpl hpl
    have hS3 := sameT_c t t hok hok
    obtain ⟨s1, s2⟩ := sendL_ok (t := t) w1 w2
    have hA1 := sameAll_c (sendL t outs) (sendL t outs) s1 s1 s2 s2
    have hA2 := sameAll_c outs outs ho ho oo oo
    rw [decide_eq_true rfl] at hS1 hS2 hS3 hA1 hA2
    generalize sendT t outs = tt at hSe hSe2 hS1
    generalize sendL t outs = ll at hSe hSe2 hA1
    generalize sendE t outs = se at hSe hSe2
    generalize pendT t l = pt at hPe hPe2 hS2
    generalize pendE t l = pe' at hPe hPe2
    clear v1 v2 hf hok oo s1 s2 hpl w1 w2
    obtain ⟨kd, nn, tn1, pe, mk, st, ev, rw_, lt⟩ := t
    obtain ⟨kd3, nn3, tn3, pe3, mk3, st3, ev3, rw_3, lt3⟩ := tt
    obtain ⟨kd4, nn4, tn4, pe4, mk4, st4, ev4, rw_4, lt4⟩ := pt
    unfold Tsk.cells sndsV mksV entsV evsV rowsV rcdsV quesV at *
    simp only at *
    by_cases c : 100 < l.length
    · have c2 : 3990 ≤ l.length := by omega
      have c3 : l.length ≤ 4010 := by omega
      clear v3
      refine acall_of (n := 103) (rs := [.tmp 6]) Try.func7 rfl (by kernel_rfl) rfl rfl rfl ?_; simp only [argsE, Nat.reduceAdd]
      repeat (any_goals (first | (refine aops_cons (fun K' h' => ?_); simp only [go_sem, Nat.reduceLT, Nat.reduceLeDiff, Nat.reduceEqDiff, reduceIte, Nat.reduceAdd, Nat.reduceMul, Nat.reduceSub, Int.reduceLT, Int.reduceLE, Int.reduceToNat, Int.reduceNeg, reduceCtorEq, hgs, aopG, beq_self_eq_true, List.length_map]; (try ((first | refine ⟨_, hGr, ?_⟩ | refine ⟨_, fun _ => hGr, ?_⟩ | refine ⟨_, hGo, ?_⟩ | refine ⟨_, fun _ => hGo, ?_⟩ | refine ⟨_, hTw, ?_⟩ | refine ⟨_, fun _ => hTw, ?_⟩ | refine ⟨_, hTa, ?_⟩ | refine ⟨_, fun _ => hTa, ?_⟩ | refine ⟨_, hSe, ?_⟩ | refine ⟨_, fun _ => hSe, ?_⟩ | refine ⟨_, hSe2, ?_⟩ | refine ⟨_, fun _ => hSe2, ?_⟩ | refine ⟨_, hPe, ?_⟩ | refine ⟨_, fun _ => hPe, ?_⟩ | refine ⟨_, hPe2, ?_⟩ | refine ⟨_, fun _ => hPe2, ?_⟩ | refine ⟨_, hS1, ?_⟩ | refine ⟨_, fun _ => hS1, ?_⟩ | refine ⟨_, hS2, ?_⟩ | refine ⟨_, fun _ => hS2, ?_⟩ | refine ⟨_, hS3, ?_⟩ | refine ⟨_, fun _ => hS3, ?_⟩ | refine ⟨_, hA1, ?_⟩ | refine ⟨_, fun _ => hA1, ?_⟩ | refine ⟨_, hA2, ?_⟩ | refine ⟨_, fun _ => hA2, ?_⟩); (try simp only [go_sem, Nat.reduceLT, Nat.reduceLeDiff, Nat.reduceEqDiff, reduceIte, Nat.reduceAdd, Nat.reduceMul, Nat.reduceSub, Int.reduceLT, Int.reduceLE, Int.reduceToNat, Int.reduceNeg, reduceCtorEq, hgs, aopG, beq_self_eq_true, List.length_map]))); (try simp (disch := omega) only [wrap_id, getD_map_in, Int.toNat_natCast, aopG, beq_self_eq_true, List.length_map]); (repeat (refine And.intro (by (first | omega | (simp; done) | (simp; omega) | assumption)) ?_)); refine h' _ ?_; clear h' K') | (refine aops_nil (hK _ ?_); clear hK K hgs gs; try simp only [aThen, aBlock]) | (refine aops_consN  (fun K' h' => ?_); simp only [go_sem, Nat.reduceLT, Nat.reduceLeDiff, Nat.reduceEqDiff, reduceIte, Nat.reduceAdd, Nat.reduceMul, Nat.reduceSub, Int.reduceLT, Int.reduceLE, Int.reduceToNat, Int.reduceNeg, reduceCtorEq, hgs, aopG, beq_self_eq_true, List.length_map]; refine ⟨_, _, hTn, ?_⟩; (try simp only [go_sem, Nat.reduceLT, Nat.reduceLeDiff, Nat.reduceEqDiff, reduceIte, Nat.reduceAdd, Nat.reduceMul, Nat.reduceSub, Int.reduceLT, Int.reduceLE, Int.reduceToNat, Int.reduceNeg, reduceCtorEq, hgs, aopG, beq_self_eq_true, List.length_map]); (repeat (refine And.intro (by (first | omega | (simp; done) | (simp; omega) | assumption)) ?_)); refine h' _ ?_; clear h' K') | ((first | refine AWp.sreg (id := 1) dd7 rfl (fun gs K hgs hK => ?_) | refine AWp.reg (id := 1) dd7 rfl (fun gs K hgs hK => ?_)); replace hgs : gs 2 = some 21 ∧ gs 6 = some 25 ∧ gs 10 = some 29 ∧ gs 16 = some 35 := ⟨hgs 2, hgs 6, hgs 10, hgs 16⟩) | ((first | refine AWp.sreg (id := 8) dd7 rfl (fun gs K hgs hK => ?_) | refine AWp.reg (id := 8) dd7 rfl (fun gs K hgs hK => ?_)); replace hgs : gs 3 = some 73 ∧ gs 8 = some 78 ∧ gs 13 = some 83 ∧ gs 18 = some 88 ∧ gs 23 = some 93 ∧ gs 28 = some 98 := ⟨hgs 3, hgs 8, hgs 13, hgs 18, hgs 23, hgs 28⟩) | (refine AWp.sreg  dd7 rfl (fun gs K hgs hK => ?_); replace hgs : Nat.succ 0 = 1 := rfl) | refine AWp.seq ?_ | refine ARounds.step ?_ | refine AWp.block ?_ | refine AWp.label ?_ | (refine AWp.ret ?_; try simp only [aThen, aBlock]) | (refine AWp.skip ?_; try simp only [aThen, aBlock]) | (refine AWp.exit ?_; try simp only [aThen, aBlock, Nat.reduceEqDiff, reduceIte]) | (refine AWp.reg  dd7 rfl (fun gs K hgs hK => ?_); replace hgs : Nat.succ 0 = 1 := rfl) | (refine aops_consG (fun K' h' => ?_); simp only [go_sem, Nat.reduceLT, Nat.reduceLeDiff, Nat.reduceEqDiff, reduceIte, Nat.reduceAdd, Nat.reduceMul, Nat.reduceSub, Int.reduceLT, Int.reduceLE, Int.reduceToNat, Int.reduceNeg, reduceCtorEq, hgs, aopG, beq_self_eq_true, List.length_map]; (try simp (disch := omega) only [wrap_id, getD_map_in, Int.toNat_natCast, aopG, beq_self_eq_true, List.length_map]); (repeat (refine And.intro (by (first | omega | (simp; done) | (simp; omega) | assumption)) ?_)); refine h' _ ?_; clear h' K') | (refine AWp.cond rfl (fun h => ?_) (fun h => ?_) <;> (try simp only [decide_eq_true_eq, decide_eq_false_iff_not, beq_iff_eq, bne_iff_ne, ne_eq, Bool.not_eq_true', Bool.not_eq_false', beq_eq_false_iff_ne, Bool.true_eq_false, Bool.false_eq_true, Int.not_le, Int.not_lt, Bool.and_eq_true, Bool.and_eq_false_iff, Bool.or_eq_true, Bool.or_eq_false_iff, bne_eq_false_iff_eq, reduceCtorEq] at h) <;> (try first | contradiction | (exfalso; omega) | (exfalso; revert h; simp; done) | (exfalso; revert h; simp; omega)))))
      all_goals first
        | (exfalso; omega)
        | skip
      all_goals simp only [Out, outA, outL, resA, go_sem, Nat.reduceLT, Nat.reduceLeDiff, Nat.reduceEqDiff, reduceIte, Nat.reduceAdd, Nat.reduceMul, Nat.reduceSub, Int.reduceLT, Int.reduceLE, Int.reduceToNat, Int.reduceNeg, reduceCtorEq]
      all_goals exact AVle.of_eq (by simp)
    · clear v3
      refine acall_of (n := 103) (rs := [.tmp 6]) Try.func7 rfl (by kernel_rfl) rfl rfl rfl ?_; simp only [argsE, Nat.reduceAdd]
      repeat (any_goals (first | (refine aops_cons (fun K' h' => ?_); simp only [go_sem, Nat.reduceLT, Nat.reduceLeDiff, Nat.reduceEqDiff, reduceIte, Nat.reduceAdd, Nat.reduceMul, Nat.reduceSub, Int.reduceLT, Int.reduceLE, Int.reduceToNat, Int.reduceNeg, reduceCtorEq, hgs, aopG, beq_self_eq_true, List.length_map]; (try ((first | refine ⟨_, hGr, ?_⟩ | refine ⟨_, fun _ => hGr, ?_⟩ | refine ⟨_, hGo, ?_⟩ | refine ⟨_, fun _ => hGo, ?_⟩ | refine ⟨_, hTw, ?_⟩ | refine ⟨_, fun _ => hTw, ?_⟩ | refine ⟨_, hTa, ?_⟩ | refine ⟨_, fun _ => hTa, ?_⟩ | refine ⟨_, hSe, ?_⟩ | refine ⟨_, fun _ => hSe, ?_⟩ | refine ⟨_, hSe2, ?_⟩ | refine ⟨_, fun _ => hSe2, ?_⟩ | refine ⟨_, hPe, ?_⟩ | refine ⟨_, fun _ => hPe, ?_⟩ | refine ⟨_, hPe2, ?_⟩ | refine ⟨_, fun _ => hPe2, ?_⟩ | refine ⟨_, hS1, ?_⟩ | refine ⟨_, fun _ => hS1, ?_⟩ | refine ⟨_, hS2, ?_⟩ | refine ⟨_, fun _ => hS2, ?_⟩ | refine ⟨_, hS3, ?_⟩ | refine ⟨_, fun _ => hS3, ?_⟩ | refine ⟨_, hA1, ?_⟩ | refine ⟨_, fun _ => hA1, ?_⟩ | refine ⟨_, hA2, ?_⟩ | refine ⟨_, fun _ => hA2, ?_⟩); (try simp only [go_sem, Nat.reduceLT, Nat.reduceLeDiff, Nat.reduceEqDiff, reduceIte, Nat.reduceAdd, Nat.reduceMul, Nat.reduceSub, Int.reduceLT, Int.reduceLE, Int.reduceToNat, Int.reduceNeg, reduceCtorEq, hgs, aopG, beq_self_eq_true, List.length_map]))); (try simp (disch := omega) only [wrap_id, getD_map_in, Int.toNat_natCast, aopG, beq_self_eq_true, List.length_map]); (repeat (refine And.intro (by (first | omega | (simp; done) | (simp; omega) | assumption)) ?_)); refine h' _ ?_; clear h' K') | (refine aops_nil (hK _ ?_); clear hK K hgs gs; try simp only [aThen, aBlock]) | (refine aops_consN  (fun K' h' => ?_); simp only [go_sem, Nat.reduceLT, Nat.reduceLeDiff, Nat.reduceEqDiff, reduceIte, Nat.reduceAdd, Nat.reduceMul, Nat.reduceSub, Int.reduceLT, Int.reduceLE, Int.reduceToNat, Int.reduceNeg, reduceCtorEq, hgs, aopG, beq_self_eq_true, List.length_map]; refine ⟨_, _, hTn, ?_⟩; (try simp only [go_sem, Nat.reduceLT, Nat.reduceLeDiff, Nat.reduceEqDiff, reduceIte, Nat.reduceAdd, Nat.reduceMul, Nat.reduceSub, Int.reduceLT, Int.reduceLE, Int.reduceToNat, Int.reduceNeg, reduceCtorEq, hgs, aopG, beq_self_eq_true, List.length_map]); (repeat (refine And.intro (by (first | omega | (simp; done) | (simp; omega) | assumption)) ?_)); refine h' _ ?_; clear h' K') | ((first | refine AWp.sreg (id := 1) dd7 rfl (fun gs K hgs hK => ?_) | refine AWp.reg (id := 1) dd7 rfl (fun gs K hgs hK => ?_)); replace hgs : gs 2 = some 21 ∧ gs 6 = some 25 ∧ gs 10 = some 29 ∧ gs 16 = some 35 := ⟨hgs 2, hgs 6, hgs 10, hgs 16⟩) | ((first | refine AWp.sreg (id := 8) dd7 rfl (fun gs K hgs hK => ?_) | refine AWp.reg (id := 8) dd7 rfl (fun gs K hgs hK => ?_)); replace hgs : gs 3 = some 73 ∧ gs 8 = some 78 ∧ gs 13 = some 83 ∧ gs 18 = some 88 ∧ gs 23 = some 93 ∧ gs 28 = some 98 := ⟨hgs 3, hgs 8, hgs 13, hgs 18, hgs 23, hgs 28⟩) | (refine AWp.sreg  dd7 rfl (fun gs K hgs hK => ?_); replace hgs : Nat.succ 0 = 1 := rfl) | refine AWp.seq ?_ | refine ARounds.step ?_ | refine AWp.block ?_ | refine AWp.label ?_ | (refine AWp.ret ?_; try simp only [aThen, aBlock]) | (refine AWp.skip ?_; try simp only [aThen, aBlock]) | (refine AWp.exit ?_; try simp only [aThen, aBlock, Nat.reduceEqDiff, reduceIte]) | (refine AWp.reg  dd7 rfl (fun gs K hgs hK => ?_); replace hgs : Nat.succ 0 = 1 := rfl) | (refine aops_consG (fun K' h' => ?_); simp only [go_sem, Nat.reduceLT, Nat.reduceLeDiff, Nat.reduceEqDiff, reduceIte, Nat.reduceAdd, Nat.reduceMul, Nat.reduceSub, Int.reduceLT, Int.reduceLE, Int.reduceToNat, Int.reduceNeg, reduceCtorEq, hgs, aopG, beq_self_eq_true, List.length_map]; (try simp (disch := omega) only [wrap_id, getD_map_in, Int.toNat_natCast, aopG, beq_self_eq_true, List.length_map]); (repeat (refine And.intro (by (first | omega | (simp; done) | (simp; omega) | assumption)) ?_)); refine h' _ ?_; clear h' K') | (refine AWp.cond rfl (fun h => ?_) (fun h => ?_) <;> (try simp only [decide_eq_true_eq, decide_eq_false_iff_not, beq_iff_eq, bne_iff_ne, ne_eq, Bool.not_eq_true', Bool.not_eq_false', beq_eq_false_iff_ne, Bool.true_eq_false, Bool.false_eq_true, Int.not_le, Int.not_lt, Bool.and_eq_true, Bool.and_eq_false_iff, Bool.or_eq_true, Bool.or_eq_false_iff, bne_eq_false_iff_eq, reduceCtorEq] at h) <;> (try first | contradiction | (exfalso; omega) | (exfalso; revert h; simp; done) | (exfalso; revert h; simp; omega)))))
      all_goals first
        | (exfalso; omega)
        | skip
      all_goals simp only [Out, outA, outL, resA, go_sem, Nat.reduceLT, Nat.reduceLeDiff, Nat.reduceEqDiff, reduceIte, Nat.reduceAdd, Nat.reduceMul, Nat.reduceSub, Int.reduceLT, Int.reduceLE, Int.reduceToNat, Int.reduceNeg, reduceCtorEq]
      all_goals exact AVle.of_eq (by simp)
  · have hv2 : greatT t = true ∨ (greatT t = false ∧ greatQs outs = true) ∨ (greatT t = false ∧ greatQs outs = false ∧ (100 < l.length ∧ l.length < 3990 ∨ 4010 < l.length)) := by
      cases h1 : greatT t <;> cases h2 : greatQs outs <;> simp_all
      omega
    generalize greatT t = g1 at *
    generalize greatQs outs = g2 at *
    clear hok oo hv
    obtain ⟨kd, nn, tn1, pe, mk, st, ev, rw_, lt⟩ := t
    unfold Tsk.cells sndsV mksV entsV evsV rowsV rcdsV quesV at *
    simp only at *
    unfold maxLen at hl
    rcases hv2 with rfl | ⟨rfl, rfl⟩ | ⟨rfl, rfl, hv3⟩
    all_goals
      refine acall_of (n := 103) (rs := [.tmp 6]) Try.func7 rfl (by kernel_rfl) rfl rfl rfl ?_; simp only [argsE, Nat.reduceAdd]
      repeat (any_goals (first | (refine aops_cons (fun K' h' => ?_); simp only [go_sem, Nat.reduceLT, Nat.reduceLeDiff, Nat.reduceEqDiff, reduceIte, Nat.reduceAdd, Nat.reduceMul, Nat.reduceSub, Int.reduceLT, Int.reduceLE, Int.reduceToNat, Int.reduceNeg, reduceCtorEq, hgs, aopG, beq_self_eq_true, List.length_map]; (try ((first | refine ⟨_, hGr, ?_⟩ | refine ⟨_, fun _ => hGr, ?_⟩ | refine ⟨_, hGo, ?_⟩ | refine ⟨_, fun _ => hGo, ?_⟩ | refine ⟨_, hTw, ?_⟩ | refine ⟨_, fun _ => hTw, ?_⟩ | refine ⟨_, hTa, ?_⟩ | refine ⟨_, fun _ => hTa, ?_⟩ | refine ⟨_, hSe, ?_⟩ | refine ⟨_, fun _ => hSe, ?_⟩ | refine ⟨_, hSe2, ?_⟩ | refine ⟨_, fun _ => hSe2, ?_⟩ | refine ⟨_, hPe, ?_⟩ | refine ⟨_, fun _ => hPe, ?_⟩ | refine ⟨_, hPe2, ?_⟩ | refine ⟨_, fun _ => hPe2, ?_⟩ | refine ⟨_, hS1, ?_⟩ | refine ⟨_, fun _ => hS1, ?_⟩ | refine ⟨_, hS2, ?_⟩ | refine ⟨_, fun _ => hS2, ?_⟩ | refine ⟨_, hS3, ?_⟩ | refine ⟨_, fun _ => hS3, ?_⟩ | refine ⟨_, hA1, ?_⟩ | refine ⟨_, fun _ => hA1, ?_⟩ | refine ⟨_, hA2, ?_⟩ | refine ⟨_, fun _ => hA2, ?_⟩); (try simp only [go_sem, Nat.reduceLT, Nat.reduceLeDiff, Nat.reduceEqDiff, reduceIte, Nat.reduceAdd, Nat.reduceMul, Nat.reduceSub, Int.reduceLT, Int.reduceLE, Int.reduceToNat, Int.reduceNeg, reduceCtorEq, hgs, aopG, beq_self_eq_true, List.length_map]))); (try simp (disch := omega) only [wrap_id, getD_map_in, Int.toNat_natCast, aopG, beq_self_eq_true, List.length_map]); (repeat (refine And.intro (by (first | omega | (simp; done) | (simp; omega) | assumption)) ?_)); refine h' _ ?_; clear h' K') | (refine aops_nil (hK _ ?_); clear hK K hgs gs; try simp only [aThen, aBlock]) | (refine aops_consN  (fun K' h' => ?_); simp only [go_sem, Nat.reduceLT, Nat.reduceLeDiff, Nat.reduceEqDiff, reduceIte, Nat.reduceAdd, Nat.reduceMul, Nat.reduceSub, Int.reduceLT, Int.reduceLE, Int.reduceToNat, Int.reduceNeg, reduceCtorEq, hgs, aopG, beq_self_eq_true, List.length_map]; refine ⟨_, _, hTn, ?_⟩; (try simp only [go_sem, Nat.reduceLT, Nat.reduceLeDiff, Nat.reduceEqDiff, reduceIte, Nat.reduceAdd, Nat.reduceMul, Nat.reduceSub, Int.reduceLT, Int.reduceLE, Int.reduceToNat, Int.reduceNeg, reduceCtorEq, hgs, aopG, beq_self_eq_true, List.length_map]); (repeat (refine And.intro (by (first | omega | (simp; done) | (simp; omega) | assumption)) ?_)); refine h' _ ?_; clear h' K') | ((first | refine AWp.sreg (id := 1) dd7 rfl (fun gs K hgs hK => ?_) | refine AWp.reg (id := 1) dd7 rfl (fun gs K hgs hK => ?_)); replace hgs : gs 2 = some 21 ∧ gs 6 = some 25 ∧ gs 10 = some 29 ∧ gs 16 = some 35 := ⟨hgs 2, hgs 6, hgs 10, hgs 16⟩) | ((first | refine AWp.sreg (id := 8) dd7 rfl (fun gs K hgs hK => ?_) | refine AWp.reg (id := 8) dd7 rfl (fun gs K hgs hK => ?_)); replace hgs : gs 3 = some 73 ∧ gs 8 = some 78 ∧ gs 13 = some 83 ∧ gs 18 = some 88 ∧ gs 23 = some 93 ∧ gs 28 = some 98 := ⟨hgs 3, hgs 8, hgs 13, hgs 18, hgs 23, hgs 28⟩) | (refine AWp.sreg  dd7 rfl (fun gs K hgs hK => ?_); replace hgs : Nat.succ 0 = 1 := rfl) | refine AWp.seq ?_ | refine ARounds.step ?_ | refine AWp.block ?_ | refine AWp.label ?_ | (refine AWp.ret ?_; try simp only [aThen, aBlock]) | (refine AWp.skip ?_; try simp only [aThen, aBlock]) | (refine AWp.exit ?_; try simp only [aThen, aBlock, Nat.reduceEqDiff, reduceIte]) | (refine AWp.reg  dd7 rfl (fun gs K hgs hK => ?_); replace hgs : Nat.succ 0 = 1 := rfl) | (refine aops_consG (fun K' h' => ?_); simp only [go_sem, Nat.reduceLT, Nat.reduceLeDiff, Nat.reduceEqDiff, reduceIte, Nat.reduceAdd, Nat.reduceMul, Nat.reduceSub, Int.reduceLT, Int.reduceLE, Int.reduceToNat, Int.reduceNeg, reduceCtorEq, hgs, aopG, beq_self_eq_true, List.length_map]; (try simp (disch := omega) only [wrap_id, getD_map_in, Int.toNat_natCast, aopG, beq_self_eq_true, List.length_map]); (repeat (refine And.intro (by (first | omega | (simp; done) | (simp; omega) | assumption)) ?_)); refine h' _ ?_; clear h' K') | (refine AWp.cond rfl (fun h => ?_) (fun h => ?_) <;> (try simp only [decide_eq_true_eq, decide_eq_false_iff_not, beq_iff_eq, bne_iff_ne, ne_eq, Bool.not_eq_true', Bool.not_eq_false', beq_eq_false_iff_ne, Bool.true_eq_false, Bool.false_eq_true, Int.not_le, Int.not_lt, Bool.and_eq_true, Bool.and_eq_false_iff, Bool.or_eq_true, Bool.or_eq_false_iff, bne_eq_false_iff_eq, reduceCtorEq] at h) <;> (try first | contradiction | (exfalso; omega) | (exfalso; revert h; simp; done) | (exfalso; revert h; simp; omega)))))
      all_goals first
        | (exfalso; omega)
        | skip
      all_goals simp only [Out, outA, outL, resA, go_sem, Nat.reduceLT, Nat.reduceLeDiff, Nat.reduceEqDiff, reduceIte, Nat.reduceAdd, Nat.reduceMul, Nat.reduceSub, Int.reduceLT, Int.reduceLE, Int.reduceToNat, Int.reduceNeg, reduceCtorEq]
      all_goals exact AVle.refl _
theorem tsends_all : ∀ xs, ShpAs Try.prog 8 Try.f7.params.toList xs → ACall Try.prog 7 xs (.lit (.bool true)) := by
  intro xs h
  have hp : Try.f7.params.toList = [31, 32, 24] := by kernel_rfl
  rw [hp] at h
  obtain ⟨a, r, rfl, ha, h⟩ := h
  obtain ⟨b, r, rfl, hb, h⟩ := h
  obtain ⟨c, r, rfl, hc, h⟩ := h
  obtain rfl : r = [] := h
  obtain ⟨t, rfl, hok⟩ := tsk_shape ha
  obtain ⟨outs, rfl, ho, oo⟩ := ques_shape hb
  obtain ⟨l, rfl, hl⟩ := snds_shape hc
  exact tsends_law t outs l hok ho oo hl
end Go.Proofs.Ytlpmgkillalhbaa
