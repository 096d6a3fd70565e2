/-
  The walks over tasks: pending messages and the reference's comparisons.
-/
import Derived.Test.YtjeehkdepoiegaaGreatTskW5
import Derived.Test.YtjeehkdepoiegaaGreatTskW4
namespace Go.Proofs.YtjeehkdepoiegaaGreat
open Go.AL Go.RowKit
set_option linter.unusedSimpArgs false
set_option linter.unusedVariables false
set_option maxRecDepth 10000
set_option maxHeartbeats 8000000
structure Tsk.few (t : Tsk) : Prop where
  p : t.pend.length ≤ 4100
  m : t.marks.length ≤ 4100
  s : t.store.length ≤ 4100
  e : t.evs.length ≤ 4100
  r : t.rows.length ≤ 4100
  l : t.late.length ≤ 4100
theorem Tsk.few.ok {t : Tsk} (h : t.few) : t.ok := by
  obtain ⟨h1, h2, h3, h4, h5, h6⟩ := h
  exact ⟨by unfold maxLen; omega, by unfold maxLen; omega, by unfold maxLen; omega, by unfold maxLen; omega, by unfold maxLen; omega, by unfold maxLen; omega⟩
def dd27 : Nat → List (List Nat)
  | 0 => [[], [0], []]
  | 3 => [[], [1], [27]]
  | _ => []
def fo27 : Nat → List Nat
  | 1 => [1, 2]
  | 2 => [1, 2]
  | _ => []
theorem cloneT_n (t : Tsk) (hf : t.few) : ACallN Tryz.prog 27 [.agg t.cells]
    (.agg [.lit (.int .u8 t.kind), .lit (.int .i64 t.n), .lit (.int .i64 t.turn), .own 0 11 0 t.pend.length, mksV t.marks, entsV t.store, evsV t.evs, rowsV t.rows, rcdsV t.late])
    [some ⟨79, 11, t.pend.map Snd.cells⟩] := by
  obtain ⟨h1, h2, h3, h4, h5, h6⟩ := hf
  obtain ⟨kd, n, tn, pe, mk, st, ev, rw_, lt⟩ := t
  simp only at h1 h2 h3 h4 h5 h6
  have hC1 := cloneSnd_n pe h1
  have hC2 := cloneMk_c mk h2
  have hC3 := cloneEnt_c st h3
  have hC4 := cloneEvt_c ev h4
  have hC5 := cloneRow_c rw_ h5
  have hC6 := cloneRcd_c lt h6
  unfold Tsk.cells sndsV mksV entsV evsV rowsV rcdsV
  simp only
  refine acallN_of (n := 28) (rs := [.cell 2 39]) [0] Tryz.func27 rfl (by kernel_rfl) rfl rfl rfl ?_; simp only [argsE, Nat.reduceAdd]
  repeat (any_goals (first | ((first | refine aops_cons (fun K' h' => ?_) | refine aopsR_cons (fun K' h' => ?_)); simp only [go_sem, Nat.reduceLT, Nat.reduceLeDiff, Nat.reduceEqDiff, reduceIte, Nat.reduceAdd, Nat.reduceMul, Nat.reduceSub, Int.reduceLT, Int.reduceLE, Int.reduceToNat, Int.reduceNeg, reduceCtorEq]; (try ((first | refine ⟨_, hC2, ?_⟩ | refine ⟨_, hC3, ?_⟩ | refine ⟨_, hC4, ?_⟩ | refine ⟨_, hC5, ?_⟩ | refine ⟨_, hC6, ?_⟩); (try simp only [go_sem, Nat.reduceLT, Nat.reduceLeDiff, Nat.reduceEqDiff, reduceIte, Nat.reduceAdd, Nat.reduceMul, Nat.reduceSub, Int.reduceLT, Int.reduceLE, Int.reduceToNat, Int.reduceNeg, reduceCtorEq]))); (try simp (disch := omega) only [wrap_id, getD_map_in, Int.toNat_natCast]); (repeat (refine And.intro (by (first | omega | (simp; done))) ?_)); refine h' _ ?_; clear h' K') | (refine aops_nil (hK _ ?_); clear hK K gs; try simp only [aThen, aBlock]) | (refine AWp.sreg  dd27 rfl (fun gs K hgs hK => ?_); clear hgs) | refine AWp.seq ?_ | (refine AWp.ret ?_; try simp only [aThen, aBlock]) | (refine AWp.regR (id := 1) fo27 [46] mo_fact (by kernel_rfl) (by kernel_rfl) (fun gs K hgs hK => ?_); clear hgs) | (refine AWp.regR (id := 2) fo27 [] mo_fact (by kernel_rfl) (by kernel_rfl) (fun gs K hgs hK => ?_); clear hgs) | (refine aopsR_nil (hK _ ?_); clear hK K gs; simp only [fo27]; simp only [ASt.prune, pruneE, keepB, keepR, Bool.or_false, Bool.or_true, Bool.true_or, Bool.false_or, reduceIte, Bool.or_self, Bool.false_eq_true, aThen, aBlock, Nat.reduceEqDiff]) | (refine aopsR_cons (fun K' h' => ?_); simp only [go_sem, Nat.reduceLT, Nat.reduceLeDiff, Nat.reduceEqDiff, reduceIte, Nat.reduceAdd, Nat.reduceMul, Nat.reduceSub, Int.reduceLT, Int.reduceLE, Int.reduceToNat, Int.reduceNeg, reduceCtorEq]; refine ⟨_, _, hC1, ?_⟩; (try simp only [go_sem, Nat.reduceLT, Nat.reduceLeDiff, Nat.reduceEqDiff, reduceIte, Nat.reduceAdd, Nat.reduceMul, Nat.reduceSub, Int.reduceLT, Int.reduceLE, Int.reduceToNat, Int.reduceNeg, reduceCtorEq]); (repeat (refine And.intro (by (omega)) ?_)); refine h' _ ?_; clear h' K')))
  simp only [OutN, outA, outL, resA, go_sem, Nat.reduceLT, Nat.reduceLeDiff, Nat.reduceEqDiff, reduceIte, Nat.reduceAdd, Nat.reduceMul, Nat.reduceSub, Int.reduceLT, Int.reduceLE, Int.reduceToNat, Int.reduceNeg, reduceCtorEq]
  first
    | (refine ⟨AVle.of_eq (by simp [keepR]), ?_⟩; simp [frzRows, keepR]; done)
    | (refine ⟨AVle.of_eq (by simp [keepR]), ?_, ?_⟩ <;> simp [AV.lowB, lowL, Nat.blt, Nat.ble, frzRows, keepR]; done)
end Go.Proofs.YtjeehkdepoiegaaGreat
namespace Go.Proofs.YtjeehkdepoiegaaGreat
open Go.AL Go.RowKit
set_option linter.unusedSimpArgs false
set_option linter.unusedVariables false
set_option maxRecDepth 10000
set_option maxHeartbeats 8000000
def zeroT : Tsk := ⟨0, 0, 0, [], [], [], [], [], []⟩
theorem zeroT_le : AVle (.agg [.lit (.int .u8 0), .lit (.int .i64 0), .lit (.int .i64 0), .lit (.slice none 0 0), .lit (.slice none 0 0), .lit (.slice none 0 0), .lit (.slice none 0 0), .lit (.slice none 0 0), .lit (.slice none 0 0)]) (.agg zeroT.cells) :=
  AVle.agg ⟨AVle.refl _, AVle.refl _, AVle.refl _, AVle.nil 11, AVle.nil 1, AVle.nil 11, AVle.nil 5, AVle.nil 5, AVle.nil 3, trivial⟩
theorem goodT_few {t : Tsk} (h : tskE t = 0) : goodT t = true ∧ t.few ∧ t.pend.length ≤ 4000 := by
  have hg : goodT t = true := by
    unfold tskE at h
    split at h
    · assumption
    · cases h
  refine ⟨hg, ?_⟩
  unfold goodT at hg
  simp only [Bool.and_eq_true, decide_eq_true_eq] at hg
  obtain ⟨_, hp, hk, _, hs, _⟩ := hg
  have hs' : t.store.length ≤ 4000 := by
    unfold storeE at hs
    split at hs
    · cases hs
    · omega
  unfold keptB at hk
  have hk := of_decide_eq_true hk
  exact ⟨⟨by omega, by omega, by omega, by omega, by omega, by omega⟩, hp⟩
def pendE (t : Tsk) (l : List Snd) : Int := if tskE t ≠ 0 then tskE t else if allL l sendB = false then 8 else if 4000 < t.pend.length + l.length then 4 else 0
def pendT (t : Tsk) (l : List Snd) : Tsk := if pendE t l = 0 then { t with pend := t.pend ++ l } else zeroT
theorem pendE_bad {t : Tsk} {l : List Snd} (h : tskE t ≠ 0) : pendE t l = tskE t ∧ pendT t l = zeroT := by
  have : pendE t l = tskE t := by unfold pendE; rw [if_pos h]
  refine ⟨this, ?_⟩
  unfold pendT
  rw [this, if_neg h]
def dd23 : Nat → List (List Nat)
  | 0 => [[], [0], [], [5]]
  | 1 => [[], [], [7], [8]]
  | 2 => [[], [], [9]]
  | 3 => [[1, 2, 10], [], [6], [11], [12]]
  | 4 => [[6, 10], [], [13], [14]]
  | 5 => [[1, 2, 15], [], [16], []]
  | 6 => [[15], [], [17], [], [19], [20], [21], [18, 22]]
  | 7 => [[1, 2, 23], [], [24], []]
  | 8 => [[23], [], [25], [26]]
  | 9 => [[], [], [27], [1], [28, 29], [], [30, 31]]
  | 10 => [[], [2], [32], []]
  | _ => []
theorem pend_c (t : Tsk) (l : List Snd) (hok : t.ok) (hl : l.length ≤ maxLen) : ACall Tryz.prog 23 [.agg t.cells, sndsV l] (.tup [.agg (pendT t l).cells, .lit (.int .i64 (pendE t l))]) := by
  have hCk := tCheck_c t hok
  have hSd := sends_c l hl
  unfold maxLen at hl
  obtain ⟨R, hR⟩ : ∃ R, R = AV.tup [.agg (pendT t l).cells, .lit (.int .i64 (pendE t l))] := ⟨_, rfl⟩
  rw [← hR]
  by_cases h0 : tskE t = 0
  · obtain ⟨_, hf, hp⟩ := goodT_few h0
    have hCl := cloneT_n t hf
    have hpe : pendE t l = if allL l sendB = false then 8 else if 4000 < t.pend.length + l.length then 4 else 0 := by
      unfold pendE
      rw [if_neg (fun h => h h0)]
    rw [h0] at hCk
    have hpt : pendT t l = if pendE t l = 0 then { t with pend := t.pend ++ l } else zeroT := rfl
    generalize pendT t l = pt at *
    generalize pendE t l = pe' at *
    generalize allL l sendB = sb at *
    clear hok hf h0
    obtain ⟨kd, n, tn, pe, mk, st, ev, rw_, lt⟩ := t
    simp only at hp hpe hpt hCl
    unfold Tsk.cells sndsV mksV entsV evsV rowsV rcdsV at hCk
    unfold mksV entsV evsV rowsV rcdsV at hCl
    rw [show (Tsk.mk kd n tn pe mk st ev rw_ lt).cells = [.lit (.int .u8 kd), .lit (.int .i64 n), .lit (.int .i64 tn), .ro 11 (pe.map Snd.cells), .ro 1 (mk.map intC), .ro 11 (st.map Ent.cells), .ro 5 (ev.map Ev.cells), .ro 5 (rw_.map RowT.cells), .ro 3 (lt.map Rcd.cells)] from rfl] at hCl ⊢
    unfold sndsV at *
    have htk : List.take pe.length (pe.map Snd.cells) = pe.map Snd.cells := List.take_of_length_le (by simp)
    refine acall_of (n := 33) (rs := [.cell 4 39, .tmp 5]) Tryz.func23 rfl (by kernel_rfl) rfl rfl rfl ?_; simp only [argsE, Nat.reduceAdd]
    repeat (any_goals (first | (refine aops_cons (fun K' h' => ?_); simp only [go_sem, Nat.reduceLT, Nat.reduceLeDiff, Nat.reduceEqDiff, reduceIte, Nat.reduceAdd, Nat.reduceMul, Nat.reduceSub, Int.reduceLT, Int.reduceLE, Int.reduceToNat, Int.reduceNeg, reduceCtorEq, htk]; (try ((first | refine ⟨_, hCk, ?_⟩ | refine ⟨_, hSd, ?_⟩); (try simp only [go_sem, Nat.reduceLT, Nat.reduceLeDiff, Nat.reduceEqDiff, reduceIte, Nat.reduceAdd, Nat.reduceMul, Nat.reduceSub, Int.reduceLT, Int.reduceLE, Int.reduceToNat, Int.reduceNeg, reduceCtorEq, htk]))); (try simp (disch := omega) only [wrap_id, getD_map_in, Int.toNat_natCast, htk]); (repeat (refine And.intro (by (omega)) ?_)); refine h' _ ?_; clear h' K') | (refine aops_nil (hK _ ?_); clear hK K gs; try simp only [aThen, aBlock]) | (refine aops_consN  (fun K' h' => ?_); simp only [go_sem, Nat.reduceLT, Nat.reduceLeDiff, Nat.reduceEqDiff, reduceIte, Nat.reduceAdd, Nat.reduceMul, Nat.reduceSub, Int.reduceLT, Int.reduceLE, Int.reduceToNat, Int.reduceNeg, reduceCtorEq, htk]; refine ⟨_, _, hCl, ?_⟩; (try simp only [go_sem, Nat.reduceLT, Nat.reduceLeDiff, Nat.reduceEqDiff, reduceIte, Nat.reduceAdd, Nat.reduceMul, Nat.reduceSub, Int.reduceLT, Int.reduceLE, Int.reduceToNat, Int.reduceNeg, reduceCtorEq, htk]); (repeat (refine And.intro (by (omega)) ?_)); refine h' _ ?_; clear h' K') | (refine AWp.sreg  dd23 rfl (fun gs K hgs hK => ?_); clear hgs) | refine AWp.seq ?_ | (refine AWp.ret ?_; try simp only [aThen, aBlock]) | (refine AWp.skip ?_; try simp only [aThen, aBlock]) | (refine AWp.cond rfl (fun h => ?_) (fun h => ?_) <;> (try simp only [decide_eq_true_eq, decide_eq_false_iff_not, beq_iff_eq, bne_iff_ne, ne_eq, Bool.not_eq_true', Bool.not_eq_false', beq_eq_false_iff_ne, Bool.true_eq_false, Bool.false_eq_true, Int.not_le, Int.not_lt, Bool.and_eq_true, Bool.and_eq_false_iff, Bool.or_eq_true, Bool.or_eq_false_iff, bne_eq_false_iff_eq, reduceCtorEq] at h) <;> (try first | contradiction))))
    all_goals simp only [Out, outA, outL, resA, go_sem, Nat.reduceLT, Nat.reduceLeDiff, Nat.reduceEqDiff, reduceIte, Nat.reduceAdd, Nat.reduceMul, Nat.reduceSub, Int.reduceLT, Int.reduceLE, Int.reduceToNat, Int.reduceNeg, reduceCtorEq]
    all_goals rw [hR]
    · rw [if_pos h] at hpe
      rw [hpe, if_neg (by omega)] at hpt
      rw [hpt, hpe]
      exact AVle.tup ⟨zeroT_le, AVle.refl _, trivial⟩
    · rename_i h1
      rw [h1, if_neg (by simp), if_pos (by omega)] at hpe
      rw [hpe, if_neg (by omega)] at hpt
      rw [hpt, hpe]
      exact AVle.tup ⟨zeroT_le, AVle.refl _, trivial⟩
    · rename_i h1
      rw [h1, if_neg (by simp), if_neg (by omega)] at hpe
      rw [hpe, if_pos rfl] at hpt
      rw [hpt, hpe]
      refine AVle.of_eq ?_
      simp [Tsk.cells, sndsV, mksV, entsV, evsV, rowsV, rcdsV, List.take_of_length_le]
  · obtain ⟨e1, e2⟩ := pendE_bad (l := l) h0
    rw [e1, e2] at hR
    generalize tskE t = te at *
    clear hok e1 e2
    obtain ⟨kd, n, tn, pe, mk, st, ev, rw_, lt⟩ := t
    unfold Tsk.cells sndsV mksV entsV evsV rowsV rcdsV at hCk
    rw [show (Tsk.mk kd n tn pe mk st ev rw_ lt).cells = [.lit (.int .u8 kd), .lit (.int .i64 n), .lit (.int .i64 tn), .ro 11 (pe.map Snd.cells), .ro 1 (mk.map intC), .ro 11 (st.map Ent.cells), .ro 5 (ev.map Ev.cells), .ro 5 (rw_.map RowT.cells), .ro 3 (lt.map Rcd.cells)] from rfl]
    unfold sndsV at *
    refine acall_of (n := 33) (rs := [.cell 4 39, .tmp 5]) Tryz.func23 rfl (by kernel_rfl) rfl rfl rfl ?_; simp only [argsE, Nat.reduceAdd]
    repeat (any_goals (first | (refine aops_cons (fun K' h' => ?_); simp only [go_sem, Nat.reduceLT, Nat.reduceLeDiff, Nat.reduceEqDiff, reduceIte, Nat.reduceAdd, Nat.reduceMul, Nat.reduceSub, Int.reduceLT, Int.reduceLE, Int.reduceToNat, Int.reduceNeg, reduceCtorEq]; (try ((refine ⟨_, hCk, ?_⟩); (try simp only [go_sem, Nat.reduceLT, Nat.reduceLeDiff, Nat.reduceEqDiff, reduceIte, Nat.reduceAdd, Nat.reduceMul, Nat.reduceSub, Int.reduceLT, Int.reduceLE, Int.reduceToNat, Int.reduceNeg, reduceCtorEq]))); (try simp (disch := omega) only [wrap_id, getD_map_in, Int.toNat_natCast]); (repeat (refine And.intro (by (omega)) ?_)); refine h' _ ?_; clear h' K') | (refine aops_nil (hK _ ?_); clear hK K gs; try simp only [aThen, aBlock]) | (refine AWp.sreg  dd23 rfl (fun gs K hgs hK => ?_); clear hgs) | refine AWp.seq ?_ | (refine AWp.ret ?_; try simp only [aThen, aBlock]) | (refine AWp.cond rfl (fun h => ?_) (fun h => ?_) <;> (try simp only [decide_eq_true_eq, decide_eq_false_iff_not, beq_iff_eq, bne_iff_ne, ne_eq, Bool.not_eq_true', Bool.not_eq_false', beq_eq_false_iff_ne, Bool.true_eq_false, Bool.false_eq_true, Int.not_le, Int.not_lt, Bool.and_eq_true, Bool.and_eq_false_iff, Bool.or_eq_true, Bool.or_eq_false_iff, bne_eq_false_iff_eq, reduceCtorEq] at h) <;> (try first | contradiction))))
    all_goals simp only [Out, outA, outL, resA, go_sem, Nat.reduceLT, Nat.reduceLeDiff, Nat.reduceEqDiff, reduceIte, Nat.reduceAdd, Nat.reduceMul, Nat.reduceSub, Int.reduceLT, Int.reduceLE, Int.reduceToNat, Int.reduceNeg, reduceCtorEq]
    all_goals rw [hR]
    all_goals exact AVle.tup ⟨zeroT_le, AVle.refl _, trivial⟩
end Go.Proofs.YtjeehkdepoiegaaGreat
