/-
  The walk over Pend.
-/
import Derived.Test.YtfmnjgjfkfppkaaTskW4
import Derived.Test.YtfmnjgjfkfppkaaTskW6
namespace Go.Proofs.Ytfmnjgjfkfppkaa
open Go.AL Go.RowKit
set_option linter.unusedSimpArgs false
set_option linter.unusedVariables false
set_option maxRecDepth 10000
set_option maxHeartbeats 8000000

def zeroT : Tsk := ⟨0, 0, 0, [], [], [], [], [], []⟩
theorem zeroT_le : AVle (.agg [.lit (.int .u8 0), .lit (.int .i64 0), .lit (.int .i64 0), .lit (.slice none 0 0), .lit (.slice none 0 0), .lit (.slice none 0 0), .lit (.slice none 0 0), .lit (.slice none 0 0), .lit (.slice none 0 0)]) (.agg zeroT.cells) :=
  AVle.agg ⟨AVle.refl _, AVle.refl _, AVle.refl _, AVle.nil 11, AVle.nil 1, AVle.nil 11, AVle.nil 5, AVle.nil 5, AVle.nil 3, trivial⟩
theorem goodT_few {t : Tsk} (h : tskE t = 0) : goodT t = true ∧ t.few ∧ t.pend.length ≤ 4000 := by
  have hg : goodT t = true := by
    unfold tskE at h
    split at h
    · assumption
    · cases h
  refine ⟨hg, ?_⟩
  unfold goodT at hg
  simp only [Bool.and_eq_true, decide_eq_true_eq] at hg
  obtain ⟨_, hp, hk, _, hs, _⟩ := hg
  have hs' : t.store.length ≤ 4000 := by
    unfold storeE at hs
    split at hs
    · cases hs
    · omega
  unfold keptB at hk
  have hk := of_decide_eq_true hk
  exact ⟨⟨by omega, by omega, by omega, by omega, by omega, by omega⟩, hp⟩
def pendE (t : Tsk) (l : List Snd) : Int := if tskE t ≠ 0 then tskE t else if allL l sendB = false then 8 else if 4000 < t.pend.length + l.length then 4 else 0
def pendT (t : Tsk) (l : List Snd) : Tsk := if pendE t l = 0 then { t with pend := t.pend ++ l } else zeroT

theorem pendE_bad {t : Tsk} {l : List Snd} (h : tskE t ≠ 0) : pendE t l = tskE t ∧ pendT t l = zeroT := by
  have : pendE t l = tskE t := by unfold pendE; rw [if_pos h]
  refine ⟨this, ?_⟩
  unfold pendT
  rw [this, if_neg h]

def dd20 : Nat → List (List Nat)
  | 0 => [[], [0], [], [5]]
  | 1 => [[], [], [7], [8]]
  | 2 => [[], [], [9]]
  | 3 => [[1, 2, 10], [], [6], [11], [12]]
  | 4 => [[6, 10], [], [13], [14]]
  | 5 => [[1, 2, 15], [], [16], []]
  | 6 => [[15], [], [17], [], [19], [20], [21], [18, 22]]
  | 7 => [[1, 2, 23], [], [24], []]
  | 8 => [[23], [], [25], [26]]
  | 9 => [[], [], [27], [1], [28, 29], [], [30, 31]]
  | 10 => [[], [2], [32], []]
  | _ => []
theorem pend_c (t : Tsk) (l : List Snd) (hok : t.ok) (hl : l.length ≤ maxLen) : ACall Try.prog 20 [.agg t.cells, sndsV l] (.tup [.agg (pendT t l).cells, .lit (.int .i64 (pendE t l))]) := by
  have hCk := tCheck_c t hok
  have hSd := sends_c l hl
  unfold maxLen at hl
  obtain ⟨R, hR⟩ : ∃ R, R = AV.tup [.agg (pendT t l).cells, .lit (.int .i64 (pendE t l))] := ⟨_, rfl⟩
  rw [← hR]
  by_cases h0 : tskE t = 0
  · obtain ⟨_, hf, hp⟩ := goodT_few h0
    have hCl := cloneT_n t hf
    have hpe : pendE t l = if allL l sendB = false then 8 else if 4000 < t.pend.length + l.length then 4 else 0 := by
      unfold pendE
      rw [if_neg (fun h => h h0)]
    rw [h0] at hCk
    have hpt : pendT t l = if pendE t l = 0 then { t with pend := t.pend ++ l } else zeroT := rfl
    generalize pendT t l = pt at *
    generalize pendE t l = pe' at *
    generalize allL l sendB = sb at *
    clear hok hf h0
    obtain ⟨kd, n, tn, pe, mk, st, ev, rw_, lt⟩ := t
    simp only at hp hpe hpt hCl
    unfold Tsk.cells sndsV mksV entsV evsV rowsV rcdsV at hCk
    unfold mksV entsV evsV rowsV rcdsV at hCl
    rw [show (Tsk.mk kd n tn pe mk st ev rw_ lt).cells = [.lit (.int .u8 kd), .lit (.int .i64 n), .lit (.int .i64 tn), .ro 11 (pe.map Snd.cells), .ro 1 (mk.map intC), .ro 11 (st.map Ent.cells), .ro 5 (ev.map Ev.cells), .ro 5 (rw_.map RowT.cells), .ro 3 (lt.map Rcd.cells)] from rfl] at hCl ⊢
    unfold sndsV at *
    have htk : List.take pe.length (pe.map Snd.cells) = pe.map Snd.cells := List.take_of_length_le (by simp)
    refine acall_of (n := 33) (rs := [.cell 4 40, .tmp 5]) Try.func20 rfl (by kernel_rfl) rfl rfl rfl ?_; simp only [argsE, Nat.reduceAdd]
    repeat (any_goals (first | (refine aops_cons (fun K' h' => ?_); simp only [go_sem, Nat.reduceLT, Nat.reduceLeDiff, Nat.reduceEqDiff, reduceIte, Nat.reduceAdd, Nat.reduceMul, Nat.reduceSub, Int.reduceLT, Int.reduceLE, Int.reduceToNat, Int.reduceNeg, reduceCtorEq, htk]; (try ((first | refine ⟨_, hCk, ?_⟩ | refine ⟨_, fun _ => hCk, ?_⟩ | refine ⟨_, hSd, ?_⟩ | refine ⟨_, fun _ => hSd, ?_⟩); (try simp only [go_sem, Nat.reduceLT, Nat.reduceLeDiff, Nat.reduceEqDiff, reduceIte, Nat.reduceAdd, Nat.reduceMul, Nat.reduceSub, Int.reduceLT, Int.reduceLE, Int.reduceToNat, Int.reduceNeg, reduceCtorEq, htk]))); (try simp (disch := omega) only [wrap_id, getD_map_in, Int.toNat_natCast, htk]); (repeat (refine And.intro (by (first | omega | (simp; done) | (simp; omega) | assumption)) ?_)); refine h' _ ?_; clear h' K') | (refine aops_nil (hK _ ?_); clear hK K gs; try simp only [aThen, aBlock]) | (refine aops_consN  (fun K' h' => ?_); simp only [go_sem, Nat.reduceLT, Nat.reduceLeDiff, Nat.reduceEqDiff, reduceIte, Nat.reduceAdd, Nat.reduceMul, Nat.reduceSub, Int.reduceLT, Int.reduceLE, Int.reduceToNat, Int.reduceNeg, reduceCtorEq, htk]; refine ⟨_, _, hCl, ?_⟩; (try simp only [go_sem, Nat.reduceLT, Nat.reduceLeDiff, Nat.reduceEqDiff, reduceIte, Nat.reduceAdd, Nat.reduceMul, Nat.reduceSub, Int.reduceLT, Int.reduceLE, Int.reduceToNat, Int.reduceNeg, reduceCtorEq, htk]); (repeat (refine And.intro (by (first | omega | (simp; done) | (simp; omega) | assumption)) ?_)); refine h' _ ?_; clear h' K') | (refine AWp.sreg  dd20 rfl (fun gs K hgs hK => ?_); clear hgs) | refine AWp.seq ?_ | refine ARounds.step ?_ | refine AWp.block ?_ | refine AWp.label ?_ | (refine AWp.ret ?_; try simp only [aThen, aBlock]) | (refine AWp.skip ?_; try simp only [aThen, aBlock]) | (refine AWp.exit ?_; try simp only [aThen, aBlock, Nat.reduceEqDiff, reduceIte]) | (refine AWp.reg  dd20 rfl (fun gs K hgs hK => ?_); clear hgs) | (refine AWp.cond rfl (fun h => ?_) (fun h => ?_) <;> (try simp only [decide_eq_true_eq, decide_eq_false_iff_not, beq_iff_eq, bne_iff_ne, ne_eq, Bool.not_eq_true', Bool.not_eq_false', beq_eq_false_iff_ne, Bool.true_eq_false, Bool.false_eq_true, Int.not_le, Int.not_lt, Bool.and_eq_true, Bool.and_eq_false_iff, Bool.or_eq_true, Bool.or_eq_false_iff, bne_eq_false_iff_eq, reduceCtorEq] at h) <;> (try first | contradiction | (exfalso; omega) | (exfalso; revert h; simp; done) | (exfalso; revert h; simp; omega)))))
    all_goals simp only [Out, outA, outL, resA, go_sem, Nat.reduceLT, Nat.reduceLeDiff, Nat.reduceEqDiff, reduceIte, Nat.reduceAdd, Nat.reduceMul, Nat.reduceSub, Int.reduceLT, Int.reduceLE, Int.reduceToNat, Int.reduceNeg, reduceCtorEq]
    all_goals rw [hR]
    · rw [if_pos h] at hpe
      rw [hpe, if_neg (by omega)] at hpt
      rw [hpt, hpe]
      exact AVle.tup ⟨zeroT_le, AVle.refl _, trivial⟩
    · rename_i h1
      rw [h1, if_neg (by simp), if_pos (by omega)] at hpe
      rw [hpe, if_neg (by omega)] at hpt
      rw [hpt, hpe]
      exact AVle.tup ⟨zeroT_le, AVle.refl _, trivial⟩
    · rename_i h1
      rw [h1, if_neg (by simp), if_neg (by omega)] at hpe
      rw [hpe, if_pos rfl] at hpt
      rw [hpt, hpe]
      refine AVle.of_eq ?_
      simp [Tsk.cells, sndsV, mksV, entsV, evsV, rowsV, rcdsV, List.take_of_length_le]
  · obtain ⟨e1, e2⟩ := pendE_bad (l := l) h0
    rw [e1, e2] at hR
    generalize tskE t = te at *
    clear hok e1 e2
    obtain ⟨kd, n, tn, pe, mk, st, ev, rw_, lt⟩ := t
    unfold Tsk.cells sndsV mksV entsV evsV rowsV rcdsV at hCk
    rw [show (Tsk.mk kd n tn pe mk st ev rw_ lt).cells = [.lit (.int .u8 kd), .lit (.int .i64 n), .lit (.int .i64 tn), .ro 11 (pe.map Snd.cells), .ro 1 (mk.map intC), .ro 11 (st.map Ent.cells), .ro 5 (ev.map Ev.cells), .ro 5 (rw_.map RowT.cells), .ro 3 (lt.map Rcd.cells)] from rfl]
    unfold sndsV at *
    refine acall_of (n := 33) (rs := [.cell 4 40, .tmp 5]) Try.func20 rfl (by kernel_rfl) rfl rfl rfl ?_; simp only [argsE, Nat.reduceAdd]
    repeat (any_goals (first | (refine aops_cons (fun K' h' => ?_); simp only [go_sem, Nat.reduceLT, Nat.reduceLeDiff, Nat.reduceEqDiff, reduceIte, Nat.reduceAdd, Nat.reduceMul, Nat.reduceSub, Int.reduceLT, Int.reduceLE, Int.reduceToNat, Int.reduceNeg, reduceCtorEq]; (try ((first | refine ⟨_, hCk, ?_⟩ | refine ⟨_, fun _ => hCk, ?_⟩ | refine ⟨_, hSd, ?_⟩ | refine ⟨_, fun _ => hSd, ?_⟩); (try simp only [go_sem, Nat.reduceLT, Nat.reduceLeDiff, Nat.reduceEqDiff, reduceIte, Nat.reduceAdd, Nat.reduceMul, Nat.reduceSub, Int.reduceLT, Int.reduceLE, Int.reduceToNat, Int.reduceNeg, reduceCtorEq]))); (try simp (disch := omega) only [wrap_id, getD_map_in, Int.toNat_natCast]); (repeat (refine And.intro (by (first | omega | (simp; done) | (simp; omega) | assumption)) ?_)); refine h' _ ?_; clear h' K') | (refine aops_nil (hK _ ?_); clear hK K gs; try simp only [aThen, aBlock]) | (refine aops_consN  (fun K' h' => ?_); simp only [go_sem, Nat.reduceLT, Nat.reduceLeDiff, Nat.reduceEqDiff, reduceIte, Nat.reduceAdd, Nat.reduceMul, Nat.reduceSub, Int.reduceLT, Int.reduceLE, Int.reduceToNat, Int.reduceNeg, reduceCtorEq]; refine ⟨_, _, hCl, ?_⟩; (try simp only [go_sem, Nat.reduceLT, Nat.reduceLeDiff, Nat.reduceEqDiff, reduceIte, Nat.reduceAdd, Nat.reduceMul, Nat.reduceSub, Int.reduceLT, Int.reduceLE, Int.reduceToNat, Int.reduceNeg, reduceCtorEq]); (repeat (refine And.intro (by (first | omega | (simp; done) | (simp; omega) | assumption)) ?_)); refine h' _ ?_; clear h' K') | (refine AWp.sreg  dd20 rfl (fun gs K hgs hK => ?_); clear hgs) | refine AWp.seq ?_ | refine ARounds.step ?_ | refine AWp.block ?_ | refine AWp.label ?_ | (refine AWp.ret ?_; try simp only [aThen, aBlock]) | (refine AWp.skip ?_; try simp only [aThen, aBlock]) | (refine AWp.exit ?_; try simp only [aThen, aBlock, Nat.reduceEqDiff, reduceIte]) | (refine AWp.reg  dd20 rfl (fun gs K hgs hK => ?_); clear hgs) | (refine AWp.cond rfl (fun h => ?_) (fun h => ?_) <;> (try simp only [decide_eq_true_eq, decide_eq_false_iff_not, beq_iff_eq, bne_iff_ne, ne_eq, Bool.not_eq_true', Bool.not_eq_false', beq_eq_false_iff_ne, Bool.true_eq_false, Bool.false_eq_true, Int.not_le, Int.not_lt, Bool.and_eq_true, Bool.and_eq_false_iff, Bool.or_eq_true, Bool.or_eq_false_iff, bne_eq_false_iff_eq, reduceCtorEq] at h) <;> (try first | contradiction | (exfalso; omega) | (exfalso; revert h; simp; done) | (exfalso; revert h; simp; omega)))))
    all_goals simp only [Out, outA, outL, resA, go_sem, Nat.reduceLT, Nat.reduceLeDiff, Nat.reduceEqDiff, reduceIte, Nat.reduceAdd, Nat.reduceMul, Nat.reduceSub, Int.reduceLT, Int.reduceLE, Int.reduceToNat, Int.reduceNeg, reduceCtorEq]
    all_goals rw [hR]
    all_goals exact AVle.tup ⟨zeroT_le, AVle.refl _, trivial⟩
end Go.Proofs.Ytfmnjgjfkfppkaa
