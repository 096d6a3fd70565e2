/-
  Tasks that are not valid are refused by all functions.
-/
import Derived.Test.YtlpmgkillalhbaaTAlv
import Derived.Test.YtlpmgkillalhbaaQueT
import Derived.Test.YtlpmgkillalhbaaQueS
namespace Go.Proofs.Ytlpmgkillalhbaa
open Go.AL Go.RowKit
set_option linter.unusedSimpArgs false
set_option linter.unusedVariables false
set_option maxRecDepth 10000
set_option maxHeartbeats 8000000

theorem AWp.frz {P : Program} {n : Nat} {c : Code} {Q : Exit → ASt → Prop} {st : ASt} (keep : List Nat) (h : AWp P n c Q (st.freeze keep)) : AWp P n c Q st := AWp.weaken (fun _ _ _ _ _ hr => hr.freeze keep) h
theorem ro_le {sz : Nat} {xs ys : List (List AV)} (hl : xs.length = ys.length) (h : ∀ (i : Nat) (x y : List AV), xs[i]? = some x → ys[i]? = some y → AVleL x y) : AVle (.ro sz xs) (.ro sz ys) := by
  have get : ∀ (i : Nat) (y : List AV), ys[i]? = some y → ∃ x, xs[i]? = some x ∧ AVleL x y := fun i y hy => by
    have hi := (List.getElem?_eq_some_iff.1 hy).1
    exact ⟨_, List.getElem?_eq_getElem (by omega), h i _ _ (List.getElem?_eq_getElem (by omega)) hy⟩
  intro w S γ ρ c u hv
  cases hv with
  | ro U hn hc hm hz hA hv =>
    refine .ro U (by omega) hc hm (fun y hy => ?_) (fun hne => ?_) (fun i y j c hi hj => ?_)
    · obtain ⟨i, hi⟩ := List.getElem?_of_mem hy
      obtain ⟨x, hx, hle⟩ := get i y hi
      rw [← (AVleL_spec hle).1]
      exact hz x (List.mem_of_getElem? hx)
    · have hx : xs ≠ [] := fun e => hne (List.eq_nil_of_length_eq_zero (by rw [← hl, e]; rfl))
      obtain ⟨ad, e1, e2, e3⟩ := hA hx
      refine ⟨ad, e1, e2, fun i y j c hi hj => ?_⟩
      obtain ⟨x, hx, hle⟩ := get i y hi
      have hjl := (List.getElem?_eq_some_iff.1 hj).1
      exact e3 i x j _ hx (List.getElem?_eq_getElem (by have := (AVleL_spec hle).1; omega))
    · obtain ⟨x, hx, hle⟩ := get i y hi
      have hjl := (List.getElem?_eq_some_iff.1 hj).1
      have hjx : j < x.length := by have := (AVleL_spec hle).1; omega
      exact (AVleL_spec hle).2 j _ c (List.getElem?_eq_getElem hjx) hj _ _ _ _ _ _ (hv i x j _ hx (List.getElem?_eq_getElem hjx))
def Zq : List AV := [.lit (.int .i64 0), .lit (.slice none 0 0)]
theorem zq_le (k : Nat) : AVle (.ro 2 (List.replicate k Zq)) (quesV (List.replicate k zeroQ)) := by
  unfold quesV
  refine ro_le (by simp) fun i x y hx hy => ?_
  have hi := (List.getElem?_eq_some_iff.1 hx).1
  simp only [List.length_replicate] at hi
  rw [List.getElem?_replicate, if_pos hi] at hx
  rw [List.getElem?_map, List.getElem?_replicate, if_pos hi] at hy
  cases hx
  cases hy
  exact ⟨AVle.refl _, AVle.nil 10, trivial⟩
theorem ask_bad {t : Tsk} {ins outs : List Que} (h : tskE t ≠ 0) : askQ t ins outs = tskE t := by unfold askQ; rw [if_pos h]
theorem tskE_8 {t : Tsk} (h : tskE t ≠ 0) : tskE t = 8 := by
  unfold tskE at *
  split at h
  · exact absurd rfl h
  · rename_i h2
    rw [if_neg h2]

def dd65 : Nat → List (List Nat)
  | 0 => [[], [0], [2]]
  | 4 => [[], [], [], [35], [34, 36], [37], [], [33], [], [11, 38], [39]]
  | 5 => [[], [1], [40], [41], [42], [4], [44], [43, 45], [46], [7], [48], [47, 49], [50], [10], [52], [51, 53], [54], [12], [56], [55, 57], [58]]
  | _ => []
def fo65 : Nat → List Nat
  | 1 => [1, 4]
  | 2 => [1, 4, 7]
  | 3 => [1, 4, 7, 10]
  | _ => []
theorem refused_c (t : Tsk) (hok : t.ok) (h : tskE t ≠ 0) : ACall Try.prog 65 [.agg t.cells] (.lit (.bool true)) := by
  have h8 := tskE_8 h
  have hm : (List.replicate 9 zeroQ).length ≤ maxLen := by simp [maxLen]
  have hEn : ACall Try.prog 13 [.agg t.cells, .ro 2 (List.replicate 9 Zq), .lit (.slice none 0 0)] (.tup [.lit (.bool false), .lit (.int .i64 8)]) := by
    have e1 : enaE t (List.replicate 9 zeroQ) [] = 8 := by unfold enaE; rw [ask_bad h, if_pos h, h8]
    have e2 : enaB t (List.replicate 9 zeroQ) [] = false := by unfold enaB; rw [e1]; rfl
    have := ena_c t (List.replicate 9 zeroQ) [] hok hm (by simp [maxLen])
    rw [e1, e2] at this
    exact this.mono ⟨AVle.refl _, zq_le 9, AVle.nil 2, trivial⟩ (AVle.refl _)
  have hTu : ACall Try.prog 16 [.agg t.cells, .ro 2 (List.replicate 9 Zq)] (.tup [.lit (.int .i64 0), .agg zeroT.cells, .lit (.int .i64 8)]) := by
    have := turn_c t (List.replicate 9 zeroQ) hok hm
    rcases turn_cases t (List.replicate 9 zeroQ) with ⟨h1, h2, h3, h4⟩ | ⟨h1, _⟩ | ⟨h1, _⟩
    · rw [h2, h3, h4, ask_bad h, h8] at this
      exact this.mono ⟨AVle.refl _, zq_le 9, trivial⟩ (AVle.refl _)
    · rw [ask_bad h] at h1; exact absurd h1 h
    · rw [ask_bad h] at h1; exact absurd h1 h
  have hSe : ACall Try.prog 26 [.agg t.cells, .ro 2 (List.replicate 9 Zq)] (.tup [.agg zeroT.cells, .ro 2 [], .lit (.int .i64 8)]) := by
    have := send_c t (List.replicate 9 zeroQ) hok hm
    rcases send_cases t (List.replicate 9 zeroQ) with ⟨h1, h2, h3, h4⟩ | ⟨h1, _⟩ | ⟨h1, _⟩
    · rw [h2, h3, h4, ask_bad h, h8] at this
      exact this.mono ⟨AVle.refl _, zq_le 9, trivial⟩ (AVle.refl _)
    · rw [ask_bad h] at h1; exact absurd h1 h
    · rw [ask_bad h] at h1; exact absurd h1 h
  have hPe : ACall Try.prog 22 [.agg t.cells, sndsV [⟨-1, ⟨0, 0, 0, 0, 0, 0, 0, 0, 0, 0⟩⟩]] (.tup [.agg zeroT.cells, .lit (.int .i64 8)]) := by
    have := pend_c t [⟨-1, ⟨0, 0, 0, 0, 0, 0, 0, 0, 0, 0⟩⟩] hok (by simp [maxLen])
    obtain ⟨e1, e2⟩ := pendE_bad (l := [⟨-1, ⟨0, 0, 0, 0, 0, 0, 0, 0, 0, 0⟩⟩]) h
    rw [e1, e2, h8] at this
    exact this
  have hCk := tCheck_c t hok
  rw [h8] at hCk
  clear hok h h8 hm
  obtain ⟨kd, n, tn, pe, mk, st, ev, rw_, lt⟩ := t
  rw [show (Tsk.mk kd n tn pe mk st ev rw_ lt).cells = [.lit (.int .u8 kd), .lit (.int .i64 n), .lit (.int .i64 tn), .ro 11 (pe.map Snd.cells), .ro 1 (mk.map intC), .ro 11 (st.map Ent.cells), .ro 5 (ev.map Ev.cells), .ro 5 (rw_.map RowT.cells), .ro 3 (lt.map Rcd.cells)] from rfl] at *
  simp only [zeroT, Tsk.cells, sndsV, mksV, entsV, evsV, rowsV, rcdsV, List.map_nil, List.map_cons, Snd.cells, Msg.cells, Zq] at hEn hTu hSe hPe
  refine acall_of (n := 59) (rs := [.tmp 2]) Try.func65 rfl (by kernel_rfl) rfl rfl rfl ?_; simp only [argsE, Nat.reduceAdd]
  repeat (any_goals (first | ((first | refine aops_cons (fun K' h' => ?_) | refine aopsD_cons (fun K' h' => ?_) | refine aopsM_cons (fun K' h' => ?_)); simp only [go_sem, Nat.reduceLT, Nat.reduceLeDiff, Nat.reduceEqDiff, reduceIte, Nat.reduceAdd, Nat.reduceMul, Nat.reduceSub, Int.reduceLT, Int.reduceLE, Int.reduceToNat, Int.reduceNeg, reduceCtorEq, hgs, aopG, beq_self_eq_true, amem, Int.reduceToNat]; (try ((first | refine ⟨_, hEn, ?_⟩ | refine ⟨_, fun _ => hEn, ?_⟩ | refine ⟨_, hTu, ?_⟩ | refine ⟨_, fun _ => hTu, ?_⟩ | refine ⟨_, hSe, ?_⟩ | refine ⟨_, fun _ => hSe, ?_⟩ | refine ⟨_, hPe, ?_⟩ | refine ⟨_, fun _ => hPe, ?_⟩ | refine ⟨_, hCk, ?_⟩ | refine ⟨_, fun _ => hCk, ?_⟩); (try simp only [go_sem, Nat.reduceLT, Nat.reduceLeDiff, Nat.reduceEqDiff, reduceIte, Nat.reduceAdd, Nat.reduceMul, Nat.reduceSub, Int.reduceLT, Int.reduceLE, Int.reduceToNat, Int.reduceNeg, reduceCtorEq, hgs, aopG, beq_self_eq_true, amem, Int.reduceToNat]))); (try simp (disch := omega) only [wrap_id, getD_map_in, Int.toNat_natCast, aopG, beq_self_eq_true, amem, Int.reduceToNat]); (repeat (refine And.intro (by (first | omega | (simp; done) | (simp; omega) | assumption)) ?_)); refine h' _ ?_; clear h' K') | (refine aops_nil (hK _ ?_); clear hK K hgs gs; try simp only [aThen, aBlock]) | (refine aops_consF [] (fun K' h' => ?_); simp only [go_sem, Nat.reduceLT, Nat.reduceLeDiff, Nat.reduceEqDiff, reduceIte, Nat.reduceAdd, Nat.reduceMul, Nat.reduceSub, Int.reduceLT, Int.reduceLE, Int.reduceToNat, Int.reduceNeg, reduceCtorEq, hgs, aopG, beq_self_eq_true, amem, Int.reduceToNat]; refine ⟨_, hPe, ?_⟩; (try simp only [go_sem, Nat.reduceLT, Nat.reduceLeDiff, Nat.reduceEqDiff, reduceIte, Nat.reduceAdd, Nat.reduceMul, Nat.reduceSub, Int.reduceLT, Int.reduceLE, Int.reduceToNat, Int.reduceNeg, reduceCtorEq, hgs, aopG, beq_self_eq_true, amem, Int.reduceToNat]); (repeat (refine And.intro (by (first | omega | (simp; done) | (simp; omega) | assumption)) ?_)); refine h' _ ?_; clear h' K') | ((first | refine AWp.sreg (id := 5) dd65 rfl (fun gs K hgs hK => ?_) | refine AWp.reg (id := 5) dd65 rfl (fun gs K hgs hK => ?_)); replace hgs : gs 3 = some 43 ∧ gs 7 = some 47 ∧ gs 11 = some 51 ∧ gs 15 = some 55 := ⟨hgs 3, hgs 7, hgs 11, hgs 15⟩) | (refine AWp.sreg  dd65 rfl (fun gs K hgs hK => ?_); replace hgs : Nat.succ 0 = 1 := rfl) | refine AWp.seq ?_ | refine ARounds.step ?_ | refine AWp.block ?_ | refine AWp.label ?_ | (refine AWp.ret ?_; try simp only [aThen, aBlock]) | (refine AWp.skip ?_; try simp only [aThen, aBlock]) | (refine AWp.exit ?_; try simp only [aThen, aBlock, Nat.reduceEqDiff, reduceIte]) | (refine AWp.reg  dd65 rfl (fun gs K hgs hK => ?_); replace hgs : Nat.succ 0 = 1 := rfl) | ((first | refine AWp.sregM (id := 1) fo65 (false, false) mo_fact (by kernel_rfl) (by kernel_rfl) (fun gs K hgs hK => ?_) | refine AWp.regM (id := 1) fo65 (false, false) mo_fact (by kernel_rfl) (by kernel_rfl) (fun gs K hgs hK => ?_)); replace hgs : Nat.succ 0 = 1 := rfl) | ((first | refine AWp.sregM (id := 2) fo65 (true, false) mo_fact (by kernel_rfl) (by kernel_rfl) (fun gs K hgs hK => ?_) | refine AWp.regM (id := 2) fo65 (true, false) mo_fact (by kernel_rfl) (by kernel_rfl) (fun gs K hgs hK => ?_)); replace hgs : Nat.succ 0 = 1 := rfl) | ((first | refine AWp.sregM (id := 3) fo65 (true, false) mo_fact (by kernel_rfl) (by kernel_rfl) (fun gs K hgs hK => ?_) | refine AWp.regM (id := 3) fo65 (true, false) mo_fact (by kernel_rfl) (by kernel_rfl) (fun gs K hgs hK => ?_)); replace hgs : Nat.succ 0 = 1 := rfl) | (refine aopsM_nil (hK _ ?_); clear hK K hgs gs; simp only [fo65]; simp only [ASt.prune, pruneE, keepB, keepR, Bool.or_false, Bool.or_true, Bool.true_or, Bool.false_or, reduceIte, Bool.or_self, Bool.false_eq_true, aThen, aBlock, Nat.reduceEqDiff]) | (refine aops_consG (fun K' h' => ?_); simp only [go_sem, Nat.reduceLT, Nat.reduceLeDiff, Nat.reduceEqDiff, reduceIte, Nat.reduceAdd, Nat.reduceMul, Nat.reduceSub, Int.reduceLT, Int.reduceLE, Int.reduceToNat, Int.reduceNeg, reduceCtorEq, hgs, aopG, beq_self_eq_true, amem, Int.reduceToNat]; (try simp (disch := omega) only [wrap_id, getD_map_in, Int.toNat_natCast, aopG, beq_self_eq_true, amem, Int.reduceToNat]); (repeat (refine And.intro (by (first | omega | (simp; done) | (simp; omega) | assumption)) ?_)); refine h' _ ?_; clear h' K') | (refine AWp.cond rfl (fun h => ?_) (fun h => ?_) <;> (try simp only [decide_eq_true_eq, decide_eq_false_iff_not, beq_iff_eq, bne_iff_ne, ne_eq, Bool.not_eq_true', Bool.not_eq_false', beq_eq_false_iff_ne, Bool.true_eq_false, Bool.false_eq_true, Int.not_le, Int.not_lt, Bool.and_eq_true, Bool.and_eq_false_iff, Bool.or_eq_true, Bool.or_eq_false_iff, bne_eq_false_iff_eq, reduceCtorEq] at h) <;> (try first | contradiction | (exfalso; omega) | (exfalso; revert h; simp; done) | (exfalso; revert h; simp; omega)))))
  all_goals simp only [Out, outA, outL, resA, go_sem, Nat.reduceLT, Nat.reduceLeDiff, Nat.reduceEqDiff, reduceIte, Nat.reduceAdd, Nat.reduceMul, Nat.reduceSub, Int.reduceLT, Int.reduceLE, Int.reduceToNat, Int.reduceNeg, reduceCtorEq]
  all_goals exact AVle.of_eq (by simp)
end Go.Proofs.Ytlpmgkillalhbaa
