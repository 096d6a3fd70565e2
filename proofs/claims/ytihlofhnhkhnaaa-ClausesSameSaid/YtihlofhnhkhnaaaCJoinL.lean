/-
  The law ClausesJoin.
-/
import Derived.Test.YtihlofhnhkhnaaaRunQ
import Derived.Test.YtihlofhnhkhnaaaCPartL
namespace Go.Proofs.Ytihlofhnhkhnaaa
open Go.AL Go.RowKit
set_option linter.unusedSimpArgs false
set_option linter.unusedVariables false
set_option maxRecDepth 10000
set_option maxHeartbeats 4000000

def Qry.flip (q : Qry) : Qry := { q with join := !q.join }
theorem srcE_join {l : List Int} (h : l.length = 2) (a b : Bool) : srcE l a = srcE l b := by
  unfold srcE
  simp [h]
theorem srcE_true {l : List Int} (h : srcE l true = 0) : l.length = 2 := by
  unfold srcE at h
  split at h
  · omega
  · split at h
    · omega
    · rename_i h1
      exact Classical.byContradiction fun h2 => h1 (.inr (.inl ⟨rfl, h2⟩))
theorem srcE_four {l : List Int} {j : Bool} (h : srcE l j = 0) : l.length ≤ 4 := by
  unfold srcE at h
  split at h
  · omega
  · omega
theorem chkE_0 {q : Qry} (h : chkE q = 0) : ¬ (q.agg < 1 ∨ 4 < q.agg ∨ (q.late ≠ 1 ∧ q.late ≠ 2)) ∧ ¬ (q.agg ≠ 1 ∧ errL q.arg ≠ 0) ∧ ¬ (q.agg = 1 ∧ 0 < q.arg.length) ∧ ¬ (0 < q.wh.length ∧ errL q.wh ≠ 0) ∧ srcE q.src q.join = 0 ∧ ¬ (q.join = true ∧ q.win.kind ≠ 1) ∧ winE q.win = 0 := by
  unfold chkE at h
  split at h
  · cases h
  · rename_i a1
    split at h
    · rename_i a2; exact absurd h a2.2
    · rename_i a2
      split at h
      · cases h
      · rename_i a3
        split at h
        · rename_i a4; exact absurd h a4.2
        · rename_i a4
          split at h
          · rename_i a5; exact absurd h a5
          · rename_i a5
            split at h
            · cases h
            · rename_i a6
              exact ⟨a1, a2, a3, a4, Classical.byContradiction a5, a6, h⟩
theorem chkE_flip {q : Qry} (h : chkE q = 0) : chkE q.flip = if q.src.length = 2 ∧ q.win.kind = 1 then 0 else 8 := by
  obtain ⟨a1, a2, a3, a4, a5, a6, a7⟩ := chkE_0 h
  unfold chkE Qry.flip
  simp only
  rw [if_neg a1, if_neg a2, if_neg a3, if_neg a4, a7]
  by_cases hb : q.src.length = 2 ∧ q.win.kind = 1
  · rw [if_pos hb, srcE_join hb.1 (!q.join) q.join, a5]
    simp [hb.2]
  · rw [if_neg hb]
    have hj : q.join = false := by
      cases hj : q.join with
      | false => rfl
      | true =>
        rw [hj] at a5
        exact absurd ⟨srcE_true a5, Classical.byContradiction fun h2 => a6 ⟨hj, h2⟩⟩ hb
    rw [hj] at a5 ⊢
    simp only [Bool.not_false]
    by_cases h2 : q.src.length = 2
    · rw [srcE_join h2 true false, a5]
      have hk : q.win.kind ≠ 1 := fun hk => hb ⟨h2, hk⟩
      simp [hk]
    · have h4 := srcE_four a5
      have : srcE q.src true = 8 := by
        unfold srcE
        rw [if_neg (by omega), if_pos (.inr (.inl ⟨rfl, h2⟩))]
      rw [this]; simp

def dd6 : Nat → List (List Nat)
  | 0 => [[], [0], [2]]
  | 1 => [[], [], [5], [6], [], [8], [9], [7, 10]]
  | 2 => [[1, 11], [], [12]]
  | 3 => [[11], [], [], [13]]
  | 4 => [[], [], [14], [15], [], [16, 17]]
  | 5 => [[], [], [18], [19], [20], [21], [], [23], [24], [25], [22, 26], [27]]
  | 6 => [[], [1], [28], [29], [], [31], [30, 32]]
  | 7 => [[3, 4, 33], []]
  | 8 => [[33], [], [34], [35], [], [36, 37], [38], [4], [40], [3], [42], [43], [41, 44], [39, 45], [46], [], [47, 48], [49]]
  | _ => []
theorem cjoin_law (q : Qry) (h1 : q.arg.length ≤ maxLen) (h2 : q.wh.length ≤ maxLen) (h3 : q.src.length ≤ maxLen) (hw : ∀ x ∈ q.src, -9223372036854775808 ≤ x ∧ x ≤ 9223372036854775807) :
    ACall Try.prog 6 [.agg q.cells] (.lit (.bool true)) := by
  have hG := greatQ_c q h1 h2 h3
  have hR := rqCheck_c q h1 h2 h3
  unfold maxLen at h1 h2 h3
  by_cases hv : greatQ q = false ∧ chkE q = 0
  · obtain ⟨hg, h0⟩ := hv
    have hg' : q.arg.length ≤ 70 ∧ q.wh.length ≤ 70 ∧ q.src.length ≤ 10 := by
      unfold greatQ at hg
      simp at hg; omega
    have hC := qCheck_c q.flip (by show q.arg.length ≤ 1000; omega) (by show q.wh.length ≤ 1000; omega) (by show q.src.length ≤ 1000; omega) hw
    have hjb : q.join = true → q.src.length = 2 ∧ q.win.kind = 1 := fun hj => by
      obtain ⟨_, _, _, _, a5, a6, _⟩ := chkE_0 h0
      rw [hj] at a5
      exact ⟨srcE_true a5, Classical.byContradiction fun h2 => a6 ⟨hj, h2⟩⟩
    rw [chkE_flip h0] at hC
    rw [hg] at hG
    rw [h0] at hR
    clear hg h0
    obtain ⟨ag, ar, sr, jn, wh, ⟨kd, sz, ev⟩, bk, lt⟩ := q
    unfold Qry.flip at hC
    simp only at hC hjb hg' h1 h2 h3
    unfold Qry.cells nodesV intsV at *
    simp only at hC
    by_cases hb : sr.length = 2 ∧ kd = 1
    · rw [if_pos hb] at hC
      obtain ⟨hb1, rfl⟩ := hb
      refine acall_of (n := 50) (rs := [.tmp 2]) Try.func6 rfl (by kernel_rfl) rfl rfl rfl ?_; simp only [argsE, Nat.reduceAdd]
      repeat (any_goals (first | (refine aops_cons (fun K' h' => ?_); simp only [go_sem, Nat.reduceLT, Nat.reduceLeDiff, Nat.reduceEqDiff, reduceIte, Nat.reduceAdd, Nat.reduceMul, Nat.reduceSub, Int.reduceLT, Int.reduceLE, Int.reduceToNat, Int.reduceNeg, reduceCtorEq, hgs, Option.toArray_none, Option.toArray_some, List.toList_toArray]; (try simp (disch := omega) only [wrap_id, getD_map_in, Int.toNat_natCast, Option.toArray_none, Option.toArray_some, List.toList_toArray]); (repeat (refine And.intro (by (first | omega | (simp; done) | (simp; omega) | assumption)) ?_)); refine h' _ ?_; clear h' K') | (refine aops_nil (hK _ ?_); clear hK K hgs gs; try simp only [aThen, aBlock]) | ((first | refine aops_cons (fun K' h' => ?_) | refine aopsD_cons (fun K' h' => ?_)); simp only [go_sem, Nat.reduceLT, Nat.reduceLeDiff, Nat.reduceEqDiff, reduceIte, Nat.reduceAdd, Nat.reduceMul, Nat.reduceSub, Int.reduceLT, Int.reduceLE, Int.reduceToNat, Int.reduceNeg, reduceCtorEq, hgs, Option.toArray_none, Option.toArray_some, List.toList_toArray]; (first | refine ⟨_, hG, ?_⟩ | refine ⟨_, fun _ => hG, ?_⟩ | refine ⟨_, hR, ?_⟩ | refine ⟨_, fun _ => hR, ?_⟩ | refine ⟨_, alive8_c, ?_⟩ | refine ⟨_, fun _ => alive8_c, ?_⟩ | refine ⟨_, hC, ?_⟩ | refine ⟨_, fun _ => hC, ?_⟩); (try simp only [go_sem, Nat.reduceLT, Nat.reduceLeDiff, Nat.reduceEqDiff, reduceIte, Nat.reduceAdd, Nat.reduceMul, Nat.reduceSub, Int.reduceLT, Int.reduceLE, Int.reduceToNat, Int.reduceNeg, reduceCtorEq, hgs, Option.toArray_none, Option.toArray_some, List.toList_toArray]); (repeat (refine And.intro (by (first | omega | (simp; done) | (simp; omega) | assumption)) ?_)); refine h' _ ?_; clear h' K') | (refine AWp.sreg (id := 1) dd6 rfl (fun gs K hgs hK => ?_); replace hgs : gs 2 = some 7 := hgs 2) | (refine AWp.sreg (id := 5) dd6 rfl (fun gs K hgs hK => ?_); replace hgs : gs 4 = some 22 := hgs 4) | (refine AWp.sreg (id := 6) dd6 rfl (fun gs K hgs hK => ?_); replace hgs : gs 2 = some 30 := hgs 2) | (refine AWp.sreg (id := 8) dd6 rfl (fun gs K hgs hK => ?_); replace hgs : gs 5 = some 39 ∧ gs 7 = some 41 ∧ gs 13 = some 47 := ⟨hgs 5, hgs 7, hgs 13⟩) | (refine AWp.reg (id := 1) dd6 rfl (fun gs K hgs hK => ?_); replace hgs : gs 2 = some 7 := hgs 2) | (refine AWp.reg (id := 5) dd6 rfl (fun gs K hgs hK => ?_); replace hgs : gs 4 = some 22 := hgs 4) | (refine AWp.reg (id := 6) dd6 rfl (fun gs K hgs hK => ?_); replace hgs : gs 2 = some 30 := hgs 2) | (refine AWp.reg (id := 8) dd6 rfl (fun gs K hgs hK => ?_); replace hgs : gs 5 = some 39 ∧ gs 7 = some 41 ∧ gs 13 = some 47 := ⟨hgs 5, hgs 7, hgs 13⟩) | (refine AWp.sreg  dd6 rfl (fun gs K hgs hK => ?_); replace hgs : Nat.succ 0 = 1 := rfl) | refine AWp.seq ?_ | refine ARounds.step ?_ | refine AWp.block ?_ | refine AWp.label ?_ | (refine AWp.ret ?_; try simp only [aThen, aBlock]) | (refine AWp.skip ?_; try simp only [aThen, aBlock]) | (refine AWp.exit ?_; try simp only [aThen, aBlock, Nat.reduceEqDiff, reduceIte]) | (refine AWp.reg  dd6 rfl (fun gs K hgs hK => ?_); replace hgs : Nat.succ 0 = 1 := rfl) | (refine AWp.cond rfl (fun h => ?_) (fun h => ?_) <;> (try simp only [decide_eq_true_eq, decide_eq_false_iff_not, beq_iff_eq, bne_iff_ne, ne_eq, Bool.not_eq_true', Bool.not_eq_false', beq_eq_false_iff_ne, Bool.true_eq_false, Bool.false_eq_true, Int.not_le, Int.not_lt, Bool.and_eq_true, Bool.and_eq_false_iff, Bool.or_eq_true, Bool.or_eq_false_iff, bne_eq_false_iff_eq, reduceCtorEq] at h) <;> (try first | contradiction | (exfalso; omega) | (exfalso; revert h; simp; done) | (exfalso; revert h; simp; omega)))))
      all_goals first
        | (exfalso; omega)
        | (simp only [Out, outA, outL, resA, go_sem, Nat.reduceLT, Nat.reduceLeDiff, Nat.reduceEqDiff, reduceIte, Nat.reduceAdd, Nat.reduceMul, Nat.reduceSub, Int.reduceLT, Int.reduceLE, Int.reduceToNat, Int.reduceNeg, reduceCtorEq]
           exact AVle.of_eq (congrArg (fun b => AV.lit (.bool b)) (by simp [hb1])))
        | trace_state
    · rw [if_neg hb] at hC
      have hj : jn = false := by
        cases jn with
        | false => rfl
        | true => exact absurd (hjb rfl) hb
      subst hj
      obtain ⟨bt, hbt⟩ : ∃ bt, (((sr.length : Int) == 2) && (kd == 1)) = bt := ⟨_, rfl⟩
      have hbf : bt = false := by
        subst hbt
        rw [Bool.and_eq_false_iff]
        by_cases h : sr.length = 2
        · exact .inr (by simpa using fun hk => hb ⟨h, hk⟩)
        · exact .inl (by simp; omega)
      refine acall_of (n := 50) (rs := [.tmp 2]) Try.func6 rfl (by kernel_rfl) rfl rfl rfl ?_; simp only [argsE, Nat.reduceAdd]
      repeat (any_goals (first | (refine aops_cons (fun K' h' => ?_); simp only [go_sem, Nat.reduceLT, Nat.reduceLeDiff, Nat.reduceEqDiff, reduceIte, Nat.reduceAdd, Nat.reduceMul, Nat.reduceSub, Int.reduceLT, Int.reduceLE, Int.reduceToNat, Int.reduceNeg, reduceCtorEq, hgs, Option.toArray_none, Option.toArray_some, List.toList_toArray]; (try simp (disch := omega) only [wrap_id, getD_map_in, Int.toNat_natCast, Option.toArray_none, Option.toArray_some, List.toList_toArray]); (repeat (refine And.intro (by (first | omega | (simp; done) | (simp; omega) | assumption)) ?_)); refine h' _ ?_; clear h' K') | (refine aops_nil (hK _ ?_); clear hK K hgs gs; try simp only [aThen, aBlock]) | ((first | refine aops_cons (fun K' h' => ?_) | refine aopsD_cons (fun K' h' => ?_)); simp only [go_sem, Nat.reduceLT, Nat.reduceLeDiff, Nat.reduceEqDiff, reduceIte, Nat.reduceAdd, Nat.reduceMul, Nat.reduceSub, Int.reduceLT, Int.reduceLE, Int.reduceToNat, Int.reduceNeg, reduceCtorEq, hgs, Option.toArray_none, Option.toArray_some, List.toList_toArray]; (first | refine ⟨_, hG, ?_⟩ | refine ⟨_, fun _ => hG, ?_⟩ | refine ⟨_, hR, ?_⟩ | refine ⟨_, fun _ => hR, ?_⟩ | refine ⟨_, alive8_c, ?_⟩ | refine ⟨_, fun _ => alive8_c, ?_⟩ | refine ⟨_, hC, ?_⟩ | refine ⟨_, fun _ => hC, ?_⟩); (try simp only [go_sem, Nat.reduceLT, Nat.reduceLeDiff, Nat.reduceEqDiff, reduceIte, Nat.reduceAdd, Nat.reduceMul, Nat.reduceSub, Int.reduceLT, Int.reduceLE, Int.reduceToNat, Int.reduceNeg, reduceCtorEq, hgs, Option.toArray_none, Option.toArray_some, List.toList_toArray]); (repeat (refine And.intro (by (first | omega | (simp; done) | (simp; omega) | assumption)) ?_)); refine h' _ ?_; clear h' K') | (refine AWp.sreg (id := 1) dd6 rfl (fun gs K hgs hK => ?_); replace hgs : gs 2 = some 7 := hgs 2) | (refine AWp.sreg (id := 5) dd6 rfl (fun gs K hgs hK => ?_); replace hgs : gs 4 = some 22 := hgs 4) | (refine AWp.sreg (id := 6) dd6 rfl (fun gs K hgs hK => ?_); replace hgs : gs 2 = some 30 := hgs 2) | (refine AWp.sreg (id := 8) dd6 rfl (fun gs K hgs hK => ?_); replace hgs : gs 5 = some 39 ∧ gs 7 = some 41 ∧ gs 13 = some 47 := ⟨hgs 5, hgs 7, hgs 13⟩) | (refine AWp.reg (id := 1) dd6 rfl (fun gs K hgs hK => ?_); replace hgs : gs 2 = some 7 := hgs 2) | (refine AWp.reg (id := 5) dd6 rfl (fun gs K hgs hK => ?_); replace hgs : gs 4 = some 22 := hgs 4) | (refine AWp.reg (id := 6) dd6 rfl (fun gs K hgs hK => ?_); replace hgs : gs 2 = some 30 := hgs 2) | (refine AWp.reg (id := 8) dd6 rfl (fun gs K hgs hK => ?_); replace hgs : gs 5 = some 39 ∧ gs 7 = some 41 ∧ gs 13 = some 47 := ⟨hgs 5, hgs 7, hgs 13⟩) | (refine AWp.sreg  dd6 rfl (fun gs K hgs hK => ?_); replace hgs : Nat.succ 0 = 1 := rfl) | refine AWp.seq ?_ | refine ARounds.step ?_ | refine AWp.block ?_ | refine AWp.label ?_ | (refine AWp.ret ?_; try simp only [aThen, aBlock]) | (refine AWp.skip ?_; try simp only [aThen, aBlock]) | (refine AWp.exit ?_; try simp only [aThen, aBlock, Nat.reduceEqDiff, reduceIte]) | (refine AWp.reg  dd6 rfl (fun gs K hgs hK => ?_); replace hgs : Nat.succ 0 = 1 := rfl) | (refine AWp.cond rfl (fun h => ?_) (fun h => ?_) <;> (try simp only [decide_eq_true_eq, decide_eq_false_iff_not, beq_iff_eq, bne_iff_ne, ne_eq, Bool.not_eq_true', Bool.not_eq_false', beq_eq_false_iff_ne, Bool.true_eq_false, Bool.false_eq_true, Int.not_le, Int.not_lt, Bool.and_eq_true, Bool.and_eq_false_iff, Bool.or_eq_true, Bool.or_eq_false_iff, bne_eq_false_iff_eq, reduceCtorEq] at h) <;> (try first | contradiction | (exfalso; omega) | (exfalso; revert h; simp; done) | (exfalso; revert h; simp; omega)))))
      all_goals first
        | (exfalso; omega)
        | (simp only [Out, outA, outL, resA, go_sem, Nat.reduceLT, Nat.reduceLeDiff, Nat.reduceEqDiff, reduceIte, Nat.reduceAdd, Nat.reduceMul, Nat.reduceSub, Int.reduceLT, Int.reduceLE, Int.reduceToNat, Int.reduceNeg, reduceCtorEq]
           exact AVle.of_eq (congrArg (fun b => AV.lit (.bool b)) (by rw [hbf] at hbt; simp [hbt])))
        | trace_state
  · have hv' : greatQ q = true ∨ chkE q ≠ 0 := by
      cases hgr : greatQ q with
      | true => exact .inl rfl
      | false => exact .inr fun h => hv ⟨hgr, h⟩
    clear hv
    generalize greatQ q = gq at *
    generalize chkE q = ce at *
    obtain ⟨ag, ar, sr, jn, wh, ⟨kd, sz, ev⟩, bk, lt⟩ := q
    unfold Qry.cells nodesV intsV at *
    refine acall_of (n := 50) (rs := [.tmp 2]) Try.func6 rfl (by kernel_rfl) rfl rfl rfl ?_; simp only [argsE, Nat.reduceAdd]
    repeat (any_goals (first | (refine aops_cons (fun K' h' => ?_); simp only [go_sem, Nat.reduceLT, Nat.reduceLeDiff, Nat.reduceEqDiff, reduceIte, Nat.reduceAdd, Nat.reduceMul, Nat.reduceSub, Int.reduceLT, Int.reduceLE, Int.reduceToNat, Int.reduceNeg, reduceCtorEq, hgs, Option.toArray_none, Option.toArray_some, List.toList_toArray]; (try simp (disch := omega) only [wrap_id, getD_map_in, Int.toNat_natCast, Option.toArray_none, Option.toArray_some, List.toList_toArray]); (repeat (refine And.intro (by (first | omega | (simp; done) | (simp; omega) | assumption)) ?_)); refine h' _ ?_; clear h' K') | (refine aops_nil (hK _ ?_); clear hK K hgs gs; try simp only [aThen, aBlock]) | ((first | refine aops_cons (fun K' h' => ?_) | refine aopsD_cons (fun K' h' => ?_)); simp only [go_sem, Nat.reduceLT, Nat.reduceLeDiff, Nat.reduceEqDiff, reduceIte, Nat.reduceAdd, Nat.reduceMul, Nat.reduceSub, Int.reduceLT, Int.reduceLE, Int.reduceToNat, Int.reduceNeg, reduceCtorEq, hgs, Option.toArray_none, Option.toArray_some, List.toList_toArray]; (first | refine ⟨_, hG, ?_⟩ | refine ⟨_, fun _ => hG, ?_⟩ | refine ⟨_, hR, ?_⟩ | refine ⟨_, fun _ => hR, ?_⟩ | refine ⟨_, alive8_c, ?_⟩ | refine ⟨_, fun _ => alive8_c, ?_⟩ | refine ⟨_, hC, ?_⟩ | refine ⟨_, fun _ => hC, ?_⟩); (try simp only [go_sem, Nat.reduceLT, Nat.reduceLeDiff, Nat.reduceEqDiff, reduceIte, Nat.reduceAdd, Nat.reduceMul, Nat.reduceSub, Int.reduceLT, Int.reduceLE, Int.reduceToNat, Int.reduceNeg, reduceCtorEq, hgs, Option.toArray_none, Option.toArray_some, List.toList_toArray]); (repeat (refine And.intro (by (first | omega | (simp; done) | (simp; omega) | assumption)) ?_)); refine h' _ ?_; clear h' K') | (refine AWp.sreg (id := 1) dd6 rfl (fun gs K hgs hK => ?_); replace hgs : gs 2 = some 7 := hgs 2) | (refine AWp.sreg (id := 5) dd6 rfl (fun gs K hgs hK => ?_); replace hgs : gs 4 = some 22 := hgs 4) | (refine AWp.sreg (id := 6) dd6 rfl (fun gs K hgs hK => ?_); replace hgs : gs 2 = some 30 := hgs 2) | (refine AWp.sreg (id := 8) dd6 rfl (fun gs K hgs hK => ?_); replace hgs : gs 5 = some 39 ∧ gs 7 = some 41 ∧ gs 13 = some 47 := ⟨hgs 5, hgs 7, hgs 13⟩) | (refine AWp.reg (id := 1) dd6 rfl (fun gs K hgs hK => ?_); replace hgs : gs 2 = some 7 := hgs 2) | (refine AWp.reg (id := 5) dd6 rfl (fun gs K hgs hK => ?_); replace hgs : gs 4 = some 22 := hgs 4) | (refine AWp.reg (id := 6) dd6 rfl (fun gs K hgs hK => ?_); replace hgs : gs 2 = some 30 := hgs 2) | (refine AWp.reg (id := 8) dd6 rfl (fun gs K hgs hK => ?_); replace hgs : gs 5 = some 39 ∧ gs 7 = some 41 ∧ gs 13 = some 47 := ⟨hgs 5, hgs 7, hgs 13⟩) | (refine AWp.sreg  dd6 rfl (fun gs K hgs hK => ?_); replace hgs : Nat.succ 0 = 1 := rfl) | refine AWp.seq ?_ | refine ARounds.step ?_ | refine AWp.block ?_ | refine AWp.label ?_ | (refine AWp.ret ?_; try simp only [aThen, aBlock]) | (refine AWp.skip ?_; try simp only [aThen, aBlock]) | (refine AWp.exit ?_; try simp only [aThen, aBlock, Nat.reduceEqDiff, reduceIte]) | (refine AWp.reg  dd6 rfl (fun gs K hgs hK => ?_); replace hgs : Nat.succ 0 = 1 := rfl) | (refine AWp.cond rfl (fun h => ?_) (fun h => ?_) <;> (try simp only [decide_eq_true_eq, decide_eq_false_iff_not, beq_iff_eq, bne_iff_ne, ne_eq, Bool.not_eq_true', Bool.not_eq_false', beq_eq_false_iff_ne, Bool.true_eq_false, Bool.false_eq_true, Int.not_le, Int.not_lt, Bool.and_eq_true, Bool.and_eq_false_iff, Bool.or_eq_true, Bool.or_eq_false_iff, bne_eq_false_iff_eq, reduceCtorEq] at h) <;> (try first | contradiction | (exfalso; omega) | (exfalso; revert h; simp; done) | (exfalso; revert h; simp; omega)))))
    all_goals first
      | (exfalso; rcases hv' with h9 | h9 <;> simp_all; done)
      | (simp only [Out, outA, outL, resA, go_sem, Nat.reduceLT, Nat.reduceLeDiff, Nat.reduceEqDiff, reduceIte, Nat.reduceAdd, Nat.reduceMul, Nat.reduceSub, Int.reduceLT, Int.reduceLE, Int.reduceToNat, Int.reduceNeg, reduceCtorEq]
         exact AVle.refl _)
theorem nodeQ_shape {x : List AV} (h : Shp Try.prog 6 57 x) : ∃ e : Node, x = e.cells := by
  obtain ⟨a, r, rfl, ha, h1⟩ := shp_st (ts := [5, 2, 3, 3, 3]) (by kernel_rfl) h
  obtain ⟨b, r, rfl, hb, h2⟩ := h1
  obtain ⟨c, r, rfl, hc, h3⟩ := h2
  obtain ⟨d, r, rfl, hd, h4⟩ := h3
  obtain ⟨e, r, rfl, he, h5⟩ := h4
  obtain rfl : r = [] := h5
  obtain ⟨xk, rfl, _⟩ := shp_in (k := .u8) (by kernel_rfl) ha
  obtain ⟨xn, rfl, _⟩ := shp_in (k := .i64) (by kernel_rfl) hb
  obtain ⟨xa, rfl, _⟩ := shp_in (k := .i64) (by kernel_rfl) hc
  obtain ⟨xb, rfl, _⟩ := shp_in (k := .i64) (by kernel_rfl) hd
  obtain ⟨xp, rfl, _⟩ := shp_in (k := .i64) (by kernel_rfl) he
  exact ⟨⟨xk, xn, xa, xb, xp⟩, rfl⟩
theorem nodesQ_shape {cs : List AV} (h : Shp Try.prog 7 41 cs) : ∃ l : List Node, cs = [nodesV l] ∧ l.length ≤ maxLen := by
  obtain ⟨xs, e, hm, hx⟩ := shp_sl (q := (57, 5)) (by kernel_rfl) h
  obtain ⟨l, rfl⟩ := list_of (f := Node.cells) fun x hx' => nodeQ_shape (hx x hx')
  exact ⟨l, e, by simpa using hm⟩
theorem intsQ_shape {cs : List AV} (h : Shp Try.prog 7 24 cs) : ∃ l : List Int, cs = [intsV l] ∧ l.length ≤ maxLen ∧ ∀ x ∈ l, -9223372036854775808 ≤ x ∧ x ≤ 9223372036854775807 := by
  obtain ⟨xs, e, hm, hx⟩ := shp_sl (q := (3, 1)) (by kernel_rfl) h
  obtain ⟨l, rfl, hp⟩ := list_of2 (f := fun x : Int => [AV.lit (.int .i64 x)]) (p := fun x => -9223372036854775808 ≤ x ∧ x ≤ 9223372036854775807) fun x hx' => by
    obtain ⟨n, e, hw⟩ := shp_in (k := .i64) (by kernel_rfl) (hx x hx')
    exact ⟨n, e, wf_i64 hw⟩
  exact ⟨l, e, by simpa using hm, hp⟩
theorem qry_shape {a : AV} (h : ShpA Try.prog 8 43 a) : ∃ q : Qry, a = .agg q.cells ∧ q.arg.length ≤ maxLen ∧ q.wh.length ≤ maxLen ∧ q.src.length ≤ maxLen ∧ (∀ x ∈ q.src, -9223372036854775808 ≤ x ∧ x ≤ 9223372036854775807) := by
  obtain ⟨cs, rfl, hs⟩ := shpA_st (ts := [5, 41, 24, 4, 41, 23, 4, 5]) (by kernel_rfl) h
  obtain ⟨c1, r, rfl, g1, hs⟩ := hs
  obtain ⟨c2, r, rfl, g2, hs⟩ := hs
  obtain ⟨c3, r, rfl, g3, hs⟩ := hs
  obtain ⟨c4, r, rfl, g4, hs⟩ := hs
  obtain ⟨c5, r, rfl, g5, hs⟩ := hs
  obtain ⟨c6, r, rfl, g6, hs⟩ := hs
  obtain ⟨c7, r, rfl, g7, hs⟩ := hs
  obtain ⟨c8, r, rfl, g8, hs⟩ := hs
  obtain rfl : r = [] := hs
  obtain ⟨xg, rfl, _⟩ := shp_in (k := .u8) (by kernel_rfl) g1
  obtain ⟨ar, rfl, m1⟩ := nodesQ_shape g2
  obtain ⟨sr, rfl, m3, w3⟩ := intsQ_shape g3
  obtain ⟨jn, rfl⟩ := shp_bo (by kernel_rfl) g4
  obtain ⟨wh, rfl, m2⟩ := nodesQ_shape g5
  obtain ⟨a, r, rfl, ha, h1⟩ := shp_st (ts := [5, 2, 2]) (by kernel_rfl) g6
  obtain ⟨b, r, rfl, hb, h2⟩ := h1
  obtain ⟨c, r, rfl, hc, h3⟩ := h2
  obtain rfl : r = [] := h3
  obtain ⟨xk, rfl, _⟩ := shp_in (k := .u8) (by kernel_rfl) ha
  obtain ⟨xs, rfl, _⟩ := shp_in (k := .i64) (by kernel_rfl) hb
  obtain ⟨xe, rfl, _⟩ := shp_in (k := .i64) (by kernel_rfl) hc
  obtain ⟨bk, rfl⟩ := shp_bo (by kernel_rfl) g7
  obtain ⟨xl, rfl, _⟩ := shp_in (k := .u8) (by kernel_rfl) g8
  exact ⟨⟨xg, ar, sr, jn, wh, ⟨xk, xs, xe⟩, bk, xl⟩, rfl, m1, m2, m3, w3⟩
theorem cjoin_all : ∀ xs, ShpAs Try.prog 8 Try.f6.params.toList xs → ACall Try.prog 6 xs (.lit (.bool true)) := by
  intro xs h
  have hp : Try.f6.params.toList = [43] := by kernel_rfl
  rw [hp] at h
  obtain ⟨a, r, rfl, ha, h1⟩ := h
  obtain rfl : r = [] := h1
  obtain ⟨q, rfl, h1, h2, h3, hw⟩ := qry_shape ha
  exact cjoin_law q h1 h2 h3 hw
end Go.Proofs.Ytihlofhnhkhnaaa
