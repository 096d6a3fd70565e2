/-
  The walks over taking a message: of the program and of the reference.
-/
import Derived.Test.YtjeehkdepoiegaaGreatPrtW
namespace Go.Proofs.YtjeehkdepoiegaaGreat
open Go.AL Go.RowKit
set_option linter.unusedSimpArgs false
set_option linter.unusedVariables false
set_option maxRecDepth 10000
set_option maxHeartbeats 8000000
theorem take_bad {t : Tsk} {m : Msg} {p e : Int} (h : takeE t m p = e) (h0 : e ≠ 0) : takeT t m p = zeroT := by
  unfold takeT
  rw [h, if_neg h0]
theorem pend_take {t : Tsk} {l : List Snd} (h : tskE t = 0) (hl : allL l sendB = true) (h3 : l.length ≤ 3) (hp : t.pend = []) : pendE t l = 0 ∧ pendT t l = { t with pend := l } := by
  have : pendE t l = 0 := by
    unfold pendE
    rw [if_neg (fun h1 => h1 h), if_neg (by rw [hl]; simp), if_neg (by rw [hp]; simp; omega)]
  refine ⟨this, ?_⟩
  unfold pendT
  rw [if_pos this, hp]; rfl
def dd33 : Nat → List (List Nat)
  | 0 => [[], [0], [1], [], [7]]
  | 1 => [[], [], [13], [14]]
  | 2 => [[], [], [15]]
  | 3 => [[2, 3, 4, 16], [], [8], [17], [18]]
  | 4 => [[8, 16], [], [20], [21], [], [22, 23], [24], [], [19], [25], [26]]
  | 5 => [[], [], [28], [29], [30], [31], [10], [33], [32, 34], [35]]
  | 6 => [[2, 3, 4, 9, 27], [], [36], []]
  | 7 => [[27], [], [38], [39], [40], [], [42], [43], [44], [], [46], [47], [45, 48], [41, 49], [50]]
  | 8 => [[2, 3, 4, 9, 37], [], [51], []]
  | 9 => [[37], [], [53], [54], [55], [56]]
  | 10 => [[2, 3, 4, 9, 52], [], [57], []]
  | 11 => [[52], [], [59], [60], [61]]
  | 13 => [[9, 58], []]
  | 14 => [[], [2], []]
  | 15 => [[], []]
  | 16 => [[72], [], [73]]
  | 17 => [[], [11], [12], [75], [74, 76], [77]]
  | 18 => [[], [71], [78]]
  | _ => []
def fo33 : Nat → List Nat
  | 12 => [6, 7]
  | 19 => [6, 7]
  | _ => []
theorem takeP_c (t : Tsk) (m : Msg) (p : Int) (hok : t.ok) : ACall Tryz.prog 33 [.agg t.cells, .agg m.cells, .lit (.int .i64 p)] (.tup [.agg (takeT t m p).cells, .lit (.int .i64 (takeE t m p))]) := by
  have hCk := tCheck_c t hok
  have hOf := ofP_c m.key p
  have hM := mCheck_c m
  obtain ⟨R, hR⟩ : ∃ R, R = AV.tup [.agg (takeT t m p).cells, .lit (.int .i64 (takeE t m p))] := ⟨_, rfl⟩
  rw [← hR]
  have hox : (1 ≤ p ∧ p ≤ 3 ∧ ofX p = 0 ∧ ofP m.key p = m.key % p) ∨ ((p < 1 ∨ 3 < p) ∧ ofX p = 2) := by
    unfold ofX ofP
    split <;> omega
  have hem : (carrB m = true ∧ errM m = 0 ∧ (m.kind = 1 ∨ m.kind = 2)) ∨ (carrB m = false ∧ (errM m ≠ 0 ∨ (m.kind ≠ 1 ∧ m.kind ≠ 2))) := by
    unfold carrB errM
    cases validM m <;> by_cases h1 : m.kind = 1 <;> by_cases h2 : m.kind = 2 <;> simp [h1, h2]
  have hte : ∀ e, takeE t m p = e → e ≠ 0 → R = AV.tup [.agg zeroT.cells, .lit (.int .i64 e)] := fun e h1 h2 => by
    rw [hR, take_bad h1 h2, h1]
  have hTE : takeE t m p = if tskE t ≠ 0 then tskE t else if t.kind ≠ 3 ∨ p < 1 ∨ 3 < p then 2 else if carrB m = false then 8 else if 0 < t.pend.length then 18 else 0 := rfl
  by_cases hgood : takeE t m p = 0
  · -- taken
    have hall : tskE t = 0 ∧ t.kind = 3 ∧ 1 ≤ p ∧ p ≤ 3 ∧ carrB m = true ∧ t.pend.length = 0 := by
      rw [hgood] at hTE
      clear hte hR hCk hOf hM hox hem
      split at hTE
      · omega
      · split at hTE
        · omega
        · split at hTE
          · omega
          · split at hTE
            · omega
            · rename_i g1 g2 g3 g4
              exact ⟨Classical.not_not.1 g1, by omega, by omega, by omega, by simpa using g3, by omega⟩
    obtain ⟨h1, h2, h3, h4, h5, h6⟩ := hall
    have hp3 : p = 1 ∨ p = 2 ∨ p = 3 := by omega
    obtain ⟨o1, o2⟩ := outsL_ok h5 hp3
    have h6' : t.pend = [] := List.eq_nil_of_length_eq_zero h6
    obtain ⟨q1, q2⟩ := pend_take h1 o1 o2 h6'
    have hPd := pend_c t (outsL m p) hok (by unfold maxLen; omega)
    have hTT : takeT t m p = { t with pend := outsL m p } := by unfold takeT; rw [if_pos hgood]
    rw [hTT, hgood] at hR
    rw [q1, q2, ← hR] at hPd
    rw [h1] at hCk
    have hox2 : ofX p = 0 ∧ ofP m.key p = m.key % p := by omega
    rw [hox2.1, hox2.2] at hOf
    have hem2 : errM m = 0 ∧ (m.kind = 1 ∨ m.kind = 2) := by
      rcases hem with h | h
      · exact h.2
      · rw [h5] at h; exact absurd h.1 (by simp)
    rw [hem2.1] at hM
    have hk := hem2.2
    have hX : ∃ X, (outsL m p).map Snd.cells = X := ⟨_, rfl⟩
    obtain ⟨X, hX⟩ := hX
    have hTo : (m.kind = 1 → ACall Tryz.prog 54 [.agg m.cells, .ro 1 [[.lit (.int .i64 (m.key % p))]]] (.ro 11 X)) ∧ (m.kind = 2 → (p = 1 → ACall Tryz.prog 54 [.agg m.cells, .ro 1 [[.lit (.int .i64 0)]]] (.ro 11 X)) ∧
        (p = 2 → ACall Tryz.prog 54 [.agg m.cells, .ro 1 [[.lit (.int .i64 0)], [.lit (.int .i64 1)]]] (.ro 11 X)) ∧ (p = 3 → ACall Tryz.prog 54 [.agg m.cells, .ro 1 [[.lit (.int .i64 0)], [.lit (.int .i64 1)], [.lit (.int .i64 2)]]] (.ro 11 X))) := by
      rw [← hX]
      refine ⟨fun h => ?_, fun h => ⟨fun h' => ?_, fun h' => ?_, fun h' => ?_⟩⟩
      · unfold outsL; rw [if_pos h]; exact to_1 m _
      · unfold outsL; rw [if_neg (by omega), if_pos h']; exact to_1 m _
      · unfold outsL; rw [if_neg (by omega), if_neg (by omega), if_pos h']; exact to_2 m _ _
      · unfold outsL; rw [if_neg (by omega), if_neg (by omega), if_neg (by omega)]; exact to_3 m _ _ _
    have htcells : t.cells = [.lit (.int .u8 t.kind), .lit (.int .i64 t.n), .lit (.int .i64 t.turn), sndsV t.pend, mksV t.marks, entsV t.store, evsV t.evs, rowsV t.rows, rcdsV t.late] := rfl
    have hR2 : R = .tup [.agg [.lit (.int .u8 t.kind), .lit (.int .i64 t.n), .lit (.int .i64 t.turn), .ro 11 X, mksV t.marks, entsV t.store, evsV t.evs, rowsV t.rows, rcdsV t.late], .lit (.int .i64 0)] := by
      rw [hR, ← hX]; rfl
    rw [show sndsV (outsL m p) = .ro 11 X by rw [← hX]; rfl, hR2] at hPd
    subst hR2
    rw [htcells] at hCk hPd ⊢
    clear hR htcells hTE hte hox hem hgood hTT q1 q2 o1 o2 hok hX h1
    obtain ⟨kd, n, tn, pe, mk, st, ev, rw_, lt⟩ := t
    simp only at h2 h6' hCk hPd ⊢
    subst h2 h6'
    obtain ⟨kdm, k, rt, v, tt, r1, r2, r3, r4, r5⟩ := m
    simp only at hk hOf hTo hPd hox2 hem2 h5
    clear h5 hem2 hox2 h6
    unfold sndsV mksV entsV evsV rowsV rcdsV Msg.cells at *
    simp only [List.map_nil] at *
    rcases hk with hk | hk
    · subst hk
      have hTo := hTo.1 rfl
      refine acall_of (n := 86) (rs := [.cell 6 39, .tmp 7]) Tryz.func33 rfl (by kernel_rfl) rfl rfl rfl ?_; simp only [argsE, Nat.reduceAdd]
      repeat (any_goals (first | ((first | refine aops_cons (fun K' h' => ?_) | refine aopsM_cons (fun K' h' => ?_)); simp only [go_sem, Nat.reduceLT, Nat.reduceLeDiff, Nat.reduceEqDiff, reduceIte, Nat.reduceAdd, Nat.reduceMul, Nat.reduceSub, Int.reduceLT, Int.reduceLE, Int.reduceToNat, Int.reduceNeg, reduceCtorEq, hgs]; (try ((first | refine ⟨_, hOf, ?_⟩ | refine ⟨_, hTo, ?_⟩ | refine ⟨_, hPd, ?_⟩ | refine ⟨_, hCk, ?_⟩ | refine ⟨_, hM, ?_⟩); (try simp only [go_sem, Nat.reduceLT, Nat.reduceLeDiff, Nat.reduceEqDiff, reduceIte, Nat.reduceAdd, Nat.reduceMul, Nat.reduceSub, Int.reduceLT, Int.reduceLE, Int.reduceToNat, Int.reduceNeg, reduceCtorEq, hgs]))); (try simp (disch := omega) only [wrap_id, getD_map_in, Int.toNat_natCast]); (repeat (refine And.intro (by (first | omega | (simp; done))) ?_)); refine h' _ ?_; clear h' K') | (refine aops_nil (hK _ ?_); clear hK K hgs gs; try simp only [aThen, aBlock]) | ((refine AWp.sreg (id := 5) dd33 rfl (fun gs K hgs hK => ?_)); replace hgs : gs 4 = some 32 := hgs 4) | ((refine AWp.sreg (id := 7) dd33 rfl (fun gs K hgs hK => ?_)); replace hgs : gs 3 = some 41 ∧ gs 7 = some 45 := ⟨hgs 3, hgs 7⟩) | (refine AWp.sreg  dd33 rfl (fun gs K hgs hK => ?_); replace hgs : Nat.succ 0 = 1 := rfl) | refine AWp.seq ?_ | refine AWp.block ?_ | (refine AWp.ret ?_; try simp only [aThen, aBlock]) | (refine AWp.skip ?_; try simp only [aThen, aBlock]) | ((refine AWp.regM (id := 12) fo33 (false, false) mo_fact (by kernel_rfl) (by kernel_rfl) (fun gs K hgs hK => ?_)); replace hgs : Nat.succ 0 = 1 := rfl) | (refine aopsM_nil (hK _ ?_); clear hK K hgs gs; simp only [fo33]; simp only [ASt.prune, pruneE, keepB, keepR, Bool.or_false, Bool.or_true, Bool.true_or, Bool.false_or, reduceIte, Bool.or_self, Bool.false_eq_true, aThen, aBlock, Nat.reduceEqDiff]) | (refine AWp.cond rfl (fun h => ?_) (fun h => ?_) <;> (try simp only [decide_eq_true_eq, decide_eq_false_iff_not, beq_iff_eq, bne_iff_ne, ne_eq, Bool.not_eq_true', Bool.not_eq_false', beq_eq_false_iff_ne, Bool.true_eq_false, Bool.false_eq_true, Int.not_le, Int.not_lt, Bool.and_eq_true, Bool.and_eq_false_iff, Bool.or_eq_true, Bool.or_eq_false_iff, bne_eq_false_iff_eq, reduceCtorEq] at h) <;> (try first | contradiction))))
      all_goals simp only [Out, outA, outL, resA, go_sem, Nat.reduceLT, Nat.reduceLeDiff, Nat.reduceEqDiff, reduceIte, Nat.reduceAdd, Nat.reduceMul, Nat.reduceSub, Int.reduceLT, Int.reduceLE, Int.reduceToNat, Int.reduceNeg, reduceCtorEq]
      all_goals exact AVle.refl _
    · subst hk
      have hTo := hTo.2 rfl
      rcases hp3 with hp | hp | hp
      · subst hp
        have hTo := hTo.1 rfl
        refine acall_of (n := 86) (rs := [.cell 6 39, .tmp 7]) Tryz.func33 rfl (by kernel_rfl) rfl rfl rfl ?_; simp only [argsE, Nat.reduceAdd]
        repeat (any_goals (first | ((refine aops_cons (fun K' h' => ?_)); simp only [go_sem, Nat.reduceLT, Nat.reduceLeDiff, Nat.reduceEqDiff, reduceIte, Nat.reduceAdd, Nat.reduceMul, Nat.reduceSub, Int.reduceLT, Int.reduceLE, Int.reduceToNat, Int.reduceNeg, reduceCtorEq, hgs]; (try ((first | refine ⟨_, hOf, ?_⟩ | refine ⟨_, hCk, ?_⟩ | refine ⟨_, hM, ?_⟩); (try simp only [go_sem, Nat.reduceLT, Nat.reduceLeDiff, Nat.reduceEqDiff, reduceIte, Nat.reduceAdd, Nat.reduceMul, Nat.reduceSub, Int.reduceLT, Int.reduceLE, Int.reduceToNat, Int.reduceNeg, reduceCtorEq, hgs]))); (try simp (disch := omega) only [wrap_id, getD_map_in, Int.toNat_natCast]); (repeat (refine And.intro (by (omega)) ?_)); refine h' _ ?_; clear h' K') | (refine aops_nil (hK _ ?_); clear hK K hgs gs; try simp only [aThen, aBlock]) | ((refine AWp.sreg (id := 5) dd33 rfl (fun gs K hgs hK => ?_)); replace hgs : gs 4 = some 32 := hgs 4) | ((refine AWp.sreg (id := 7) dd33 rfl (fun gs K hgs hK => ?_)); replace hgs : gs 3 = some 41 ∧ gs 7 = some 45 := ⟨hgs 3, hgs 7⟩) | (refine AWp.sreg  dd33 rfl (fun gs K hgs hK => ?_); replace hgs : Nat.succ 0 = 1 := rfl) | refine AWp.seq ?_ | refine AWp.block ?_ | (refine AWp.skip ?_; try simp only [aThen, aBlock]) | (refine AWp.cond rfl (fun h => ?_) (fun h => ?_) <;> (try simp only [decide_eq_true_eq, decide_eq_false_iff_not, beq_iff_eq, bne_iff_ne, ne_eq, Bool.not_eq_true', Bool.not_eq_false', beq_eq_false_iff_ne, Bool.true_eq_false, Bool.false_eq_true, Int.not_le, Int.not_lt, Bool.and_eq_true, Bool.and_eq_false_iff, Bool.or_eq_true, Bool.or_eq_false_iff, bne_eq_false_iff_eq, reduceCtorEq] at h) <;> (try first | contradiction))))
        refine AWp.loopR 2 ?_
        repeat (any_goals (first | ((refine aops_cons (fun K' h' => ?_)); simp only [go_sem, Nat.reduceLT, Nat.reduceLeDiff, Nat.reduceEqDiff, reduceIte, Nat.reduceAdd, Nat.reduceMul, Nat.reduceSub, Int.reduceLT, Int.reduceLE, Int.reduceToNat, Int.reduceNeg, reduceCtorEq, hgs, Int.reduceAdd, Int.zero_add]; (try simp (disch := omega) only [wrap_id, getD_map_in, Int.toNat_natCast, Int.reduceAdd, Int.zero_add]); (repeat (refine And.intro (by (omega)) ?_)); refine h' _ ?_; clear h' K') | (refine aops_nil (hK _ ?_); clear hK K hgs gs; try simp only [aThen, aBlock]) | (refine AWp.sreg  dd33 rfl (fun gs K hgs hK => ?_); replace hgs : Nat.succ 0 = 1 := rfl) | refine AWp.seq ?_ | refine AWp.block ?_ | (refine AWp.skip ?_; try simp only [aThen, aBlock]) | (refine AWp.exit ?_; try simp only [aThen, aBlock, Nat.reduceEqDiff, reduceIte]) | (refine AWp.reg  dd33 rfl (fun gs K hgs hK => ?_); replace hgs : Nat.succ 0 = 1 := rfl) | (refine AWp.cond rfl (fun h => ?_) (fun h => ?_) <;> (try simp only [decide_eq_true_eq, decide_eq_false_iff_not, beq_iff_eq, bne_iff_ne, ne_eq, Bool.not_eq_true', Bool.not_eq_false', beq_eq_false_iff_ne, Bool.true_eq_false, Bool.false_eq_true, Int.not_le, Int.not_lt, Bool.and_eq_true, Bool.and_eq_false_iff, Bool.or_eq_true, Bool.or_eq_false_iff, bne_eq_false_iff_eq, reduceCtorEq] at h))))
        refine AWp.weaken (fun _ _ _ _ _ hr => hr.freeze []) ?_
        repeat (any_goals (first | ((refine aopsM_cons (fun K' h' => ?_)); simp only [go_sem, Nat.reduceLT, Nat.reduceLeDiff, Nat.reduceEqDiff, reduceIte, Nat.reduceAdd, Nat.reduceMul, Nat.reduceSub, Int.reduceLT, Int.reduceLE, Int.reduceToNat, Int.reduceNeg, reduceCtorEq, hgs]; (try ((first | refine ⟨_, hTo, ?_⟩ | refine ⟨_, hPd, ?_⟩); (try simp only [go_sem, Nat.reduceLT, Nat.reduceLeDiff, Nat.reduceEqDiff, reduceIte, Nat.reduceAdd, Nat.reduceMul, Nat.reduceSub, Int.reduceLT, Int.reduceLE, Int.reduceToNat, Int.reduceNeg, reduceCtorEq, hgs]))); (try simp (disch := omega) only [wrap_id, getD_map_in, Int.toNat_natCast]); (repeat (refine And.intro (by (first | omega | (simp; done))) ?_)); refine h' _ ?_; clear h' K') | (refine AWp.ret ?_; try simp only [aThen, aBlock]) | ((refine AWp.regM (id := 19) fo33 (false, false) mo_fact (by kernel_rfl) (by kernel_rfl) (fun gs K hgs hK => ?_)); replace hgs : Nat.succ 0 = 1 := rfl) | (refine aopsM_nil (hK _ ?_); clear hK K hgs gs; simp only [fo33]; simp only [ASt.prune, pruneE, keepB, keepR, Bool.or_false, Bool.or_true, Bool.true_or, Bool.false_or, reduceIte, Bool.or_self, Bool.false_eq_true, aThen, aBlock, Nat.reduceEqDiff])))
        all_goals simp only [Out, outA, outL, resA, go_sem, Nat.reduceLT, Nat.reduceLeDiff, Nat.reduceEqDiff, reduceIte, Nat.reduceAdd, Nat.reduceMul, Nat.reduceSub, Int.reduceLT, Int.reduceLE, Int.reduceToNat, Int.reduceNeg, reduceCtorEq]
        all_goals exact AVle.refl _
      · subst hp
        have hTo := hTo.2.1 rfl
        refine acall_of (n := 86) (rs := [.cell 6 39, .tmp 7]) Tryz.func33 rfl (by kernel_rfl) rfl rfl rfl ?_; simp only [argsE, Nat.reduceAdd]
        repeat (any_goals (first | ((refine aops_cons (fun K' h' => ?_)); simp only [go_sem, Nat.reduceLT, Nat.reduceLeDiff, Nat.reduceEqDiff, reduceIte, Nat.reduceAdd, Nat.reduceMul, Nat.reduceSub, Int.reduceLT, Int.reduceLE, Int.reduceToNat, Int.reduceNeg, reduceCtorEq, hgs]; (try ((first | refine ⟨_, hOf, ?_⟩ | refine ⟨_, hCk, ?_⟩ | refine ⟨_, hM, ?_⟩); (try simp only [go_sem, Nat.reduceLT, Nat.reduceLeDiff, Nat.reduceEqDiff, reduceIte, Nat.reduceAdd, Nat.reduceMul, Nat.reduceSub, Int.reduceLT, Int.reduceLE, Int.reduceToNat, Int.reduceNeg, reduceCtorEq, hgs]))); (try simp (disch := omega) only [wrap_id, getD_map_in, Int.toNat_natCast]); (repeat (refine And.intro (by (omega)) ?_)); refine h' _ ?_; clear h' K') | (refine aops_nil (hK _ ?_); clear hK K hgs gs; try simp only [aThen, aBlock]) | ((refine AWp.sreg (id := 5) dd33 rfl (fun gs K hgs hK => ?_)); replace hgs : gs 4 = some 32 := hgs 4) | ((refine AWp.sreg (id := 7) dd33 rfl (fun gs K hgs hK => ?_)); replace hgs : gs 3 = some 41 ∧ gs 7 = some 45 := ⟨hgs 3, hgs 7⟩) | (refine AWp.sreg  dd33 rfl (fun gs K hgs hK => ?_); replace hgs : Nat.succ 0 = 1 := rfl) | refine AWp.seq ?_ | refine AWp.block ?_ | (refine AWp.skip ?_; try simp only [aThen, aBlock]) | (refine AWp.cond rfl (fun h => ?_) (fun h => ?_) <;> (try simp only [decide_eq_true_eq, decide_eq_false_iff_not, beq_iff_eq, bne_iff_ne, ne_eq, Bool.not_eq_true', Bool.not_eq_false', beq_eq_false_iff_ne, Bool.true_eq_false, Bool.false_eq_true, Int.not_le, Int.not_lt, Bool.and_eq_true, Bool.and_eq_false_iff, Bool.or_eq_true, Bool.or_eq_false_iff, bne_eq_false_iff_eq, reduceCtorEq] at h) <;> (try first | contradiction))))
        refine AWp.loopR 3 ?_
        repeat (any_goals (first | ((refine aops_cons (fun K' h' => ?_)); simp only [go_sem, Nat.reduceLT, Nat.reduceLeDiff, Nat.reduceEqDiff, reduceIte, Nat.reduceAdd, Nat.reduceMul, Nat.reduceSub, Int.reduceLT, Int.reduceLE, Int.reduceToNat, Int.reduceNeg, reduceCtorEq, hgs, Int.reduceAdd, Int.zero_add]; (try simp (disch := omega) only [wrap_id, getD_map_in, Int.toNat_natCast, Int.reduceAdd, Int.zero_add]); (repeat (refine And.intro (by (omega)) ?_)); refine h' _ ?_; clear h' K') | (refine aops_nil (hK _ ?_); clear hK K hgs gs; try simp only [aThen, aBlock]) | (refine AWp.sreg  dd33 rfl (fun gs K hgs hK => ?_); replace hgs : Nat.succ 0 = 1 := rfl) | refine AWp.seq ?_ | refine AWp.block ?_ | (refine AWp.skip ?_; try simp only [aThen, aBlock]) | (refine AWp.exit ?_; try simp only [aThen, aBlock, Nat.reduceEqDiff, reduceIte]) | (refine AWp.reg  dd33 rfl (fun gs K hgs hK => ?_); replace hgs : Nat.succ 0 = 1 := rfl) | (refine AWp.cond rfl (fun h => ?_) (fun h => ?_) <;> (try simp only [decide_eq_true_eq, decide_eq_false_iff_not, beq_iff_eq, bne_iff_ne, ne_eq, Bool.not_eq_true', Bool.not_eq_false', beq_eq_false_iff_ne, Bool.true_eq_false, Bool.false_eq_true, Int.not_le, Int.not_lt, Bool.and_eq_true, Bool.and_eq_false_iff, Bool.or_eq_true, Bool.or_eq_false_iff, bne_eq_false_iff_eq, reduceCtorEq] at h))))
        refine AWp.weaken (fun _ _ _ _ _ hr => hr.freeze []) ?_
        repeat (any_goals (first | ((refine aopsM_cons (fun K' h' => ?_)); simp only [go_sem, Nat.reduceLT, Nat.reduceLeDiff, Nat.reduceEqDiff, reduceIte, Nat.reduceAdd, Nat.reduceMul, Nat.reduceSub, Int.reduceLT, Int.reduceLE, Int.reduceToNat, Int.reduceNeg, reduceCtorEq, hgs]; (try ((first | refine ⟨_, hTo, ?_⟩ | refine ⟨_, hPd, ?_⟩); (try simp only [go_sem, Nat.reduceLT, Nat.reduceLeDiff, Nat.reduceEqDiff, reduceIte, Nat.reduceAdd, Nat.reduceMul, Nat.reduceSub, Int.reduceLT, Int.reduceLE, Int.reduceToNat, Int.reduceNeg, reduceCtorEq, hgs]))); (try simp (disch := omega) only [wrap_id, getD_map_in, Int.toNat_natCast]); (repeat (refine And.intro (by (first | omega | (simp; done))) ?_)); refine h' _ ?_; clear h' K') | (refine AWp.ret ?_; try simp only [aThen, aBlock]) | ((refine AWp.regM (id := 19) fo33 (false, false) mo_fact (by kernel_rfl) (by kernel_rfl) (fun gs K hgs hK => ?_)); replace hgs : Nat.succ 0 = 1 := rfl) | (refine aopsM_nil (hK _ ?_); clear hK K hgs gs; simp only [fo33]; simp only [ASt.prune, pruneE, keepB, keepR, Bool.or_false, Bool.or_true, Bool.true_or, Bool.false_or, reduceIte, Bool.or_self, Bool.false_eq_true, aThen, aBlock, Nat.reduceEqDiff])))
        all_goals simp only [Out, outA, outL, resA, go_sem, Nat.reduceLT, Nat.reduceLeDiff, Nat.reduceEqDiff, reduceIte, Nat.reduceAdd, Nat.reduceMul, Nat.reduceSub, Int.reduceLT, Int.reduceLE, Int.reduceToNat, Int.reduceNeg, reduceCtorEq]
        all_goals exact AVle.refl _
      · subst hp
        have hTo := hTo.2.2 rfl
        refine acall_of (n := 86) (rs := [.cell 6 39, .tmp 7]) Tryz.func33 rfl (by kernel_rfl) rfl rfl rfl ?_; simp only [argsE, Nat.reduceAdd]
        repeat (any_goals (first | ((refine aops_cons (fun K' h' => ?_)); simp only [go_sem, Nat.reduceLT, Nat.reduceLeDiff, Nat.reduceEqDiff, reduceIte, Nat.reduceAdd, Nat.reduceMul, Nat.reduceSub, Int.reduceLT, Int.reduceLE, Int.reduceToNat, Int.reduceNeg, reduceCtorEq, hgs]; (try ((first | refine ⟨_, hOf, ?_⟩ | refine ⟨_, hCk, ?_⟩ | refine ⟨_, hM, ?_⟩); (try simp only [go_sem, Nat.reduceLT, Nat.reduceLeDiff, Nat.reduceEqDiff, reduceIte, Nat.reduceAdd, Nat.reduceMul, Nat.reduceSub, Int.reduceLT, Int.reduceLE, Int.reduceToNat, Int.reduceNeg, reduceCtorEq, hgs]))); (try simp (disch := omega) only [wrap_id, getD_map_in, Int.toNat_natCast]); (repeat (refine And.intro (by (omega)) ?_)); refine h' _ ?_; clear h' K') | (refine aops_nil (hK _ ?_); clear hK K hgs gs; try simp only [aThen, aBlock]) | ((refine AWp.sreg (id := 5) dd33 rfl (fun gs K hgs hK => ?_)); replace hgs : gs 4 = some 32 := hgs 4) | ((refine AWp.sreg (id := 7) dd33 rfl (fun gs K hgs hK => ?_)); replace hgs : gs 3 = some 41 ∧ gs 7 = some 45 := ⟨hgs 3, hgs 7⟩) | (refine AWp.sreg  dd33 rfl (fun gs K hgs hK => ?_); replace hgs : Nat.succ 0 = 1 := rfl) | refine AWp.seq ?_ | refine AWp.block ?_ | (refine AWp.skip ?_; try simp only [aThen, aBlock]) | (refine AWp.cond rfl (fun h => ?_) (fun h => ?_) <;> (try simp only [decide_eq_true_eq, decide_eq_false_iff_not, beq_iff_eq, bne_iff_ne, ne_eq, Bool.not_eq_true', Bool.not_eq_false', beq_eq_false_iff_ne, Bool.true_eq_false, Bool.false_eq_true, Int.not_le, Int.not_lt, Bool.and_eq_true, Bool.and_eq_false_iff, Bool.or_eq_true, Bool.or_eq_false_iff, bne_eq_false_iff_eq, reduceCtorEq] at h) <;> (try first | contradiction))))
        refine AWp.loopR 4 ?_
        repeat (any_goals (first | ((refine aops_cons (fun K' h' => ?_)); simp only [go_sem, Nat.reduceLT, Nat.reduceLeDiff, Nat.reduceEqDiff, reduceIte, Nat.reduceAdd, Nat.reduceMul, Nat.reduceSub, Int.reduceLT, Int.reduceLE, Int.reduceToNat, Int.reduceNeg, reduceCtorEq, hgs, Int.reduceAdd, Int.zero_add]; (try simp (disch := omega) only [wrap_id, getD_map_in, Int.toNat_natCast, Int.reduceAdd, Int.zero_add]); (repeat (refine And.intro (by (omega)) ?_)); refine h' _ ?_; clear h' K') | (refine aops_nil (hK _ ?_); clear hK K hgs gs; try simp only [aThen, aBlock]) | (refine AWp.sreg  dd33 rfl (fun gs K hgs hK => ?_); replace hgs : Nat.succ 0 = 1 := rfl) | refine AWp.seq ?_ | refine AWp.block ?_ | (refine AWp.skip ?_; try simp only [aThen, aBlock]) | (refine AWp.exit ?_; try simp only [aThen, aBlock, Nat.reduceEqDiff, reduceIte]) | (refine AWp.reg  dd33 rfl (fun gs K hgs hK => ?_); replace hgs : Nat.succ 0 = 1 := rfl) | (refine AWp.cond rfl (fun h => ?_) (fun h => ?_) <;> (try simp only [decide_eq_true_eq, decide_eq_false_iff_not, beq_iff_eq, bne_iff_ne, ne_eq, Bool.not_eq_true', Bool.not_eq_false', beq_eq_false_iff_ne, Bool.true_eq_false, Bool.false_eq_true, Int.not_le, Int.not_lt, Bool.and_eq_true, Bool.and_eq_false_iff, Bool.or_eq_true, Bool.or_eq_false_iff, bne_eq_false_iff_eq, reduceCtorEq] at h))))
        refine AWp.weaken (fun _ _ _ _ _ hr => hr.freeze []) ?_
        repeat (any_goals (first | ((refine aopsM_cons (fun K' h' => ?_)); simp only [go_sem, Nat.reduceLT, Nat.reduceLeDiff, Nat.reduceEqDiff, reduceIte, Nat.reduceAdd, Nat.reduceMul, Nat.reduceSub, Int.reduceLT, Int.reduceLE, Int.reduceToNat, Int.reduceNeg, reduceCtorEq, hgs]; (try ((first | refine ⟨_, hTo, ?_⟩ | refine ⟨_, hPd, ?_⟩); (try simp only [go_sem, Nat.reduceLT, Nat.reduceLeDiff, Nat.reduceEqDiff, reduceIte, Nat.reduceAdd, Nat.reduceMul, Nat.reduceSub, Int.reduceLT, Int.reduceLE, Int.reduceToNat, Int.reduceNeg, reduceCtorEq, hgs]))); (try simp (disch := omega) only [wrap_id, getD_map_in, Int.toNat_natCast]); (repeat (refine And.intro (by (first | omega | (simp; done))) ?_)); refine h' _ ?_; clear h' K') | (refine AWp.ret ?_; try simp only [aThen, aBlock]) | ((refine AWp.regM (id := 19) fo33 (false, false) mo_fact (by kernel_rfl) (by kernel_rfl) (fun gs K hgs hK => ?_)); replace hgs : Nat.succ 0 = 1 := rfl) | (refine aopsM_nil (hK _ ?_); clear hK K hgs gs; simp only [fo33]; simp only [ASt.prune, pruneE, keepB, keepR, Bool.or_false, Bool.or_true, Bool.true_or, Bool.false_or, reduceIte, Bool.or_self, Bool.false_eq_true, aThen, aBlock, Nat.reduceEqDiff])))
        all_goals simp only [Out, outA, outL, resA, go_sem, Nat.reduceLT, Nat.reduceLeDiff, Nat.reduceEqDiff, reduceIte, Nat.reduceAdd, Nat.reduceMul, Nat.reduceSub, Int.reduceLT, Int.reduceLE, Int.reduceToNat, Int.reduceNeg, reduceCtorEq]
        all_goals exact AVle.refl _
  · obtain ⟨R2, hR2⟩ : ∃ R2, R2 = AV.agg zeroT.cells := ⟨_, rfl⟩
    have hte2 : ∀ e, takeE t m p = e → e ≠ 0 → R = AV.tup [R2, .lit (.int .i64 e)] := fun e h1 h2 => by rw [hR2]; exact hte e h1 h2
    have hz : AVle _ R2 := hR2 ▸ zeroT_le
    have hfin := hte2 _ rfl hgood
    rw [hTE] at hfin hgood
    clear hTE hte hte2 hR hok
    have htcells : t.cells = [.lit (.int .u8 t.kind), .lit (.int .i64 t.n), .lit (.int .i64 t.turn), sndsV t.pend, mksV t.marks, entsV t.store, evsV t.evs, rowsV t.rows, rcdsV t.late] := rfl
    rw [htcells] at hCk ⊢
    clear htcells
    generalize tskE t = te at *
    generalize errM m = em at *
    generalize carrB m = cb at *
    generalize ofX p = ox at *
    generalize ofP m.key p = op at *
    obtain ⟨kd, n, tn, pe, mk, st, ev, rw_, lt⟩ := t
    obtain ⟨kdm, k, rt, v, tt, r1, r2, r3, r4, r5⟩ := m
    simp only at hCk hOf hM hox hem hfin hgood ⊢
    unfold sndsV mksV entsV evsV rowsV rcdsV Msg.cells at *
    simp only at hM
    by_cases c1 : te = 0
    · subst c1
      simp only [ne_eq, not_true_eq_false, reduceIte] at hfin hgood
      by_cases c2 : kd ≠ 3 ∨ p < 1 ∨ 3 < p
      · rw [if_pos c2] at hfin
        have c3 : kd ≠ 3 ∨ ox = 2 := by omega
        clear hem hgood hox c2
        refine acall_of (n := 86) (rs := [.cell 6 39, .tmp 7]) Tryz.func33 rfl (by kernel_rfl) rfl rfl rfl ?_; simp only [argsE, Nat.reduceAdd]
        repeat (any_goals (first | ((refine aops_cons (fun K' h' => ?_)); simp only [go_sem, Nat.reduceLT, Nat.reduceLeDiff, Nat.reduceEqDiff, reduceIte, Nat.reduceAdd, Nat.reduceMul, Nat.reduceSub, Int.reduceLT, Int.reduceLE, Int.reduceToNat, Int.reduceNeg, reduceCtorEq, hgs]; (try ((first | refine ⟨_, hOf, ?_⟩ | refine ⟨_, hCk, ?_⟩); (try simp only [go_sem, Nat.reduceLT, Nat.reduceLeDiff, Nat.reduceEqDiff, reduceIte, Nat.reduceAdd, Nat.reduceMul, Nat.reduceSub, Int.reduceLT, Int.reduceLE, Int.reduceToNat, Int.reduceNeg, reduceCtorEq, hgs]))); (try simp (disch := omega) only [wrap_id, getD_map_in, Int.toNat_natCast]); (repeat (refine And.intro (by (omega)) ?_)); refine h' _ ?_; clear h' K') | (refine aops_nil (hK _ ?_); clear hK K hgs gs; try simp only [aThen, aBlock]) | ((refine AWp.sreg (id := 5) dd33 rfl (fun gs K hgs hK => ?_)); replace hgs : gs 4 = some 32 := hgs 4) | (refine AWp.sreg  dd33 rfl (fun gs K hgs hK => ?_); replace hgs : Nat.succ 0 = 1 := rfl) | refine AWp.seq ?_ | refine AWp.block ?_ | (refine AWp.ret ?_; try simp only [aThen, aBlock]) | (refine AWp.skip ?_; try simp only [aThen, aBlock]) | (refine AWp.cond rfl (fun h => ?_) (fun h => ?_) <;> (try simp only [decide_eq_true_eq, decide_eq_false_iff_not, beq_iff_eq, bne_iff_ne, ne_eq, Bool.not_eq_true', Bool.not_eq_false', beq_eq_false_iff_ne, Bool.true_eq_false, Bool.false_eq_true, Int.not_le, Int.not_lt, Bool.and_eq_true, Bool.and_eq_false_iff, Bool.or_eq_true, Bool.or_eq_false_iff, bne_eq_false_iff_eq, reduceCtorEq] at h) <;> (try first | contradiction | (exfalso; omega)))))
        all_goals first
          | (exfalso; omega)
          | (simp only [Out, outA, outL, resA, go_sem, Nat.reduceLT, Nat.reduceLeDiff, Nat.reduceEqDiff, reduceIte, Nat.reduceAdd, Nat.reduceMul, Nat.reduceSub, Int.reduceLT, Int.reduceLE, Int.reduceToNat, Int.reduceNeg, reduceCtorEq]
             rw [hfin]
             exact AVle.tup ⟨hz, AVle.refl _, trivial⟩)
      · rw [if_neg c2] at hfin hgood
        have hox : ox = 0 := by omega
        subst hox
        have hkd : kd = 3 := by omega
        subst hkd
        by_cases c3 : cb = false
        · rw [if_pos c3] at hfin
          have c4 : em ≠ 0 ∨ kdm ≠ 1 ∧ kdm ≠ 2 := by
            rcases hem with h | h
            · rw [c3] at h; exact absurd h.1 (by simp)
            · exact h.2
          clear hem hgood
          refine acall_of (n := 86) (rs := [.cell 6 39, .tmp 7]) Tryz.func33 rfl (by kernel_rfl) rfl rfl rfl ?_; simp only [argsE, Nat.reduceAdd]
          repeat (any_goals (first | ((refine aops_cons (fun K' h' => ?_)); simp only [go_sem, Nat.reduceLT, Nat.reduceLeDiff, Nat.reduceEqDiff, reduceIte, Nat.reduceAdd, Nat.reduceMul, Nat.reduceSub, Int.reduceLT, Int.reduceLE, Int.reduceToNat, Int.reduceNeg, reduceCtorEq, hgs]; (try ((first | refine ⟨_, hOf, ?_⟩ | refine ⟨_, hCk, ?_⟩ | refine ⟨_, hM, ?_⟩); (try simp only [go_sem, Nat.reduceLT, Nat.reduceLeDiff, Nat.reduceEqDiff, reduceIte, Nat.reduceAdd, Nat.reduceMul, Nat.reduceSub, Int.reduceLT, Int.reduceLE, Int.reduceToNat, Int.reduceNeg, reduceCtorEq, hgs]))); (try simp (disch := omega) only [wrap_id, getD_map_in, Int.toNat_natCast]); (repeat (refine And.intro (by (omega)) ?_)); refine h' _ ?_; clear h' K') | (refine aops_nil (hK _ ?_); clear hK K hgs gs; try simp only [aThen, aBlock]) | ((refine AWp.sreg (id := 5) dd33 rfl (fun gs K hgs hK => ?_)); replace hgs : gs 4 = some 32 := hgs 4) | ((refine AWp.sreg (id := 7) dd33 rfl (fun gs K hgs hK => ?_)); replace hgs : gs 3 = some 41 ∧ gs 7 = some 45 := ⟨hgs 3, hgs 7⟩) | (refine AWp.sreg  dd33 rfl (fun gs K hgs hK => ?_); replace hgs : Nat.succ 0 = 1 := rfl) | refine AWp.seq ?_ | refine AWp.block ?_ | (refine AWp.ret ?_; try simp only [aThen, aBlock]) | (refine AWp.skip ?_; try simp only [aThen, aBlock]) | (refine AWp.cond rfl (fun h => ?_) (fun h => ?_) <;> (try simp only [decide_eq_true_eq, decide_eq_false_iff_not, beq_iff_eq, bne_iff_ne, ne_eq, Bool.not_eq_true', Bool.not_eq_false', beq_eq_false_iff_ne, Bool.true_eq_false, Bool.false_eq_true, Int.not_le, Int.not_lt, Bool.and_eq_true, Bool.and_eq_false_iff, Bool.or_eq_true, Bool.or_eq_false_iff, bne_eq_false_iff_eq, reduceCtorEq] at h) <;> (try first | contradiction | (exfalso; omega)))))
          all_goals first
            | (exfalso; omega)
            | (simp only [Out, outA, outL, resA, go_sem, Nat.reduceLT, Nat.reduceLeDiff, Nat.reduceEqDiff, reduceIte, Nat.reduceAdd, Nat.reduceMul, Nat.reduceSub, Int.reduceLT, Int.reduceLE, Int.reduceToNat, Int.reduceNeg, reduceCtorEq]
               rw [hfin]
               exact AVle.tup ⟨hz, AVle.refl _, trivial⟩)
        · rw [if_neg c3] at hfin hgood
          have c4 : em = 0 ∧ (kdm = 1 ∨ kdm = 2) := by
            rcases hem with h | h
            · exact h.2
            · exact absurd h.1 c3
          have c5 : 0 < pe.length := by
            by_cases c5 : 0 < pe.length
            · exact c5
            · rw [if_neg c5] at hgood; exact absurd rfl hgood
          rw [if_pos c5] at hfin
          clear hem hgood
          refine acall_of (n := 86) (rs := [.cell 6 39, .tmp 7]) Tryz.func33 rfl (by kernel_rfl) rfl rfl rfl ?_; simp only [argsE, Nat.reduceAdd]
          repeat (any_goals (first | ((refine aops_cons (fun K' h' => ?_)); simp only [go_sem, Nat.reduceLT, Nat.reduceLeDiff, Nat.reduceEqDiff, reduceIte, Nat.reduceAdd, Nat.reduceMul, Nat.reduceSub, Int.reduceLT, Int.reduceLE, Int.reduceToNat, Int.reduceNeg, reduceCtorEq, hgs]; (try ((first | refine ⟨_, hOf, ?_⟩ | refine ⟨_, hCk, ?_⟩ | refine ⟨_, hM, ?_⟩); (try simp only [go_sem, Nat.reduceLT, Nat.reduceLeDiff, Nat.reduceEqDiff, reduceIte, Nat.reduceAdd, Nat.reduceMul, Nat.reduceSub, Int.reduceLT, Int.reduceLE, Int.reduceToNat, Int.reduceNeg, reduceCtorEq, hgs]))); (try simp (disch := omega) only [wrap_id, getD_map_in, Int.toNat_natCast]); (repeat (refine And.intro (by (omega)) ?_)); refine h' _ ?_; clear h' K') | (refine aops_nil (hK _ ?_); clear hK K hgs gs; try simp only [aThen, aBlock]) | ((refine AWp.sreg (id := 5) dd33 rfl (fun gs K hgs hK => ?_)); replace hgs : gs 4 = some 32 := hgs 4) | ((refine AWp.sreg (id := 7) dd33 rfl (fun gs K hgs hK => ?_)); replace hgs : gs 3 = some 41 ∧ gs 7 = some 45 := ⟨hgs 3, hgs 7⟩) | (refine AWp.sreg  dd33 rfl (fun gs K hgs hK => ?_); replace hgs : Nat.succ 0 = 1 := rfl) | refine AWp.seq ?_ | refine AWp.block ?_ | (refine AWp.ret ?_; try simp only [aThen, aBlock]) | (refine AWp.skip ?_; try simp only [aThen, aBlock]) | (refine AWp.cond rfl (fun h => ?_) (fun h => ?_) <;> (try simp only [decide_eq_true_eq, decide_eq_false_iff_not, beq_iff_eq, bne_iff_ne, ne_eq, Bool.not_eq_true', Bool.not_eq_false', beq_eq_false_iff_ne, Bool.true_eq_false, Bool.false_eq_true, Int.not_le, Int.not_lt, Bool.and_eq_true, Bool.and_eq_false_iff, Bool.or_eq_true, Bool.or_eq_false_iff, bne_eq_false_iff_eq, reduceCtorEq] at h) <;> (try first | contradiction | (exfalso; omega)))))
          all_goals first
            | (exfalso; omega)
            | (simp only [Out, outA, outL, resA, go_sem, Nat.reduceLT, Nat.reduceLeDiff, Nat.reduceEqDiff, reduceIte, Nat.reduceAdd, Nat.reduceMul, Nat.reduceSub, Int.reduceLT, Int.reduceLE, Int.reduceToNat, Int.reduceNeg, reduceCtorEq]
               rw [hfin]
               exact AVle.tup ⟨hz, AVle.refl _, trivial⟩)
    · rw [if_pos c1] at hfin
      clear hem hgood hox
      refine acall_of (n := 86) (rs := [.cell 6 39, .tmp 7]) Tryz.func33 rfl (by kernel_rfl) rfl rfl rfl ?_; simp only [argsE, Nat.reduceAdd]
      repeat (any_goals (first | ((refine aops_cons (fun K' h' => ?_)); simp only [go_sem, Nat.reduceLT, Nat.reduceLeDiff, Nat.reduceEqDiff, reduceIte, Nat.reduceAdd, Nat.reduceMul, Nat.reduceSub, Int.reduceLT, Int.reduceLE, Int.reduceToNat, Int.reduceNeg, reduceCtorEq, hgs]; (try ((refine ⟨_, hCk, ?_⟩); (try simp only [go_sem, Nat.reduceLT, Nat.reduceLeDiff, Nat.reduceEqDiff, reduceIte, Nat.reduceAdd, Nat.reduceMul, Nat.reduceSub, Int.reduceLT, Int.reduceLE, Int.reduceToNat, Int.reduceNeg, reduceCtorEq, hgs]))); (try simp (disch := omega) only [wrap_id, getD_map_in, Int.toNat_natCast]); (repeat (refine And.intro (by (omega)) ?_)); refine h' _ ?_; clear h' K') | (refine aops_nil (hK _ ?_); clear hK K hgs gs; try simp only [aThen, aBlock]) | (refine AWp.sreg  dd33 rfl (fun gs K hgs hK => ?_); replace hgs : Nat.succ 0 = 1 := rfl) | refine AWp.seq ?_ | (refine AWp.ret ?_; try simp only [aThen, aBlock]) | (refine AWp.cond rfl (fun h => ?_) (fun h => ?_) <;> (try simp only [decide_eq_true_eq, decide_eq_false_iff_not, beq_iff_eq, bne_iff_ne, ne_eq, Bool.not_eq_true', Bool.not_eq_false', beq_eq_false_iff_ne, Bool.true_eq_false, Bool.false_eq_true, Int.not_le, Int.not_lt, Bool.and_eq_true, Bool.and_eq_false_iff, Bool.or_eq_true, Bool.or_eq_false_iff, bne_eq_false_iff_eq, reduceCtorEq] at h) <;> (try first | contradiction))))
      all_goals first
        | (exfalso; omega)
        | (simp only [Out, outA, outL, resA, go_sem, Nat.reduceLT, Nat.reduceLeDiff, Nat.reduceEqDiff, reduceIte, Nat.reduceAdd, Nat.reduceMul, Nat.reduceSub, Int.reduceLT, Int.reduceLE, Int.reduceToNat, Int.reduceNeg, reduceCtorEq]
           rw [hfin]
           exact AVle.tup ⟨hz, AVle.refl _, trivial⟩)
end Go.Proofs.YtjeehkdepoiegaaGreat
