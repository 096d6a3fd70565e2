/-
  The walks over the checks of whole tasks.
-/
import Derived.Test.YtjeehkdepoiegaaGreatTskW2
import Derived.Test.YtjeehkdepoiegaaGreatTskW3
namespace Go.Proofs.YtjeehkdepoiegaaGreat
open Go.AL Go.RowKit
set_option linter.unusedSimpArgs false
set_option linter.unusedVariables false
set_option maxRecDepth 10000
set_option maxHeartbeats 8000000
theorem allN_step {n : Nat} {p : Nat → Bool} : (allN n p && p n) = allN (n + 1) p := (allN_succ n p).symm
theorem sizes_kept {kd : Int} {m s e r l : Nat} (hs : s ≤ 4000) :
    (leastI kd ≤ m ∧ (m : Int) ≤ mostI kd ∧ (s : Int) ≤ roomI (keepsI kd) 4000 ∧ (e : Int) ≤ roomI (decide (kd = 1)) 60 ∧ (r : Int) ≤ roomI (decide (kd = 6)) 4000 ∧ (l : Int) ≤ roomI (decide (kd = 7)) 4000) ↔
    ((kd = 1 ∧ m = 0 ∧ s = 0 ∧ e ≤ 60 ∧ r = 0 ∧ l = 0) ∨ (kd = 2 ∧ m = 1 ∧ s = 0 ∧ e = 0 ∧ r = 0 ∧ l = 0) ∨ (kd = 3 ∧ m = 0 ∧ s = 0 ∧ e = 0 ∧ r = 0 ∧ l = 0) ∨
     (kd = 4 ∧ 1 ≤ m ∧ m ≤ 4 ∧ e = 0 ∧ r = 0 ∧ l = 0) ∨ (kd = 5 ∧ m = 2 ∧ e = 0 ∧ r = 0 ∧ l = 0) ∨ (kd = 6 ∧ m = 0 ∧ s = 0 ∧ e = 0 ∧ r ≤ 4000 ∧ l = 0) ∨ (kd = 7 ∧ m = 0 ∧ s = 0 ∧ e = 0 ∧ r = 0 ∧ l ≤ 4000)) := by
  unfold leastI mostI roomI keepsI
  simp only [decide_eq_true_eq]
  by_cases h1 : kd = 1
  · subst h1; first | (simp; done) | (simp; omega)
  by_cases h2 : kd = 2
  · subst h2; first | (simp; done) | (simp; omega)
  by_cases h3 : kd = 3
  · subst h3; first | (simp; done) | (simp; omega)
  by_cases h4 : kd = 4
  · subst h4; first | (simp; done) | (simp; omega)
  by_cases h5 : kd = 5
  · subst h5; first | (simp; done) | (simp; omega)
  by_cases h6 : kd = 6
  · subst h6; first | (simp; done) | (simp; omega)
  by_cases h7 : kd = 7
  · subst h7; first | (simp; done) | (simp; omega)
  simp [h1, h2, h3, h4, h5, h6, h7]
  omega
def dd41 : Nat → List (List Nat)
  | 0 => [[], [0], [2]]
  | 1 => [[], [], [23], [24], [25], [26], [], [], [], [], [], [22], [27], [28], [29], [30], [31], [32]]
  | 2 => [[], [], [33], [34], [35], [], [37], [38], [36, 39], [40], [], [42], [43], [44], [41, 45], [46], [], [48], [49], [50], [47, 51], [52]]
  | 4 => [[], [9], [103], [104], [10], [106], [105, 107], [108], [], [110], [111], [112], [109, 113], [114], [], [116], [117], [118], [115, 119]]
  | 5 => [[1, 120], []]
  | 6 => [[120], []]
  | 7 => [[], [], [121], [], []]
  | 8 => [[], []]
  | 9 => [[125], [], [126], [127]]
  | 10 => [[], [11], [128], [13], [130], [129, 131], [132]]
  | 11 => [[], [124], [133]]
  | 12 => [[122, 123, 124, 125], [], [134], [], []]
  | 13 => [[], []]
  | 14 => [[138], [], [139], [], [140]]
  | 15 => [[], [11], [141], [15], [143], [144], [142, 145], [146]]
  | 16 => [[], [137], [147]]
  | 17 => [[135, 136, 137, 138], [], [148], [], []]
  | 18 => [[], []]
  | 19 => [[152], [], [153], [], [154]]
  | 20 => [[], [11], [155], [17], [157], [158], [159], [156, 160], [161]]
  | 21 => [[], [151], [162]]
  | 22 => [[149, 150, 151, 152], [], [163], [], []]
  | 23 => [[], []]
  | 24 => [[167], [], [168], [], [169]]
  | 25 => [[], [11], [170], [19], [172], [173], [174], [171, 175], [176]]
  | 26 => [[], [166], [177]]
  | 27 => [[164, 165, 166, 167], [], [178], [], []]
  | 28 => [[], []]
  | 29 => [[182], [], [183], [], [184]]
  | 30 => [[], [11], [185], [], [187], [188], [189], [190], [21], [192], [193], [194], [195], [191, 196], [186, 197], [198]]
  | 31 => [[], [181], [199]]
  | 32 => [[1, 179, 180, 181, 182], [11], [200]]
  | 33 => [[201], []]
  | 34 => [[201], []]
  | _ => []
def fo41 : Nat → List Nat
  | 3 => [1, 9, 10]
  | _ => []
theorem tCheck_c (t : Tsk) (hok : t.ok) : ACall Tryz.prog 41 [.agg t.cells] (.lit (.int .i64 (tskE t))) := by
  obtain ⟨h1, h2, h3, h4, h5, h6⟩ := hok
  have hSd := sends_c t.pend h1
  have hSt := store_c t.store h3
  have hst4 : storeE t.store = 0 → t.store.length ≤ 4000 := fun h => by
    unfold storeE at h
    split at h
    · cases h
    · omega
  have hsz := fun h => sizes_kept (kd := t.kind) (m := t.marks.length) (s := t.store.length) (e := t.evs.length) (r := t.rows.length) (l := t.late.length) h
  have hg : goodT t = goodT t := rfl
  conv at hg => rhs; unfold goodT numsB listsB keptB
  unfold tskE
  generalize goodT t = gt at *
  obtain ⟨kd, n, tn, pe, mk, st, ev, rw_, lt⟩ := t
  unfold Tsk.cells sndsV mksV entsV evsV rowsV rcdsV at *
  unfold maxLen at h1 h2 h3 h4 h5 h6
  simp only at h1 h2 h3 h4 h5 h6 hSd hSt hg hst4 hsz
  generalize allL pe sendB = sb at *
  generalize storeE st = se at *
  unfold oneB allL at hg
  simp only at hg
  obtain ⟨B, hB⟩ : ∃ B : List AV, B = [.lit (.int .u8 kd), .lit (.int .i64 n), .lit (.int .i64 tn), .ro 11 (pe.map Snd.cells), .ro 1 (mk.map intC), .ro 11 (st.map Ent.cells), .ro 5 (ev.map Ev.cells), .ro 5 (rw_.map RowT.cells), .ro 3 (lt.map Rcd.cells)] := ⟨_, rfl⟩
  refine acall_of (n := 202) (rs := [.tmp 2]) Tryz.func41 rfl (by kernel_rfl) rfl rfl rfl ?_; simp only [argsE, Nat.reduceAdd]
  repeat (any_goals (first | ((first | refine aops_cons (fun K' h' => ?_) | refine aopsD_cons (fun K' h' => ?_)); simp only [go_sem, Nat.reduceLT, Nat.reduceLeDiff, Nat.reduceEqDiff, reduceIte, Nat.reduceAdd, Nat.reduceMul, Nat.reduceSub, Int.reduceLT, Int.reduceLE, Int.reduceToNat, Int.reduceNeg, reduceCtorEq, hgs]; (try ((first | refine ⟨_, limits_c _, ?_⟩ | refine ⟨_, fun _ => room_c _ _, ?_⟩ | refine ⟨_, fun _ => hSd, ?_⟩ | refine ⟨_, fun _ => hSt, ?_⟩); (try simp only [go_sem, Nat.reduceLT, Nat.reduceLeDiff, Nat.reduceEqDiff, reduceIte, Nat.reduceAdd, Nat.reduceMul, Nat.reduceSub, Int.reduceLT, Int.reduceLE, Int.reduceToNat, Int.reduceNeg, reduceCtorEq, hgs]))); (try simp (disch := omega) only [wrap_id, getD_map_in, Int.toNat_natCast]); (repeat (refine And.intro (by (omega)) ?_)); refine h' _ ?_; clear h' K') | (refine aops_nil (hK _ ?_); clear hK K hgs gs; try simp only [aThen, aBlock]) | ((refine AWp.sreg (id := 2) dd41 rfl (fun gs K hgs hK => ?_)); replace hgs : gs 3 = some 36 ∧ gs 8 = some 41 ∧ gs 14 = some 47 := ⟨hgs 3, hgs 8, hgs 14⟩) | ((refine AWp.sreg (id := 4) dd41 rfl (fun gs K hgs hK => ?_)); replace hgs : gs 2 = some 105 ∧ gs 6 = some 109 ∧ gs 12 = some 115 := ⟨hgs 2, hgs 6, hgs 12⟩) | (refine AWp.sreg  dd41 rfl (fun gs K hgs hK => ?_); replace hgs : Nat.succ 0 = 1 := rfl) | refine AWp.seq ?_ | refine AWp.block ?_ | (refine AWp.ret ?_; try simp only [aThen, aBlock]) | (refine AWp.skip ?_; try simp only [aThen, aBlock]) | ((refine AWp.regD (id := 3) fo41 mo_fact (by kernel_rfl) (fun gs K hgs hK => ?_)); replace hgs : gs 4 = some 57 ∧ gs 11 = some 64 ∧ gs 18 = some 71 ∧ gs 26 = some 79 ∧ gs 34 = some 87 ∧ gs 42 = some 95 := ⟨hgs 4, hgs 11, hgs 18, hgs 26, hgs 34, hgs 42⟩) | (refine aopsD_nil (hK _ ?_); clear hK K hgs gs; simp only [fo41]; simp only [ASt.prune, pruneE, keepB, keepR, Bool.or_false, Bool.or_true, Bool.true_or, Bool.false_or, reduceIte, Bool.or_self, Bool.false_eq_true, aThen, aBlock, Nat.reduceEqDiff]) | (refine AWp.cond rfl (fun h => ?_) (fun h => ?_) <;> (try simp only [decide_eq_true_eq, decide_eq_false_iff_not, beq_iff_eq, bne_iff_ne, ne_eq, Bool.not_eq_true', Bool.not_eq_false', beq_eq_false_iff_ne, Bool.true_eq_false, Bool.false_eq_true, Int.not_le, Int.not_lt, Bool.and_eq_true, Bool.and_eq_false_iff, Bool.or_eq_true, Bool.or_eq_false_iff, bne_eq_false_iff_eq, reduceCtorEq] at h))))
  · simp only [Out, outA, outL, resA, go_sem, Nat.reduceLT, Nat.reduceLeDiff, Nat.reduceEqDiff, reduceIte, Nat.reduceAdd, Nat.reduceMul, Nat.reduceSub, Int.reduceLT, Int.reduceLE, Int.reduceToNat, Int.reduceNeg, reduceCtorEq]
    have : gt = false := by
      rw [hg, Bool.eq_false_iff]
      intro hh
      simp only [Bool.and_eq_true, decide_eq_true_eq] at hh
      obtain ⟨b1, b2, b3, b4, b5, _⟩ := hh
      have b3 := (hsz (hst4 b5)).2 b3
      rcases h with ((h | h) | h) | h
      · omega
      · omega
      · rw [h] at b4; cases b4
      · exact h b5
    rw [this]
    exact AVle.refl _
  · have hgg : gt = ((((allN mk.length (fun k => lowB (mk.getD k default)) && allN ev.length (fun k => okE (ev.getD k default))) && allN rw_.length (fun k => rowB (rw_.getD k default).s (rw_.getD k default).e)) && allN lt.length (fun k => isTimeB (lt.getD k default).t)) && allN st.length (fun k => !(kd == 4) || (st.getD k default).c1 == 0)) := by
      obtain ⟨⟨⟨g1, g2⟩, g3⟩, g4⟩ := h
      rw [hg, decide_eq_true (show 0 ≤ tn ∧ tn < 20 ∧ 0 ≤ n ∧ n < 4 by omega), decide_eq_true (show pe.length ≤ 4000 by omega), decide_eq_true ((hsz (hst4 g4)).1 (by omega)), g3, decide_eq_true g4]
      simp only [Bool.true_and, Bool.and_assoc]
    rw [hgg]
    clear hg hgg h hsz hst4 hSd hSt
    generalize hA1 : (fun k => lowB (mk.getD k default)) = a1
    generalize hA2 : (fun k => okE (ev.getD k default)) = a2
    generalize hA3 : (fun k => rowB (rw_.getD k default).s (rw_.getD k default).e) = a3
    generalize hA4 : (fun k => isTimeB (lt.getD k default).t) = a4
    generalize hA5 : (fun k => !(kd == 4) || (st.getD k default).c1 == 0) = a5
    refine AWp.loopN mk.length (fun _ => True) (fun k => ⟨[(1, .bp 0 0), (11, .lit (.bool (allN k a1))), (122, .ro 1 (mk.map intC)), (123, .lit (.int .i64 (mk.length : Int))), (124, .lit (.int .i64 (k : Int)))], [B], []⟩) ?_ ?_
    · subst hB
      refine Wk.of rfl rfl ?_
      simp [subE, eget, ASt.drop, dropE, keepR, allN]
    · intro k hk _
      subst hB
      repeat ((first | ((refine aops_cons (fun K' h' => ?_)); simp only [go_sem, Nat.reduceLT, Nat.reduceLeDiff, Nat.reduceEqDiff, reduceIte, Nat.reduceAdd, Nat.reduceMul, Nat.reduceSub, Int.reduceLT, Int.reduceLE, Int.reduceToNat, Int.reduceNeg, reduceCtorEq, hgs]; (try simp (disch := omega) only [wrap_id, getD_map_in, Int.toNat_natCast]); (repeat (refine And.intro (by (omega)) ?_)); refine h' _ ?_; clear h' K') | (refine aops_nil (hK _ ?_); clear hK K hgs gs; try simp only [aThen, aBlock]) | (refine AWp.sreg  dd41 rfl (fun gs K hgs hK => ?_); replace hgs : Nat.succ 0 = 1 := rfl) | refine AWp.seq ?_))
      (refine AWp.cond rfl (fun h => ?_) (fun h => ?_) <;> (try simp only [decide_eq_true_eq, decide_eq_false_iff_not, beq_iff_eq, bne_iff_ne, ne_eq, Bool.not_eq_true', Bool.not_eq_false', beq_eq_false_iff_ne, Bool.true_eq_false, Bool.false_eq_true, Int.not_le, Int.not_lt, Bool.and_eq_true, Bool.and_eq_false_iff, Bool.or_eq_true, Bool.or_eq_false_iff, bne_eq_false_iff_eq, reduceCtorEq] at h))
      · obtain ⟨x, hx⟩ : ∃ x, mk.getD k default = x := ⟨_, rfl⟩
        have ha : a1 k = lowB x := by rw [← hA1]; simp only [hx]
        repeat (any_goals (first | ((refine aops_cons (fun K' h' => ?_)); simp only [go_sem, Nat.reduceLT, Nat.reduceLeDiff, Nat.reduceEqDiff, reduceIte, Nat.reduceAdd, Nat.reduceMul, Nat.reduceSub, Int.reduceLT, Int.reduceLE, Int.reduceToNat, Int.reduceNeg, reduceCtorEq, hgs, hx, intC]; (try ((refine ⟨_, fun _ => tMark_c _, ?_⟩); (try simp only [go_sem, Nat.reduceLT, Nat.reduceLeDiff, Nat.reduceEqDiff, reduceIte, Nat.reduceAdd, Nat.reduceMul, Nat.reduceSub, Int.reduceLT, Int.reduceLE, Int.reduceToNat, Int.reduceNeg, reduceCtorEq, hgs, hx, intC]))); (try simp (disch := omega) only [wrap_id, getD_map_in, Int.toNat_natCast, hx, intC]); (repeat (refine And.intro (by (omega)) ?_)); refine h' _ ?_; clear h' K') | (refine aops_nil (hK _ ?_); clear hK K hgs gs; try simp only [aThen, aBlock]) | ((refine AWp.reg (id := 10) dd41 rfl (fun gs K hgs hK => ?_)); replace hgs : gs 1 = some 129 := hgs 1) | (refine AWp.sreg  dd41 rfl (fun gs K hgs hK => ?_); replace hgs : Nat.succ 0 = 1 := rfl) | refine AWp.seq ?_ | refine AWp.block ?_ | (refine AWp.skip ?_; try simp only [aThen, aBlock]) | (refine AWp.reg  dd41 rfl (fun gs K hgs hK => ?_); replace hgs : Nat.succ 0 = 1 := rfl)))
        refine ⟨by omega, trivial, Wk.ofCut 1 0 rfl rfl ?_⟩
        rw [← ha, allN_step]
        first
          | (simp [subE, eget, ASt.drop, dropE, keepR, lowE, AV.lowB, lowL, Nat.blt, Nat.ble]; done)
          | (simp [subE, eget, ASt.drop, dropE, keepR, lowE, AV.lowB, lowL, Nat.blt, Nat.ble]; omega)
      · have ek : k = mk.length := by omega
        subst ek
        generalize allN mk.length a1 = A1
        clear hk h hA1
        obtain ⟨B, hB⟩ : ∃ B : List AV, B = [.lit (.int .u8 kd), .lit (.int .i64 n), .lit (.int .i64 tn), .ro 11 (pe.map Snd.cells), .ro 1 (mk.map intC), .ro 11 (st.map Ent.cells), .ro 5 (ev.map Ev.cells), .ro 5 (rw_.map RowT.cells), .ro 3 (lt.map Rcd.cells)] := ⟨_, rfl⟩
        repeat ((first | ((refine aops_cons (fun K' h' => ?_)); simp only [go_sem, Nat.reduceLT, Nat.reduceLeDiff, Nat.reduceEqDiff, reduceIte, Nat.reduceAdd, Nat.reduceMul, Nat.reduceSub, Int.reduceLT, Int.reduceLE, Int.reduceToNat, Int.reduceNeg, reduceCtorEq, hgs]; (try simp (disch := omega) only [wrap_id, getD_map_in, Int.toNat_natCast]); (repeat (refine And.intro (by (omega)) ?_)); refine h' _ ?_; clear h' K') | (refine aops_nil (hK _ ?_); clear hK K hgs gs; try simp only [aThen, aBlock]) | (refine AWp.sreg  dd41 rfl (fun gs K hgs hK => ?_); replace hgs : Nat.succ 0 = 1 := rfl) | refine AWp.seq ?_ | refine AWp.block ?_ | (refine AWp.exit ?_; try simp only [aThen, aBlock, Nat.reduceEqDiff, reduceIte])))
        refine AWp.loopN ev.length (fun _ => True) (fun k => ⟨[(1, .bp 0 0), (11, .lit (.bool (A1 && allN k a2))), (135, .ro 5 (ev.map Ev.cells)), (136, .lit (.int .i64 (ev.length : Int))), (137, .lit (.int .i64 (k : Int)))], [B], []⟩) ?_ ?_
        · subst hB
          refine Wk.of rfl rfl ?_
          simp [subE, eget, ASt.drop, dropE, keepR, allN]
        · intro k hk _
          subst hB
          repeat ((first | ((refine aops_cons (fun K' h' => ?_)); simp only [go_sem, Nat.reduceLT, Nat.reduceLeDiff, Nat.reduceEqDiff, reduceIte, Nat.reduceAdd, Nat.reduceMul, Nat.reduceSub, Int.reduceLT, Int.reduceLE, Int.reduceToNat, Int.reduceNeg, reduceCtorEq, hgs]; (try simp (disch := omega) only [wrap_id, getD_map_in, Int.toNat_natCast]); (repeat (refine And.intro (by (omega)) ?_)); refine h' _ ?_; clear h' K') | (refine aops_nil (hK _ ?_); clear hK K hgs gs; try simp only [aThen, aBlock]) | (refine AWp.sreg  dd41 rfl (fun gs K hgs hK => ?_); replace hgs : Nat.succ 0 = 1 := rfl) | refine AWp.seq ?_))
          (refine AWp.cond rfl (fun h => ?_) (fun h => ?_) <;> (try simp only [decide_eq_true_eq, decide_eq_false_iff_not, beq_iff_eq, bne_iff_ne, ne_eq, Bool.not_eq_true', Bool.not_eq_false', beq_eq_false_iff_ne, Bool.true_eq_false, Bool.false_eq_true, Int.not_le, Int.not_lt, Bool.and_eq_true, Bool.and_eq_false_iff, Bool.or_eq_true, Bool.or_eq_false_iff, bne_eq_false_iff_eq, reduceCtorEq] at h))
          · obtain ⟨x, hx⟩ : ∃ x, ev.getD k default = x := ⟨_, rfl⟩
            have hEv := event_c x
            unfold errE at hEv
            have ha : a2 k = okE x := by rw [← hA2]; simp only [hx]
            have hz : ((if okE x = true then (0 : Int) else 8) == 0) = okE x := by cases okE x <;> rfl
            obtain ⟨em, et, ek, ert, evv⟩ := x
            repeat (any_goals (first | ((refine aops_cons (fun K' h' => ?_)); simp only [go_sem, Nat.reduceLT, Nat.reduceLeDiff, Nat.reduceEqDiff, reduceIte, Nat.reduceAdd, Nat.reduceMul, Nat.reduceSub, Int.reduceLT, Int.reduceLE, Int.reduceToNat, Int.reduceNeg, reduceCtorEq, hgs, hx, Ev.cells, hz]; (try ((refine ⟨_, fun _ => hEv, ?_⟩); (try simp only [go_sem, Nat.reduceLT, Nat.reduceLeDiff, Nat.reduceEqDiff, reduceIte, Nat.reduceAdd, Nat.reduceMul, Nat.reduceSub, Int.reduceLT, Int.reduceLE, Int.reduceToNat, Int.reduceNeg, reduceCtorEq, hgs, hx, Ev.cells, hz]))); (try simp (disch := omega) only [wrap_id, getD_map_in, Int.toNat_natCast, hx, Ev.cells, hz]); (repeat (refine And.intro (by (omega)) ?_)); refine h' _ ?_; clear h' K') | (refine aops_nil (hK _ ?_); clear hK K hgs gs; try simp only [aThen, aBlock]) | ((refine AWp.reg (id := 15) dd41 rfl (fun gs K hgs hK => ?_)); replace hgs : gs 1 = some 142 := hgs 1) | (refine AWp.sreg  dd41 rfl (fun gs K hgs hK => ?_); replace hgs : Nat.succ 0 = 1 := rfl) | refine AWp.seq ?_ | refine AWp.block ?_ | (refine AWp.skip ?_; try simp only [aThen, aBlock]) | (refine AWp.reg  dd41 rfl (fun gs K hgs hK => ?_); replace hgs : Nat.succ 0 = 1 := rfl)))
            refine ⟨by omega, trivial, Wk.ofCut 1 0 rfl rfl ?_⟩
            rw [← ha, Bool.and_assoc, allN_step]
            first
              | (simp [subE, eget, ASt.drop, dropE, keepR, lowE, AV.lowB, lowL, Nat.blt, Nat.ble]; done)
              | (simp [subE, eget, ASt.drop, dropE, keepR, lowE, AV.lowB, lowL, Nat.blt, Nat.ble]; omega)
          · have ek : k = ev.length := by omega
            subst ek
            generalize (A1 && allN ev.length a2) = A2
            clear hk h hA2
            obtain ⟨B, hB⟩ : ∃ B : List AV, B = [.lit (.int .u8 kd), .lit (.int .i64 n), .lit (.int .i64 tn), .ro 11 (pe.map Snd.cells), .ro 1 (mk.map intC), .ro 11 (st.map Ent.cells), .ro 5 (ev.map Ev.cells), .ro 5 (rw_.map RowT.cells), .ro 3 (lt.map Rcd.cells)] := ⟨_, rfl⟩
            repeat ((first | ((refine aops_cons (fun K' h' => ?_)); simp only [go_sem, Nat.reduceLT, Nat.reduceLeDiff, Nat.reduceEqDiff, reduceIte, Nat.reduceAdd, Nat.reduceMul, Nat.reduceSub, Int.reduceLT, Int.reduceLE, Int.reduceToNat, Int.reduceNeg, reduceCtorEq, hgs]; (try simp (disch := omega) only [wrap_id, getD_map_in, Int.toNat_natCast]); (repeat (refine And.intro (by (omega)) ?_)); refine h' _ ?_; clear h' K') | (refine aops_nil (hK _ ?_); clear hK K hgs gs; try simp only [aThen, aBlock]) | (refine AWp.sreg  dd41 rfl (fun gs K hgs hK => ?_); replace hgs : Nat.succ 0 = 1 := rfl) | refine AWp.seq ?_ | refine AWp.block ?_ | (refine AWp.exit ?_; try simp only [aThen, aBlock, Nat.reduceEqDiff, reduceIte])))
            refine AWp.loopN rw_.length (fun _ => True) (fun k => ⟨[(1, .bp 0 0), (11, .lit (.bool (A2 && allN k a3))), (149, .ro 5 (rw_.map RowT.cells)), (150, .lit (.int .i64 (rw_.length : Int))), (151, .lit (.int .i64 (k : Int)))], [B], []⟩) ?_ ?_
            · subst hB
              refine Wk.of rfl rfl ?_
              simp [subE, eget, ASt.drop, dropE, keepR, allN]
            · intro k hk _
              subst hB
              repeat ((first | ((refine aops_cons (fun K' h' => ?_)); simp only [go_sem, Nat.reduceLT, Nat.reduceLeDiff, Nat.reduceEqDiff, reduceIte, Nat.reduceAdd, Nat.reduceMul, Nat.reduceSub, Int.reduceLT, Int.reduceLE, Int.reduceToNat, Int.reduceNeg, reduceCtorEq, hgs]; (try simp (disch := omega) only [wrap_id, getD_map_in, Int.toNat_natCast]); (repeat (refine And.intro (by (omega)) ?_)); refine h' _ ?_; clear h' K') | (refine aops_nil (hK _ ?_); clear hK K hgs gs; try simp only [aThen, aBlock]) | (refine AWp.sreg  dd41 rfl (fun gs K hgs hK => ?_); replace hgs : Nat.succ 0 = 1 := rfl) | refine AWp.seq ?_))
              (refine AWp.cond rfl (fun h => ?_) (fun h => ?_) <;> (try simp only [decide_eq_true_eq, decide_eq_false_iff_not, beq_iff_eq, bne_iff_ne, ne_eq, Bool.not_eq_true', Bool.not_eq_false', beq_eq_false_iff_ne, Bool.true_eq_false, Bool.false_eq_true, Int.not_le, Int.not_lt, Bool.and_eq_true, Bool.and_eq_false_iff, Bool.or_eq_true, Bool.or_eq_false_iff, bne_eq_false_iff_eq, reduceCtorEq] at h))
              · obtain ⟨x, hx⟩ : ∃ x, rw_.getD k default = x := ⟨_, rfl⟩
                have hM := mCheck_c ⟨3, 0, 0, 0, 0, x.key, x.s, x.e, x.v0, x.v1⟩
                have he : errM ⟨3, 0, 0, 0, 0, x.key, x.s, x.e, x.v0, x.v1⟩ = if rowB x.s x.e = true then 0 else 8 := by
                  unfold errM validM
                  simp
                rw [he] at hM
                have ha : a3 k = rowB x.s x.e := by rw [← hA3]; simp only [hx]
                have hz : ((if rowB x.s x.e = true then (0 : Int) else 8) == 0) = rowB x.s x.e := by cases rowB x.s x.e <;> rfl
                obtain ⟨rk, rs, re, rv0, rv1⟩ := x
                unfold Msg.cells at hM
                simp only at hM ha hz
                repeat (any_goals (first | ((refine aops_cons (fun K' h' => ?_)); simp only [go_sem, Nat.reduceLT, Nat.reduceLeDiff, Nat.reduceEqDiff, reduceIte, Nat.reduceAdd, Nat.reduceMul, Nat.reduceSub, Int.reduceLT, Int.reduceLE, Int.reduceToNat, Int.reduceNeg, reduceCtorEq, hgs, hx, RowT.cells, hz]; (try ((refine ⟨_, fun _ => hM, ?_⟩); (try simp only [go_sem, Nat.reduceLT, Nat.reduceLeDiff, Nat.reduceEqDiff, reduceIte, Nat.reduceAdd, Nat.reduceMul, Nat.reduceSub, Int.reduceLT, Int.reduceLE, Int.reduceToNat, Int.reduceNeg, reduceCtorEq, hgs, hx, RowT.cells, hz]))); (try simp (disch := omega) only [wrap_id, getD_map_in, Int.toNat_natCast, hx, RowT.cells, hz]); (repeat (refine And.intro (by (omega)) ?_)); refine h' _ ?_; clear h' K') | (refine aops_nil (hK _ ?_); clear hK K hgs gs; try simp only [aThen, aBlock]) | ((refine AWp.reg (id := 20) dd41 rfl (fun gs K hgs hK => ?_)); replace hgs : gs 1 = some 156 := hgs 1) | (refine AWp.sreg  dd41 rfl (fun gs K hgs hK => ?_); replace hgs : Nat.succ 0 = 1 := rfl) | refine AWp.seq ?_ | refine AWp.block ?_ | (refine AWp.skip ?_; try simp only [aThen, aBlock]) | (refine AWp.reg  dd41 rfl (fun gs K hgs hK => ?_); replace hgs : Nat.succ 0 = 1 := rfl)))
                refine ⟨by omega, trivial, Wk.ofCut 1 0 rfl rfl ?_⟩
                rw [← ha, Bool.and_assoc, allN_step]
                first
                  | (simp [subE, eget, ASt.drop, dropE, keepR, lowE, AV.lowB, lowL, Nat.blt, Nat.ble]; done)
                  | (simp [subE, eget, ASt.drop, dropE, keepR, lowE, AV.lowB, lowL, Nat.blt, Nat.ble]; omega)
              · have ek : k = rw_.length := by omega
                subst ek
                generalize (A2 && allN rw_.length a3) = A3
                clear hk h hA3
                obtain ⟨B, hB⟩ : ∃ B : List AV, B = [.lit (.int .u8 kd), .lit (.int .i64 n), .lit (.int .i64 tn), .ro 11 (pe.map Snd.cells), .ro 1 (mk.map intC), .ro 11 (st.map Ent.cells), .ro 5 (ev.map Ev.cells), .ro 5 (rw_.map RowT.cells), .ro 3 (lt.map Rcd.cells)] := ⟨_, rfl⟩
                repeat ((first | ((refine aops_cons (fun K' h' => ?_)); simp only [go_sem, Nat.reduceLT, Nat.reduceLeDiff, Nat.reduceEqDiff, reduceIte, Nat.reduceAdd, Nat.reduceMul, Nat.reduceSub, Int.reduceLT, Int.reduceLE, Int.reduceToNat, Int.reduceNeg, reduceCtorEq, hgs]; (try simp (disch := omega) only [wrap_id, getD_map_in, Int.toNat_natCast]); (repeat (refine And.intro (by (omega)) ?_)); refine h' _ ?_; clear h' K') | (refine aops_nil (hK _ ?_); clear hK K hgs gs; try simp only [aThen, aBlock]) | (refine AWp.sreg  dd41 rfl (fun gs K hgs hK => ?_); replace hgs : Nat.succ 0 = 1 := rfl) | refine AWp.seq ?_ | refine AWp.block ?_ | (refine AWp.exit ?_; try simp only [aThen, aBlock, Nat.reduceEqDiff, reduceIte])))
                refine AWp.loopN lt.length (fun _ => True) (fun k => ⟨[(1, .bp 0 0), (11, .lit (.bool (A3 && allN k a4))), (164, .ro 3 (lt.map Rcd.cells)), (165, .lit (.int .i64 (lt.length : Int))), (166, .lit (.int .i64 (k : Int)))], [B], []⟩) ?_ ?_
                · subst hB
                  refine Wk.of rfl rfl ?_
                  simp [subE, eget, ASt.drop, dropE, keepR, allN]
                · intro k hk _
                  subst hB
                  repeat ((first | ((refine aops_cons (fun K' h' => ?_)); simp only [go_sem, Nat.reduceLT, Nat.reduceLeDiff, Nat.reduceEqDiff, reduceIte, Nat.reduceAdd, Nat.reduceMul, Nat.reduceSub, Int.reduceLT, Int.reduceLE, Int.reduceToNat, Int.reduceNeg, reduceCtorEq, hgs]; (try simp (disch := omega) only [wrap_id, getD_map_in, Int.toNat_natCast]); (repeat (refine And.intro (by (omega)) ?_)); refine h' _ ?_; clear h' K') | (refine aops_nil (hK _ ?_); clear hK K hgs gs; try simp only [aThen, aBlock]) | (refine AWp.sreg  dd41 rfl (fun gs K hgs hK => ?_); replace hgs : Nat.succ 0 = 1 := rfl) | refine AWp.seq ?_))
                  (refine AWp.cond rfl (fun h => ?_) (fun h => ?_) <;> (try simp only [decide_eq_true_eq, decide_eq_false_iff_not, beq_iff_eq, bne_iff_ne, ne_eq, Bool.not_eq_true', Bool.not_eq_false', beq_eq_false_iff_ne, Bool.true_eq_false, Bool.false_eq_true, Int.not_le, Int.not_lt, Bool.and_eq_true, Bool.and_eq_false_iff, Bool.or_eq_true, Bool.or_eq_false_iff, bne_eq_false_iff_eq, reduceCtorEq] at h))
                  · obtain ⟨x, hx⟩ : ∃ x, lt.getD k default = x := ⟨_, rfl⟩
                    have hM := mCheck_c ⟨4, x.key, x.t, x.v, 0, 0, 0, 0, 0, 0⟩
                    have he : errM ⟨4, x.key, x.t, x.v, 0, 0, 0, 0, 0, 0⟩ = if isTimeB x.t = true then 0 else 8 := by
                      unfold errM validM
                      simp
                    rw [he] at hM
                    have ha : a4 k = isTimeB x.t := by rw [← hA4]; simp only [hx]
                    have hz : ((if isTimeB x.t = true then (0 : Int) else 8) == 0) = isTimeB x.t := by cases isTimeB x.t <;> rfl
                    obtain ⟨rk, rt, rv⟩ := x
                    unfold Msg.cells at hM
                    simp only at hM ha hz
                    repeat (any_goals (first | ((refine aops_cons (fun K' h' => ?_)); simp only [go_sem, Nat.reduceLT, Nat.reduceLeDiff, Nat.reduceEqDiff, reduceIte, Nat.reduceAdd, Nat.reduceMul, Nat.reduceSub, Int.reduceLT, Int.reduceLE, Int.reduceToNat, Int.reduceNeg, reduceCtorEq, hgs, hx, Rcd.cells, hz]; (try ((refine ⟨_, fun _ => hM, ?_⟩); (try simp only [go_sem, Nat.reduceLT, Nat.reduceLeDiff, Nat.reduceEqDiff, reduceIte, Nat.reduceAdd, Nat.reduceMul, Nat.reduceSub, Int.reduceLT, Int.reduceLE, Int.reduceToNat, Int.reduceNeg, reduceCtorEq, hgs, hx, Rcd.cells, hz]))); (try simp (disch := omega) only [wrap_id, getD_map_in, Int.toNat_natCast, hx, Rcd.cells, hz]); (repeat (refine And.intro (by (omega)) ?_)); refine h' _ ?_; clear h' K') | (refine aops_nil (hK _ ?_); clear hK K hgs gs; try simp only [aThen, aBlock]) | ((refine AWp.reg (id := 25) dd41 rfl (fun gs K hgs hK => ?_)); replace hgs : gs 1 = some 171 := hgs 1) | (refine AWp.sreg  dd41 rfl (fun gs K hgs hK => ?_); replace hgs : Nat.succ 0 = 1 := rfl) | refine AWp.seq ?_ | refine AWp.block ?_ | (refine AWp.skip ?_; try simp only [aThen, aBlock]) | (refine AWp.reg  dd41 rfl (fun gs K hgs hK => ?_); replace hgs : Nat.succ 0 = 1 := rfl)))
                    refine ⟨by omega, trivial, Wk.ofCut 1 0 rfl rfl ?_⟩
                    rw [← ha, Bool.and_assoc, allN_step]
                    first
                      | (simp [subE, eget, ASt.drop, dropE, keepR, lowE, AV.lowB, lowL, Nat.blt, Nat.ble]; done)
                      | (simp [subE, eget, ASt.drop, dropE, keepR, lowE, AV.lowB, lowL, Nat.blt, Nat.ble]; omega)
                  · have ek : k = lt.length := by omega
                    subst ek
                    generalize (A3 && allN lt.length a4) = A4
                    clear hk h hA4
                    obtain ⟨B, hB⟩ : ∃ B : List AV, B = [.lit (.int .u8 kd), .lit (.int .i64 n), .lit (.int .i64 tn), .ro 11 (pe.map Snd.cells), .ro 1 (mk.map intC), .ro 11 (st.map Ent.cells), .ro 5 (ev.map Ev.cells), .ro 5 (rw_.map RowT.cells), .ro 3 (lt.map Rcd.cells)] := ⟨_, rfl⟩
                    repeat ((first | ((refine aops_cons (fun K' h' => ?_)); simp only [go_sem, Nat.reduceLT, Nat.reduceLeDiff, Nat.reduceEqDiff, reduceIte, Nat.reduceAdd, Nat.reduceMul, Nat.reduceSub, Int.reduceLT, Int.reduceLE, Int.reduceToNat, Int.reduceNeg, reduceCtorEq, hgs]; (try simp (disch := omega) only [wrap_id, getD_map_in, Int.toNat_natCast]); (repeat (refine And.intro (by (omega)) ?_)); refine h' _ ?_; clear h' K') | (refine aops_nil (hK _ ?_); clear hK K hgs gs; try simp only [aThen, aBlock]) | (refine AWp.sreg  dd41 rfl (fun gs K hgs hK => ?_); replace hgs : Nat.succ 0 = 1 := rfl) | refine AWp.seq ?_ | refine AWp.block ?_ | (refine AWp.exit ?_; try simp only [aThen, aBlock, Nat.reduceEqDiff, reduceIte])))
                    refine AWp.loopN st.length (fun _ => True) (fun k => ⟨[(1, .bp 0 0), (11, .lit (.bool (A4 && allN k a5))), (179, .ro 11 (st.map Ent.cells)), (180, .lit (.int .i64 (st.length : Int))), (181, .lit (.int .i64 (k : Int)))], [B], []⟩) ?_ ?_
                    · subst hB
                      refine Wk.of rfl rfl ?_
                      simp [subE, eget, ASt.drop, dropE, keepR, allN]
                    · intro k hk _
                      subst hB
                      repeat ((first | ((refine aops_cons (fun K' h' => ?_)); simp only [go_sem, Nat.reduceLT, Nat.reduceLeDiff, Nat.reduceEqDiff, reduceIte, Nat.reduceAdd, Nat.reduceMul, Nat.reduceSub, Int.reduceLT, Int.reduceLE, Int.reduceToNat, Int.reduceNeg, reduceCtorEq, hgs]; (try simp (disch := omega) only [wrap_id, getD_map_in, Int.toNat_natCast]); (repeat (refine And.intro (by (omega)) ?_)); refine h' _ ?_; clear h' K') | (refine aops_nil (hK _ ?_); clear hK K hgs gs; try simp only [aThen, aBlock]) | (refine AWp.sreg  dd41 rfl (fun gs K hgs hK => ?_); replace hgs : Nat.succ 0 = 1 := rfl) | refine AWp.seq ?_))
                      (refine AWp.cond rfl (fun h => ?_) (fun h => ?_) <;> (try simp only [decide_eq_true_eq, decide_eq_false_iff_not, beq_iff_eq, bne_iff_ne, ne_eq, Bool.not_eq_true', Bool.not_eq_false', beq_eq_false_iff_ne, Bool.true_eq_false, Bool.false_eq_true, Int.not_le, Int.not_lt, Bool.and_eq_true, Bool.and_eq_false_iff, Bool.or_eq_true, Bool.or_eq_false_iff, bne_eq_false_iff_eq, reduceCtorEq] at h))
                      · obtain ⟨x, hx⟩ : ∃ x, st.getD k default = x := ⟨_, rfl⟩
                        have ha : a5 k = ((kd != 4) || (x.c1 == 0)) := by rw [← hA5]; simp only [hx]; rfl
                        obtain ⟨k1, s, e, c0, s0, m0, x0, c1, s1, m1, x1⟩ := x
                        simp only at ha
                        repeat (any_goals (first | ((refine aops_cons (fun K' h' => ?_)); simp only [go_sem, Nat.reduceLT, Nat.reduceLeDiff, Nat.reduceEqDiff, reduceIte, Nat.reduceAdd, Nat.reduceMul, Nat.reduceSub, Int.reduceLT, Int.reduceLE, Int.reduceToNat, Int.reduceNeg, reduceCtorEq, hgs, hx, Ent.cells]; (try simp (disch := omega) only [wrap_id, getD_map_in, Int.toNat_natCast, hx, Ent.cells]); (repeat (refine And.intro (by (omega)) ?_)); refine h' _ ?_; clear h' K') | (refine aops_nil (hK _ ?_); clear hK K hgs gs; try simp only [aThen, aBlock]) | ((refine AWp.reg (id := 30) dd41 rfl (fun gs K hgs hK => ?_)); replace hgs : gs 1 = some 186 ∧ gs 6 = some 191 := ⟨hgs 1, hgs 6⟩) | (refine AWp.sreg  dd41 rfl (fun gs K hgs hK => ?_); replace hgs : Nat.succ 0 = 1 := rfl) | refine AWp.seq ?_ | refine AWp.block ?_ | (refine AWp.skip ?_; try simp only [aThen, aBlock]) | (refine AWp.reg  dd41 rfl (fun gs K hgs hK => ?_); replace hgs : Nat.succ 0 = 1 := rfl)))
                        refine ⟨by omega, trivial, Wk.ofCut 1 0 rfl rfl ?_⟩
                        rw [← ha, Bool.and_assoc, allN_step]
                        first
                          | (simp [subE, eget, ASt.drop, dropE, keepR, lowE, AV.lowB, lowL, Nat.blt, Nat.ble]; done)
                          | (simp [subE, eget, ASt.drop, dropE, keepR, lowE, AV.lowB, lowL, Nat.blt, Nat.ble]; omega)
                      · have ek : k = st.length := by omega
                        subst ek
                        generalize (A4 && allN st.length a5) = A5
                        clear hk h hA5
                        repeat (any_goals (first | ((refine aops_cons (fun K' h' => ?_)); simp only [go_sem, Nat.reduceLT, Nat.reduceLeDiff, Nat.reduceEqDiff, reduceIte, Nat.reduceAdd, Nat.reduceMul, Nat.reduceSub, Int.reduceLT, Int.reduceLE, Int.reduceToNat, Int.reduceNeg, reduceCtorEq, hgs]; (try simp (disch := omega) only [wrap_id, getD_map_in, Int.toNat_natCast]); (repeat (refine And.intro (by (omega)) ?_)); refine h' _ ?_; clear h' K') | (refine aops_nil (hK _ ?_); clear hK K hgs gs; try simp only [aThen, aBlock]) | (refine AWp.sreg  dd41 rfl (fun gs K hgs hK => ?_); replace hgs : Nat.succ 0 = 1 := rfl) | refine AWp.seq ?_ | (refine AWp.ret ?_; try simp only [aThen, aBlock]) | (refine AWp.skip ?_; try simp only [aThen, aBlock]) | (refine AWp.exit ?_; try simp only [aThen, aBlock, Nat.reduceEqDiff, reduceIte]) | (refine AWp.cond rfl (fun h => ?_) (fun h => ?_) <;> (try simp only [decide_eq_true_eq, decide_eq_false_iff_not, beq_iff_eq, bne_iff_ne, ne_eq, Bool.not_eq_true', Bool.not_eq_false', beq_eq_false_iff_ne, Bool.true_eq_false, Bool.false_eq_true, Int.not_le, Int.not_lt, Bool.and_eq_true, Bool.and_eq_false_iff, Bool.or_eq_true, Bool.or_eq_false_iff, bne_eq_false_iff_eq, reduceCtorEq] at h))))
                        all_goals simp only [Out, outA, outL, resA, go_sem, Nat.reduceLT, Nat.reduceLeDiff, Nat.reduceEqDiff, reduceIte, Nat.reduceAdd, Nat.reduceMul, Nat.reduceSub, Int.reduceLT, Int.reduceLE, Int.reduceToNat, Int.reduceNeg, reduceCtorEq]
                        all_goals exact AVle.of_eq (by simp [*])
end Go.Proofs.YtjeehkdepoiegaaGreat
