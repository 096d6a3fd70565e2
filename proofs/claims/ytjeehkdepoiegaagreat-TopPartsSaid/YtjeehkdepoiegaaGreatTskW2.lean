/-
  The walks over stores and lists of sends: of the program and of the references.
-/
import Derived.Test.YtjeehkdepoiegaaGreatTskW1
namespace Go.Proofs.YtjeehkdepoiegaaGreat
open Go.AL Go.RowKit
set_option linter.unusedSimpArgs false
set_option linter.unusedVariables false
set_option maxRecDepth 10000
set_option maxHeartbeats 4000000
theorem accB_count {c s m x : Int} (h : accB c s m x = true) : 0 ≤ c ∧ c ≤ 1073741824 := by
  unfold accB at h
  have := of_decide_eq_true h
  omega
def dd71 : Nat → List (List Nat)
  | 0 => [[], [0], [2]]
  | 1 => [[], [], [3], [4], [5], [6], [], [8], [9], [], [11], [12], [10, 13], [7, 14], [15], [], [17], [18], [19], [16, 20]]
  | 2 => [[1, 21], []]
  | 3 => [[21], [], [22], [23], [24], [25], [26], [], [28], [29], [30], [31], [27, 32], [33], [], [35], [36], [37], [1], [39], [40], [41], [38, 42], [43], [34, 44], [45]]
  | _ => []
theorem rightE_c (r : Ent) : ACall Tryz.prog 71 [.agg r.cells] (.lit (.bool (rightE r))) := by
  obtain ⟨k, s, e, c0, s0, m0, x0, c1, s1, m1, x1⟩ := r
  have h0 := @accB_count c0 s0 m0 x0
  have h1 := @accB_count c1 s1 m1 x1
  unfold rightE Ent.cells
  simp only
  obtain ⟨p, hp⟩ : ∃ b, accB c0 s0 m0 x0 = b := ⟨_, rfl⟩
  obtain ⟨q, hq⟩ : ∃ b, accB c1 s1 m1 x1 = b := ⟨_, rfl⟩
  rw [hp] at h0 ⊢
  rw [hq] at h1 ⊢
  cases p <;> cases q
  all_goals (try simp only [forall_const, reduceCtorEq, false_implies, true_implies] at h0 h1)
  all_goals refine acall_of (n := 46) (rs := [.tmp 2]) Tryz.func71 rfl (by kernel_rfl) rfl rfl rfl ?_; simp only [argsE, Nat.reduceAdd]
  repeat (any_goals (first | (refine aops_cons (fun K' h' => ?_); simp only [go_sem, Nat.reduceLT, Nat.reduceLeDiff, Nat.reduceEqDiff, reduceIte, Nat.reduceAdd, Nat.reduceMul, Nat.reduceSub, Int.reduceLT, Int.reduceLE, Int.reduceToNat, Int.reduceNeg, reduceCtorEq, hgs, amem, Ent.cells, hp, hq]; (try ((first | refine ⟨_, accs_c _ _ _ _, ?_⟩ | refine ⟨_, fun _ => accs_c _ _ _ _, ?_⟩); (try simp only [go_sem, Nat.reduceLT, Nat.reduceLeDiff, Nat.reduceEqDiff, reduceIte, Nat.reduceAdd, Nat.reduceMul, Nat.reduceSub, Int.reduceLT, Int.reduceLE, Int.reduceToNat, Int.reduceNeg, reduceCtorEq, hgs, amem, Ent.cells, hp, hq]))); (try simp (disch := omega) only [wrap_id, getD_map_in, Int.toNat_natCast, amem, Ent.cells, hp, hq]); (repeat (refine And.intro (by (omega)) ?_)); refine h' _ ?_; clear h' K') | (refine aops_nil (hK _ ?_); clear hK K hgs gs; try simp only [aThen, aBlock]) | ((refine AWp.sreg (id := 1) dd71 rfl (fun gs K hgs hK => ?_)); replace hgs : gs 4 = some 7 ∧ gs 13 = some 16 := ⟨hgs 4, hgs 13⟩) | ((refine AWp.sreg (id := 3) dd71 rfl (fun gs K hgs hK => ?_)); replace hgs : gs 5 = some 27 ∧ gs 12 = some 34 := ⟨hgs 5, hgs 12⟩) | (refine AWp.sreg  dd71 rfl (fun gs K hgs hK => ?_); replace hgs : Nat.succ 0 = 1 := rfl) | refine AWp.seq ?_ | (refine AWp.ret ?_; try simp only [aThen, aBlock]) | (refine AWp.skip ?_; try simp only [aThen, aBlock]) | (refine AWp.cond rfl (fun h => ?_) (fun h => ?_) <;> (try simp only [decide_eq_true_eq, decide_eq_false_iff_not, beq_iff_eq, bne_iff_ne, ne_eq, Bool.not_eq_true', Bool.not_eq_false', beq_eq_false_iff_ne, Bool.true_eq_false, Bool.false_eq_true, Int.not_le, Int.not_lt, Bool.and_eq_true, Bool.and_eq_false_iff, Bool.or_eq_true, Bool.or_eq_false_iff, bne_eq_false_iff_eq, reduceCtorEq] at h))))
  all_goals simp only [Out, outA, outL, resA, go_sem, Nat.reduceLT, Nat.reduceLeDiff, Nat.reduceEqDiff, reduceIte, Nat.reduceAdd, Nat.reduceMul, Nat.reduceSub, Int.reduceLT, Int.reduceLE, Int.reduceToNat, Int.reduceNeg, reduceCtorEq]
  all_goals refine AVle.of_eq (congrArg (fun n => AV.lit (.bool n)) ?_)
  all_goals (try simp only [IntKind.wrap_i64])
  all_goals first
    | (simp; omega)
    | (simp_all; done)
    | (simp_all; omega)
def dd72 : Nat → List (List Nat)
  | 0 => [[], [0], [1], [4]]
  | _ => []
def fo72 : Nat → List Nat
  | 1 => [4]
  | _ => []
theorem order_c (a b : Ent) : ACall Tryz.prog 72 [.agg a.cells, .agg b.cells] (.lit (.int .i64 (or3 (cmpI a.e b.e) (cmpI a.s b.s) (cmpI a.key b.key)))) := by
  obtain ⟨k, s, e, c0, s0, m0, x0, c1, s1, m1, x1⟩ := a
  obtain ⟨k', s', e', c0', s0', m0', x0', c1', s1', m1', x1'⟩ := b
  unfold Ent.cells
  simp only
  refine acall_of (n := 26) (rs := [.tmp 4]) Tryz.func72 rfl (by kernel_rfl) rfl rfl rfl ?_; simp only [argsE, Nat.reduceAdd]
  repeat (any_goals (first | ((first | refine aops_cons (fun K' h' => ?_) | refine aopsM_cons (fun K' h' => ?_)); simp only [go_sem, Nat.reduceLT, Nat.reduceLeDiff, Nat.reduceEqDiff, reduceIte, Nat.reduceAdd, Nat.reduceMul, Nat.reduceSub, Int.reduceLT, Int.reduceLE, Int.reduceToNat, Int.reduceNeg, reduceCtorEq, amem, Ent.cells]; (try ((first | refine ⟨_, cmp_c _ _, ?_⟩ | refine ⟨_, or_c _ _ _, ?_⟩); (try simp only [go_sem, Nat.reduceLT, Nat.reduceLeDiff, Nat.reduceEqDiff, reduceIte, Nat.reduceAdd, Nat.reduceMul, Nat.reduceSub, Int.reduceLT, Int.reduceLE, Int.reduceToNat, Int.reduceNeg, reduceCtorEq, amem, Ent.cells]))); (try simp (disch := omega) only [wrap_id, getD_map_in, Int.toNat_natCast, amem, Ent.cells]); (repeat (refine And.intro (by (first | omega | (simp; done))) ?_)); refine h' _ ?_; clear h' K') | (refine aops_nil (hK _ ?_); clear hK K gs; try simp only [aThen, aBlock]) | (refine AWp.sreg  dd72 rfl (fun gs K hgs hK => ?_); clear hgs) | refine AWp.seq ?_ | (refine AWp.ret ?_; try simp only [aThen, aBlock]) | ((refine AWp.regM (id := 1) fo72 (false, false) mo_fact (by kernel_rfl) (by kernel_rfl) (fun gs K hgs hK => ?_)); clear hgs) | (refine aopsM_nil (hK _ ?_); clear hK K gs; simp only [fo72]; simp only [ASt.prune, pruneE, keepB, keepR, Bool.or_false, Bool.or_true, Bool.true_or, Bool.false_or, reduceIte, Bool.or_self, Bool.false_eq_true, aThen, aBlock, Nat.reduceEqDiff])))
  all_goals simp only [Out, outA, outL, resA, go_sem, Nat.reduceLT, Nat.reduceLeDiff, Nat.reduceEqDiff, reduceIte, Nat.reduceAdd, Nat.reduceMul, Nat.reduceSub, Int.reduceLT, Int.reduceLE, Int.reduceToNat, Int.reduceNeg, reduceCtorEq]
  all_goals exact AVle.refl _
theorem order_less (a b : Ent) : decide (0 ≤ or3 (cmpI a.e b.e) (cmpI a.s b.s) (cmpI a.key b.key)) = !lessE a b := by
  unfold or3 cmpI lessE
  rw [Bool.eq_iff_iff]
  simp only [decide_eq_true_eq, Bool.not_eq_true', decide_eq_false_iff_not]
  repeat' split
  all_goals omega
def dd62 : Nat → List (List Nat)
  | 0 => [[], [2]]
  | 1 => [[], [], [5], [6]]
  | 2 => [[0, 7], []]
  | 3 => [[7], [], [], []]
  | 4 => [[], []]
  | 5 => [[11], [], [], [13], [], [12], [14]]
  | 7 => [[0, 8, 9, 10, 31], []]
  | 8 => [[31], [10], [32]]
  | 9 => [[0, 8, 9, 10, 11], []]
  | _ => []
def fo62 : Nat → List Nat
  | 6 => [0, 8, 9, 10, 31]
  | _ => []
theorem store_c (l : List Ent) (hl : l.length ≤ maxLen) : ACall Tryz.prog 62 [entsV l] (.lit (.int .i64 (storeE l))) := by
  unfold storeE entsV
  unfold maxLen at hl
  refine acall_of (n := 33) (rs := [.tmp 2]) Tryz.func62 rfl (by kernel_rfl) rfl rfl rfl ?_; simp only [argsE, Nat.reduceAdd]
  repeat (any_goals (first | ((refine aops_cons (fun K' h' => ?_)); simp only [go_sem, Nat.reduceLT, Nat.reduceLeDiff, Nat.reduceEqDiff, reduceIte, Nat.reduceAdd, Nat.reduceMul, Nat.reduceSub, Int.reduceLT, Int.reduceLE, Int.reduceToNat, Int.reduceNeg, reduceCtorEq, hgs, amem, Ent.cells]; (try simp (disch := omega) only [wrap_id, getD_map_in, Int.toNat_natCast, amem, Ent.cells]); (repeat (refine And.intro (by (omega)) ?_)); refine h' _ ?_; clear h' K') | (refine aops_nil (hK _ ?_); clear hK K hgs gs; try simp only [aThen, aBlock]) | (refine AWp.sreg  dd62 rfl (fun gs K hgs hK => ?_); replace hgs : Nat.succ 0 = 1 := rfl) | refine AWp.seq ?_ | refine AWp.block ?_ | (refine AWp.ret ?_; try simp only [aThen, aBlock]) | (refine AWp.skip ?_; try simp only [aThen, aBlock]) | (refine AWp.cond rfl (fun h => ?_) (fun h => ?_) <;> (try simp only [decide_eq_true_eq, decide_eq_false_iff_not, beq_iff_eq, bne_iff_ne, ne_eq, Bool.not_eq_true', Bool.not_eq_false', beq_eq_false_iff_ne, Bool.true_eq_false, Bool.false_eq_true, Int.not_le, Int.not_lt, Bool.and_eq_true, Bool.and_eq_false_iff, Bool.or_eq_true, Bool.or_eq_false_iff, bne_eq_false_iff_eq, reduceCtorEq] at h))))
  · simp only [Out, outA, outL, resA, go_sem, Nat.reduceLT, Nat.reduceLeDiff, Nat.reduceEqDiff, reduceIte, Nat.reduceAdd, Nat.reduceMul, Nat.reduceSub, Int.reduceLT, Int.reduceLE, Int.reduceToNat, Int.reduceNeg, reduceCtorEq]
    rw [if_pos (by omega)]
    exact AVle.refl _
  · rw [if_neg (by omega)]
    refine AWp.loopN l.length (fun k => entAt l k = true) (fun k => ⟨[(0, .ro 11 (l.map Ent.cells)), (8, .ro 11 (l.map Ent.cells)), (9, .lit (.int .i64 (l.length : Int))), (10, .lit (.int .i64 (k : Int)))], [], []⟩) ?_ ?_
    · refine Wk.of rfl rfl ?_
      simp [subE, eget, ASt.drop, dropE, keepR, lowE, AV.lowB, lowL, Nat.blt, Nat.ble]
    · intro k hk hall
      repeat ((first | ((refine aops_cons (fun K' h' => ?_)); simp only [go_sem, Nat.reduceLT, Nat.reduceLeDiff, Nat.reduceEqDiff, reduceIte, Nat.reduceAdd, Nat.reduceMul, Nat.reduceSub, Int.reduceLT, Int.reduceLE, Int.reduceToNat, Int.reduceNeg, reduceCtorEq, hgs, amem, Ent.cells]; (try simp (disch := omega) only [wrap_id, getD_map_in, Int.toNat_natCast, amem, Ent.cells]); (repeat (refine And.intro (by (omega)) ?_)); refine h' _ ?_; clear h' K') | (refine aops_nil (hK _ ?_); clear hK K hgs gs; try simp only [aThen, aBlock]) | (refine AWp.sreg  dd62 rfl (fun gs K hgs hK => ?_); replace hgs : Nat.succ 0 = 1 := rfl) | refine AWp.seq ?_))
      (refine AWp.cond rfl (fun h => ?_) (fun h => ?_) <;> (try simp only [decide_eq_true_eq, decide_eq_false_iff_not, beq_iff_eq, bne_iff_ne, ne_eq, Bool.not_eq_true', Bool.not_eq_false', beq_eq_false_iff_ne, Bool.true_eq_false, Bool.false_eq_true, Int.not_le, Int.not_lt, Bool.and_eq_true, Bool.and_eq_false_iff, Bool.or_eq_true, Bool.or_eq_false_iff, bne_eq_false_iff_eq, reduceCtorEq] at h))
      · obtain ⟨x, hx⟩ : ∃ x, l.getD k default = x := ⟨_, rfl⟩
        have hR := rightE_c x
        obtain ⟨y, hy⟩ : ∃ y, l.getD (k - 1) default = y := ⟨_, rfl⟩
        have hO := order_c y x
        have hol := order_less y x
        have he : entAt l k = (rightE x && (decide (k = 0) || lessE y x)) := by unfold entAt; rw [hx, hy]
        rw [he]
        have htn : ((k : Int) - 1).toNat = k - 1 := by omega
        generalize or3 (cmpI y.e x.e) (cmpI y.s x.s) (cmpI y.key x.key) = oo at *
        generalize rightE x = rx at *
        generalize lessE y x = ll at *
        obtain ⟨k1, s, e, c0, s0, m0, x0, c1, s1, m1, x1⟩ := x
        obtain ⟨k1', s', e', c0', s0', m0', x0', c1', s1', m1', x1'⟩ := y
        unfold Ent.cells at hR hO
        simp only at hR hO
        repeat (any_goals (first | ((first | refine aops_cons (fun K' h' => ?_) | refine aopsD_cons (fun K' h' => ?_)); simp only [go_sem, Nat.reduceLT, Nat.reduceLeDiff, Nat.reduceEqDiff, reduceIte, Nat.reduceAdd, Nat.reduceMul, Nat.reduceSub, Int.reduceLT, Int.reduceLE, Int.reduceToNat, Int.reduceNeg, reduceCtorEq, hgs, amem, Ent.cells, hx, hy, htn]; (try ((first | refine ⟨_, hR, ?_⟩ | refine ⟨_, fun _ => hO, ?_⟩); (try simp only [go_sem, Nat.reduceLT, Nat.reduceLeDiff, Nat.reduceEqDiff, reduceIte, Nat.reduceAdd, Nat.reduceMul, Nat.reduceSub, Int.reduceLT, Int.reduceLE, Int.reduceToNat, Int.reduceNeg, reduceCtorEq, hgs, amem, Ent.cells, hx, hy, htn]))); (try simp (disch := omega) only [wrap_id, getD_map_in, Int.toNat_natCast, amem, Ent.cells, hx, hy, htn]); (repeat (refine And.intro (by (first | omega | (simp; omega))) ?_)); refine h' _ ?_; clear h' K') | (refine aops_nil (hK _ ?_); clear hK K hgs gs; try simp only [aThen, aBlock]) | (refine AWp.sreg  dd62 rfl (fun gs K hgs hK => ?_); replace hgs : Nat.succ 0 = 1 := rfl) | refine AWp.seq ?_ | refine AWp.block ?_ | (refine AWp.ret ?_; try simp only [aThen, aBlock]) | (refine AWp.skip ?_; try simp only [aThen, aBlock]) | (refine AWp.reg  dd62 rfl (fun gs K hgs hK => ?_); replace hgs : Nat.succ 0 = 1 := rfl) | ((refine AWp.regD (id := 6) fo62 mo_fact (by kernel_rfl) (fun gs K hgs hK => ?_)); replace hgs : gs 3 = some 18 ∧ gs 6 = some 21 := ⟨hgs 3, hgs 6⟩) | (refine aopsD_nil (hK _ ?_); clear hK K hgs gs; simp only [fo62]; simp only [ASt.prune, pruneE, keepB, keepR, Bool.or_false, Bool.or_true, Bool.true_or, Bool.false_or, reduceIte, Bool.or_self, Bool.false_eq_true, aThen, aBlock, Nat.reduceEqDiff]) | (refine AWp.cond rfl (fun h => ?_) (fun h => ?_) <;> (try simp only [decide_eq_true_eq, decide_eq_false_iff_not, beq_iff_eq, bne_iff_ne, ne_eq, Bool.not_eq_true', Bool.not_eq_false', beq_eq_false_iff_ne, Bool.true_eq_false, Bool.false_eq_true, Int.not_le, Int.not_lt, Bool.and_eq_true, Bool.and_eq_false_iff, Bool.or_eq_true, Bool.or_eq_false_iff, bne_eq_false_iff_eq, reduceCtorEq] at h))))
        · simp only [Out, outA, outL, resA, go_sem, Nat.reduceLT, Nat.reduceLeDiff, Nat.reduceEqDiff, reduceIte, Nat.reduceAdd, Nat.reduceMul, Nat.reduceSub, Int.reduceLT, Int.reduceLE, Int.reduceToNat, Int.reduceNeg, reduceCtorEq]
          have : entAt l k = false := by
            rw [he]
            rcases h with h | ⟨h1, h2⟩
            · rw [h]; rfl
            · rw [decide_eq_true h2] at hol
              have : ll = false := by simpa using hol.symm
              rw [this, decide_eq_false (by omega)]; simp
          rw [allN_false (by omega) this]
          exact AVle.refl _
        · refine ⟨by omega, ?_, Wk.ofCut 0 0 rfl rfl ?_⟩
          · rcases h.2 with h2 | h2
            · rw [h.1, decide_eq_true (show k = 0 by omega)]; simp
            · rw [decide_eq_false (by omega)] at hol
              have : ll = true := by simpa using hol.symm
              rw [h.1, this]; simp
          · first
            | (simp [subE, eget, ASt.drop, dropE, keepR, lowE, AV.lowB, lowL, Nat.blt, Nat.ble]; done)
            | (simp [subE, eget, ASt.drop, dropE, keepR, lowE, AV.lowB, lowL, Nat.blt, Nat.ble]; omega)
      · rw [allN_true (p := entAt l) fun j hj => hall j (by omega)]
        repeat (any_goals (first | ((refine aops_cons (fun K' h' => ?_)); simp only [go_sem, Nat.reduceLT, Nat.reduceLeDiff, Nat.reduceEqDiff, reduceIte, Nat.reduceAdd, Nat.reduceMul, Nat.reduceSub, Int.reduceLT, Int.reduceLE, Int.reduceToNat, Int.reduceNeg, reduceCtorEq, hgs, amem, Ent.cells]; (try simp (disch := omega) only [wrap_id, getD_map_in, Int.toNat_natCast, amem, Ent.cells]); (repeat (refine And.intro (by (omega)) ?_)); refine h' _ ?_; clear h' K') | (refine aops_nil (hK _ ?_); clear hK K hgs gs; try simp only [aThen, aBlock]) | (refine AWp.sreg  dd62 rfl (fun gs K hgs hK => ?_); replace hgs : Nat.succ 0 = 1 := rfl) | (refine AWp.ret ?_; try simp only [aThen, aBlock]) | (refine AWp.exit ?_; try simp only [aThen, aBlock, Nat.reduceEqDiff, reduceIte])))
        simp only [Out, outA, outL, resA, go_sem, Nat.reduceLT, Nat.reduceLeDiff, Nat.reduceEqDiff, reduceIte, Nat.reduceAdd, Nat.reduceMul, Nat.reduceSub, Int.reduceLT, Int.reduceLE, Int.reduceToNat, Int.reduceNeg, reduceCtorEq]
        exact AVle.refl _
def dd44 : Nat → List (List Nat)
  | 0 => [[], [2]]
  | 1 => [[], [0], [], []]
  | 2 => [[], []]
  | 3 => [[8], [], [9], [], [10]]
  | 4 => [[], [], [11], [12], [13], [], [15], [16], [14, 17], [18], [4], [20], [21], [22], [19, 23]]
  | 5 => [[5, 6, 7, 24], []]
  | 6 => [[24], [7], [25]]
  | 7 => [[5, 6, 7, 8], []]
  | _ => []
theorem sends_c (l : List Snd) (hl : l.length ≤ maxLen) : ACall Tryz.prog 44 [sndsV l] (.lit (.bool (allL l sendB))) := by
  unfold sndsV allL
  unfold maxLen at hl
  refine acall_of (n := 26) (rs := [.tmp 2]) Tryz.func44 rfl (by kernel_rfl) rfl rfl rfl ?_; simp only [argsE, Nat.reduceAdd]
  repeat ((first | (refine aops_cons (fun K' h' => ?_); simp only [go_sem, Nat.reduceLT, Nat.reduceLeDiff, Nat.reduceEqDiff, reduceIte, Nat.reduceAdd, Nat.reduceMul, Nat.reduceSub, Int.reduceLT, Int.reduceLE, Int.reduceToNat, Int.reduceNeg, reduceCtorEq, hgs, amem, Ent.cells]; (try simp (disch := omega) only [wrap_id, getD_map_in, Int.toNat_natCast, amem, Ent.cells]); (repeat (refine And.intro (by (omega)) ?_)); refine h' _ ?_; clear h' K') | (refine aops_nil (hK _ ?_); clear hK K hgs gs; try simp only [aThen, aBlock]) | (refine AWp.sreg  dd44 rfl (fun gs K hgs hK => ?_); replace hgs : Nat.succ 0 = 1 := rfl) | refine AWp.seq ?_ | refine AWp.block ?_))
  refine AWp.loopN l.length (fun k => sendB (l.getD k default) = true) (fun k => ⟨[(5, .ro 11 (l.map Snd.cells)), (6, .lit (.int .i64 (l.length : Int))), (7, .lit (.int .i64 (k : Int)))], [], []⟩) ?_ ?_
  · refine Wk.of rfl rfl ?_
    simp [subE, eget, ASt.drop, dropE, keepR, lowE, AV.lowB, lowL, Nat.blt, Nat.ble]
  · intro k hk hall
    repeat ((first | (refine aops_cons (fun K' h' => ?_); simp only [go_sem, Nat.reduceLT, Nat.reduceLeDiff, Nat.reduceEqDiff, reduceIte, Nat.reduceAdd, Nat.reduceMul, Nat.reduceSub, Int.reduceLT, Int.reduceLE, Int.reduceToNat, Int.reduceNeg, reduceCtorEq, hgs, amem, Ent.cells]; (try simp (disch := omega) only [wrap_id, getD_map_in, Int.toNat_natCast, amem, Ent.cells]); (repeat (refine And.intro (by (omega)) ?_)); refine h' _ ?_; clear h' K') | (refine aops_nil (hK _ ?_); clear hK K hgs gs; try simp only [aThen, aBlock]) | (refine AWp.sreg  dd44 rfl (fun gs K hgs hK => ?_); replace hgs : Nat.succ 0 = 1 := rfl) | refine AWp.seq ?_))
    (refine AWp.cond rfl (fun h => ?_) (fun h => ?_) <;> (try simp only [decide_eq_true_eq, decide_eq_false_iff_not, beq_iff_eq, bne_iff_ne, ne_eq, Bool.not_eq_true', Bool.not_eq_false', beq_eq_false_iff_ne, Bool.true_eq_false, Bool.false_eq_true, Int.not_le, Int.not_lt, Bool.and_eq_true, Bool.and_eq_false_iff, Bool.or_eq_true, Bool.or_eq_false_iff, bne_eq_false_iff_eq, reduceCtorEq] at h))
    · obtain ⟨x, hx⟩ : ∃ x, l.getD k default = x := ⟨_, rfl⟩
      have he : sendB (l.getD k default) = (decide (0 ≤ x.out ∧ x.out < 3) && validM x.m) := by rw [hx]; rfl
      have hM := mCheck_c x.m
      unfold errM at hM
      rw [he]
      obtain ⟨o, kd, k1, rt, v, t, r1, r2, r3, r4, r5⟩ := x
      simp only at hM he
      generalize validM ⟨kd, k1, rt, v, t, r1, r2, r3, r4, r5⟩ = p at *
      unfold Msg.cells at hM
      simp only at hM
      repeat (any_goals (first | (refine aops_cons (fun K' h' => ?_); simp only [go_sem, Nat.reduceLT, Nat.reduceLeDiff, Nat.reduceEqDiff, reduceIte, Nat.reduceAdd, Nat.reduceMul, Nat.reduceSub, Int.reduceLT, Int.reduceLE, Int.reduceToNat, Int.reduceNeg, reduceCtorEq, hgs, amem, Ent.cells, hx, Snd.cells, Msg.cells]; (try ((refine ⟨_, fun _ => hM, ?_⟩); (try simp only [go_sem, Nat.reduceLT, Nat.reduceLeDiff, Nat.reduceEqDiff, reduceIte, Nat.reduceAdd, Nat.reduceMul, Nat.reduceSub, Int.reduceLT, Int.reduceLE, Int.reduceToNat, Int.reduceNeg, reduceCtorEq, hgs, amem, Ent.cells, hx, Snd.cells, Msg.cells]))); (try simp (disch := omega) only [wrap_id, getD_map_in, Int.toNat_natCast, amem, Ent.cells, hx, Snd.cells, Msg.cells]); (repeat (refine And.intro (by (omega)) ?_)); refine h' _ ?_; clear h' K') | (refine aops_nil (hK _ ?_); clear hK K hgs gs; try simp only [aThen, aBlock]) | ((refine AWp.sreg (id := 4) dd44 rfl (fun gs K hgs hK => ?_)); replace hgs : gs 3 = some 14 ∧ gs 8 = some 19 := ⟨hgs 3, hgs 8⟩) | (refine AWp.sreg  dd44 rfl (fun gs K hgs hK => ?_); replace hgs : Nat.succ 0 = 1 := rfl) | refine AWp.seq ?_ | refine AWp.block ?_ | (refine AWp.ret ?_; try simp only [aThen, aBlock]) | (refine AWp.skip ?_; try simp only [aThen, aBlock]) | (refine AWp.reg  dd44 rfl (fun gs K hgs hK => ?_); replace hgs : Nat.succ 0 = 1 := rfl) | (refine AWp.cond rfl (fun h => ?_) (fun h => ?_) <;> (try simp only [decide_eq_true_eq, decide_eq_false_iff_not, beq_iff_eq, bne_iff_ne, ne_eq, Bool.not_eq_true', Bool.not_eq_false', beq_eq_false_iff_ne, Bool.true_eq_false, Bool.false_eq_true, Int.not_le, Int.not_lt, Bool.and_eq_true, Bool.and_eq_false_iff, Bool.or_eq_true, Bool.or_eq_false_iff, bne_eq_false_iff_eq, reduceCtorEq] at h))))
      · simp only [Out, outA, outL, resA, go_sem, Nat.reduceLT, Nat.reduceLeDiff, Nat.reduceEqDiff, reduceIte, Nat.reduceAdd, Nat.reduceMul, Nat.reduceSub, Int.reduceLT, Int.reduceLE, Int.reduceToNat, Int.reduceNeg, reduceCtorEq]
        have : sendB (l.getD k default) = false := by
          rw [he, Bool.eq_false_iff]
          simp only [ne_eq, Bool.and_eq_true, decide_eq_true_eq]
          clear he hx hM hall
          cases p <;> simp at h ⊢ <;> omega
        rw [allN_false (p := fun k => sendB (l.getD k default)) (by omega) this]
        exact AVle.refl _
      · refine ⟨by omega, ?_, Wk.ofCut 0 0 rfl rfl ?_⟩
        · simp only [Bool.and_eq_true, decide_eq_true_eq]
          clear he hx hM hall
          cases p <;> simp at h ⊢ <;> omega
        · first
          | (simp [subE, eget, ASt.drop, dropE, keepR, lowE, AV.lowB, lowL, Nat.blt, Nat.ble]; done)
          | (simp [subE, eget, ASt.drop, dropE, keepR, lowE, AV.lowB, lowL, Nat.blt, Nat.ble]; omega)
    · rw [allN_true (p := fun k => sendB (l.getD k default)) fun j hj => hall j (by omega)]
      repeat (any_goals (first | (refine aops_cons (fun K' h' => ?_); simp only [go_sem, Nat.reduceLT, Nat.reduceLeDiff, Nat.reduceEqDiff, reduceIte, Nat.reduceAdd, Nat.reduceMul, Nat.reduceSub, Int.reduceLT, Int.reduceLE, Int.reduceToNat, Int.reduceNeg, reduceCtorEq, hgs, amem, Ent.cells]; (try simp (disch := omega) only [wrap_id, getD_map_in, Int.toNat_natCast, amem, Ent.cells]); (repeat (refine And.intro (by (omega)) ?_)); refine h' _ ?_; clear h' K') | (refine aops_nil (hK _ ?_); clear hK K hgs gs; try simp only [aThen, aBlock]) | (refine AWp.sreg  dd44 rfl (fun gs K hgs hK => ?_); replace hgs : Nat.succ 0 = 1 := rfl) | (refine AWp.ret ?_; try simp only [aThen, aBlock]) | (refine AWp.exit ?_; try simp only [aThen, aBlock, Nat.reduceEqDiff, reduceIte])))
      simp only [Out, outA, outL, resA, go_sem, Nat.reduceLT, Nat.reduceLeDiff, Nat.reduceEqDiff, reduceIte, Nat.reduceAdd, Nat.reduceMul, Nat.reduceSub, Int.reduceLT, Int.reduceLE, Int.reduceToNat, Int.reduceNeg, reduceCtorEq]
      exact AVle.refl _
end Go.Proofs.YtjeehkdepoiegaaGreat
