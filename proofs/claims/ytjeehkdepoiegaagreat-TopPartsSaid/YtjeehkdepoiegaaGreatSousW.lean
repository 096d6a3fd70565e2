/-
  The walks over lists of sources: of the program and of the reference.
-/
import Derived.Test.YtjeehkdepoiegaaGreatClauDW
namespace Go.Proofs.YtjeehkdepoiegaaGreat
open Go.AL Go.RowKit
set_option linter.unusedSimpArgs false
set_option linter.unusedVariables false
set_option maxRecDepth 10000
set_option maxHeartbeats 4000000
def dd95 : Nat → List (List Nat)
  | 0 => [[], [2]]
  | 1 => [[], [], [3], [4], [0], [6], [5, 7], [8]]
  | _ => []
theorem outside_c (x : Int) : ACall Tryz.prog 95 [.lit (.int .i64 x)] (.lit (.bool (decide (x < 0) || decide (3 < x)))) := by
  refine acall_of (n := 9) (rs := [.tmp 2]) Tryz.func95 rfl (by kernel_rfl) rfl rfl rfl ?_; simp only [argsE, Nat.reduceAdd]
  repeat (any_goals (first | (refine aops_cons (fun K' h' => ?_); simp only [go_sem, Nat.reduceLT, Nat.reduceLeDiff, Nat.reduceEqDiff, reduceIte, Nat.reduceAdd, Nat.reduceMul, Nat.reduceSub, Int.reduceLT, Int.reduceLE, Int.reduceToNat, Int.reduceNeg, reduceCtorEq, hgs]; (try simp (disch := omega) only [wrap_id, getD_map_in, Int.toNat_natCast]); (repeat (refine And.intro (by (omega)) ?_)); refine h' _ ?_; clear h' K') | (refine aops_nil (hK _ ?_); clear hK K hgs gs; try simp only [aThen, aBlock]) | ((refine AWp.sreg (id := 1) dd95 rfl (fun gs K hgs hK => ?_)); replace hgs : gs 2 = some 5 := hgs 2) | (refine AWp.sreg  dd95 rfl (fun gs K hgs hK => ?_); replace hgs : Nat.succ 0 = 1 := rfl) | (refine AWp.ret ?_; try simp only [aThen, aBlock])))
  all_goals simp only [Out, outA, outL, resA, go_sem, Nat.reduceLT, Nat.reduceLeDiff, Nat.reduceEqDiff, reduceIte, Nat.reduceAdd, Nat.reduceMul, Nat.reduceSub, Int.reduceLT, Int.reduceLE, Int.reduceToNat, Int.reduceNeg, reduceCtorEq]
  refine AVle.of_eq (congrArg (fun b => AV.lit (.bool b)) ?_)
  by_cases h1 : x < 0 <;> by_cases h2 : 4 ≤ x <;> simp [h1, h2] <;> omega
def dd100 : Nat → List (List Nat)
  | 0 => [[], [4]]
  | 1 => [[], [], [6], []]
  | 2 => [[], []]
  | 3 => [[9], [], [10]]
  | 4 => [[], [], [], [], [12, 13], [14], [11, 15]]
  | 5 => [[0, 1, 7, 8, 16], [5], [17]]
  | 6 => [[5, 16], [8], [18]]
  | 7 => [[0, 1, 7, 8, 9], []]
  | _ => []
theorem indexF_c (l : List Int) (hl : l.length ≤ 1000) : ACall Tryz.prog 100 [intsV l, .lit (.func (.func 95) #[] #[])] (.lit (.int .i64 (outI l))) := by
  unfold intsV
  refine acall_of (n := 19) (rs := [.tmp 4]) Tryz.func100 rfl (by kernel_rfl) rfl rfl rfl ?_; simp only [argsE, Nat.reduceAdd]
  repeat (any_goals (first | (refine aops_cons (fun K' h' => ?_); simp only [go_sem, Nat.reduceLT, Nat.reduceLeDiff, Nat.reduceEqDiff, reduceIte, Nat.reduceAdd, Nat.reduceMul, Nat.reduceSub, Int.reduceLT, Int.reduceLE, Int.reduceToNat, Int.reduceNeg, reduceCtorEq]; (try simp (disch := omega) only [wrap_id, getD_map_in, Int.toNat_natCast]); (repeat (refine And.intro (by (omega)) ?_)); refine h' _ ?_; clear h' K') | (refine aops_nil (hK _ ?_); clear hK K gs; try simp only [aThen, aBlock]) | (refine AWp.sreg  dd100 rfl (fun gs K hgs hK => ?_); clear hgs) | refine AWp.seq ?_ | refine AWp.block ?_))
  refine AWp.loop (I := fun k : Nat => k ≤ l.length ∧ ∀ j, j < k → outAt l j = false) (fun k => ⟨[(0, .ro 1 (l.map fun x => [.lit (.int .i64 x)])), (1, .lit (.func (.func 95) #[] #[])), (7, .lit (.int .i64 (l.length : Int))), (8, .lit (.int .i64 (k : Int)))], [], []⟩) (fun k => l.length - k) 0 ?_ ?_ ?_
  · exact ⟨Nat.zero_le _, fun j h => absurd h (Nat.not_lt_zero j)⟩
  · refine Wk.of rfl rfl ?_
    simp [subE, eget, ASt.drop, dropE, keepR, lowE, AV.lowB, lowL, Nat.blt, Nat.ble]
  · rintro k ⟨hk, hall⟩
    repeat ((first | (refine aops_cons (fun K' h' => ?_); simp only [go_sem, Nat.reduceLT, Nat.reduceLeDiff, Nat.reduceEqDiff, reduceIte, Nat.reduceAdd, Nat.reduceMul, Nat.reduceSub, Int.reduceLT, Int.reduceLE, Int.reduceToNat, Int.reduceNeg, reduceCtorEq]; (try simp (disch := omega) only [wrap_id, getD_map_in, Int.toNat_natCast]); (repeat (refine And.intro (by (omega)) ?_)); refine h' _ ?_; clear h' K') | (refine aops_nil (hK _ ?_); clear hK K gs; try simp only [aThen, aBlock]) | (refine AWp.sreg  dd100 rfl (fun gs K hgs hK => ?_); clear hgs) | refine AWp.seq ?_))
    (refine AWp.cond rfl (fun h => ?_) (fun h => ?_) <;> (try simp only [decide_eq_true_eq, decide_eq_false_iff_not, beq_iff_eq, bne_iff_ne, ne_eq, Bool.not_eq_true', Bool.not_eq_false', beq_eq_false_iff_ne, Bool.true_eq_false, Bool.false_eq_true, Int.not_le, Int.not_lt, Bool.and_eq_true, Bool.and_eq_false_iff, Bool.or_eq_true, Bool.or_eq_false_iff, bne_eq_false_iff_eq, reduceCtorEq] at h))
    · obtain ⟨x, hx⟩ : ∃ x, l.getD k default = x := ⟨_, rfl⟩
      have hQ := outside_c x
      have ho : outAt l k = (decide (x < 0) || decide (3 < x)) := by unfold outAt; rw [hx]
      rw [← ho] at hQ
      obtain ⟨o, ho'⟩ : ∃ o, outAt l k = o := ⟨_, rfl⟩
      rw [ho'] at hQ
      repeat (any_goals (first | (refine aops_cons (fun K' h' => ?_); simp only [go_sem, Nat.reduceLT, Nat.reduceLeDiff, Nat.reduceEqDiff, reduceIte, Nat.reduceAdd, Nat.reduceMul, Nat.reduceSub, Int.reduceLT, Int.reduceLE, Int.reduceToNat, Int.reduceNeg, reduceCtorEq, hx]; (try ((refine ⟨_, hQ, ?_⟩); (try simp only [go_sem, Nat.reduceLT, Nat.reduceLeDiff, Nat.reduceEqDiff, reduceIte, Nat.reduceAdd, Nat.reduceMul, Nat.reduceSub, Int.reduceLT, Int.reduceLE, Int.reduceToNat, Int.reduceNeg, reduceCtorEq, hx]))); (try simp (disch := omega) only [wrap_id, getD_map_in, Int.toNat_natCast, hx]); (repeat (refine And.intro (by (omega)) ?_)); refine h' _ ?_; clear h' K') | (refine aops_nil (hK _ ?_); clear hK K gs; try simp only [aThen, aBlock]) | (refine AWp.sreg  dd100 rfl (fun gs K hgs hK => ?_); clear hgs) | refine AWp.seq ?_ | refine AWp.block ?_ | (refine AWp.ret ?_; try simp only [aThen, aBlock]) | (refine AWp.skip ?_; try simp only [aThen, aBlock]) | (refine AWp.reg  dd100 rfl (fun gs K hgs hK => ?_); clear hgs) | (refine AWp.cond rfl (fun h => ?_) (fun h => ?_) <;> (try simp only [decide_eq_true_eq, decide_eq_false_iff_not, beq_iff_eq, bne_iff_ne, ne_eq, Bool.not_eq_true', Bool.not_eq_false', beq_eq_false_iff_ne, Bool.true_eq_false, Bool.false_eq_true, Int.not_le, Int.not_lt, Bool.and_eq_true, Bool.and_eq_false_iff, Bool.or_eq_true, Bool.or_eq_false_iff, bne_eq_false_iff_eq, reduceCtorEq] at h))))
      · simp only [Out, outA, outL, resA, go_sem, Nat.reduceLT, Nat.reduceLeDiff, Nat.reduceEqDiff, reduceIte, Nat.reduceAdd, Nat.reduceMul, Nat.reduceSub, Int.reduceLT, Int.reduceLE, Int.reduceToNat, Int.reduceNeg, reduceCtorEq]
        subst h
        have : firstFrom (outAt l) l.length 0 = k := firstFrom_uniq hk hall fun _ => ho'
        unfold outI
        rw [this, if_pos (by omega)]
        exact AVle.refl _
      · refine ⟨k + 1, ⟨by omega, fun j hj => ?_⟩, Wk.of rfl rfl ?_, by omega⟩
        · by_cases hjk : j = k
          · rw [hjk, ho']; exact h
          · exact hall j (by omega)
        · first
          | (simp [subE, eget, ASt.drop, dropE, keepR, lowE, AV.lowB, lowL, Nat.blt, Nat.ble]; done)
          | (simp [subE, eget, ASt.drop, dropE, keepR, lowE, AV.lowB, lowL, Nat.blt, Nat.ble]; omega)
    · have : firstFrom (outAt l) l.length 0 = l.length := firstFrom_uniq (Nat.le_refl _) (fun j hj => hall j (by omega)) fun h => by omega
      unfold outI
      rw [this, if_neg (by omega)]
      repeat (any_goals (first | (refine aops_cons (fun K' h' => ?_); simp only [go_sem, Nat.reduceLT, Nat.reduceLeDiff, Nat.reduceEqDiff, reduceIte, Nat.reduceAdd, Nat.reduceMul, Nat.reduceSub, Int.reduceLT, Int.reduceLE, Int.reduceToNat, Int.reduceNeg, reduceCtorEq]; (try simp (disch := omega) only [wrap_id, getD_map_in, Int.toNat_natCast]); (repeat (refine And.intro (by (omega)) ?_)); refine h' _ ?_; clear h' K') | (refine aops_nil (hK _ ?_); clear hK K gs; try simp only [aThen, aBlock]) | (refine AWp.sreg  dd100 rfl (fun gs K hgs hK => ?_); clear hgs) | (refine AWp.ret ?_; try simp only [aThen, aBlock]) | (refine AWp.exit ?_; try simp only [aThen, aBlock, Nat.reduceEqDiff, reduceIte])))
      simp only [Out, outA, outL, resA, go_sem, Nat.reduceLT, Nat.reduceLeDiff, Nat.reduceEqDiff, reduceIte, Nat.reduceAdd, Nat.reduceMul, Nat.reduceSub, Int.reduceLT, Int.reduceLE, Int.reduceToNat, Int.reduceNeg, reduceCtorEq]
      exact AVle.refl _
def dd96 : Nat → List (List Nat)
  | 0 => [[], [4]]
  | 1 => [[], [0], [1], [5, 6], [7], [8]]
  | _ => []
theorem containsF_c (l : List Int) (hl : l.length ≤ 1000) : ACall Tryz.prog 96 [intsV l, .lit (.func (.func 95) #[] #[])] (.lit (.bool (outB l))) := by
  have hI := indexF_c l hl
  rw [← outI_pos]
  generalize outI l = oi at *
  unfold intsV at *
  refine acall_of (n := 9) (rs := [.tmp 4]) Tryz.func96 rfl (by kernel_rfl) rfl rfl rfl ?_; simp only [argsE, Nat.reduceAdd]
  repeat (any_goals (first | (refine aops_cons (fun K' h' => ?_); simp only [go_sem, Nat.reduceLT, Nat.reduceLeDiff, Nat.reduceEqDiff, reduceIte, Nat.reduceAdd, Nat.reduceMul, Nat.reduceSub, Int.reduceLT, Int.reduceLE, Int.reduceToNat, Int.reduceNeg, reduceCtorEq]; (try ((refine ⟨_, hI, ?_⟩); (try simp only [go_sem, Nat.reduceLT, Nat.reduceLeDiff, Nat.reduceEqDiff, reduceIte, Nat.reduceAdd, Nat.reduceMul, Nat.reduceSub, Int.reduceLT, Int.reduceLE, Int.reduceToNat, Int.reduceNeg, reduceCtorEq]))); (try simp (disch := omega) only [wrap_id, getD_map_in, Int.toNat_natCast]); (repeat (refine And.intro (by (omega)) ?_)); refine h' _ ?_; clear h' K') | (refine aops_nil (hK _ ?_); clear hK K gs; try simp only [aThen, aBlock]) | (refine AWp.sreg  dd96 rfl (fun gs K hgs hK => ?_); clear hgs) | (refine AWp.ret ?_; try simp only [aThen, aBlock])))
  simp only [Out, outA, outL, resA, go_sem, Nat.reduceLT, Nat.reduceLeDiff, Nat.reduceEqDiff, reduceIte, Nat.reduceAdd, Nat.reduceMul, Nat.reduceSub, Int.reduceLT, Int.reduceLE, Int.reduceToNat, Int.reduceNeg, reduceCtorEq]
  exact AVle.refl _
def dd87 : Nat → List (List Nat)
  | 0 => [[], [4]]
  | 1 => [[], [], [6], [7]]
  | 2 => [[0, 1, 8], []]
  | 3 => [[8], []]
  | 4 => [[], [], [9], [10], [11], [1], [13], [], [15], [16], [14, 17], [12, 18], [19], [], [5], [21, 22], [20, 23]]
  | 5 => [[0, 24], []]
  | 6 => [[24], [], [25], [0], [27], [26, 28]]
  | 7 => [[29], []]
  | 8 => [[29], []]
  | _ => []
theorem sources_c (l : List Int) (jn : Bool) (hl : l.length ≤ 1000) (hw : ∀ x ∈ l, -9223372036854775808 ≤ x ∧ x ≤ 9223372036854775807) : ACall Tryz.prog 87 [intsV l, .lit (.bool jn)] (.lit (.int .i64 (srcE l jn))) := by
  have hC := containsF_c l hl
  have hD := distinct_c l hl hw
  have hd1 := diffN_le l
  have hd2 := diffN_eq l
  obtain ⟨nd, hnd⟩ : ∃ nd, decide l.Nodup = nd := ⟨_, rfl⟩
  have hs : srcE l jn = if 4 < l.length then 4 else if l.length = 0 ∨ (jn = true ∧ l.length ≠ 2) ∨ outB l = true then 8 else if nd = true then 0 else 43 := by
    unfold srcE
    rw [← hnd]
    simp only [decide_eq_true_eq]
  have hn3 : nd = true ↔ diffN l = l.length := by rw [hd2, ← hnd, decide_eq_true_eq]
  rw [hs]
  clear hs hd2 hnd
  generalize outB l = ob at *
  generalize diffN l = dn at *
  unfold intsV at *
  refine acall_of (n := 30) (rs := [.tmp 4]) Tryz.func87 rfl (by kernel_rfl) rfl rfl rfl ?_; simp only [argsE, Nat.reduceAdd]
  repeat (any_goals (first | (refine aops_cons (fun K' h' => ?_); simp only [go_sem, Nat.reduceLT, Nat.reduceLeDiff, Nat.reduceEqDiff, reduceIte, Nat.reduceAdd, Nat.reduceMul, Nat.reduceSub, Int.reduceLT, Int.reduceLE, Int.reduceToNat, Int.reduceNeg, reduceCtorEq, hgs]; (try ((first | refine ⟨_, fun _ => hC, ?_⟩ | refine ⟨_, hD, ?_⟩); (try simp only [go_sem, Nat.reduceLT, Nat.reduceLeDiff, Nat.reduceEqDiff, reduceIte, Nat.reduceAdd, Nat.reduceMul, Nat.reduceSub, Int.reduceLT, Int.reduceLE, Int.reduceToNat, Int.reduceNeg, reduceCtorEq, hgs]))); (try simp (disch := omega) only [wrap_id, getD_map_in, Int.toNat_natCast]); (repeat (refine And.intro (by (omega)) ?_)); refine h' _ ?_; clear h' K') | (refine aops_nil (hK _ ?_); clear hK K hgs gs; try simp only [aThen, aBlock]) | ((refine AWp.sreg (id := 4) dd87 rfl (fun gs K hgs hK => ?_)); replace hgs : gs 3 = some 12 ∧ gs 5 = some 14 ∧ gs 11 = some 20 := ⟨hgs 3, hgs 5, hgs 11⟩) | (refine AWp.sreg  dd87 rfl (fun gs K hgs hK => ?_); replace hgs : Nat.succ 0 = 1 := rfl) | refine AWp.seq ?_ | (refine AWp.ret ?_; try simp only [aThen, aBlock]) | (refine AWp.skip ?_; try simp only [aThen, aBlock]) | (refine AWp.cond rfl (fun h => ?_) (fun h => ?_) <;> (try simp only [decide_eq_true_eq, decide_eq_false_iff_not, beq_iff_eq, bne_iff_ne, ne_eq, Bool.not_eq_true', Bool.not_eq_false', beq_eq_false_iff_ne, Bool.true_eq_false, Bool.false_eq_true, Int.not_le, Int.not_lt, Bool.and_eq_true, Bool.and_eq_false_iff, Bool.or_eq_true, Bool.or_eq_false_iff, bne_eq_false_iff_eq, reduceCtorEq] at h))))
  all_goals simp only [Out, outA, outL, resA, go_sem, Nat.reduceLT, Nat.reduceLeDiff, Nat.reduceEqDiff, reduceIte, Nat.reduceAdd, Nat.reduceMul, Nat.reduceSub, Int.reduceLT, Int.reduceLE, Int.reduceToNat, Int.reduceNeg, reduceCtorEq]
  all_goals refine AVle.of_eq (congrArg (fun n => AV.lit (.int .i64 n)) ?_)
  · rw [if_pos (by omega)]
  · rw [if_neg (by omega), if_pos (by
      rcases h with (h | h) | h
      · exact .inl (by omega)
      · exact .inr (.inl ⟨h.1, by omega⟩)
      · exact .inr (.inr h))]
  · rename_i h1 h2
    rw [if_neg (by omega), if_neg (by
      rintro (h3 | ⟨h3, h4⟩ | h3)
      · omega
      · rcases h2.1.2 with h5 | h5
        · rw [h3] at h5; cases h5
        · omega
      · rw [h3] at h2; cases h2.2), if_neg (fun h3 => by have := hn3.1 h3; omega)]
  · rename_i h1 h2
    rw [if_neg (by omega), if_neg (by
      rintro (h3 | ⟨h3, h4⟩ | h3)
      · omega
      · rcases h2.1.2 with h5 | h5
        · rw [h3] at h5; cases h5
        · omega
      · rw [h3] at h2; cases h2.2), if_pos (hn3.2 (by omega))]
theorem nodup_at {l : List Int} : l.Nodup ↔ ∀ i j, i < j → j < l.length → l.getD i default ≠ l.getD j default := by
  unfold List.Nodup
  rw [List.pairwise_iff_getElem]
  constructor
  · intro h i j hij hj
    have := h i j (by omega) hj hij
    simpa [List.getD_eq_getElem?_getD, List.getElem?_eq_getElem hj, List.getElem?_eq_getElem (show i < l.length by omega)] using this
  · intro h i j hi hj hij
    have := h i j hij hj
    simpa [List.getD_eq_getElem?_getD, List.getElem?_eq_getElem hj, List.getElem?_eq_getElem hi] using this
def dd57 : Nat → List (List Nat)
  | 0 => [[], [4]]
  | 1 => [[], [], [8], [9]]
  | 2 => [[0, 1, 10], []]
  | 3 => [[10], [], [11], [12], [13], [1], [15], [], [17], [18], [16, 19], [14, 20]]
  | 4 => [[0, 21], []]
  | 5 => [[21], []]
  | 6 => [[], [], [], [23], [22, 24]]
  | 7 => [[39], [5], [26], [27]]
  | 8 => [[25], [], [], [28, 29], [30], [31], [32], [], [], [34, 35], [36], [37], [33, 38]]
  | 9 => [[0, 5, 39], []]
  | 10 => [[5, 25], []]
  | 11 => [[], [], [], [41], [40, 42]]
  | 12 => [[7, 48], [6], [44], [45]]
  | 13 => [[43], []]
  | 14 => [[], [], [], [46, 47]]
  | 15 => [[59], [7], [49], [50]]
  | 17 => [[0, 6, 7, 59], []]
  | 18 => [[0, 6, 43], []]
  | _ => []
def fo57 : Nat → List Nat
  | 16 => [0, 6, 7, 59]
  | _ => []
theorem rSources_c (l : List Int) (jn : Bool) (hl : l.length ≤ 1000) : ACall Tryz.prog 57 [intsV l, .lit (.bool jn)] (.lit (.int .i64 (srcE l jn))) := by
  by_cases hb : 4 < l.length ∨ l.length = 0 ∨ (jn = true ∧ l.length ≠ 2)
  · have hc : (4 < l.length ∧ srcE l jn = 4) ∨ (jn = false ∧ l.length = 0 ∧ srcE l jn = 8) ∨ (¬ 4 < l.length ∧ jn = true ∧ (l.length = 0 ∨ l.length ≠ 2) ∧ srcE l jn = 8) := by
      unfold srcE
      by_cases h4 : 4 < l.length
      · exact .inl ⟨h4, if_pos h4⟩
      rw [if_neg h4, if_pos ((hb.resolve_left h4).imp id .inl)]
      cases jn with
      | false => exact .inr (.inl ⟨rfl, (hb.resolve_left h4).resolve_right (fun h => by cases h.1), rfl⟩)
      | true => exact .inr (.inr ⟨h4, rfl, (hb.resolve_left h4).imp id And.right, rfl⟩)
    clear hb
    unfold intsV
    rcases hc with ⟨h4, e⟩ | ⟨rfl, h9, e⟩ | ⟨h4, rfl, h9, e⟩
    all_goals rw [e]
    all_goals clear e
    all_goals
      refine acall_of (n := 60) (rs := [.tmp 4]) Tryz.func57 rfl (by kernel_rfl) rfl rfl rfl ?_; simp only [argsE, Nat.reduceAdd]
    repeat (any_goals (first | ((refine aops_cons (fun K' h' => ?_)); simp only [go_sem, Nat.reduceLT, Nat.reduceLeDiff, Nat.reduceEqDiff, reduceIte, Nat.reduceAdd, Nat.reduceMul, Nat.reduceSub, Int.reduceLT, Int.reduceLE, Int.reduceToNat, Int.reduceNeg, reduceCtorEq, hgs]; (try simp (disch := omega) only [wrap_id, getD_map_in, Int.toNat_natCast]); (repeat (refine And.intro (by (omega)) ?_)); refine h' _ ?_; clear h' K') | (refine aops_nil (hK _ ?_); clear hK K hgs gs; try simp only [aThen, aBlock]) | ((refine AWp.sreg (id := 3) dd57 rfl (fun gs K hgs hK => ?_)); replace hgs : gs 3 = some 14 ∧ gs 5 = some 16 := ⟨hgs 3, hgs 5⟩) | (refine AWp.sreg  dd57 rfl (fun gs K hgs hK => ?_); replace hgs : Nat.succ 0 = 1 := rfl) | refine AWp.seq ?_ | (refine AWp.ret ?_; try simp only [aThen, aBlock]) | (refine AWp.skip ?_; try simp only [aThen, aBlock]) | (refine AWp.cond rfl (fun h => ?_) (fun h => ?_) <;> (try simp only [decide_eq_true_eq, decide_eq_false_iff_not, beq_iff_eq, bne_iff_ne, ne_eq, Bool.not_eq_true', Bool.not_eq_false', beq_eq_false_iff_ne, Bool.true_eq_false, Bool.false_eq_true, Int.not_le, Int.not_lt, Bool.and_eq_true, Bool.and_eq_false_iff, Bool.or_eq_true, Bool.or_eq_false_iff, bne_eq_false_iff_eq, reduceCtorEq] at h) <;> (try first | (exfalso; omega)))))
    all_goals first
      | (exfalso; omega)
      | (simp only [Out, outA, outL, resA, go_sem, Nat.reduceLT, Nat.reduceLeDiff, Nat.reduceEqDiff, reduceIte, Nat.reduceAdd, Nat.reduceMul, Nat.reduceSub, Int.reduceLT, Int.reduceLE, Int.reduceToNat, Int.reduceNeg, reduceCtorEq]
         exact AVle.refl _)
  have h4 : ¬ 4 < l.length := fun h => hb (.inl h)
  have h8 : ¬ (l.length = 0 ∨ (jn = true ∧ l.length ≠ 2)) := fun h => hb (.inr h)
  clear hb
  have hsrc : srcE l jn = if outB l = true then 8 else if l.Nodup then 0 else 43 := by
    unfold srcE
    rw [if_neg h4]
    by_cases ho : outB l = true
    · rw [if_pos (.inr (.inr ho)), if_pos ho]
    · rw [if_neg (by rintro (h | h | h); exact h8 (.inl h); exact h8 (.inr h); exact ho h), if_neg ho]
  unfold intsV
  refine acall_of (n := 60) (rs := [.tmp 4]) Tryz.func57 rfl (by kernel_rfl) rfl rfl rfl ?_; simp only [argsE, Nat.reduceAdd]
  repeat (any_goals (first | ((refine aops_cons (fun K' h' => ?_)); simp only [go_sem, Nat.reduceLT, Nat.reduceLeDiff, Nat.reduceEqDiff, reduceIte, Nat.reduceAdd, Nat.reduceMul, Nat.reduceSub, Int.reduceLT, Int.reduceLE, Int.reduceToNat, Int.reduceNeg, reduceCtorEq, hgs]; (try simp (disch := omega) only [wrap_id, getD_map_in, Int.toNat_natCast]); (repeat (refine And.intro (by (omega)) ?_)); refine h' _ ?_; clear h' K') | (refine aops_nil (hK _ ?_); clear hK K hgs gs; try simp only [aThen, aBlock]) | ((refine AWp.sreg (id := 3) dd57 rfl (fun gs K hgs hK => ?_)); replace hgs : gs 3 = some 14 ∧ gs 5 = some 16 := ⟨hgs 3, hgs 5⟩) | (refine AWp.sreg  dd57 rfl (fun gs K hgs hK => ?_); replace hgs : Nat.succ 0 = 1 := rfl) | refine AWp.seq ?_ | refine AWp.block ?_ | (refine AWp.ret ?_; try simp only [aThen, aBlock]) | (refine AWp.skip ?_; try simp only [aThen, aBlock]) | (refine AWp.cond rfl (fun h => ?_) (fun h => ?_) <;> (try simp only [decide_eq_true_eq, decide_eq_false_iff_not, beq_iff_eq, bne_iff_ne, ne_eq, Bool.not_eq_true', Bool.not_eq_false', beq_eq_false_iff_ne, Bool.true_eq_false, Bool.false_eq_true, Int.not_le, Int.not_lt, Bool.and_eq_true, Bool.and_eq_false_iff, Bool.or_eq_true, Bool.or_eq_false_iff, bne_eq_false_iff_eq, reduceCtorEq] at h) <;> (try first | (exfalso; omega)))))
  · exfalso
    rcases h with h | h
    · exact h8 (.inl (by omega))
    · exact h8 (.inr ⟨h.1, by omega⟩)
  refine AWp.loop (I := fun k : Nat => k ≤ l.length ∧ ∀ j, j < k → outAt l j = false) (fun k => ⟨[(0, .ro 1 (l.map fun x => [.lit (.int .i64 x)])), (5, .lit (.int .i64 (k : Int)))], [], []⟩) (fun k => l.length - k) 0 ?_ ?_ ?_
  · exact ⟨Nat.zero_le _, fun j h => absurd h (Nat.not_lt_zero j)⟩
  · refine Wk.of rfl rfl ?_
    simp [subE, eget, ASt.drop, dropE, keepR, lowE, AV.lowB, lowL, Nat.blt, Nat.ble]
  · rintro k ⟨hk, hall⟩
    repeat ((first | ((refine aops_cons (fun K' h' => ?_)); simp only [go_sem, Nat.reduceLT, Nat.reduceLeDiff, Nat.reduceEqDiff, reduceIte, Nat.reduceAdd, Nat.reduceMul, Nat.reduceSub, Int.reduceLT, Int.reduceLE, Int.reduceToNat, Int.reduceNeg, reduceCtorEq, hgs]; (try simp (disch := omega) only [wrap_id, getD_map_in, Int.toNat_natCast]); (repeat (refine And.intro (by (omega)) ?_)); refine h' _ ?_; clear h' K') | (refine aops_nil (hK _ ?_); clear hK K hgs gs; try simp only [aThen, aBlock]) | (refine AWp.sreg  dd57 rfl (fun gs K hgs hK => ?_); replace hgs : Nat.succ 0 = 1 := rfl) | refine AWp.seq ?_))
    (refine AWp.cond rfl (fun h => ?_) (fun h => ?_) <;> (try simp only [decide_eq_true_eq, decide_eq_false_iff_not, beq_iff_eq, bne_iff_ne, ne_eq, Bool.not_eq_true', Bool.not_eq_false', beq_eq_false_iff_ne, Bool.true_eq_false, Bool.false_eq_true, Int.not_le, Int.not_lt, Bool.and_eq_true, Bool.and_eq_false_iff, Bool.or_eq_true, Bool.or_eq_false_iff, bne_eq_false_iff_eq, reduceCtorEq] at h))
    · obtain ⟨x, hx⟩ : ∃ x, l.getD k default = x := ⟨_, rfl⟩
      have ho : outAt l k = (decide (x < 0) || decide (3 < x)) := by unfold outAt; rw [hx]
      repeat (any_goals (first | ((refine aops_cons (fun K' h' => ?_)); simp only [go_sem, Nat.reduceLT, Nat.reduceLeDiff, Nat.reduceEqDiff, reduceIte, Nat.reduceAdd, Nat.reduceMul, Nat.reduceSub, Int.reduceLT, Int.reduceLE, Int.reduceToNat, Int.reduceNeg, reduceCtorEq, hgs, hx]; (try simp (disch := omega) only [wrap_id, getD_map_in, Int.toNat_natCast, hx]); (repeat (refine And.intro (by (omega)) ?_)); refine h' _ ?_; clear h' K') | (refine aops_nil (hK _ ?_); clear hK K hgs gs; try simp only [aThen, aBlock]) | ((refine AWp.sreg (id := 8) dd57 rfl (fun gs K hgs hK => ?_)); replace hgs : gs 5 = some 33 := hgs 5) | (refine AWp.sreg  dd57 rfl (fun gs K hgs hK => ?_); replace hgs : Nat.succ 0 = 1 := rfl) | refine AWp.seq ?_ | refine AWp.block ?_ | (refine AWp.ret ?_; try simp only [aThen, aBlock]) | (refine AWp.skip ?_; try simp only [aThen, aBlock]) | (refine AWp.reg  dd57 rfl (fun gs K hgs hK => ?_); replace hgs : Nat.succ 0 = 1 := rfl) | (refine AWp.cond rfl (fun h => ?_) (fun h => ?_) <;> (try simp only [decide_eq_true_eq, decide_eq_false_iff_not, beq_iff_eq, bne_iff_ne, ne_eq, Bool.not_eq_true', Bool.not_eq_false', beq_eq_false_iff_ne, Bool.true_eq_false, Bool.false_eq_true, Int.not_le, Int.not_lt, Bool.and_eq_true, Bool.and_eq_false_iff, Bool.or_eq_true, Bool.or_eq_false_iff, bne_eq_false_iff_eq, reduceCtorEq] at h))))
      · simp only [Out, outA, outL, resA, go_sem, Nat.reduceLT, Nat.reduceLeDiff, Nat.reduceEqDiff, reduceIte, Nat.reduceAdd, Nat.reduceMul, Nat.reduceSub, Int.reduceLT, Int.reduceLE, Int.reduceToNat, Int.reduceNeg, reduceCtorEq]
        rw [hsrc, if_pos (outB_at.2 ⟨k, by omega, by rw [ho]; simpa using h⟩)]
        exact AVle.refl _
      · refine ⟨k + 1, ⟨by omega, fun j hj => ?_⟩, Wk.of rfl rfl ?_, by omega⟩
        · by_cases hjk : j = k
          · rw [hjk, ho]; simp; omega
          · exact hall j (by omega)
        · first
          | (simp [subE, eget, ASt.drop, dropE, keepR, lowE, AV.lowB, lowL, Nat.blt, Nat.ble]; done)
          | (simp [subE, eget, ASt.drop, dropE, keepR, lowE, AV.lowB, lowL, Nat.blt, Nat.ble]; omega)
    · have hno : ¬ outB l = true := fun h => by
        obtain ⟨j, hj, h1⟩ := outB_at.1 h
        rw [hall j (by omega)] at h1; cases h1
      rw [hsrc, if_neg hno]
      clear hsrc hall hno
      refine AWp.exit ?_
      simp only [aThen, aBlock, Nat.reduceEqDiff, reduceIte]
      repeat (any_goals (first | ((refine aops_cons (fun K' h' => ?_)); simp only [go_sem, Nat.reduceLT, Nat.reduceLeDiff, Nat.reduceEqDiff, reduceIte, Nat.reduceAdd, Nat.reduceMul, Nat.reduceSub, Int.reduceLT, Int.reduceLE, Int.reduceToNat, Int.reduceNeg, reduceCtorEq, hgs]; (try simp (disch := omega) only [wrap_id, getD_map_in, Int.toNat_natCast]); (repeat (refine And.intro (by (omega)) ?_)); refine h' _ ?_; clear h' K') | (refine aops_nil (hK _ ?_); clear hK K hgs gs; try simp only [aThen, aBlock]) | (refine AWp.sreg  dd57 rfl (fun gs K hgs hK => ?_); replace hgs : Nat.succ 0 = 1 := rfl) | refine AWp.seq ?_ | refine AWp.block ?_))
      refine AWp.loop (I := fun i : Nat => i ≤ l.length ∧ ∀ a b, a < b → b < i → l.getD a default ≠ l.getD b default) (fun i => ⟨[(0, .ro 1 (l.map fun x => [.lit (.int .i64 x)])), (6, .lit (.int .i64 (i : Int)))], [], []⟩) (fun i => l.length - i) 0 ?_ ?_ ?_
      · exact ⟨Nat.zero_le _, fun a b _ h => absurd h (Nat.not_lt_zero b)⟩
      · refine Wk.of rfl rfl ?_
        simp [subE, eget, ASt.drop, dropE, keepR, lowE, AV.lowB, lowL, Nat.blt, Nat.ble]
      · rintro i ⟨hi, hpair⟩
        repeat ((first | ((refine aops_cons (fun K' h' => ?_)); simp only [go_sem, Nat.reduceLT, Nat.reduceLeDiff, Nat.reduceEqDiff, reduceIte, Nat.reduceAdd, Nat.reduceMul, Nat.reduceSub, Int.reduceLT, Int.reduceLE, Int.reduceToNat, Int.reduceNeg, reduceCtorEq, hgs]; (try simp (disch := omega) only [wrap_id, getD_map_in, Int.toNat_natCast]); (repeat (refine And.intro (by (omega)) ?_)); refine h' _ ?_; clear h' K') | (refine aops_nil (hK _ ?_); clear hK K hgs gs; try simp only [aThen, aBlock]) | (refine AWp.sreg  dd57 rfl (fun gs K hgs hK => ?_); replace hgs : Nat.succ 0 = 1 := rfl) | refine AWp.seq ?_))
        (refine AWp.cond rfl (fun h => ?_) (fun h => ?_) <;> (try simp only [decide_eq_true_eq, decide_eq_false_iff_not, beq_iff_eq, bne_iff_ne, ne_eq, Bool.not_eq_true', Bool.not_eq_false', beq_eq_false_iff_ne, Bool.true_eq_false, Bool.false_eq_true, Int.not_le, Int.not_lt, Bool.and_eq_true, Bool.and_eq_false_iff, Bool.or_eq_true, Bool.or_eq_false_iff, bne_eq_false_iff_eq, reduceCtorEq] at h))
        · repeat (any_goals (first | ((refine aops_cons (fun K' h' => ?_)); simp only [go_sem, Nat.reduceLT, Nat.reduceLeDiff, Nat.reduceEqDiff, reduceIte, Nat.reduceAdd, Nat.reduceMul, Nat.reduceSub, Int.reduceLT, Int.reduceLE, Int.reduceToNat, Int.reduceNeg, reduceCtorEq, hgs]; (try simp (disch := omega) only [wrap_id, getD_map_in, Int.toNat_natCast]); (repeat (refine And.intro (by (omega)) ?_)); refine h' _ ?_; clear h' K') | (refine aops_nil (hK _ ?_); clear hK K hgs gs; try simp only [aThen, aBlock]) | (refine AWp.sreg  dd57 rfl (fun gs K hgs hK => ?_); replace hgs : Nat.succ 0 = 1 := rfl) | refine AWp.seq ?_ | refine AWp.block ?_ | (refine AWp.skip ?_; try simp only [aThen, aBlock])))
          refine AWp.loop (I := fun k : Nat => k ≤ i ∧ ∀ a, a < k → l.getD a default ≠ l.getD i default) (fun k => ⟨[(0, .ro 1 (l.map fun x => [.lit (.int .i64 x)])), (6, .lit (.int .i64 (i : Int))), (7, .lit (.int .i64 (k : Int)))], [], []⟩) (fun k => i - k) 0 ?_ ?_ ?_
          · exact ⟨Nat.zero_le _, fun a h => absurd h (Nat.not_lt_zero a)⟩
          · refine Wk.of rfl rfl ?_
            simp [subE, eget, ASt.drop, dropE, keepR, lowE, AV.lowB, lowL, Nat.blt, Nat.ble]
          · rintro k ⟨hk, hne⟩
            repeat ((first | ((refine aops_cons (fun K' h' => ?_)); simp only [go_sem, Nat.reduceLT, Nat.reduceLeDiff, Nat.reduceEqDiff, reduceIte, Nat.reduceAdd, Nat.reduceMul, Nat.reduceSub, Int.reduceLT, Int.reduceLE, Int.reduceToNat, Int.reduceNeg, reduceCtorEq, hgs]; (try simp (disch := omega) only [wrap_id, getD_map_in, Int.toNat_natCast]); (repeat (refine And.intro (by (omega)) ?_)); refine h' _ ?_; clear h' K') | (refine aops_nil (hK _ ?_); clear hK K hgs gs; try simp only [aThen, aBlock]) | (refine AWp.sreg  dd57 rfl (fun gs K hgs hK => ?_); replace hgs : Nat.succ 0 = 1 := rfl) | refine AWp.seq ?_))
            (refine AWp.cond rfl (fun h => ?_) (fun h => ?_) <;> (try simp only [decide_eq_true_eq, decide_eq_false_iff_not, beq_iff_eq, bne_iff_ne, ne_eq, Bool.not_eq_true', Bool.not_eq_false', beq_eq_false_iff_ne, Bool.true_eq_false, Bool.false_eq_true, Int.not_le, Int.not_lt, Bool.and_eq_true, Bool.and_eq_false_iff, Bool.or_eq_true, Bool.or_eq_false_iff, bne_eq_false_iff_eq, reduceCtorEq] at h))
            · obtain ⟨x, hx⟩ : ∃ x, l.getD k default = x := ⟨_, rfl⟩
              obtain ⟨y, hy⟩ : ∃ y, l.getD i default = y := ⟨_, rfl⟩
              repeat (any_goals (first | ((first | refine aops_cons (fun K' h' => ?_) | refine aopsD_cons (fun K' h' => ?_)); simp only [go_sem, Nat.reduceLT, Nat.reduceLeDiff, Nat.reduceEqDiff, reduceIte, Nat.reduceAdd, Nat.reduceMul, Nat.reduceSub, Int.reduceLT, Int.reduceLE, Int.reduceToNat, Int.reduceNeg, reduceCtorEq, hgs, hx, hy]; (try simp (disch := omega) only [wrap_id, getD_map_in, Int.toNat_natCast, hx, hy]); (repeat (refine And.intro (by (omega)) ?_)); refine h' _ ?_; clear h' K') | (refine aops_nil (hK _ ?_); clear hK K hgs gs; try simp only [aThen, aBlock]) | (refine AWp.sreg  dd57 rfl (fun gs K hgs hK => ?_); replace hgs : Nat.succ 0 = 1 := rfl) | refine AWp.seq ?_ | refine AWp.block ?_ | (refine AWp.ret ?_; try simp only [aThen, aBlock]) | (refine AWp.skip ?_; try simp only [aThen, aBlock]) | (refine AWp.reg  dd57 rfl (fun gs K hgs hK => ?_); replace hgs : Nat.succ 0 = 1 := rfl) | ((refine AWp.regD  fo57 mo_fact (by kernel_rfl) (fun gs K hgs hK => ?_)); replace hgs : Nat.succ 0 = 1 := rfl) | (refine aopsD_nil (hK _ ?_); clear hK K hgs gs; simp only [fo57]; simp only [ASt.prune, pruneE, keepB, keepR, Bool.or_false, Bool.or_true, Bool.true_or, Bool.false_or, reduceIte, Bool.or_self, Bool.false_eq_true, aThen, aBlock, Nat.reduceEqDiff]) | (refine AWp.cond rfl (fun h => ?_) (fun h => ?_) <;> (try simp only [decide_eq_true_eq, decide_eq_false_iff_not, beq_iff_eq, bne_iff_ne, ne_eq, Bool.not_eq_true', Bool.not_eq_false', beq_eq_false_iff_ne, Bool.true_eq_false, Bool.false_eq_true, Int.not_le, Int.not_lt, Bool.and_eq_true, Bool.and_eq_false_iff, Bool.or_eq_true, Bool.or_eq_false_iff, bne_eq_false_iff_eq, reduceCtorEq] at h))))
              · simp only [Out, outA, outL, resA, go_sem, Nat.reduceLT, Nat.reduceLeDiff, Nat.reduceEqDiff, reduceIte, Nat.reduceAdd, Nat.reduceMul, Nat.reduceSub, Int.reduceLT, Int.reduceLE, Int.reduceToNat, Int.reduceNeg, reduceCtorEq]
                rw [if_neg (fun hnd => nodup_at.1 hnd k i (by omega) (by omega) (by rw [hx, hy]; exact h))]
                exact AVle.refl _
              · refine ⟨k + 1, ⟨by omega, fun a ha => ?_⟩, Wk.of rfl rfl ?_, by omega⟩
                · by_cases hak : a = k
                  · rw [hak, hx, hy]; exact h
                  · exact hne a (by omega)
                · first
                  | (simp [subE, eget, ASt.drop, dropE, keepR, lowE, AV.lowB, lowL, Nat.blt, Nat.ble]; done)
                  | (simp [subE, eget, ASt.drop, dropE, keepR, lowE, AV.lowB, lowL, Nat.blt, Nat.ble]; omega)
            · have hki : k = i := by omega
              repeat (any_goals (first | ((refine aops_cons (fun K' h' => ?_)); simp only [go_sem, Nat.reduceLT, Nat.reduceLeDiff, Nat.reduceEqDiff, reduceIte, Nat.reduceAdd, Nat.reduceMul, Nat.reduceSub, Int.reduceLT, Int.reduceLE, Int.reduceToNat, Int.reduceNeg, reduceCtorEq, hgs]; (try simp (disch := omega) only [wrap_id, getD_map_in, Int.toNat_natCast]); (repeat (refine And.intro (by (omega)) ?_)); refine h' _ ?_; clear h' K') | (refine aops_nil (hK _ ?_); clear hK K hgs gs; try simp only [aThen, aBlock]) | (refine AWp.exit ?_; try simp only [aThen, aBlock, Nat.reduceEqDiff, reduceIte]) | (refine AWp.reg  dd57 rfl (fun gs K hgs hK => ?_); replace hgs : Nat.succ 0 = 1 := rfl)))
              refine ⟨i + 1, ⟨by omega, fun a b hab hb => ?_⟩, Wk.of rfl rfl ?_, by omega⟩
              · by_cases hbi : b = i
                · rw [hbi]; exact hne a (by omega)
                · exact hpair a b hab (by omega)
              · first
                | (simp [subE, eget, ASt.drop, dropE, keepR, lowE, AV.lowB, lowL, Nat.blt, Nat.ble]; done)
                | (simp [subE, eget, ASt.drop, dropE, keepR, lowE, AV.lowB, lowL, Nat.blt, Nat.ble]; omega)
        · rw [if_pos (nodup_at.2 fun a b hab hb => hpair a b hab (by omega))]
          repeat (any_goals (first | ((refine aops_cons (fun K' h' => ?_)); simp only [go_sem, Nat.reduceLT, Nat.reduceLeDiff, Nat.reduceEqDiff, reduceIte, Nat.reduceAdd, Nat.reduceMul, Nat.reduceSub, Int.reduceLT, Int.reduceLE, Int.reduceToNat, Int.reduceNeg, reduceCtorEq, hgs]; (try simp (disch := omega) only [wrap_id, getD_map_in, Int.toNat_natCast]); (repeat (refine And.intro (by (omega)) ?_)); refine h' _ ?_; clear h' K') | (refine aops_nil (hK _ ?_); clear hK K hgs gs; try simp only [aThen, aBlock]) | (refine AWp.sreg  dd57 rfl (fun gs K hgs hK => ?_); replace hgs : Nat.succ 0 = 1 := rfl) | (refine AWp.ret ?_; try simp only [aThen, aBlock]) | (refine AWp.exit ?_; try simp only [aThen, aBlock, Nat.reduceEqDiff, reduceIte])))
          simp only [Out, outA, outL, resA, go_sem, Nat.reduceLT, Nat.reduceLeDiff, Nat.reduceEqDiff, reduceIte, Nat.reduceAdd, Nat.reduceMul, Nat.reduceSub, Int.reduceLT, Int.reduceLE, Int.reduceToNat, Int.reduceNeg, reduceCtorEq]
          exact AVle.refl _
end Go.Proofs.YtjeehkdepoiegaaGreat
