/-
  The walks over lists of events: the tasks of sources, of the program and of the reference.
-/
import Derived.Test.YtjeehkdepoiegaaGreatEvW
import Derived.Test.YtjeehkdepoiegaaGreatTskW5
namespace Go.Proofs.YtjeehkdepoiegaaGreat
open Go.AL Go.RowKit
set_option linter.unusedSimpArgs false
set_option linter.unusedVariables false
set_option maxRecDepth 4000
set_option maxHeartbeats 4000000
def dd16 : Nat → List (List Nat)
  | 0 => [[], [0], [2]]
  | 1 => [[], [1], [3], [4], [5]]
  | _ => []
theorem wrong_c (e : Ev) : ACall Tryz.prog 16 [.agg e.cells] (.lit (.bool (!(okE e)))) := by
  have he : (errE e != 0) = !(okE e) := by unfold errE; cases okE e <;> rfl
  have hc := event_c e
  unfold Ev.cells at hc ⊢
  refine acall_of (n := 6) (rs := [.tmp 2]) Tryz.func16 rfl (by kernel_rfl) rfl rfl rfl ?_; simp only [argsE, Nat.reduceAdd]
  repeat (any_goals (first | (refine aops_cons (fun K' h' => ?_); simp only [go_sem, Nat.reduceLT, Nat.reduceLeDiff, Nat.reduceEqDiff, reduceIte, Nat.reduceAdd, Nat.reduceMul, Nat.reduceSub, Int.reduceLT, Int.reduceLE, Int.reduceToNat, Int.reduceNeg, reduceCtorEq, Ev.cells, he]; (try ((refine ⟨_, event_c _, ?_⟩); (try simp only [go_sem, Nat.reduceLT, Nat.reduceLeDiff, Nat.reduceEqDiff, reduceIte, Nat.reduceAdd, Nat.reduceMul, Nat.reduceSub, Int.reduceLT, Int.reduceLE, Int.reduceToNat, Int.reduceNeg, reduceCtorEq, Ev.cells, he]))); (try simp (disch := omega) only [wrap_id, getD_map_in, Int.toNat_natCast, Ev.cells, he]); (repeat (refine And.intro (by (omega)) ?_)); refine h' _ ?_; clear h' K') | (refine aops_nil (hK _ ?_); clear hK K gs; try simp only [aThen, aBlock]) | (refine AWp.sreg  dd16 rfl (fun gs K hgs hK => ?_); clear hgs) | (refine AWp.ret ?_; try simp only [aThen, aBlock])))
  simp only [Out, outA, outL, resA, go_sem, Nat.reduceLT, Nat.reduceLeDiff, Nat.reduceEqDiff, reduceIte, Nat.reduceAdd, Nat.reduceMul, Nat.reduceSub, Int.reduceLT, Int.reduceLE, Int.reduceToNat, Int.reduceNeg, reduceCtorEq]
  exact AVle.refl _
theorem any_of {α : Type} [Inhabited α] {l : List α} {p : α → Bool} {k : Nat} (hk : k < l.length) (h : p (l.getD k default) = true) : l.any p = true := by
  rw [List.any_eq_true]
  rw [List.getD_eq_getElem?_getD, List.getElem?_eq_getElem hk] at h
  exact ⟨_, List.getElem_mem hk, h⟩
theorem findIdx_of {α : Type} [Inhabited α] {l : List α} {p : α → Bool} {k : Nat} (hk : k < l.length) (h : p (l.getD k default) = true) (hj : ∀ j, j < k → p (l.getD j default) = false) : l.findIdx p = k := by
  rw [List.getD_eq_getElem?_getD, List.getElem?_eq_getElem hk] at h
  rw [List.findIdx_eq hk]
  refine ⟨h, fun j hjk => ?_⟩
  have := hj j hjk
  rw [List.getD_eq_getElem?_getD, List.getElem?_eq_getElem (by omega)] at this
  exact this
theorem not_any {α : Type} [Inhabited α] {l : List α} {p : α → Bool} {k : Nat} (hk : k ≤ l.length) (hk2 : l.length ≤ k) (hj : ∀ j, j < k → p (l.getD j default) = false) : ¬ l.any p = true := by
  rw [List.any_eq_true]
  rintro ⟨x, hx, h⟩
  obtain ⟨i, hi, rfl⟩ := List.getElem_of_mem hx
  have := hj i (by omega)
  rw [List.getD_eq_getElem?_getD, List.getElem?_eq_getElem hi] at this
  simp at this
  rw [this] at h; cases h
def dd40 : Nat → List (List Nat)
  | 0 => [[], [4]]
  | 1 => [[], [], [6], []]
  | 2 => [[], []]
  | 3 => [[9], [], [10]]
  | 4 => [[], [], [], [], [12, 13], [14], [11, 15]]
  | 5 => [[0, 1, 7, 8, 16], [5], [17]]
  | 6 => [[5, 16], [8], [18]]
  | 7 => [[0, 1, 7, 8, 9], []]
  | _ => []
theorem indexEv_c (l : List Ev) (hl : l.length ≤ 1000) (g : FuncId) (p : Ev → Bool) (hp : ∀ e, ACall Tryz.prog g [.agg e.cells] (.lit (.bool (p e)))) :
    ACall Tryz.prog 40 [evsV l, .lit (.func (.func g) #[] #[])] (.lit (.int .i64 (if l.any p = true then (l.findIdx p : Int) else -1))) := by
  unfold evsV
  refine acall_of (n := 19) (rs := [.tmp 4]) Tryz.func40 rfl (by kernel_rfl) rfl rfl rfl ?_; simp only [argsE, Nat.reduceAdd]
  repeat ((first | (refine aops_cons (fun K' h' => ?_); simp only [go_sem, Nat.reduceLT, Nat.reduceLeDiff, Nat.reduceEqDiff, reduceIte, Nat.reduceAdd, Nat.reduceMul, Nat.reduceSub, Int.reduceLT, Int.reduceLE, Int.reduceToNat, Int.reduceNeg, reduceCtorEq, Ev.cells]; (try simp (disch := omega) only [wrap_id, getD_map_in, Int.toNat_natCast, Ev.cells]); (repeat (refine And.intro (by (omega)) ?_)); refine h' _ ?_; clear h' K') | (refine aops_nil (hK _ ?_); clear hK K gs; try simp only [aThen, aBlock]) | (refine AWp.sreg  dd40 rfl (fun gs K hgs hK => ?_); clear hgs) | refine AWp.seq ?_ | refine AWp.block ?_))
  refine AWp.loop (I := fun k : Nat => k ≤ l.length ∧ ∀ j, j < k → p (l.getD j default) = false) (fun k => ⟨[(0, .ro 5 (l.map Ev.cells)), (1, .lit (.func (.func g) #[] #[])), (7, .lit (.int .i64 (l.length : Int))), (8, .lit (.int .i64 (k : Int)))], [], []⟩) (fun k => l.length - k) 0 ?_ ?_ ?_
  · exact ⟨Nat.zero_le _, fun j h => by omega⟩
  · refine Wk.of rfl rfl ?_
    simp [subE, eget, ASt.drop, dropE, keepR, lowE, AV.lowB, lowL, Nat.blt, Nat.ble]
  · rintro k ⟨hk, hj⟩
    have hpk := hp (l.getD k default)
    unfold Ev.cells at hpk
    repeat ((first | (refine aops_cons (fun K' h' => ?_); simp only [go_sem, Nat.reduceLT, Nat.reduceLeDiff, Nat.reduceEqDiff, reduceIte, Nat.reduceAdd, Nat.reduceMul, Nat.reduceSub, Int.reduceLT, Int.reduceLE, Int.reduceToNat, Int.reduceNeg, reduceCtorEq, Ev.cells]; (try simp (disch := omega) only [wrap_id, getD_map_in, Int.toNat_natCast, Ev.cells]); (repeat (refine And.intro (by (omega)) ?_)); refine h' _ ?_; clear h' K') | (refine aops_nil (hK _ ?_); clear hK K gs; try simp only [aThen, aBlock]) | (refine AWp.sreg  dd40 rfl (fun gs K hgs hK => ?_); clear hgs) | refine AWp.seq ?_))
    (refine AWp.cond rfl (fun h => ?_) (fun h => ?_) <;> (try simp only [decide_eq_true_eq, decide_eq_false_iff_not, beq_iff_eq, bne_iff_ne, ne_eq, Bool.not_eq_true', Bool.not_eq_false', beq_eq_false_iff_ne, Bool.true_eq_false, Bool.false_eq_true, Int.not_le, Int.not_lt, Bool.and_eq_true, Bool.and_eq_false_iff, Bool.or_eq_true, Bool.or_eq_false_iff, bne_eq_false_iff_eq, reduceCtorEq] at h))
    · repeat (any_goals (first | (refine aops_cons (fun K' h' => ?_); simp only [go_sem, Nat.reduceLT, Nat.reduceLeDiff, Nat.reduceEqDiff, reduceIte, Nat.reduceAdd, Nat.reduceMul, Nat.reduceSub, Int.reduceLT, Int.reduceLE, Int.reduceToNat, Int.reduceNeg, reduceCtorEq, Ev.cells]; (try ((refine ⟨_, hpk, ?_⟩); (try simp only [go_sem, Nat.reduceLT, Nat.reduceLeDiff, Nat.reduceEqDiff, reduceIte, Nat.reduceAdd, Nat.reduceMul, Nat.reduceSub, Int.reduceLT, Int.reduceLE, Int.reduceToNat, Int.reduceNeg, reduceCtorEq, Ev.cells]))); (try simp (disch := omega) only [wrap_id, getD_map_in, Int.toNat_natCast, Ev.cells]); (repeat (refine And.intro (by (omega)) ?_)); refine h' _ ?_; clear h' K') | (refine aops_nil (hK _ ?_); clear hK K gs; try simp only [aThen, aBlock]) | (refine AWp.sreg  dd40 rfl (fun gs K hgs hK => ?_); clear hgs) | refine AWp.seq ?_ | refine AWp.block ?_ | (refine AWp.ret ?_; try simp only [aThen, aBlock]) | (refine AWp.skip ?_; try simp only [aThen, aBlock]) | (refine AWp.reg  dd40 rfl (fun gs K hgs hK => ?_); clear hgs) | (refine AWp.cond rfl (fun h => ?_) (fun h => ?_) <;> (try simp only [decide_eq_true_eq, decide_eq_false_iff_not, beq_iff_eq, bne_iff_ne, ne_eq, Bool.not_eq_true', Bool.not_eq_false', beq_eq_false_iff_ne, Bool.true_eq_false, Bool.false_eq_true, Int.not_le, Int.not_lt, Bool.and_eq_true, Bool.and_eq_false_iff, Bool.or_eq_true, Bool.or_eq_false_iff, bne_eq_false_iff_eq, reduceCtorEq] at h))))
      · rename_i h1
        simp only [Out, outA, outL, resA, go_sem, Nat.reduceLT, Nat.reduceLeDiff, Nat.reduceEqDiff, reduceIte, Nat.reduceAdd, Nat.reduceMul, Nat.reduceSub, Int.reduceLT, Int.reduceLE, Int.reduceToNat, Int.reduceNeg, reduceCtorEq]
        rw [if_pos (any_of (by omega) h), findIdx_of (by omega) h hj]
        exact AVle.refl _
      · rename_i h1
        refine ⟨k + 1, ⟨by omega, fun j hjk => ?_⟩, Wk.of rfl rfl ?_, by omega⟩
        · rcases Nat.lt_or_ge j k with hlt | hge
          · exact hj j hlt
          · rw [show j = k by omega]; exact h
        · simp [subE, eget, ASt.drop, dropE, keepR, lowE, AV.lowB, lowL, Nat.blt, Nat.ble]
    · repeat (any_goals (first | (refine aops_cons (fun K' h' => ?_); simp only [go_sem, Nat.reduceLT, Nat.reduceLeDiff, Nat.reduceEqDiff, reduceIte, Nat.reduceAdd, Nat.reduceMul, Nat.reduceSub, Int.reduceLT, Int.reduceLE, Int.reduceToNat, Int.reduceNeg, reduceCtorEq, Ev.cells]; (try simp (disch := omega) only [wrap_id, getD_map_in, Int.toNat_natCast, Ev.cells]); (repeat (refine And.intro (by (omega)) ?_)); refine h' _ ?_; clear h' K') | (refine aops_nil (hK _ ?_); clear hK K gs; try simp only [aThen, aBlock]) | (refine AWp.sreg  dd40 rfl (fun gs K hgs hK => ?_); clear hgs) | (refine AWp.ret ?_; try simp only [aThen, aBlock]) | (refine AWp.exit ?_; try simp only [aThen, aBlock, Nat.reduceEqDiff, reduceIte])))
      simp only [Out, outA, outL, resA, go_sem, Nat.reduceLT, Nat.reduceLeDiff, Nat.reduceEqDiff, reduceIte, Nat.reduceAdd, Nat.reduceMul, Nat.reduceSub, Int.reduceLT, Int.reduceLE, Int.reduceToNat, Int.reduceNeg, reduceCtorEq]
      rw [if_neg (not_any hk (by omega) hj)]
      exact AVle.refl _
def dd18 : Nat → List (List Nat)
  | 0 => [[], [4]]
  | 1 => [[], [0], [1], [5, 6], [7], [8]]
  | _ => []
theorem containsEv_c (l : List Ev) (hl : l.length ≤ 1000) (g : FuncId) (p : Ev → Bool) (hp : ∀ e, ACall Tryz.prog g [.agg e.cells] (.lit (.bool (p e)))) :
    ACall Tryz.prog 18 [evsV l, .lit (.func (.func g) #[] #[])] (.lit (.bool (l.any p))) := by
  have hpk := indexEv_c l hl g p hp
  unfold evsV at hpk ⊢
  have he : decide ((0 : Int) ≤ (if l.any p = true then (l.findIdx p : Int) else -1)) = l.any p := by
    split
    · rename_i h; rw [h]; simp
    · rename_i h; simp at h ⊢; exact h
  refine acall_of (n := 9) (rs := [.tmp 4]) Tryz.func18 rfl (by kernel_rfl) rfl rfl rfl ?_; simp only [argsE, Nat.reduceAdd]
  repeat (any_goals (first | (refine aops_cons (fun K' h' => ?_); simp only [go_sem, Nat.reduceLT, Nat.reduceLeDiff, Nat.reduceEqDiff, reduceIte, Nat.reduceAdd, Nat.reduceMul, Nat.reduceSub, Int.reduceLT, Int.reduceLE, Int.reduceToNat, Int.reduceNeg, reduceCtorEq, Ev.cells, he]; (try ((refine ⟨_, hpk, ?_⟩); (try simp only [go_sem, Nat.reduceLT, Nat.reduceLeDiff, Nat.reduceEqDiff, reduceIte, Nat.reduceAdd, Nat.reduceMul, Nat.reduceSub, Int.reduceLT, Int.reduceLE, Int.reduceToNat, Int.reduceNeg, reduceCtorEq, Ev.cells, he]))); (try simp (disch := omega) only [wrap_id, getD_map_in, Int.toNat_natCast, Ev.cells, he]); (repeat (refine And.intro (by (omega)) ?_)); refine h' _ ?_; clear h' K') | (refine aops_nil (hK _ ?_); clear hK K gs; try simp only [aThen, aBlock]) | (refine AWp.sreg  dd18 rfl (fun gs K hgs hK => ?_); clear hgs) | (refine AWp.ret ?_; try simp only [aThen, aBlock])))
  simp only [Out, outA, outL, resA, go_sem, Nat.reduceLT, Nat.reduceLeDiff, Nat.reduceEqDiff, reduceIte, Nat.reduceAdd, Nat.reduceMul, Nat.reduceSub, Int.reduceLT, Int.reduceLE, Int.reduceToNat, Int.reduceNeg, reduceCtorEq]
  exact AVle.refl _
theorem cloneEv_c (l : List Ev) (hl : l.length ≤ 1000) : ACall Tryz.prog 19 [evsV l] (evsV l) := cloneEvt_c l (by omega)
def srcV (k n : Int) (l : List Ev) : AV := .agg [.lit (.int .u8 k), .lit (.int .i64 n), .lit (.int .i64 0), .lit (.slice none 0 0), .lit (.slice none 0 0), .lit (.slice none 0 0), evsV l, .lit (.slice none 0 0), .lit (.slice none 0 0)]
def newErr (n : Int) (l : List Ev) : Int := if n < 0 ∨ 4 ≤ n then 2 else if 60 < l.length then 4 else if l.any (fun e => !(okE e)) = true then 8 else 0
def newV (n : Int) (l : List Ev) : AV := if newErr n l = 0 then srcV 1 n l else srcV 0 0 []
theorem srcV_nil (k n : Int) : AVle (.agg [.lit (.int .u8 k), .lit (.int .i64 n), .lit (.int .i64 0), .lit (.slice none 0 0), .lit (.slice none 0 0), .lit (.slice none 0 0), .lit (.slice none 0 0), .lit (.slice none 0 0), .lit (.slice none 0 0)]) (srcV k n []) :=
  AVle.agg ⟨AVle.refl _, AVle.refl _, AVle.refl _, AVle.refl _, AVle.refl _, AVle.refl _, AVle.nil 5, AVle.refl _, AVle.refl _, trivial⟩
def dd6 : Nat → List (List Nat)
  | 0 => [[], [], [5]]
  | 1 => [[], [], [7], [8], [], [10], [9, 11]]
  | 2 => [[0, 1, 12], [], [13], []]
  | 3 => [[12], [], [14], [15]]
  | 4 => [[0, 1, 16], [], [17], []]
  | 5 => [[16], []]
  | 6 => [[], [], [6], [18, 19]]
  | 7 => [[0, 1, 20], [], [21], []]
  | 8 => [[20], [0], [22], [1], [24], [23, 25], [26], []]
  | _ => []
theorem new_c (n : Int) (l : List Ev) (hl : l.length ≤ 100) : ACall Tryz.prog 6 [.lit (.int .i64 n), evsV l] (.tup [newV n l, .lit (.int .i64 (newErr n l))]) := by
  have hC := containsEv_c l (by omega) 16 (fun e => !(okE e)) wrong_c
  have hCl := cloneEv_c l (by omega)
  unfold evsV at hC hCl ⊢
  refine acall_of (n := 27) (rs := [.cell 4 39, .tmp 5]) Tryz.func6 rfl (by kernel_rfl) rfl rfl rfl ?_; simp only [argsE, Nat.reduceAdd]
  repeat (any_goals (first | (refine aops_cons (fun K' h' => ?_); simp only [go_sem, Nat.reduceLT, Nat.reduceLeDiff, Nat.reduceEqDiff, reduceIte, Nat.reduceAdd, Nat.reduceMul, Nat.reduceSub, Int.reduceLT, Int.reduceLE, Int.reduceToNat, Int.reduceNeg, reduceCtorEq, hgs, Ev.cells]; (try ((first | refine ⟨_, hC, ?_⟩ | refine ⟨_, hCl, ?_⟩); (try simp only [go_sem, Nat.reduceLT, Nat.reduceLeDiff, Nat.reduceEqDiff, reduceIte, Nat.reduceAdd, Nat.reduceMul, Nat.reduceSub, Int.reduceLT, Int.reduceLE, Int.reduceToNat, Int.reduceNeg, reduceCtorEq, hgs, Ev.cells]))); (try simp (disch := omega) only [wrap_id, getD_map_in, Int.toNat_natCast, Ev.cells]); (repeat (refine And.intro (by (omega)) ?_)); refine h' _ ?_; clear h' K') | (refine aops_nil (hK _ ?_); clear hK K hgs gs; try simp only [aThen, aBlock]) | ((refine AWp.sreg (id := 1) dd6 rfl (fun gs K hgs hK => ?_)); replace hgs : gs 2 = some 9 := hgs 2) | (refine AWp.sreg  dd6 rfl (fun gs K hgs hK => ?_); replace hgs : Nat.succ 0 = 1 := rfl) | refine AWp.seq ?_ | (refine AWp.ret ?_; try simp only [aThen, aBlock]) | (refine AWp.skip ?_; try simp only [aThen, aBlock]) | (refine AWp.cond rfl (fun h => ?_) (fun h => ?_) <;> (try simp only [decide_eq_true_eq, decide_eq_false_iff_not, beq_iff_eq, bne_iff_ne, ne_eq, Bool.not_eq_true', Bool.not_eq_false', beq_eq_false_iff_ne, Bool.true_eq_false, Bool.false_eq_true, Int.not_le, Int.not_lt, Bool.and_eq_true, Bool.and_eq_false_iff, Bool.or_eq_true, Bool.or_eq_false_iff, bne_eq_false_iff_eq, reduceCtorEq] at h))))
  · simp only [Out, outA, outL, resA, go_sem, Nat.reduceLT, Nat.reduceLeDiff, Nat.reduceEqDiff, reduceIte, Nat.reduceAdd, Nat.reduceMul, Nat.reduceSub, Int.reduceLT, Int.reduceLE, Int.reduceToNat, Int.reduceNeg, reduceCtorEq]
    have e : newErr n l = 2 := by unfold newErr; rw [if_pos h]
    rw [newV, e, if_neg (by omega)]
    exact AVle.tup ⟨srcV_nil 0 0, AVle.refl _, trivial⟩
  · rename_i h1
    simp only [Out, outA, outL, resA, go_sem, Nat.reduceLT, Nat.reduceLeDiff, Nat.reduceEqDiff, reduceIte, Nat.reduceAdd, Nat.reduceMul, Nat.reduceSub, Int.reduceLT, Int.reduceLE, Int.reduceToNat, Int.reduceNeg, reduceCtorEq]
    have e : newErr n l = 4 := by unfold newErr; rw [if_neg (by omega), if_pos (by omega)]
    rw [newV, e, if_neg (by omega)]
    exact AVle.tup ⟨srcV_nil 0 0, AVle.refl _, trivial⟩
  · rename_i h1 h2
    simp only [Out, outA, outL, resA, go_sem, Nat.reduceLT, Nat.reduceLeDiff, Nat.reduceEqDiff, reduceIte, Nat.reduceAdd, Nat.reduceMul, Nat.reduceSub, Int.reduceLT, Int.reduceLE, Int.reduceToNat, Int.reduceNeg, reduceCtorEq]
    have e : newErr n l = 8 := by unfold newErr; rw [if_neg (by omega), if_neg (by omega), if_pos h]
    rw [newV, e, if_neg (by omega)]
    exact AVle.tup ⟨srcV_nil 0 0, AVle.refl _, trivial⟩
  · rename_i h1 h2
    simp only [Out, outA, outL, resA, go_sem, Nat.reduceLT, Nat.reduceLeDiff, Nat.reduceEqDiff, reduceIte, Nat.reduceAdd, Nat.reduceMul, Nat.reduceSub, Int.reduceLT, Int.reduceLE, Int.reduceToNat, Int.reduceNeg, reduceCtorEq]
    have e : newErr n l = 0 := by unfold newErr; rw [if_neg (by omega), if_neg (by omega), if_neg (by rw [h]; simp)]
    rw [newV, e, if_pos rfl]
    exact AVle.refl _
end Go.Proofs.YtjeehkdepoiegaaGreat
