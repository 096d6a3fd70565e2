/-
  Contracts that a law needs beside those of the other texts.
-/
import Derived.Test.YteohklfoggiojaaFldE
import Derived.Test.YteohklfoggiojaaVShp
namespace Go.Proofs.Yteohklfoggiojaa
open Go.AL Go.RowKit
set_option linter.unusedSimpArgs false
set_option linter.unusedVariables false
set_option maxRecDepth 10000
set_option maxHeartbeats 4000000
def cutUp (l : List Node) (off k : Nat) : List Node := ((l.drop off).take k).map (mvN (-(off : Int)))
end Go.Proofs.Yteohklfoggiojaa
namespace Go.Proofs.Yteohklfoggiojaa
open Go.AL Go.RowKit
set_option linter.unusedSimpArgs false
set_option linter.unusedVariables false
set_option maxRecDepth 10000
set_option maxHeartbeats 4000000
theorem cutUp_step {l : List Node} {off k : Nat} {y : Node} (hk : off + k < l.length) (hy : l.getD (off + k) default = y) : cutUp l off (k + 1) = cutUp l off k ++ [mvN (-(off : Int)) y] := by
  unfold cutUp
  rw [List.take_add_one, List.map_append, List.getElem?_drop, List.getElem?_eq_getElem hk]
  rw [List.getD_eq_getElem?_getD, List.getElem?_eq_getElem hk] at hy
  rw [show l[off + k] = y from hy]; rfl
theorem cutUp_len {l : List Node} {off k : Nat} (hk : off + k ≤ l.length) : (cutUp l off k).length = k := by simp [cutUp]; omega
def dd71 : Nat → List (List Nat)
  | 0 => [[], [4]]
  | 1 => [[], [], [13], [14], [], [], [12], [15], [6, 16], [7, 17]]
  | 2 => [[], [], [18], [5], [], [20, 21], [22], [19, 23], [24]]
  | 3 => [[], []]
  | 4 => [[], [], [25]]
  | 5 => [[], [], [], [26, 27]]
  | 6 => [[], [10], [29], [30]]
  | 7 => [[28], [], [], [31, 32], [33], [], [34]]
  | 8 => [[], [], [35], [36], [37]]
  | 9 => [[38], [], [39], [], [40, 41], [], [42, 43]]
  | 10 => [[38], [], [44], [45], [46]]
  | 11 => [[47], [], [48], [], [49, 50], [], [51, 52]]
  | 12 => [[47], [9], [11], [54], [53, 55], [56]]
  | 13 => [[0, 1, 8, 10, 28], [9], [57]]
  | _ => []
theorem rCut_c {l : List Node} {e : Ex} (j : Nat) (hl : l.length ≤ 1000) (hx : IsEx l e) (hj : j < l.length) : ACall Try.prog 71 [nodesV l, .lit (.int .i64 (j : Int))] (nodesV (cutL l (j + 1 - e.szs.getD j default) (e.szs.getD j default))) := by
  have hZ := sizes_tree hl hx
  have hle := hx.len
  have hdl := e.szs_length
  have hsb := e.szs_bd j (by omega)
  have hs0 : e.szs.getD j 0 = e.szs.getD j default := rfl
  rw [hs0] at hsb
  have hab : ∀ x ∈ l, -2000 ≤ x.a ∧ x.a ≤ 2000 ∧ -2000 ≤ x.b ∧ x.b ≤ 2000 ∧ 1 ≤ x.kind ∧ x.kind ≤ 19 := fun x hxm => by
    have := e.ab_bd 0 x (hx.2 ▸ hxm)
    have := e.kinds 0 hx.1 x (hx.2 ▸ hxm)
    omega
  show ACall _ _ _ (nodesV (cutUp l (j + 1 - e.szs.getD j default) (e.szs.getD j default)))
  obtain ⟨s, hs⟩ : ∃ s, e.szs.getD j default = s := ⟨_, rfl⟩
  rw [hs] at hsb ⊢
  obtain ⟨o, ho⟩ : ∃ o, j + 1 - s = o := ⟨_, rfl⟩
  rw [ho]
  have hoi : (j : Int) + 1 - (s : Int) = (o : Int) := by omega
  unfold nodesV natsV at *
  refine acall_of (n := 58) (rs := [.tmp 4]) Try.func71 rfl (by kernel_rfl) rfl rfl rfl ?_; simp only [argsE, Nat.reduceAdd]
  repeat (any_goals (first | (refine aops_cons (fun K' h' => ?_); simp only [go_sem, simprocAttr, Node.cells, hs, hoi]; (try ((first | refine ⟨_, hZ, ?_⟩ | refine ⟨_, fun _ => hZ, ?_⟩ | refine ⟨_, hN, ?_⟩ | refine ⟨_, fun _ => hN, ?_⟩); (try simp only [go_sem, simprocAttr, Node.cells, hs, hoi]))); (try simp (disch := omega) only [wrap_id, getD_map_in, Int.toNat_natCast, Node.cells, hs, hoi]); (repeat (refine And.intro (by (first | omega | (simp; done) | (simp; omega) | assumption)) ?_)); refine h' _ ?_; clear h' K') | (refine aops_nil (hK _ ?_); clear hK K gs; try simp only [aThen, aBlock]) | (refine AWp.sreg  dd71 rfl (fun gs K hgs hK => ?_); clear hgs) | refine AWp.seq ?_ | refine ARounds.step ?_ | refine AWp.block ?_ | refine AWp.label ?_ | (refine AWp.ret ?_; try simp only [aThen, aBlock]) | (refine AWp.skip ?_; try simp only [aThen, aBlock]) | (refine AWp.exit ?_; try simp only [aThen, aBlock, Nat.reduceEqDiff, reduceIte]) | (refine AWp.reg  dd71 rfl (fun gs K hgs hK => ?_); clear hgs) | (refine AWp.cond rfl (fun h => ?_) (fun h => ?_) <;> (try simp only [decide_eq_true_eq, decide_eq_false_iff_not, beq_iff_eq, bne_iff_ne, ne_eq, Bool.not_eq_true', Bool.not_eq_false', beq_eq_false_iff_ne, Bool.true_eq_false, Bool.false_eq_true, Int.not_le, Int.not_lt, Bool.and_eq_true, Bool.and_eq_false_iff, Bool.or_eq_true, Bool.or_eq_false_iff, bne_eq_false_iff_eq, reduceCtorEq] at h) <;> (try first | contradiction | (exfalso; omega) | (exfalso; revert h; simp; done) | (exfalso; revert h; simp; omega)))))
  refine AWp.loop (I := fun k : Nat => k ≤ s) (fun k => ⟨[(0, .ro 5 (l.map Node.cells)), (1, .lit (.int .i64 (j : Int))), (8, .lit (.int .i64 (o : Int))), (9, .own 0 5 0 k), (10, .lit (.int .i64 ((o + k : Nat) : Int)))], [], [some ⟨50, 5, (cutUp l o k).map Node.cells⟩]⟩) (fun k => s - k) 0 ?_ ?_ ?_
  · exact Nat.zero_le _
  · refine (Wk.nilOwn 9 50 5 rfl (by simp)).trans (Wk.of rfl ?_ ?_)
    · simp [ASt.nilOwn, cutUp, ASt.drop]
    · simp [ASt.nilOwn, eput, subE, eget, ASt.drop, dropE, keepR, lowE, AV.lowB, Nat.blt, Nat.ble]
  · rintro k hk
    repeat ((first | (refine aops_cons (fun K' h' => ?_); simp only [go_sem, simprocAttr, Node.cells, hs, hoi]; (try ((first | refine ⟨_, hZ, ?_⟩ | refine ⟨_, fun _ => hZ, ?_⟩ | refine ⟨_, hN, ?_⟩ | refine ⟨_, fun _ => hN, ?_⟩); (try simp only [go_sem, simprocAttr, Node.cells, hs, hoi]))); (try simp (disch := omega) only [wrap_id, getD_map_in, Int.toNat_natCast, Node.cells, hs, hoi]); (repeat (refine And.intro (by (first | omega | (simp; done) | (simp; omega) | assumption)) ?_)); refine h' _ ?_; clear h' K') | (refine aops_nil (hK _ ?_); clear hK K gs; try simp only [aThen, aBlock]) | (refine AWp.sreg  dd71 rfl (fun gs K hgs hK => ?_); clear hgs) | refine AWp.seq ?_ | refine ARounds.step ?_ | refine AWp.block ?_ | refine AWp.label ?_ | (refine AWp.ret ?_; try simp only [aThen, aBlock]) | (refine AWp.skip ?_; try simp only [aThen, aBlock]) | (refine AWp.exit ?_; try simp only [aThen, aBlock, Nat.reduceEqDiff, reduceIte]) | (refine AWp.reg  dd71 rfl (fun gs K hgs hK => ?_); clear hgs)))
    (refine AWp.cond rfl (fun h => ?_) (fun h => ?_) <;> (try simp only [decide_eq_true_eq, decide_eq_false_iff_not, beq_iff_eq, bne_iff_ne, ne_eq, Bool.not_eq_true', Bool.not_eq_false', beq_eq_false_iff_ne, Bool.true_eq_false, Bool.false_eq_true, Int.not_le, Int.not_lt, Bool.and_eq_true, Bool.and_eq_false_iff, Bool.or_eq_true, Bool.or_eq_false_iff, bne_eq_false_iff_eq, reduceCtorEq] at h) <;> (try first | contradiction | (exfalso; omega) | (exfalso; revert h; simp; done) | (exfalso; revert h; simp; omega)))
    · obtain ⟨y, hy⟩ : ∃ y, l.getD (o + k) default = y := ⟨_, rfl⟩
      have hyb := hab y (by rw [← hy, List.getD_eq_getElem?_getD, List.getElem?_eq_getElem (by omega)]; exact List.getElem_mem _)
      have hst := cutUp_step (k := k) (by omega) hy
      have hcl : (cutUp l o k).length = k := cutUp_len (by omega)
      obtain ⟨kd, nn, xa, xb, xp⟩ := y
      simp only at hyb
      have hN := count_c kd
      rw [count_parts (by omega) (by omega)] at hN
      repeat (any_goals (first | (refine aops_cons (fun K' h' => ?_); simp only [go_sem, simprocAttr, Node.cells, hy, hcl]; (try ((first | refine ⟨_, hZ, ?_⟩ | refine ⟨_, fun _ => hZ, ?_⟩ | refine ⟨_, hN, ?_⟩ | refine ⟨_, fun _ => hN, ?_⟩); (try simp only [go_sem, simprocAttr, Node.cells, hy, hcl]))); (try simp (disch := omega) only [wrap_id, getD_map_in, Int.toNat_natCast, Node.cells, hy, hcl]); (repeat (refine And.intro (by (first | omega | (simp; done) | (simp; omega) | assumption)) ?_)); refine h' _ ?_; clear h' K') | (refine aops_nil (hK _ ?_); clear hK K gs; try simp only [aThen, aBlock]) | (refine AWp.sreg  dd71 rfl (fun gs K hgs hK => ?_); clear hgs) | refine AWp.seq ?_ | refine ARounds.step ?_ | refine AWp.block ?_ | refine AWp.label ?_ | (refine AWp.ret ?_; try simp only [aThen, aBlock]) | (refine AWp.skip ?_; try simp only [aThen, aBlock]) | (refine AWp.exit ?_; try simp only [aThen, aBlock, Nat.reduceEqDiff, reduceIte]) | (refine AWp.reg  dd71 rfl (fun gs K hgs hK => ?_); clear hgs) | (refine AWp.cond rfl (fun h => ?_) (fun h => ?_) <;> (try simp only [decide_eq_true_eq, decide_eq_false_iff_not, beq_iff_eq, bne_iff_ne, ne_eq, Bool.not_eq_true', Bool.not_eq_false', beq_eq_false_iff_ne, Bool.true_eq_false, Bool.false_eq_true, Int.not_le, Int.not_lt, Bool.and_eq_true, Bool.and_eq_false_iff, Bool.or_eq_true, Bool.or_eq_false_iff, bne_eq_false_iff_eq, reduceCtorEq] at h) <;> (try first | contradiction | (exfalso; omega) | (exfalso; revert h; simp; done) | (exfalso; revert h; simp; omega)))))
      all_goals refine ⟨k + 1, by omega, Wk.ofCut 0 1 rfl ?_ ?_, by omega⟩
      all_goals first
        | (simp [hst, hcl, mvN, Node.cells, List.take_of_length_le, ASt.drop, Int.sub_eq_add_neg, show 0 < partsN kd by omega, show 1 < partsN kd by omega]; done)
        | (simp [hst, hcl, mvN, Node.cells, List.take_of_length_le, ASt.drop, Int.sub_eq_add_neg, show 0 < partsN kd by omega, show ¬ 1 < partsN kd by omega]; done)
        | (simp [hst, hcl, mvN, Node.cells, List.take_of_length_le, ASt.drop, Int.sub_eq_add_neg, show ¬ 0 < partsN kd by omega, show ¬ 1 < partsN kd by omega]; done)
        | (simp [subE, eget, ASt.drop, dropE, keepR, lowE, AV.lowB, lowL, Nat.blt, Nat.ble]; done)
        | (simp [subE, eget, ASt.drop, dropE, keepR, lowE, AV.lowB, lowL, Nat.blt, Nat.ble]; omega)
    · have : k = s := by omega
      subst this
      have hcl : (cutUp l o k).length = k := cutUp_len (by omega)
      repeat (any_goals (first | (refine aops_cons (fun K' h' => ?_); simp only [go_sem, simprocAttr, Node.cells, hcl]; (try ((first | refine ⟨_, hZ, ?_⟩ | refine ⟨_, fun _ => hZ, ?_⟩ | refine ⟨_, hN, ?_⟩ | refine ⟨_, fun _ => hN, ?_⟩); (try simp only [go_sem, simprocAttr, Node.cells, hcl]))); (try simp (disch := omega) only [wrap_id, getD_map_in, Int.toNat_natCast, Node.cells, hcl]); (repeat (refine And.intro (by (first | omega | (simp; done) | (simp; omega) | assumption)) ?_)); refine h' _ ?_; clear h' K') | (refine aops_nil (hK _ ?_); clear hK K gs; try simp only [aThen, aBlock]) | (refine AWp.sreg  dd71 rfl (fun gs K hgs hK => ?_); clear hgs) | refine AWp.seq ?_ | refine ARounds.step ?_ | refine AWp.block ?_ | refine AWp.label ?_ | (refine AWp.ret ?_; try simp only [aThen, aBlock]) | (refine AWp.skip ?_; try simp only [aThen, aBlock]) | (refine AWp.exit ?_; try simp only [aThen, aBlock, Nat.reduceEqDiff, reduceIte]) | (refine AWp.reg  dd71 rfl (fun gs K hgs hK => ?_); clear hgs) | (refine AWp.cond rfl (fun h => ?_) (fun h => ?_) <;> (try simp only [decide_eq_true_eq, decide_eq_false_iff_not, beq_iff_eq, bne_iff_ne, ne_eq, Bool.not_eq_true', Bool.not_eq_false', beq_eq_false_iff_ne, Bool.true_eq_false, Bool.false_eq_true, Int.not_le, Int.not_lt, Bool.and_eq_true, Bool.and_eq_false_iff, Bool.or_eq_true, Bool.or_eq_false_iff, bne_eq_false_iff_eq, reduceCtorEq] at h) <;> (try first | contradiction | (exfalso; omega) | (exfalso; revert h; simp; done) | (exfalso; revert h; simp; omega)))))
      simp only [Out, outA, outL, resA, go_sem, simprocAttr]
      refine AVle.of_eq ?_
      rw [List.take_of_length_le (by simp [hcl])]
end Go.Proofs.Yteohklfoggiojaa
namespace Go.Proofs.Yteohklfoggiojaa
open Go.AL
set_option linter.unusedSimpArgs false
set_option linter.unusedVariables false
theorem w64_mod (n : Int) : w64 n % 18446744073709551616 = n % 18446744073709551616 := by
  rw [w64_eq]; split <;> omega
theorem w64_of {a b : Int} (h : a % 18446744073709551616 = b % 18446744073709551616) : w64 a = w64 b := by
  rw [w64_eq, w64_eq, h]
theorem w64_mul (a b : Int) : w64 (a * w64 b) = w64 (a * b) := by
  refine w64_of ?_
  rw [Int.mul_emod, w64_mod, ← Int.mul_emod]
theorem w64_add (a b : Int) : w64 (w64 a + w64 b) = w64 (a + b) := by
  refine w64_of ?_
  rw [Int.add_emod, w64_mod, w64_mod, ← Int.add_emod]
theorem shC_cast (b : Int) : ((shC b : Nat) : Int) = b % 64 := by unfold shC; omega
end Go.Proofs.Yteohklfoggiojaa
namespace Go.Proofs.Yteohklfoggiojaa
open Go.AL Go.RowKit
set_option linter.unusedSimpArgs false
set_option linter.unusedVariables false
set_option maxRecDepth 10000
set_option maxHeartbeats 4000000
def dd90 : Nat → List (List Nat)
  | 0 => [[], [2]]
  | 1 => [[], [0]]
  | 2 => [[3], []]
  | 3 => [[3], []]
  | _ => []
theorem rTruth_c (b : Bool) : ACall Try.prog 90 [.lit (.bool b)] (.lit (.int .i64 (trI b))) := by
  unfold trI
  cases b
  all_goals
    refine acall_of (n := 4) (rs := [.tmp 2]) Try.func90 rfl (by kernel_rfl) rfl rfl rfl ?_; simp only [argsE, Nat.reduceAdd]
    repeat (any_goals (first | (refine aops_cons (fun K' h' => ?_); simp only [go_sem, simprocAttr]; (try simp (disch := omega) only [wrap_id, getD_map_in, Int.toNat_natCast]); (repeat (refine And.intro (by (first | omega | (simp; done) | (simp; omega) | assumption)) ?_)); refine h' _ ?_; clear h' K') | (refine aops_nil (hK _ ?_); clear hK K gs; try simp only [aThen, aBlock]) | (refine AWp.sreg  dd90 rfl (fun gs K hgs hK => ?_); clear hgs) | refine AWp.seq ?_ | refine ARounds.step ?_ | refine AWp.block ?_ | refine AWp.label ?_ | (refine AWp.ret ?_; try simp only [aThen, aBlock]) | (refine AWp.skip ?_; try simp only [aThen, aBlock]) | (refine AWp.exit ?_; try simp only [aThen, aBlock, Nat.reduceEqDiff, reduceIte]) | (refine AWp.reg  dd90 rfl (fun gs K hgs hK => ?_); clear hgs) | (refine AWp.cond rfl (fun h => ?_) (fun h => ?_) <;> (try simp only [decide_eq_true_eq, decide_eq_false_iff_not, beq_iff_eq, bne_iff_ne, ne_eq, Bool.not_eq_true', Bool.not_eq_false', beq_eq_false_iff_ne, Bool.true_eq_false, Bool.false_eq_true, Int.not_le, Int.not_lt, Bool.and_eq_true, Bool.and_eq_false_iff, Bool.or_eq_true, Bool.or_eq_false_iff, bne_eq_false_iff_eq, reduceCtorEq] at h) <;> (try first | contradiction | (exfalso; omega) | (exfalso; revert h; simp; done) | (exfalso; revert h; simp; omega)))))
    simp only [Out, outA, outL, resA, go_sem, simprocAttr]
    exact AVle.refl _
theorem half_1 {x : Int} (hx : i64B x) (h : ¬ x.tmod 2 < 0) : w64 (x.tdiv 2) = x.fdiv 2 := by
  unfold i64B at hx
  have h2 : x.fdiv 2 = x / 2 := Int.fdiv_eq_ediv_of_nonneg _ (by decide)
  rw [h2]
  by_cases h0 : 0 ≤ x
  · rw [Int.tdiv_eq_ediv_of_nonneg h0]
    exact w64_id (by unfold i64B; omega)
  · obtain ⟨y, rfl⟩ : ∃ y, x = -y := ⟨-x, by omega⟩
    rw [Int.neg_tmod, Int.tmod_eq_emod_of_nonneg (by omega)] at h
    rw [Int.neg_tdiv, Int.tdiv_eq_ediv_of_nonneg (by omega), w64_id (by unfold i64B; omega)]
    omega
theorem half_2 {x : Int} (hx : i64B x) (h : x.tmod 2 < 0) : w64 (w64 (x.tdiv 2) - 1) = x.fdiv 2 := by
  unfold i64B at hx
  have h2 : x.fdiv 2 = x / 2 := Int.fdiv_eq_ediv_of_nonneg _ (by decide)
  rw [h2]
  by_cases h0 : 0 ≤ x
  · rw [Int.tmod_eq_emod_of_nonneg h0] at h
    omega
  · obtain ⟨y, rfl⟩ : ∃ y, x = -y := ⟨-x, by omega⟩
    rw [Int.neg_tmod, Int.tmod_eq_emod_of_nonneg (by omega)] at h
    rw [Int.neg_tdiv, Int.tdiv_eq_ediv_of_nonneg (by omega), w64_id (n := -(y / 2)) (by unfold i64B; omega), w64_id (by unfold i64B; omega)]
    omega
theorem count_w (b : Int) : IntKind.i64.wrap ((IntKind.u64.wrap b).tmod 64) = ((shC b : Nat) : Int) := by
  have h1 : IntKind.u64.wrap b = b % 18446744073709551616 := by simp [IntKind.wrap, IntKind.bits, IntKind.signed]
  rw [h1, Int.tmod_eq_emod_of_nonneg (by omega), shC_cast]
  have := w64_id (n := b % 18446744073709551616 % 64) (by unfold i64B; omega)
  unfold w64 at this
  rw [this]
  omega
theorem pow_next (k : Nat) : w64 (w64 (2 ^ k) + w64 (2 ^ k)) = w64 (2 ^ (k + 1)) := by
  rw [w64_add, Int.pow_succ]
  congr 1
  omega
theorem fdiv_next (a : Int) (k : Nat) : (a.fdiv (2 ^ k)).fdiv 2 = a.fdiv (2 ^ (k + 1)) := by
  have hp : (0 : Int) ≤ 2 ^ k := Int.le_of_lt (Int.pow_pos (by decide))
  have hp2 : (0 : Int) ≤ 2 ^ (k + 1) := Int.le_of_lt (Int.pow_pos (by decide))
  rw [Int.fdiv_eq_ediv_of_nonneg _ hp, Int.fdiv_eq_ediv_of_nonneg _ (by decide), Int.fdiv_eq_ediv_of_nonneg _ hp2, Int.pow_succ, Int.ediv_ediv_of_nonneg hp]
theorem fdiv_1 (a : Int) : a.fdiv (2 ^ 0) = a := by
  rw [Int.fdiv_eq_ediv_of_nonneg _ (by decide)]; simp
def dd92 : Nat → List (List Nat)
  | 0 => [[], [2]]
  | 1 => [[], [0], [3], [4], [5], [6]]
  | _ => []
theorem rCount_c (b : Int) : ACall Try.prog 92 [.lit (.int .i64 b)] (.lit (.int .i64 ((shC b : Nat) : Int))) := by
  have hw := count_w b
  refine acall_of (n := 7) (rs := [.tmp 2]) Try.func92 rfl (by kernel_rfl) rfl rfl rfl ?_; simp only [argsE, Nat.reduceAdd]
  repeat (any_goals (first | (refine aops_cons (fun K' h' => ?_); simp only [go_sem, simprocAttr, hw]; (try simp (disch := omega) only [wrap_id, getD_map_in, Int.toNat_natCast, hw]); (repeat (refine And.intro (by (first | omega | (simp; done) | (simp; omega) | assumption)) ?_)); refine h' _ ?_; clear h' K') | (refine aops_nil (hK _ ?_); clear hK K gs; try simp only [aThen, aBlock]) | (refine AWp.sreg  dd92 rfl (fun gs K hgs hK => ?_); clear hgs) | refine AWp.seq ?_ | refine ARounds.step ?_ | refine AWp.block ?_ | refine AWp.label ?_ | (refine AWp.ret ?_; try simp only [aThen, aBlock]) | (refine AWp.skip ?_; try simp only [aThen, aBlock]) | (refine AWp.exit ?_; try simp only [aThen, aBlock, Nat.reduceEqDiff, reduceIte]) | (refine AWp.reg  dd92 rfl (fun gs K hgs hK => ?_); clear hgs) | (refine AWp.cond rfl (fun h => ?_) (fun h => ?_) <;> (try simp only [decide_eq_true_eq, decide_eq_false_iff_not, beq_iff_eq, bne_iff_ne, ne_eq, Bool.not_eq_true', Bool.not_eq_false', beq_eq_false_iff_ne, Bool.true_eq_false, Bool.false_eq_true, Int.not_le, Int.not_lt, Bool.and_eq_true, Bool.and_eq_false_iff, Bool.or_eq_true, Bool.or_eq_false_iff, bne_eq_false_iff_eq, reduceCtorEq] at h) <;> (try first | contradiction | (exfalso; omega) | (exfalso; revert h; simp; done) | (exfalso; revert h; simp; omega)))))
  simp only [Out, outA, outL, resA, go_sem, simprocAttr]
  exact AVle.refl _
def dd93 : Nat → List (List Nat)
  | 0 => [[], [2]]
  | 1 => [[], [], [3], [4]]
  | 2 => [[5], [0], [6], [7], [8]]
  | 3 => [[5], [0], [9], [10]]
  | _ => []
theorem rHalf_c (x : Int) (hx : i64B x) : ACall Try.prog 93 [.lit (.int .i64 x)] (.lit (.int .i64 (x.fdiv 2))) := by
  have h1 := half_1 hx
  have h2 := half_2 hx
  unfold w64 at h1 h2
  refine acall_of (n := 11) (rs := [.tmp 2]) Try.func93 rfl (by kernel_rfl) rfl rfl rfl ?_; simp only [argsE, Nat.reduceAdd]
  repeat (any_goals (first | (refine aops_cons (fun K' h' => ?_); simp only [go_sem, simprocAttr]; (try simp (disch := omega) only [wrap_id, getD_map_in, Int.toNat_natCast]); (repeat (refine And.intro (by (first | omega | (simp; done) | (simp; omega) | assumption)) ?_)); refine h' _ ?_; clear h' K') | (refine aops_nil (hK _ ?_); clear hK K gs; try simp only [aThen, aBlock]) | (refine AWp.sreg  dd93 rfl (fun gs K hgs hK => ?_); clear hgs) | refine AWp.seq ?_ | refine ARounds.step ?_ | refine AWp.block ?_ | refine AWp.label ?_ | (refine AWp.ret ?_; try simp only [aThen, aBlock]) | (refine AWp.skip ?_; try simp only [aThen, aBlock]) | (refine AWp.exit ?_; try simp only [aThen, aBlock, Nat.reduceEqDiff, reduceIte]) | (refine AWp.reg  dd93 rfl (fun gs K hgs hK => ?_); clear hgs) | (refine AWp.cond rfl (fun h => ?_) (fun h => ?_) <;> (try simp only [decide_eq_true_eq, decide_eq_false_iff_not, beq_iff_eq, bne_iff_ne, ne_eq, Bool.not_eq_true', Bool.not_eq_false', beq_eq_false_iff_ne, Bool.true_eq_false, Bool.false_eq_true, Int.not_le, Int.not_lt, Bool.and_eq_true, Bool.and_eq_false_iff, Bool.or_eq_true, Bool.or_eq_false_iff, bne_eq_false_iff_eq, reduceCtorEq] at h) <;> (try first | contradiction | (exfalso; omega) | (exfalso; revert h; simp; done) | (exfalso; revert h; simp; omega)))))
  all_goals simp only [Out, outA, outL, resA, go_sem, simprocAttr]
  all_goals refine AVle.of_eq (congrArg (fun n => AV.lit (.int .i64 n)) ?_)
  all_goals first
    | exact h1 (by omega)
    | exact h2 (by assumption)
def dd91 : Nat → List (List Nat)
  | 0 => [[], [2]]
  | 1 => [[], []]
  | 2 => [[], []]
  | 3 => [[], [], [], [5, 6]]
  | 4 => [[], [4], [8], [9]]
  | 5 => [[7], [], [3], [10, 11], [12]]
  | 6 => [[0, 4, 7], [3], [13]]
  | _ => []
theorem rPower_c (n : Nat) (hn : n ≤ 64) : ACall Try.prog 91 [.lit (.int .i64 (n : Int))] (.lit (.int .i64 (w64 (2 ^ n)))) := by
  refine acall_of (n := 14) (rs := [.tmp 2]) Try.func91 rfl (by kernel_rfl) rfl rfl rfl ?_; simp only [argsE, Nat.reduceAdd]
  repeat (any_goals (first | (refine aops_cons (fun K' h' => ?_); simp only [go_sem, simprocAttr]; (try simp (disch := omega) only [wrap_id, getD_map_in, Int.toNat_natCast]); (repeat (refine And.intro (by (first | omega | (simp; done) | (simp; omega) | assumption)) ?_)); refine h' _ ?_; clear h' K') | (refine aops_nil (hK _ ?_); clear hK K gs; try simp only [aThen, aBlock]) | (refine AWp.sreg  dd91 rfl (fun gs K hgs hK => ?_); clear hgs) | refine AWp.seq ?_ | refine ARounds.step ?_ | refine AWp.block ?_ | refine AWp.label ?_ | (refine AWp.ret ?_; try simp only [aThen, aBlock]) | (refine AWp.skip ?_; try simp only [aThen, aBlock]) | (refine AWp.exit ?_; try simp only [aThen, aBlock, Nat.reduceEqDiff, reduceIte]) | (refine AWp.reg  dd91 rfl (fun gs K hgs hK => ?_); clear hgs) | (refine AWp.cond rfl (fun h => ?_) (fun h => ?_) <;> (try simp only [decide_eq_true_eq, decide_eq_false_iff_not, beq_iff_eq, bne_iff_ne, ne_eq, Bool.not_eq_true', Bool.not_eq_false', beq_eq_false_iff_ne, Bool.true_eq_false, Bool.false_eq_true, Int.not_le, Int.not_lt, Bool.and_eq_true, Bool.and_eq_false_iff, Bool.or_eq_true, Bool.or_eq_false_iff, bne_eq_false_iff_eq, reduceCtorEq] at h) <;> (try first | contradiction | (exfalso; omega) | (exfalso; revert h; simp; done) | (exfalso; revert h; simp; omega)))))
  refine AWp.loopN n (fun _ => True) (fun k => ⟨[(0, .lit (.int .i64 (n : Int))), (3, .lit (.int .i64 (w64 (2 ^ k)))), (4, .lit (.int .i64 (k : Int)))], [], []⟩) ?_ ?_
  · refine Wk.ofCut 0 0 rfl rfl ?_
    rw [show w64 (2 ^ 0) = 1 from rfl]
    simp [subE, eget, ASt.drop, dropE, keepR, lowE, AV.lowB, lowL, Nat.blt, Nat.ble]
  · intro k hk _
    have hnx := pow_next k
    obtain ⟨x, hx⟩ : ∃ x, w64 (2 ^ k) = x := ⟨_, rfl⟩
    obtain ⟨z, hz⟩ : ∃ z, w64 (2 ^ (k + 1)) = z := ⟨_, rfl⟩
    rw [hx, hz] at hnx
    unfold w64 at hnx
    rw [hx]
    repeat (any_goals (first | (refine aops_cons (fun K' h' => ?_); simp only [go_sem, simprocAttr, hnx]; (try simp (disch := omega) only [wrap_id, getD_map_in, Int.toNat_natCast, hnx]); (repeat (refine And.intro (by (first | omega | (simp; done) | (simp; omega) | assumption)) ?_)); refine h' _ ?_; clear h' K') | (refine aops_nil (hK _ ?_); clear hK K gs; try simp only [aThen, aBlock]) | (refine AWp.sreg  dd91 rfl (fun gs K hgs hK => ?_); clear hgs) | refine AWp.seq ?_ | refine ARounds.step ?_ | refine AWp.block ?_ | refine AWp.label ?_ | (refine AWp.ret ?_; try simp only [aThen, aBlock]) | (refine AWp.skip ?_; try simp only [aThen, aBlock]) | (refine AWp.exit ?_; try simp only [aThen, aBlock, Nat.reduceEqDiff, reduceIte]) | (refine AWp.reg  dd91 rfl (fun gs K hgs hK => ?_); clear hgs) | (refine AWp.cond rfl (fun h => ?_) (fun h => ?_) <;> (try simp only [decide_eq_true_eq, decide_eq_false_iff_not, beq_iff_eq, bne_iff_ne, ne_eq, Bool.not_eq_true', Bool.not_eq_false', beq_eq_false_iff_ne, Bool.true_eq_false, Bool.false_eq_true, Int.not_le, Int.not_lt, Bool.and_eq_true, Bool.and_eq_false_iff, Bool.or_eq_true, Bool.or_eq_false_iff, bne_eq_false_iff_eq, reduceCtorEq] at h) <;> (try first | contradiction | (exfalso; omega) | (exfalso; revert h; simp; done) | (exfalso; revert h; simp; omega)))))
    · rw [hz]
      refine ⟨by omega, trivial, Wk.ofCut 0 0 rfl rfl ?_⟩
      simp [subE, eget, ASt.drop, dropE, keepR, lowE, AV.lowB, lowL, Nat.blt, Nat.ble]
    · obtain rfl : k = n := by omega
      simp only [Out, outA, outL, resA, go_sem, simprocAttr]
      rw [hx]
      exact AVle.refl _
def dd94 : Nat → List (List Nat)
  | 0 => [[], [6]]
  | 1 => [[], [0]]
  | 2 => [[], [], [9]]
  | 3 => [[7, 8], [1], [2], [10, 11], [12]]
  | 4 => [[8], [], [14]]
  | 5 => [[7, 13], [], [], [15, 16], [17], [1], [2], [19, 20], [18, 21], [22]]
  | 6 => [[13], [], [24]]
  | 7 => [[7, 23], [2], [1], [25, 26], [27]]
  | 8 => [[23], [], [29]]
  | 9 => [[7, 28], [], [], [30, 31], [32], [1], [2], [34, 35], [33, 36], [37]]
  | 10 => [[28], [7], [39]]
  | 11 => [[38], [1], [2], [40, 41], [42]]
  | 12 => [[38], [1], [2], [43, 44], [45]]
  | _ => []
theorem rCompare_c (k a b : Int) : ACall Try.prog 94 [.lit (.int .u8 k), .lit (.int .i64 a), .lit (.int .i64 b)] (.lit (.bool (cmpB k a b))) := by
  refine acall_of (n := 46) (rs := [.tmp 6]) Try.func94 rfl (by kernel_rfl) rfl rfl rfl ?_; simp only [argsE, Nat.reduceAdd]
  repeat (any_goals (first | (refine aops_cons (fun K' h' => ?_); simp only [go_sem, simprocAttr, hgs]; (try simp (disch := omega) only [wrap_id, getD_map_in, Int.toNat_natCast]); (repeat (refine And.intro (by (first | omega | (simp; done) | (simp; omega) | assumption)) ?_)); refine h' _ ?_; clear h' K') | (refine aops_nil (hK _ ?_); clear hK K hgs gs; try simp only [aThen, aBlock]) | ((first | refine AWp.sreg (id := 5) dd94 rfl (fun gs K hgs hK => ?_) | refine AWp.reg (id := 5) dd94 rfl (fun gs K hgs hK => ?_)); replace hgs : gs 3 = some 18 := hgs 3) | ((first | refine AWp.sreg (id := 9) dd94 rfl (fun gs K hgs hK => ?_) | refine AWp.reg (id := 9) dd94 rfl (fun gs K hgs hK => ?_)); replace hgs : gs 3 = some 33 := hgs 3) | (refine AWp.sreg  dd94 rfl (fun gs K hgs hK => ?_); replace hgs : Nat.succ 0 = 1 := rfl) | refine AWp.seq ?_ | refine ARounds.step ?_ | refine AWp.block ?_ | refine AWp.label ?_ | (refine AWp.ret ?_; try simp only [aThen, aBlock]) | (refine AWp.skip ?_; try simp only [aThen, aBlock]) | (refine AWp.exit ?_; try simp only [aThen, aBlock, Nat.reduceEqDiff, reduceIte]) | (refine AWp.reg  dd94 rfl (fun gs K hgs hK => ?_); replace hgs : Nat.succ 0 = 1 := rfl) | (refine AWp.cond rfl (fun h => ?_) (fun h => ?_) <;> (try simp only [decide_eq_true_eq, decide_eq_false_iff_not, beq_iff_eq, bne_iff_ne, ne_eq, Bool.not_eq_true', Bool.not_eq_false', beq_eq_false_iff_ne, Bool.true_eq_false, Bool.false_eq_true, Int.not_le, Int.not_lt, Bool.and_eq_true, Bool.and_eq_false_iff, Bool.or_eq_true, Bool.or_eq_false_iff, bne_eq_false_iff_eq, reduceCtorEq] at h) <;> (try first | contradiction | (exfalso; omega) | (exfalso; revert h; simp; done) | (exfalso; revert h; simp; omega)))))
  all_goals simp only [Out, outA, outL, resA, go_sem, simprocAttr]
  all_goals refine AVle.of_eq (congrArg (fun b => AV.lit (.bool b)) ?_)
  all_goals unfold cmpB
  all_goals repeat' split
  all_goals first
    | (exfalso; omega)
    | rfl
    | (rw [Bool.eq_iff_iff]; simp; omega)
def dd73 : Nat → List (List Nat)
  | 0 => [[], [6]]
  | 1 => [[], []]
  | 2 => [[], [], [10]]
  | 3 => [[0, 2, 8, 9], [1], [11], [12]]
  | 4 => [[9], [], [14]]
  | 5 => [[0, 2, 8, 13], [1], [15], [16], [17]]
  | 6 => [[13], [], [19]]
  | 7 => [[0, 8, 18], [1], [2], [20, 21], [22]]
  | 8 => [[18], [], [24]]
  | 9 => [[0, 8, 23], [1], [2], [25, 26], [27]]
  | 10 => [[23], [], [29]]
  | 11 => [[0, 8, 28], [1], [2], [30, 31], [32]]
  | 12 => [[28], [], [34]]
  | 13 => [[0, 8, 33], [1], [2], [36], [37], [35, 38], [39]]
  | 14 => [[33], [], [41]]
  | 15 => [[0, 8, 40], []]
  | 16 => [[], [], [], [43], [42, 44]]
  | 17 => [[], [7], [46], [47]]
  | 18 => [[45], [1], [48], [49]]
  | 19 => [[2, 7, 45], [1], [50]]
  | 20 => [[40], [], [52]]
  | 21 => [[0, 8, 51], [1], [53], [54], [2], [56], [55, 57], [58], [59]]
  | 22 => [[51], [8], [61]]
  | 23 => [[0, 60], [1], [62], [63], [2], [65], [64, 66], [67], [68]]
  | 24 => [[60], [0], [1], [2], [69, 70, 71], [72], [73]]
  | _ => []
theorem rGiven_c (k a b : Int) (ha : i64B a) (hb : i64B b) (h5 : 5 ≤ k) (h19 : k ≤ 19) : ACall Try.prog 73 [.lit (.int .u8 k), .lit (.int .i64 a), .lit (.int .i64 b)] (.lit (.int .i64 (doV k a b))) := by
  have hPw := rPower_c (shC b) (by have := shC_lt b; omega)
  have hm := w64_mul a (2 ^ shC b)
  have hk : k = 5 ∨ k = 6 ∨ k = 7 ∨ k = 8 ∨ k = 9 ∨ k = 10 ∨ k = 11 ∨ k = 12 ∨ k = 13 ∨ k = 14 ∨ k = 15 ∨ k = 16 ∨ k = 17 ∨ k = 18 ∨ k = 19 := by omega
  have hCo := rCompare_c k a b
  by_cases h11 : k = 11
  · subst h11
    have hs := shC_lt b
    refine acall_of (n := 74) (rs := [.tmp 6]) Try.func73 rfl (by kernel_rfl) rfl rfl rfl ?_; simp only [argsE, Nat.reduceAdd]
    repeat (any_goals (first | (refine aops_cons (fun K' h' => ?_); simp only [go_sem, simprocAttr, hgs]; (try ((first | refine ⟨_, rTruth_c _, ?_⟩ | refine ⟨_, fun _ => rTruth_c _, ?_⟩ | refine ⟨_, rCount_c _, ?_⟩ | refine ⟨_, fun _ => rCount_c _, ?_⟩ | refine ⟨_, hCo, ?_⟩ | refine ⟨_, fun _ => hCo, ?_⟩ | refine ⟨_, hPw, ?_⟩ | refine ⟨_, fun _ => hPw, ?_⟩ | refine ⟨_, hHf, ?_⟩ | refine ⟨_, fun _ => hHf, ?_⟩); (try simp only [go_sem, simprocAttr, hgs]))); (try simp (disch := omega) only [wrap_id, getD_map_in, Int.toNat_natCast]); (repeat (refine And.intro (by (first | omega | (simp; done) | (simp; omega) | assumption)) ?_)); refine h' _ ?_; clear h' K') | (refine aops_nil (hK _ ?_); clear hK K hgs gs; try simp only [aThen, aBlock]) | ((first | refine AWp.sreg (id := 21) dd73 rfl (fun gs K hgs hK => ?_) | refine AWp.reg (id := 21) dd73 rfl (fun gs K hgs hK => ?_)); replace hgs : gs 2 = some 55 := hgs 2) | ((first | refine AWp.sreg (id := 23) dd73 rfl (fun gs K hgs hK => ?_) | refine AWp.reg (id := 23) dd73 rfl (fun gs K hgs hK => ?_)); replace hgs : gs 2 = some 64 := hgs 2) | (refine AWp.sreg  dd73 rfl (fun gs K hgs hK => ?_); replace hgs : Nat.succ 0 = 1 := rfl) | refine AWp.seq ?_ | refine ARounds.step ?_ | refine AWp.block ?_ | refine AWp.label ?_ | (refine AWp.ret ?_; try simp only [aThen, aBlock]) | (refine AWp.skip ?_; try simp only [aThen, aBlock]) | (refine AWp.exit ?_; try simp only [aThen, aBlock, Nat.reduceEqDiff, reduceIte]) | (refine AWp.reg  dd73 rfl (fun gs K hgs hK => ?_); replace hgs : Nat.succ 0 = 1 := rfl) | (refine AWp.cond rfl (fun h => ?_) (fun h => ?_) <;> (try simp only [decide_eq_true_eq, decide_eq_false_iff_not, beq_iff_eq, bne_iff_ne, ne_eq, Bool.not_eq_true', Bool.not_eq_false', beq_eq_false_iff_ne, Bool.true_eq_false, Bool.false_eq_true, Int.not_le, Int.not_lt, Bool.and_eq_true, Bool.and_eq_false_iff, Bool.or_eq_true, Bool.or_eq_false_iff, bne_eq_false_iff_eq, reduceCtorEq] at h) <;> (try first | contradiction | (exfalso; omega) | (exfalso; revert h; simp; done) | (exfalso; revert h; simp; omega)))))
    refine AWp.loopN (shC b) (fun _ => True) (fun k => ⟨[(1, .lit (.int .i64 (a.fdiv (2 ^ k)))), (2, .lit (.int .i64 b)), (7, .lit (.int .i64 (k : Int)))], [], []⟩) ?_ ?_
    · rw [fdiv_1]
      refine Wk.ofCut 0 0 rfl rfl ?_
      simp [subE, eget, ASt.drop, dropE, keepR, lowE, AV.lowB, lowL, Nat.blt, Nat.ble]
    · intro k hk _
      have hHf := rHalf_c (a.fdiv (2 ^ k)) (fdiv_B ha k)
      rw [fdiv_next] at hHf
      obtain ⟨x, hx⟩ : ∃ x, a.fdiv (2 ^ k) = x := ⟨_, rfl⟩
      obtain ⟨z, hz⟩ : ∃ z, a.fdiv (2 ^ (k + 1)) = z := ⟨_, rfl⟩
      rw [hx, hz] at hHf
      rw [hx]
      repeat (any_goals (first | (refine aops_cons (fun K' h' => ?_); simp only [go_sem, simprocAttr, hgs]; (try ((first | refine ⟨_, rTruth_c _, ?_⟩ | refine ⟨_, fun _ => rTruth_c _, ?_⟩ | refine ⟨_, rCount_c _, ?_⟩ | refine ⟨_, fun _ => rCount_c _, ?_⟩ | refine ⟨_, hCo, ?_⟩ | refine ⟨_, fun _ => hCo, ?_⟩ | refine ⟨_, hPw, ?_⟩ | refine ⟨_, fun _ => hPw, ?_⟩ | refine ⟨_, hHf, ?_⟩ | refine ⟨_, fun _ => hHf, ?_⟩); (try simp only [go_sem, simprocAttr, hgs]))); (try simp (disch := omega) only [wrap_id, getD_map_in, Int.toNat_natCast]); (repeat (refine And.intro (by (first | omega | (simp; done) | (simp; omega) | assumption)) ?_)); refine h' _ ?_; clear h' K') | (refine aops_nil (hK _ ?_); clear hK K hgs gs; try simp only [aThen, aBlock]) | ((first | refine AWp.sreg (id := 21) dd73 rfl (fun gs K hgs hK => ?_) | refine AWp.reg (id := 21) dd73 rfl (fun gs K hgs hK => ?_)); replace hgs : gs 2 = some 55 := hgs 2) | ((first | refine AWp.sreg (id := 23) dd73 rfl (fun gs K hgs hK => ?_) | refine AWp.reg (id := 23) dd73 rfl (fun gs K hgs hK => ?_)); replace hgs : gs 2 = some 64 := hgs 2) | (refine AWp.sreg  dd73 rfl (fun gs K hgs hK => ?_); replace hgs : Nat.succ 0 = 1 := rfl) | refine AWp.seq ?_ | refine ARounds.step ?_ | refine AWp.block ?_ | refine AWp.label ?_ | (refine AWp.ret ?_; try simp only [aThen, aBlock]) | (refine AWp.skip ?_; try simp only [aThen, aBlock]) | (refine AWp.exit ?_; try simp only [aThen, aBlock, Nat.reduceEqDiff, reduceIte]) | (refine AWp.reg  dd73 rfl (fun gs K hgs hK => ?_); replace hgs : Nat.succ 0 = 1 := rfl) | (refine AWp.cond rfl (fun h => ?_) (fun h => ?_) <;> (try simp only [decide_eq_true_eq, decide_eq_false_iff_not, beq_iff_eq, bne_iff_ne, ne_eq, Bool.not_eq_true', Bool.not_eq_false', beq_eq_false_iff_ne, Bool.true_eq_false, Bool.false_eq_true, Int.not_le, Int.not_lt, Bool.and_eq_true, Bool.and_eq_false_iff, Bool.or_eq_true, Bool.or_eq_false_iff, bne_eq_false_iff_eq, reduceCtorEq] at h) <;> (try first | contradiction | (exfalso; omega) | (exfalso; revert h; simp; done) | (exfalso; revert h; simp; omega)))))
      · rw [hz]
        refine ⟨by omega, trivial, Wk.ofCut 0 0 rfl rfl ?_⟩
        simp [subE, eget, ASt.drop, dropE, keepR, lowE, AV.lowB, lowL, Nat.blt, Nat.ble]
      · obtain rfl : k = shC b := by omega
        simp only [Out, outA, outL, resA, go_sem, simprocAttr]
        rw [← hx]
        exact AVle.of_eq rfl
  · rcases hk with rfl | rfl | rfl | rfl | rfl | rfl | rfl | rfl | rfl | rfl | rfl | rfl | rfl | rfl | rfl
    all_goals first
      | exact absurd rfl h11
      | skip
    all_goals
      refine acall_of (n := 74) (rs := [.tmp 6]) Try.func73 rfl (by kernel_rfl) rfl rfl rfl ?_; simp only [argsE, Nat.reduceAdd]
      repeat (any_goals (first | (refine aops_cons (fun K' h' => ?_); simp only [go_sem, simprocAttr, hgs]; (try ((first | refine ⟨_, rTruth_c _, ?_⟩ | refine ⟨_, fun _ => rTruth_c _, ?_⟩ | refine ⟨_, rCount_c _, ?_⟩ | refine ⟨_, fun _ => rCount_c _, ?_⟩ | refine ⟨_, hCo, ?_⟩ | refine ⟨_, fun _ => hCo, ?_⟩ | refine ⟨_, hPw, ?_⟩ | refine ⟨_, fun _ => hPw, ?_⟩ | refine ⟨_, hHf, ?_⟩ | refine ⟨_, fun _ => hHf, ?_⟩); (try simp only [go_sem, simprocAttr, hgs]))); (try simp (disch := omega) only [wrap_id, getD_map_in, Int.toNat_natCast]); (repeat (refine And.intro (by (first | omega | (simp; done) | (simp; omega) | assumption)) ?_)); refine h' _ ?_; clear h' K') | (refine aops_nil (hK _ ?_); clear hK K hgs gs; try simp only [aThen, aBlock]) | ((first | refine AWp.sreg (id := 21) dd73 rfl (fun gs K hgs hK => ?_) | refine AWp.reg (id := 21) dd73 rfl (fun gs K hgs hK => ?_)); replace hgs : gs 2 = some 55 := hgs 2) | ((first | refine AWp.sreg (id := 23) dd73 rfl (fun gs K hgs hK => ?_) | refine AWp.reg (id := 23) dd73 rfl (fun gs K hgs hK => ?_)); replace hgs : gs 2 = some 64 := hgs 2) | (refine AWp.sreg  dd73 rfl (fun gs K hgs hK => ?_); replace hgs : Nat.succ 0 = 1 := rfl) | refine AWp.seq ?_ | refine ARounds.step ?_ | refine AWp.block ?_ | refine AWp.label ?_ | (refine AWp.ret ?_; try simp only [aThen, aBlock]) | (refine AWp.skip ?_; try simp only [aThen, aBlock]) | (refine AWp.exit ?_; try simp only [aThen, aBlock, Nat.reduceEqDiff, reduceIte]) | (refine AWp.reg  dd73 rfl (fun gs K hgs hK => ?_); replace hgs : Nat.succ 0 = 1 := rfl) | (refine AWp.cond rfl (fun h => ?_) (fun h => ?_) <;> (try simp only [decide_eq_true_eq, decide_eq_false_iff_not, beq_iff_eq, bne_iff_ne, ne_eq, Bool.not_eq_true', Bool.not_eq_false', beq_eq_false_iff_ne, Bool.true_eq_false, Bool.false_eq_true, Int.not_le, Int.not_lt, Bool.and_eq_true, Bool.and_eq_false_iff, Bool.or_eq_true, Bool.or_eq_false_iff, bne_eq_false_iff_eq, reduceCtorEq] at h) <;> (try first | contradiction | (exfalso; omega) | (exfalso; revert h; simp; done) | (exfalso; revert h; simp; omega)))))
      simp only [Out, outA, outL, resA, go_sem, simprocAttr]
      first
        | exact AVle.of_eq rfl
        | exact AVle.of_eq (congrArg (fun n => AV.lit (.int .i64 n)) hm)
end Go.Proofs.Yteohklfoggiojaa
namespace Go.Proofs.Yteohklfoggiojaa
open Go.AL Go.RowKit
set_option linter.unusedSimpArgs false
set_option linter.unusedVariables false
set_option maxRecDepth 10000
set_option maxHeartbeats 4000000
def dd46 : Nat → List (List Nat)
  | 0 => [[], [2], [6]]
  | 1 => [[], [], [1], [9, 10], [11], [], [12]]
  | 2 => [[], [], [13]]
  | 3 => [[], [], [16]]
  | 4 => [[0, 5, 14, 15], [7], [17], [18]]
  | 5 => [[15], [], [20]]
  | 6 => [[0, 7, 14, 19], [5], [21], [22]]
  | 7 => [[19], [], [24]]
  | 8 => [[0, 7, 14, 23], [5], [25], [26]]
  | 9 => [[23], [14], [28]]
  | 10 => [[0, 7, 27], [5], [29], [30]]
  | 11 => [[27], []]
  | 12 => [[], [], [31], [32], [33]]
  | 13 => [[8, 34], [], [], [36], [], [35, 37, 38], [39]]
  | _ => []
def fo46 : Nat → List Nat
  | 14 => [6]
  | _ => []
theorem rValue_c {l : List Node} {e : Ex} (hl : l.length ≤ 1000) (hx : IsEx l e) (r : Rcd) (hr : r.B) (hn : nodesB l) : ∀ j : Nat, j < l.length → ACall Try.prog 46 [nodesV l, .lit (.int .i64 (j : Int)), .agg r.cells] (.lit (.int .i64 (valAt r l j))) := by
  intro k
  induction k using Nat.strongRecOn with
  | _ k ih =>
    intro hkk
    obtain ⟨k1, k2, ha, hb, za, zb⟩ := hx.at hkk
    have hB := valAt_B (l := l) hr hn
    have hlf := valAt_leaf (r := r) hkk
    have hun := valAt_un (r := r) hkk
    have hbn := valAt_bin (r := r) hkk
    obtain ⟨y, hy⟩ : ∃ y, l.getD k default = y := ⟨_, rfl⟩
    rw [hy] at k1 k2 ha hb za zb hlf hun hbn
    obtain ⟨w, hw⟩ : ∃ w, valAt r l k = w := ⟨_, rfl⟩
    rw [hw] at hlf hun hbn ⊢
    obtain ⟨kd, nn, xa, xb, xp⟩ := y
    simp only at k1 k2 ha hb za zb hlf hun hbn
    have hrc : r.cells = [.lit (.int .i64 r.key), .lit (.int .i64 r.t), .lit (.int .i64 r.v)] := rfl
    rw [hrc] at ih ⊢
    clear hrc
    by_cases h4 : kd ≤ 4
    · have hlf := hlf h4
      unfold leafV at hlf
      have hcs : kd = 1 ∨ kd = 2 ∨ kd = 3 ∨ kd = 4 := by omega
      clear hun hbn ha hb ih
      unfold nodesV
      rcases hcs with rfl | rfl | rfl | rfl
      all_goals
        simp only [Int.reduceEq, reduceIte] at hlf
        subst hlf
        refine acall_of (n := 49) (rs := [.tmp 6]) Try.func46 rfl (by kernel_rfl) rfl rfl rfl ?_; simp only [argsE, Nat.reduceAdd]
        repeat (any_goals (first | ((first | refine aops_cons (fun K' h' => ?_) | refine aopsD_cons (fun K' h' => ?_)); simp only [go_sem, simprocAttr, Node.cells, intC, List.length_map, hy]; (try ((first | refine ⟨_, hV1, ?_⟩ | refine ⟨_, fun _ => hV1, ?_⟩ | refine ⟨_, hV2, ?_⟩ | refine ⟨_, fun _ => hV2, ?_⟩ | refine ⟨_, hCn, ?_⟩ | refine ⟨_, fun _ => hCn, ?_⟩ | refine ⟨_, hG, ?_⟩ | refine ⟨_, fun _ => hG, ?_⟩); (try simp only [go_sem, simprocAttr, Node.cells, intC, List.length_map, hy]))); (try simp (disch := omega) only [wrap_id, getD_map_in, Int.toNat_natCast, Node.cells, intC, List.length_map, hy]); (repeat (refine And.intro (by (first | omega | (simp; done) | (simp; omega) | assumption)) ?_)); refine h' _ ?_; clear h' K') | (refine aops_nil (hK _ ?_); clear hK K gs; try simp only [aThen, aBlock]) | (refine AWp.sreg  dd46 rfl (fun gs K hgs hK => ?_); clear hgs) | refine AWp.seq ?_ | refine ARounds.step ?_ | refine AWp.block ?_ | refine AWp.label ?_ | (refine AWp.ret ?_; try simp only [aThen, aBlock]) | (refine AWp.skip ?_; try simp only [aThen, aBlock]) | (refine AWp.exit ?_; try simp only [aThen, aBlock, Nat.reduceEqDiff, reduceIte]) | (refine AWp.reg  dd46 rfl (fun gs K hgs hK => ?_); clear hgs) | ((first | refine AWp.sregD  fo46 mo_fact (by kernel_rfl) (fun gs K hgs hK => ?_) | refine AWp.regD  fo46 mo_fact (by kernel_rfl) (fun gs K hgs hK => ?_)); clear hgs) | (refine aopsD_nil (hK _ ?_); clear hK K gs; simp only [fo46]; simp only [ASt.prune, pruneE, keepB, keepR, Bool.or_false, Bool.or_true, Bool.true_or, Bool.false_or, reduceIte, Bool.or_self, Bool.false_eq_true, aThen, aBlock, Nat.reduceEqDiff]) | (refine AWp.cond rfl (fun h => ?_) (fun h => ?_) <;> (try simp only [decide_eq_true_eq, decide_eq_false_iff_not, beq_iff_eq, bne_iff_ne, ne_eq, Bool.not_eq_true', Bool.not_eq_false', beq_eq_false_iff_ne, Bool.true_eq_false, Bool.false_eq_true, Int.not_le, Int.not_lt, Bool.and_eq_true, Bool.and_eq_false_iff, Bool.or_eq_true, Bool.or_eq_false_iff, bne_eq_false_iff_eq, reduceCtorEq] at h) <;> (try first | contradiction | (exfalso; omega) | (exfalso; revert h; simp; done) | (exfalso; revert h; simp; omega)))))
        simp only [Out, outA, outL, resA, go_sem, simprocAttr]
        exact AVle.refl _
    · have hA := ha (by omega)
      have hV1 := ih xa.toNat (by omega) (by omega)
      rw [show ((xa.toNat : Nat) : Int) = xa by omega] at hV1
      by_cases h6 : kd ≤ 6
      · have hCn := count_c kd
        rw [show countI kd = 1 by unfold countI; rw [if_neg h4, if_pos h6]] at hCn
        have hun := hun (by omega) h6 (by omega) (by omega) 0
        have hG := rGiven_c kd (valAt r l xa.toNat) 0 (hB _) ⟨by decide, by decide⟩ (by omega) (by omega)
        rw [← hun] at hG
        generalize valAt r l xa.toNat = va at *
        unfold nodesV at *
        clear ih
        refine acall_of (n := 49) (rs := [.tmp 6]) Try.func46 rfl (by kernel_rfl) rfl rfl rfl ?_; simp only [argsE, Nat.reduceAdd]
        repeat (any_goals (first | ((first | refine aops_cons (fun K' h' => ?_) | refine aopsD_cons (fun K' h' => ?_)); simp only [go_sem, simprocAttr, Node.cells, intC, List.length_map, hy]; (try ((first | refine ⟨_, hV1, ?_⟩ | refine ⟨_, fun _ => hV1, ?_⟩ | refine ⟨_, hV2, ?_⟩ | refine ⟨_, fun _ => hV2, ?_⟩ | refine ⟨_, hCn, ?_⟩ | refine ⟨_, fun _ => hCn, ?_⟩ | refine ⟨_, hG, ?_⟩ | refine ⟨_, fun _ => hG, ?_⟩); (try simp only [go_sem, simprocAttr, Node.cells, intC, List.length_map, hy]))); (try simp (disch := omega) only [wrap_id, getD_map_in, Int.toNat_natCast, Node.cells, intC, List.length_map, hy]); (repeat (refine And.intro (by (first | omega | (simp; done) | (simp; omega) | assumption)) ?_)); refine h' _ ?_; clear h' K') | (refine aops_nil (hK _ ?_); clear hK K gs; try simp only [aThen, aBlock]) | (refine AWp.sreg  dd46 rfl (fun gs K hgs hK => ?_); clear hgs) | refine AWp.seq ?_ | refine ARounds.step ?_ | refine AWp.block ?_ | refine AWp.label ?_ | (refine AWp.ret ?_; try simp only [aThen, aBlock]) | (refine AWp.skip ?_; try simp only [aThen, aBlock]) | (refine AWp.exit ?_; try simp only [aThen, aBlock, Nat.reduceEqDiff, reduceIte]) | (refine AWp.reg  dd46 rfl (fun gs K hgs hK => ?_); clear hgs) | ((first | refine AWp.sregD  fo46 mo_fact (by kernel_rfl) (fun gs K hgs hK => ?_) | refine AWp.regD  fo46 mo_fact (by kernel_rfl) (fun gs K hgs hK => ?_)); clear hgs) | (refine aopsD_nil (hK _ ?_); clear hK K gs; simp only [fo46]; simp only [ASt.prune, pruneE, keepB, keepR, Bool.or_false, Bool.or_true, Bool.true_or, Bool.false_or, reduceIte, Bool.or_self, Bool.false_eq_true, aThen, aBlock, Nat.reduceEqDiff]) | (refine AWp.cond rfl (fun h => ?_) (fun h => ?_) <;> (try simp only [decide_eq_true_eq, decide_eq_false_iff_not, beq_iff_eq, bne_iff_ne, ne_eq, Bool.not_eq_true', Bool.not_eq_false', beq_eq_false_iff_ne, Bool.true_eq_false, Bool.false_eq_true, Int.not_le, Int.not_lt, Bool.and_eq_true, Bool.and_eq_false_iff, Bool.or_eq_true, Bool.or_eq_false_iff, bne_eq_false_iff_eq, reduceCtorEq] at h) <;> (try first | contradiction | (exfalso; omega) | (exfalso; revert h; simp; done) | (exfalso; revert h; simp; omega)))))
        simp only [Out, outA, outL, resA, go_sem, simprocAttr]
        exact AVle.refl _
      · have hBb := hb (by omega)
        have hV2 := ih xb.toNat (by omega) (by omega)
        rw [show ((xb.toNat : Nat) : Int) = xb by omega] at hV2
        have hCn := count_c kd
        rw [show countI kd = 2 by unfold countI; rw [if_neg h4, if_neg h6]] at hCn
        have hbn := hbn (by omega) (by omega) (by omega) (by omega) (by omega)
        have hG := rGiven_c kd (valAt r l xa.toNat) (valAt r l xb.toNat) (hB _) (hB _) (by omega) (by omega)
        rw [← hbn] at hG
        generalize valAt r l xa.toNat = va at *
        generalize valAt r l xb.toNat = vb at *
        unfold nodesV at *
        clear ih
        refine acall_of (n := 49) (rs := [.tmp 6]) Try.func46 rfl (by kernel_rfl) rfl rfl rfl ?_; simp only [argsE, Nat.reduceAdd]
        repeat (any_goals (first | ((first | refine aops_cons (fun K' h' => ?_) | refine aopsD_cons (fun K' h' => ?_)); simp only [go_sem, simprocAttr, Node.cells, intC, List.length_map, hy]; (try ((first | refine ⟨_, hV1, ?_⟩ | refine ⟨_, fun _ => hV1, ?_⟩ | refine ⟨_, hV2, ?_⟩ | refine ⟨_, fun _ => hV2, ?_⟩ | refine ⟨_, hCn, ?_⟩ | refine ⟨_, fun _ => hCn, ?_⟩ | refine ⟨_, hG, ?_⟩ | refine ⟨_, fun _ => hG, ?_⟩); (try simp only [go_sem, simprocAttr, Node.cells, intC, List.length_map, hy]))); (try simp (disch := omega) only [wrap_id, getD_map_in, Int.toNat_natCast, Node.cells, intC, List.length_map, hy]); (repeat (refine And.intro (by (first | omega | (simp; done) | (simp; omega) | assumption)) ?_)); refine h' _ ?_; clear h' K') | (refine aops_nil (hK _ ?_); clear hK K gs; try simp only [aThen, aBlock]) | (refine AWp.sreg  dd46 rfl (fun gs K hgs hK => ?_); clear hgs) | refine AWp.seq ?_ | refine ARounds.step ?_ | refine AWp.block ?_ | refine AWp.label ?_ | (refine AWp.ret ?_; try simp only [aThen, aBlock]) | (refine AWp.skip ?_; try simp only [aThen, aBlock]) | (refine AWp.exit ?_; try simp only [aThen, aBlock, Nat.reduceEqDiff, reduceIte]) | (refine AWp.reg  dd46 rfl (fun gs K hgs hK => ?_); clear hgs) | ((first | refine AWp.sregD  fo46 mo_fact (by kernel_rfl) (fun gs K hgs hK => ?_) | refine AWp.regD  fo46 mo_fact (by kernel_rfl) (fun gs K hgs hK => ?_)); clear hgs) | (refine aopsD_nil (hK _ ?_); clear hK K gs; simp only [fo46]; simp only [ASt.prune, pruneE, keepB, keepR, Bool.or_false, Bool.or_true, Bool.true_or, Bool.false_or, reduceIte, Bool.or_self, Bool.false_eq_true, aThen, aBlock, Nat.reduceEqDiff]) | (refine AWp.cond rfl (fun h => ?_) (fun h => ?_) <;> (try simp only [decide_eq_true_eq, decide_eq_false_iff_not, beq_iff_eq, bne_iff_ne, ne_eq, Bool.not_eq_true', Bool.not_eq_false', beq_eq_false_iff_ne, Bool.true_eq_false, Bool.false_eq_true, Int.not_le, Int.not_lt, Bool.and_eq_true, Bool.and_eq_false_iff, Bool.or_eq_true, Bool.or_eq_false_iff, bne_eq_false_iff_eq, reduceCtorEq] at h) <;> (try first | contradiction | (exfalso; omega) | (exfalso; revert h; simp; done) | (exfalso; revert h; simp; omega)))))
        simp only [Out, outA, outL, resA, go_sem, simprocAttr]
        exact AVle.refl _
end Go.Proofs.Yteohklfoggiojaa
namespace Go.Proofs.Yteohklfoggiojaa
open Go.AL Go.RowKit
set_option linter.unusedSimpArgs false
set_option linter.unusedVariables false
set_option maxRecDepth 10000
set_option maxHeartbeats 4000000
def dd45 : Nat → List (List Nat)
  | 0 => [[], [2]]
  | 1 => [[], []]
  | 2 => [[], [], [], [5], [4, 6]]
  | 3 => [[23], [3], [8], [9]]
  | 4 => [[7], [], [], [10, 11], [12], [13], [14], [15], [], [], [17, 18], [19], [20], [21], [16, 22]]
  | 5 => [[0, 3, 23], []]
  | 6 => [[0, 3, 7], []]
  | _ => []
theorem fixed_c (l : List Node) (hl : l.length ≤ 1000) : ACall Try.prog 45 [nodesV l] (.lit (.bool (fixL l))) := by
  unfold nodesV
  refine acall_of (n := 24) (rs := [.tmp 2]) Try.func45 rfl (by kernel_rfl) rfl rfl rfl ?_; simp only [argsE, Nat.reduceAdd]
  repeat (any_goals (first | (refine aops_cons (fun K' h' => ?_); simp only [go_sem, simprocAttr, hgs, Node.cells]; (try ((first | refine ⟨_, hF, ?_⟩ | refine ⟨_, fun _ => hF, ?_⟩); (try simp only [go_sem, simprocAttr, hgs, Node.cells]))); (try simp (disch := omega) only [wrap_id, getD_map_in, Int.toNat_natCast, Node.cells]); (repeat (refine And.intro (by (first | omega | (simp; done) | (simp; omega) | assumption)) ?_)); refine h' _ ?_; clear h' K') | (refine aops_nil (hK _ ?_); clear hK K hgs gs; try simp only [aThen, aBlock]) | ((first | refine AWp.sreg (id := 4) dd45 rfl (fun gs K hgs hK => ?_) | refine AWp.reg (id := 4) dd45 rfl (fun gs K hgs hK => ?_)); replace hgs : gs 6 = some 16 := hgs 6) | (refine AWp.sreg  dd45 rfl (fun gs K hgs hK => ?_); replace hgs : Nat.succ 0 = 1 := rfl) | refine AWp.seq ?_ | refine ARounds.step ?_ | refine AWp.block ?_ | refine AWp.label ?_ | (refine AWp.ret ?_; try simp only [aThen, aBlock]) | (refine AWp.skip ?_; try simp only [aThen, aBlock]) | (refine AWp.exit ?_; try simp only [aThen, aBlock, Nat.reduceEqDiff, reduceIte]) | (refine AWp.reg  dd45 rfl (fun gs K hgs hK => ?_); replace hgs : Nat.succ 0 = 1 := rfl) | (refine AWp.cond rfl (fun h => ?_) (fun h => ?_) <;> (try simp only [decide_eq_true_eq, decide_eq_false_iff_not, beq_iff_eq, bne_iff_ne, ne_eq, Bool.not_eq_true', Bool.not_eq_false', beq_eq_false_iff_ne, Bool.true_eq_false, Bool.false_eq_true, Int.not_le, Int.not_lt, Bool.and_eq_true, Bool.and_eq_false_iff, Bool.or_eq_true, Bool.or_eq_false_iff, bne_eq_false_iff_eq, reduceCtorEq] at h) <;> (try first | contradiction | (exfalso; omega) | (exfalso; revert h; simp; done) | (exfalso; revert h; simp; omega)))))
  refine AWp.loopN l.length (fun k => ¬ (1 < (l.getD k default).kind ∧ (l.getD k default).kind < 5)) (fun k => ⟨[(0, .ro 5 (l.map Node.cells)), (3, .lit (.int .i64 (k : Int)))], [], []⟩) ?_ ?_
  · refine Wk.ofCut 0 0 rfl rfl ?_
    simp [subE, eget, ASt.drop, dropE, keepR, lowE, AV.lowB, lowL, Nat.blt, Nat.ble]
  · intro k hk hall
    obtain ⟨y, hy⟩ : ∃ y, l.getD k default = y := ⟨_, rfl⟩
    obtain ⟨kd, nn, xa, xb, xp⟩ := y
    by_cases h1 : 1 < kd
    · repeat (any_goals (first | (refine aops_cons (fun K' h' => ?_); simp only [go_sem, simprocAttr, hgs, Node.cells, hy]; (try ((first | refine ⟨_, hF, ?_⟩ | refine ⟨_, fun _ => hF, ?_⟩); (try simp only [go_sem, simprocAttr, hgs, Node.cells, hy]))); (try simp (disch := omega) only [wrap_id, getD_map_in, Int.toNat_natCast, Node.cells, hy]); (repeat (refine And.intro (by (first | omega | (simp; done) | (simp; omega) | assumption)) ?_)); refine h' _ ?_; clear h' K') | (refine aops_nil (hK _ ?_); clear hK K hgs gs; try simp only [aThen, aBlock]) | ((first | refine AWp.sreg (id := 4) dd45 rfl (fun gs K hgs hK => ?_) | refine AWp.reg (id := 4) dd45 rfl (fun gs K hgs hK => ?_)); replace hgs : gs 6 = some 16 := hgs 6) | (refine AWp.sreg  dd45 rfl (fun gs K hgs hK => ?_); replace hgs : Nat.succ 0 = 1 := rfl) | refine AWp.seq ?_ | refine ARounds.step ?_ | refine AWp.block ?_ | refine AWp.label ?_ | (refine AWp.ret ?_; try simp only [aThen, aBlock]) | (refine AWp.skip ?_; try simp only [aThen, aBlock]) | (refine AWp.exit ?_; try simp only [aThen, aBlock, Nat.reduceEqDiff, reduceIte]) | (refine AWp.reg  dd45 rfl (fun gs K hgs hK => ?_); replace hgs : Nat.succ 0 = 1 := rfl) | (refine AWp.cond rfl (fun h => ?_) (fun h => ?_) <;> (try simp only [decide_eq_true_eq, decide_eq_false_iff_not, beq_iff_eq, bne_iff_ne, ne_eq, Bool.not_eq_true', Bool.not_eq_false', beq_eq_false_iff_ne, Bool.true_eq_false, Bool.false_eq_true, Int.not_le, Int.not_lt, Bool.and_eq_true, Bool.and_eq_false_iff, Bool.or_eq_true, Bool.or_eq_false_iff, bne_eq_false_iff_eq, reduceCtorEq] at h) <;> (try first | contradiction | (exfalso; omega) | (exfalso; revert h; simp; done) | (exfalso; revert h; simp; omega)))))
      · simp only [Out, outA, outL, resA, go_sem, simprocAttr]
        have : fixL l = false := by
          unfold fixL
          rw [Bool.not_eq_false', List.any_eq_true]
          exact ⟨l.getD k default, by rw [List.getD_eq_getElem?_getD, List.getElem?_eq_getElem (by omega)]; exact List.getElem_mem _, by rw [hy]; simp; omega⟩
        rw [this]
        exact AVle.refl _
      · refine ⟨by omega, by rw [hy]; simp only; omega, Wk.ofCut 0 0 rfl rfl ?_⟩
        simp [subE, eget, ASt.drop, dropE, keepR, lowE, AV.lowB, lowL, Nat.blt, Nat.ble]
      · obtain rfl : k = l.length := by omega
        simp only [Out, outA, outL, resA, go_sem, simprocAttr]
        have : fixL l = true := by
          unfold fixL
          rw [Bool.not_eq_true', List.any_eq_false]
          intro x hx
          obtain ⟨j, hj, e⟩ := List.mem_iff_getElem.1 hx
          have := hall j hj
          rw [List.getD_eq_getElem?_getD, List.getElem?_eq_getElem hj] at this
          simp only [Option.getD_some, e] at this
          simp; omega
        rw [this]
        exact AVle.refl _
    · repeat (any_goals (first | (refine aops_cons (fun K' h' => ?_); simp only [go_sem, simprocAttr, hgs, Node.cells, hy]; (try ((first | refine ⟨_, hF, ?_⟩ | refine ⟨_, fun _ => hF, ?_⟩); (try simp only [go_sem, simprocAttr, hgs, Node.cells, hy]))); (try simp (disch := omega) only [wrap_id, getD_map_in, Int.toNat_natCast, Node.cells, hy]); (repeat (refine And.intro (by (first | omega | (simp; done) | (simp; omega) | assumption)) ?_)); refine h' _ ?_; clear h' K') | (refine aops_nil (hK _ ?_); clear hK K hgs gs; try simp only [aThen, aBlock]) | ((first | refine AWp.sreg (id := 4) dd45 rfl (fun gs K hgs hK => ?_) | refine AWp.reg (id := 4) dd45 rfl (fun gs K hgs hK => ?_)); replace hgs : gs 6 = some 16 := hgs 6) | (refine AWp.sreg  dd45 rfl (fun gs K hgs hK => ?_); replace hgs : Nat.succ 0 = 1 := rfl) | refine AWp.seq ?_ | refine ARounds.step ?_ | refine AWp.block ?_ | refine AWp.label ?_ | (refine AWp.ret ?_; try simp only [aThen, aBlock]) | (refine AWp.skip ?_; try simp only [aThen, aBlock]) | (refine AWp.exit ?_; try simp only [aThen, aBlock, Nat.reduceEqDiff, reduceIte]) | (refine AWp.reg  dd45 rfl (fun gs K hgs hK => ?_); replace hgs : Nat.succ 0 = 1 := rfl) | (refine AWp.cond rfl (fun h => ?_) (fun h => ?_) <;> (try simp only [decide_eq_true_eq, decide_eq_false_iff_not, beq_iff_eq, bne_iff_ne, ne_eq, Bool.not_eq_true', Bool.not_eq_false', beq_eq_false_iff_ne, Bool.true_eq_false, Bool.false_eq_true, Int.not_le, Int.not_lt, Bool.and_eq_true, Bool.and_eq_false_iff, Bool.or_eq_true, Bool.or_eq_false_iff, bne_eq_false_iff_eq, reduceCtorEq] at h) <;> (try first | contradiction | (exfalso; omega) | (exfalso; revert h; simp; done) | (exfalso; revert h; simp; omega)))))
      · refine ⟨by omega, by rw [hy]; simp only; omega, Wk.ofCut 0 0 rfl rfl ?_⟩
        simp [subE, eget, ASt.drop, dropE, keepR, lowE, AV.lowB, lowL, Nat.blt, Nat.ble]
      · obtain rfl : k = l.length := by omega
        simp only [Out, outA, outL, resA, go_sem, simprocAttr]
        have : fixL l = true := by
          unfold fixL
          rw [Bool.not_eq_true', List.any_eq_false]
          intro x hx
          obtain ⟨j, hj, e⟩ := List.mem_iff_getElem.1 hx
          have := hall j hj
          rw [List.getD_eq_getElem?_getD, List.getElem?_eq_getElem hj] at this
          simp only [Option.getD_some, e] at this
          simp; omega
        rw [this]
        exact AVle.refl _
end Go.Proofs.Yteohklfoggiojaa
namespace Go.Proofs.Yteohklfoggiojaa
open Go.AL Go.RowKit
set_option linter.unusedSimpArgs false
set_option linter.unusedVariables false
set_option maxRecDepth 10000
set_option maxHeartbeats 4000000
def dd89 : Nat → List (List Nat)
  | 0 => [[], [4]]
  | 1 => [[], [0], [1], [5, 6], [7], [8]]
  | _ => []
theorem rNum_c (x p : Int) : ACall Try.prog 89 [.lit (.int .i64 x), .lit (.int .i64 p)] (nodesV [⟨1, x, 0, 0, p⟩]) := by
  unfold nodesV
  refine acall_of (n := 9) (rs := [.tmp 4]) Try.func89 rfl (by kernel_rfl) rfl rfl rfl ?_; simp only [argsE, Nat.reduceAdd]
  repeat (any_goals (first | (refine aops_cons (fun K' h' => ?_); simp only [go_sem, simprocAttr, Node.cells]; (try simp (disch := omega) only [wrap_id, getD_map_in, Int.toNat_natCast, Node.cells]); (repeat (refine And.intro (by (first | omega | (simp; done) | (simp; omega) | assumption)) ?_)); refine h' _ ?_; clear h' K') | (refine aops_nil (hK _ ?_); clear hK K gs; try simp only [aThen, aBlock]) | (refine AWp.sreg  dd89 rfl (fun gs K hgs hK => ?_); clear hgs) | refine AWp.seq ?_ | refine ARounds.step ?_ | refine AWp.block ?_ | refine AWp.label ?_ | (refine AWp.ret ?_; try simp only [aThen, aBlock]) | (refine AWp.skip ?_; try simp only [aThen, aBlock]) | (refine AWp.exit ?_; try simp only [aThen, aBlock, Nat.reduceEqDiff, reduceIte]) | (refine AWp.reg  dd89 rfl (fun gs K hgs hK => ?_); clear hgs) | (refine AWp.cond rfl (fun h => ?_) (fun h => ?_) <;> (try simp only [decide_eq_true_eq, decide_eq_false_iff_not, beq_iff_eq, bne_iff_ne, ne_eq, Bool.not_eq_true', Bool.not_eq_false', beq_eq_false_iff_ne, Bool.true_eq_false, Bool.false_eq_true, Int.not_le, Int.not_lt, Bool.and_eq_true, Bool.and_eq_false_iff, Bool.or_eq_true, Bool.or_eq_false_iff, bne_eq_false_iff_eq, reduceCtorEq] at h) <;> (try first | contradiction | (exfalso; omega) | (exfalso; revert h; simp; done) | (exfalso; revert h; simp; omega)))))
  simp only [Out, outA, outL, resA, go_sem, simprocAttr]
  exact AVle.refl _
theorem rMade_0 (k0 n p : Int) : ACall Try.prog 29 [.lit (.int .u8 k0), .lit (.int .i64 n), .lit (.int .i64 p), .lit (.slice none 0 0)] (nodesV [⟨k0, n, 0, 0, p⟩]) := by
  unfold nodesV
  refine acall_of (n := 79) (rs := [.tmp 8]) Try.func29 rfl (by kernel_rfl) rfl rfl rfl ?_; simp only [argsE, Nat.reduceAdd]
  repeat (any_goals (first | (refine aops_cons (fun K' h' => ?_); simp only [go_sem, simprocAttr, Node.cells]; (try ((first | refine ⟨_, hCo, ?_⟩ | refine ⟨_, fun _ => hCo, ?_⟩); (try simp only [go_sem, simprocAttr, Node.cells]))); (try simp (disch := omega) only [wrap_id, getD_map_in, Int.toNat_natCast, Node.cells]); (repeat (refine And.intro (by (first | omega | (simp; done) | (simp; omega) | assumption)) ?_)); refine h' _ ?_; clear h' K') | (refine aops_nil (hK _ ?_); clear hK K gs; try simp only [aThen, aBlock]) | (refine AWp.sreg  dd29 rfl (fun gs K hgs hK => ?_); clear hgs) | refine AWp.seq ?_ | refine ARounds.step ?_ | refine AWp.block ?_ | refine AWp.label ?_ | (refine AWp.ret ?_; try simp only [aThen, aBlock]) | (refine AWp.skip ?_; try simp only [aThen, aBlock]) | (refine AWp.exit ?_; try simp only [aThen, aBlock, Nat.reduceEqDiff, reduceIte]) | (refine AWp.reg  dd29 rfl (fun gs K hgs hK => ?_); clear hgs) | (refine AWp.cond rfl (fun h => ?_) (fun h => ?_) <;> (try simp only [decide_eq_true_eq, decide_eq_false_iff_not, beq_iff_eq, bne_iff_ne, ne_eq, Bool.not_eq_true', Bool.not_eq_false', beq_eq_false_iff_ne, Bool.true_eq_false, Bool.false_eq_true, Int.not_le, Int.not_lt, Bool.and_eq_true, Bool.and_eq_false_iff, Bool.or_eq_true, Bool.or_eq_false_iff, bne_eq_false_iff_eq, reduceCtorEq] at h) <;> (try first | contradiction | (exfalso; omega) | (exfalso; revert h; simp; done) | (exfalso; revert h; simp; omega)))))
  refine AWp.loopR 1 ?_
  repeat (any_goals (first | (refine aops_cons (fun K' h' => ?_); simp only [go_sem, simprocAttr, Node.cells]; (try ((first | refine ⟨_, hCo, ?_⟩ | refine ⟨_, fun _ => hCo, ?_⟩); (try simp only [go_sem, simprocAttr, Node.cells]))); (try simp (disch := omega) only [wrap_id, getD_map_in, Int.toNat_natCast, Node.cells]); (repeat (refine And.intro (by (first | omega | (simp; done) | (simp; omega) | assumption)) ?_)); refine h' _ ?_; clear h' K') | (refine aops_nil (hK _ ?_); clear hK K gs; try simp only [aThen, aBlock]) | (refine AWp.sreg  dd29 rfl (fun gs K hgs hK => ?_); clear hgs) | refine AWp.seq ?_ | refine ARounds.step ?_ | refine AWp.block ?_ | refine AWp.label ?_ | (refine AWp.ret ?_; try simp only [aThen, aBlock]) | (refine AWp.skip ?_; try simp only [aThen, aBlock]) | (refine AWp.exit ?_; try simp only [aThen, aBlock, Nat.reduceEqDiff, reduceIte]) | (refine AWp.reg  dd29 rfl (fun gs K hgs hK => ?_); clear hgs) | (refine AWp.cond rfl (fun h => ?_) (fun h => ?_) <;> (try simp only [decide_eq_true_eq, decide_eq_false_iff_not, beq_iff_eq, bne_iff_ne, ne_eq, Bool.not_eq_true', Bool.not_eq_false', beq_eq_false_iff_ne, Bool.true_eq_false, Bool.false_eq_true, Int.not_le, Int.not_lt, Bool.and_eq_true, Bool.and_eq_false_iff, Bool.or_eq_true, Bool.or_eq_false_iff, bne_eq_false_iff_eq, reduceCtorEq] at h) <;> (try first | contradiction | (exfalso; omega) | (exfalso; revert h; simp; done) | (exfalso; revert h; simp; omega)))))
  all_goals simp only [Out, outA, outL, resA, go_sem, simprocAttr]
  all_goals exact AVle.refl _
def fr : Option Ex → AV
  | some g => .tup [nodesV (g.fl 0), .lit (.bool true)]
  | none => .tup [nodesV [], .lit (.bool false)]
def dd72 : Nat → List (List Nat)
  | 0 => [[], [6], [7]]
  | 1 => [[], [], [9], [], [11], [10, 12], [13]]
  | 2 => [[], [], [15], [], [17], [16, 18], [19]]
  | 3 => [[0, 1, 14], [2], [8], [20, 21], [22], []]
  | 4 => [[14], [1], [24]]
  | 5 => [[0, 23], [2], [8], [25, 26], [27], []]
  | 6 => [[8, 23], [], [29], [30]]
  | 7 => [[28], [0], [2], [31, 32], [33], []]
  | 8 => [[28], [], [35], [36]]
  | 9 => [[34], [], [0], [38], [2], [39, 40], [41], [37, 42], [43], []]
  | 10 => [[0, 2, 34], [], []]
  | _ => []
theorem rForm_c (x : Int) (t : Bool) (p : Int) (hx : i64B x) (ht : t = true → x = 0 ∨ x = 1) : ACall Try.prog 72 [.lit (.int .i64 x), .lit (.bool t), .lit (.int .i64 p)] (fr (formE x t p)) := by
  have hB := hx
  unfold i64B at hB
  have hF := rNum_c 0 p
  cases t
  · have hF2 := rNum_c x p
    by_cases h0 : 0 ≤ x
    · rw [show formE x false p = some (numE x p) by unfold formE; rw [if_neg (by decide), if_pos h0]]
      simp only [fr, numE, Ex.fl, Hd.node]
      unfold nodesV at *
      refine acall_of (n := 44) (rs := [.tmp 6, .tmp 7]) Try.func72 rfl (by kernel_rfl) rfl rfl rfl ?_; simp only [argsE, Nat.reduceAdd]
      repeat (any_goals (first | (refine aops_cons (fun K' h' => ?_); simp only [go_sem, simprocAttr, hgs, Node.cells]; (try ((first | refine ⟨_, hM, ?_⟩ | refine ⟨_, fun _ => hM, ?_⟩ | refine ⟨_, hF, ?_⟩ | refine ⟨_, fun _ => hF, ?_⟩ | refine ⟨_, hF2, ?_⟩ | refine ⟨_, fun _ => hF2, ?_⟩); (try simp only [go_sem, simprocAttr, hgs, Node.cells]))); (try simp (disch := omega) only [wrap_id, getD_map_in, Int.toNat_natCast, Node.cells]); (repeat (refine And.intro (by (first | omega | (simp; done) | (simp; omega) | assumption)) ?_)); refine h' _ ?_; clear h' K') | (refine aops_nil (hK _ ?_); clear hK K hgs gs; try simp only [aThen, aBlock]) | (refine aops_consF [] (fun K' h' => ?_); simp only [go_sem, simprocAttr, hgs, Node.cells]; refine ⟨_, hM, ?_⟩; (try simp only [go_sem, simprocAttr, hgs, Node.cells]); (repeat (refine And.intro (by (first | omega | (simp; done) | (simp; omega) | assumption)) ?_)); refine h' _ ?_; clear h' K') | ((first | refine AWp.sreg (id := 2) dd72 rfl (fun gs K hgs hK => ?_) | refine AWp.reg (id := 2) dd72 rfl (fun gs K hgs hK => ?_)); replace hgs : gs 1 = some 16 := hgs 1) | (refine AWp.sreg  dd72 rfl (fun gs K hgs hK => ?_); replace hgs : Nat.succ 0 = 1 := rfl) | refine AWp.seq ?_ | refine ARounds.step ?_ | refine AWp.block ?_ | refine AWp.label ?_ | (refine AWp.ret ?_; try simp only [aThen, aBlock]) | (refine AWp.skip ?_; try simp only [aThen, aBlock]) | (refine AWp.exit ?_; try simp only [aThen, aBlock, Nat.reduceEqDiff, reduceIte]) | (refine AWp.reg  dd72 rfl (fun gs K hgs hK => ?_); replace hgs : Nat.succ 0 = 1 := rfl) | (refine aops_consG (fun K' h' => ?_); simp only [go_sem, simprocAttr, hgs, Node.cells]; (try simp (disch := omega) only [wrap_id, getD_map_in, Int.toNat_natCast, Node.cells]); (repeat (refine And.intro (by (first | omega | (simp; done) | (simp; omega) | assumption)) ?_)); refine h' _ ?_; clear h' K') | (refine AWp.cond rfl (fun h => ?_) (fun h => ?_) <;> (try simp only [decide_eq_true_eq, decide_eq_false_iff_not, beq_iff_eq, bne_iff_ne, ne_eq, Bool.not_eq_true', Bool.not_eq_false', beq_eq_false_iff_ne, Bool.true_eq_false, Bool.false_eq_true, Int.not_le, Int.not_lt, Bool.and_eq_true, Bool.and_eq_false_iff, Bool.or_eq_true, Bool.or_eq_false_iff, bne_eq_false_iff_eq, reduceCtorEq] at h) <;> (try first | contradiction | (exfalso; omega) | (exfalso; revert h; simp; done) | (exfalso; revert h; simp; omega)))))
      all_goals simp only [Out, outA, outL, resA, go_sem, simprocAttr]
      all_goals exact AVle.refl _
    · by_cases h1 : -9223372036854775808 < x
      · rw [show formE x false p = some (.un ⟨5, 0, p⟩ (numE (-x) p)) by unfold formE; rw [if_neg (by decide), if_neg h0, if_pos h1]]
        have hF2 := rNum_c (-x) p
        have hM := rMade_1 5 0 p [⟨1, -x, 0, 0, p⟩] (by simp) (by simp) num_B
        have hm : made1 5 0 p [⟨1, -x, 0, 0, p⟩] = (Ex.un ⟨5, 0, p⟩ (numE (-x) p)).fl 0 := rfl
        rw [hm] at hM
        simp only [fr]
        clear hm
        generalize (Ex.un ⟨5, 0, p⟩ (numE (-x) p)).fl 0 = ml at *
        unfold nodesV at *
        refine acall_of (n := 44) (rs := [.tmp 6, .tmp 7]) Try.func72 rfl (by kernel_rfl) rfl rfl rfl ?_; simp only [argsE, Nat.reduceAdd]
        repeat (any_goals (first | (refine aops_cons (fun K' h' => ?_); simp only [go_sem, simprocAttr, hgs, Node.cells, Int.zero_sub]; (try ((first | refine ⟨_, hM, ?_⟩ | refine ⟨_, fun _ => hM, ?_⟩ | refine ⟨_, hF, ?_⟩ | refine ⟨_, fun _ => hF, ?_⟩ | refine ⟨_, hF2, ?_⟩ | refine ⟨_, fun _ => hF2, ?_⟩); (try simp only [go_sem, simprocAttr, hgs, Node.cells, Int.zero_sub]))); (try simp (disch := omega) only [wrap_id, getD_map_in, Int.toNat_natCast, Node.cells, Int.zero_sub]); (repeat (refine And.intro (by (first | omega | (simp; done) | (simp; omega) | assumption)) ?_)); refine h' _ ?_; clear h' K') | (refine aops_nil (hK _ ?_); clear hK K hgs gs; try simp only [aThen, aBlock]) | (refine aops_consF [] (fun K' h' => ?_); simp only [go_sem, simprocAttr, hgs, Node.cells, Int.zero_sub]; refine ⟨_, hM, ?_⟩; (try simp only [go_sem, simprocAttr, hgs, Node.cells, Int.zero_sub]); (repeat (refine And.intro (by (first | omega | (simp; done) | (simp; omega) | assumption)) ?_)); refine h' _ ?_; clear h' K') | ((first | refine AWp.sreg (id := 2) dd72 rfl (fun gs K hgs hK => ?_) | refine AWp.reg (id := 2) dd72 rfl (fun gs K hgs hK => ?_)); replace hgs : gs 1 = some 16 := hgs 1) | (refine AWp.sreg  dd72 rfl (fun gs K hgs hK => ?_); replace hgs : Nat.succ 0 = 1 := rfl) | refine AWp.seq ?_ | refine ARounds.step ?_ | refine AWp.block ?_ | refine AWp.label ?_ | (refine AWp.ret ?_; try simp only [aThen, aBlock]) | (refine AWp.skip ?_; try simp only [aThen, aBlock]) | (refine AWp.exit ?_; try simp only [aThen, aBlock, Nat.reduceEqDiff, reduceIte]) | (refine AWp.reg  dd72 rfl (fun gs K hgs hK => ?_); replace hgs : Nat.succ 0 = 1 := rfl) | (refine aops_consG (fun K' h' => ?_); simp only [go_sem, simprocAttr, hgs, Node.cells, Int.zero_sub]; (try simp (disch := omega) only [wrap_id, getD_map_in, Int.toNat_natCast, Node.cells, Int.zero_sub]); (repeat (refine And.intro (by (first | omega | (simp; done) | (simp; omega) | assumption)) ?_)); refine h' _ ?_; clear h' K') | (refine AWp.cond rfl (fun h => ?_) (fun h => ?_) <;> (try simp only [decide_eq_true_eq, decide_eq_false_iff_not, beq_iff_eq, bne_iff_ne, ne_eq, Bool.not_eq_true', Bool.not_eq_false', beq_eq_false_iff_ne, Bool.true_eq_false, Bool.false_eq_true, Int.not_le, Int.not_lt, Bool.and_eq_true, Bool.and_eq_false_iff, Bool.or_eq_true, Bool.or_eq_false_iff, bne_eq_false_iff_eq, reduceCtorEq] at h) <;> (try first | contradiction | (exfalso; omega) | (exfalso; revert h; simp; done) | (exfalso; revert h; simp; omega)))))
        all_goals first
          | (exfalso; omega)
          | skip
        all_goals simp only [Out, outA, outL, resA, go_sem, simprocAttr]
        all_goals exact AVle.refl _
      · obtain rfl : x = -9223372036854775808 := by omega
        rw [show formE (-9223372036854775808) false p = none from rfl]
        simp only [fr]
        unfold nodesV at *
        refine acall_of (n := 44) (rs := [.tmp 6, .tmp 7]) Try.func72 rfl (by kernel_rfl) rfl rfl rfl ?_; simp only [argsE, Nat.reduceAdd]
        repeat (any_goals (first | (refine aops_cons (fun K' h' => ?_); simp only [go_sem, simprocAttr, hgs, Node.cells]; (try ((first | refine ⟨_, hM, ?_⟩ | refine ⟨_, fun _ => hM, ?_⟩ | refine ⟨_, hF, ?_⟩ | refine ⟨_, fun _ => hF, ?_⟩ | refine ⟨_, hF2, ?_⟩ | refine ⟨_, fun _ => hF2, ?_⟩); (try simp only [go_sem, simprocAttr, hgs, Node.cells]))); (try simp (disch := omega) only [wrap_id, getD_map_in, Int.toNat_natCast, Node.cells]); (repeat (refine And.intro (by (first | omega | (simp; done) | (simp; omega) | assumption)) ?_)); refine h' _ ?_; clear h' K') | (refine aops_nil (hK _ ?_); clear hK K hgs gs; try simp only [aThen, aBlock]) | (refine aops_consF [] (fun K' h' => ?_); simp only [go_sem, simprocAttr, hgs, Node.cells]; refine ⟨_, hM, ?_⟩; (try simp only [go_sem, simprocAttr, hgs, Node.cells]); (repeat (refine And.intro (by (first | omega | (simp; done) | (simp; omega) | assumption)) ?_)); refine h' _ ?_; clear h' K') | ((first | refine AWp.sreg (id := 2) dd72 rfl (fun gs K hgs hK => ?_) | refine AWp.reg (id := 2) dd72 rfl (fun gs K hgs hK => ?_)); replace hgs : gs 1 = some 16 := hgs 1) | (refine AWp.sreg  dd72 rfl (fun gs K hgs hK => ?_); replace hgs : Nat.succ 0 = 1 := rfl) | refine AWp.seq ?_ | refine ARounds.step ?_ | refine AWp.block ?_ | refine AWp.label ?_ | (refine AWp.ret ?_; try simp only [aThen, aBlock]) | (refine AWp.skip ?_; try simp only [aThen, aBlock]) | (refine AWp.exit ?_; try simp only [aThen, aBlock, Nat.reduceEqDiff, reduceIte]) | (refine AWp.reg  dd72 rfl (fun gs K hgs hK => ?_); replace hgs : Nat.succ 0 = 1 := rfl) | (refine aops_consG (fun K' h' => ?_); simp only [go_sem, simprocAttr, hgs, Node.cells]; (try simp (disch := omega) only [wrap_id, getD_map_in, Int.toNat_natCast, Node.cells]); (repeat (refine And.intro (by (first | omega | (simp; done) | (simp; omega) | assumption)) ?_)); refine h' _ ?_; clear h' K') | (refine AWp.cond rfl (fun h => ?_) (fun h => ?_) <;> (try simp only [decide_eq_true_eq, decide_eq_false_iff_not, beq_iff_eq, bne_iff_ne, ne_eq, Bool.not_eq_true', Bool.not_eq_false', beq_eq_false_iff_ne, Bool.true_eq_false, Bool.false_eq_true, Int.not_le, Int.not_lt, Bool.and_eq_true, Bool.and_eq_false_iff, Bool.or_eq_true, Bool.or_eq_false_iff, bne_eq_false_iff_eq, reduceCtorEq] at h) <;> (try first | contradiction | (exfalso; omega) | (exfalso; revert h; simp; done) | (exfalso; revert h; simp; omega)))))
        all_goals simp only [Out, outA, outL, resA, go_sem, simprocAttr]
        all_goals exact AVle.tup ⟨AVle.nil 5, AVle.refl _, trivial⟩
  · rw [show formE x true p = some (.bin ⟨if x = 0 then 17 else 16, 0, p⟩ (numE 0 p) (numE 0 p)) from if_pos rfl]
    have key : ∀ k : Int, ACall Try.prog 29 [.lit (.int .u8 k), .lit (.int .i64 0), .lit (.int .i64 p), partsV [[⟨1, 0, 0, 0, p⟩], [⟨1, 0, 0, 0, p⟩]]] (nodesV ((Ex.bin ⟨k, 0, p⟩ (numE 0 p) (numE 0 p)).fl 0)) := fun k =>
      rMade_2 k 0 p [⟨1, 0, 0, 0, p⟩] [⟨1, 0, 0, 0, p⟩] (by simp) (by simp) num_B (by simp) (by simp) num_B
    rcases ht rfl with rfl | rfl
    · have hM := key 17
      rw [if_pos rfl]
      simp only [fr]
      clear key
      unfold partsV at hM
      generalize (Ex.bin ⟨17, 0, p⟩ (numE 0 p) (numE 0 p)).fl 0 = ml at *
      unfold nodesV at *
      refine acall_of (n := 44) (rs := [.tmp 6, .tmp 7]) Try.func72 rfl (by kernel_rfl) rfl rfl rfl ?_; simp only [argsE, Nat.reduceAdd]
      repeat (any_goals (first | (refine aops_cons (fun K' h' => ?_); simp only [go_sem, simprocAttr, hgs, Node.cells]; (try ((first | refine ⟨_, hM, ?_⟩ | refine ⟨_, fun _ => hM, ?_⟩ | refine ⟨_, hF, ?_⟩ | refine ⟨_, fun _ => hF, ?_⟩ | refine ⟨_, hF2, ?_⟩ | refine ⟨_, fun _ => hF2, ?_⟩); (try simp only [go_sem, simprocAttr, hgs, Node.cells]))); (try simp (disch := omega) only [wrap_id, getD_map_in, Int.toNat_natCast, Node.cells]); (repeat (refine And.intro (by (first | omega | (simp; done) | (simp; omega) | assumption)) ?_)); refine h' _ ?_; clear h' K') | (refine aops_nil (hK _ ?_); clear hK K hgs gs; try simp only [aThen, aBlock]) | (refine aops_consF [] (fun K' h' => ?_); simp only [go_sem, simprocAttr, hgs, Node.cells]; refine ⟨_, hM, ?_⟩; (try simp only [go_sem, simprocAttr, hgs, Node.cells]); (repeat (refine And.intro (by (first | omega | (simp; done) | (simp; omega) | assumption)) ?_)); refine h' _ ?_; clear h' K') | ((first | refine AWp.sreg (id := 2) dd72 rfl (fun gs K hgs hK => ?_) | refine AWp.reg (id := 2) dd72 rfl (fun gs K hgs hK => ?_)); replace hgs : gs 1 = some 16 := hgs 1) | (refine AWp.sreg  dd72 rfl (fun gs K hgs hK => ?_); replace hgs : Nat.succ 0 = 1 := rfl) | refine AWp.seq ?_ | refine ARounds.step ?_ | refine AWp.block ?_ | refine AWp.label ?_ | (refine AWp.ret ?_; try simp only [aThen, aBlock]) | (refine AWp.skip ?_; try simp only [aThen, aBlock]) | (refine AWp.exit ?_; try simp only [aThen, aBlock, Nat.reduceEqDiff, reduceIte]) | (refine AWp.reg  dd72 rfl (fun gs K hgs hK => ?_); replace hgs : Nat.succ 0 = 1 := rfl) | (refine aops_consG (fun K' h' => ?_); simp only [go_sem, simprocAttr, hgs, Node.cells]; (try simp (disch := omega) only [wrap_id, getD_map_in, Int.toNat_natCast, Node.cells]); (repeat (refine And.intro (by (first | omega | (simp; done) | (simp; omega) | assumption)) ?_)); refine h' _ ?_; clear h' K') | (refine AWp.cond rfl (fun h => ?_) (fun h => ?_) <;> (try simp only [decide_eq_true_eq, decide_eq_false_iff_not, beq_iff_eq, bne_iff_ne, ne_eq, Bool.not_eq_true', Bool.not_eq_false', beq_eq_false_iff_ne, Bool.true_eq_false, Bool.false_eq_true, Int.not_le, Int.not_lt, Bool.and_eq_true, Bool.and_eq_false_iff, Bool.or_eq_true, Bool.or_eq_false_iff, bne_eq_false_iff_eq, reduceCtorEq] at h) <;> (try first | contradiction | (exfalso; omega) | (exfalso; revert h; simp; done) | (exfalso; revert h; simp; omega)))))
      all_goals simp only [Out, outA, outL, resA, go_sem, simprocAttr]
      all_goals exact AVle.refl _
    · have hM := key 16
      rw [if_neg (by decide)]
      simp only [fr]
      clear key
      unfold partsV at hM
      generalize (Ex.bin ⟨16, 0, p⟩ (numE 0 p) (numE 0 p)).fl 0 = ml at *
      unfold nodesV at *
      refine acall_of (n := 44) (rs := [.tmp 6, .tmp 7]) Try.func72 rfl (by kernel_rfl) rfl rfl rfl ?_; simp only [argsE, Nat.reduceAdd]
      repeat (any_goals (first | (refine aops_cons (fun K' h' => ?_); simp only [go_sem, simprocAttr, hgs, Node.cells]; (try ((first | refine ⟨_, hM, ?_⟩ | refine ⟨_, fun _ => hM, ?_⟩ | refine ⟨_, hF, ?_⟩ | refine ⟨_, fun _ => hF, ?_⟩ | refine ⟨_, hF2, ?_⟩ | refine ⟨_, fun _ => hF2, ?_⟩); (try simp only [go_sem, simprocAttr, hgs, Node.cells]))); (try simp (disch := omega) only [wrap_id, getD_map_in, Int.toNat_natCast, Node.cells]); (repeat (refine And.intro (by (first | omega | (simp; done) | (simp; omega) | assumption)) ?_)); refine h' _ ?_; clear h' K') | (refine aops_nil (hK _ ?_); clear hK K hgs gs; try simp only [aThen, aBlock]) | (refine aops_consF [] (fun K' h' => ?_); simp only [go_sem, simprocAttr, hgs, Node.cells]; refine ⟨_, hM, ?_⟩; (try simp only [go_sem, simprocAttr, hgs, Node.cells]); (repeat (refine And.intro (by (first | omega | (simp; done) | (simp; omega) | assumption)) ?_)); refine h' _ ?_; clear h' K') | ((first | refine AWp.sreg (id := 2) dd72 rfl (fun gs K hgs hK => ?_) | refine AWp.reg (id := 2) dd72 rfl (fun gs K hgs hK => ?_)); replace hgs : gs 1 = some 16 := hgs 1) | (refine AWp.sreg  dd72 rfl (fun gs K hgs hK => ?_); replace hgs : Nat.succ 0 = 1 := rfl) | refine AWp.seq ?_ | refine ARounds.step ?_ | refine AWp.block ?_ | refine AWp.label ?_ | (refine AWp.ret ?_; try simp only [aThen, aBlock]) | (refine AWp.skip ?_; try simp only [aThen, aBlock]) | (refine AWp.exit ?_; try simp only [aThen, aBlock, Nat.reduceEqDiff, reduceIte]) | (refine AWp.reg  dd72 rfl (fun gs K hgs hK => ?_); replace hgs : Nat.succ 0 = 1 := rfl) | (refine aops_consG (fun K' h' => ?_); simp only [go_sem, simprocAttr, hgs, Node.cells]; (try simp (disch := omega) only [wrap_id, getD_map_in, Int.toNat_natCast, Node.cells]); (repeat (refine And.intro (by (first | omega | (simp; done) | (simp; omega) | assumption)) ?_)); refine h' _ ?_; clear h' K') | (refine AWp.cond rfl (fun h => ?_) (fun h => ?_) <;> (try simp only [decide_eq_true_eq, decide_eq_false_iff_not, beq_iff_eq, bne_iff_ne, ne_eq, Bool.not_eq_true', Bool.not_eq_false', beq_eq_false_iff_ne, Bool.true_eq_false, Bool.false_eq_true, Int.not_le, Int.not_lt, Bool.and_eq_true, Bool.and_eq_false_iff, Bool.or_eq_true, Bool.or_eq_false_iff, bne_eq_false_iff_eq, reduceCtorEq] at h) <;> (try first | contradiction | (exfalso; omega) | (exfalso; revert h; simp; done) | (exfalso; revert h; simp; omega)))))
      all_goals simp only [Out, outA, outL, resA, go_sem, simprocAttr]
      all_goals exact AVle.refl _
theorem countI_leaf {x : Hd} (h : x.ok) (k : x.kind ≤ 4) : countI x.kind = 0 := by rw [count_parts h.k1 h.k2, partsN_leaf h k]
theorem countI_un {x : Hd} (h : x.ok) (h1 : 4 < x.kind) (h2 : x.kind ≤ 6) : countI x.kind = 1 := by rw [count_parts h.k1 h.k2, partsN_un h1 h2]
theorem countI_bin {x : Hd} (h : x.ok) (h1 : 6 < x.kind) : countI x.kind = 2 := by rw [count_parts h.k1 h.k2, partsN_bin h h1]
def dd44 : Nat → List (List Nat)
  | 0 => [[], [4]]
  | 1 => [[], [], [], [12, 13], [14], [], [15]]
  | 2 => [[], [], [], [16, 17], [18]]
  | 3 => [[], [6], [19]]
  | 4 => [[20], [], [1], [], [21, 22, 23], [24]]
  | 6 => [[], [9]]
  | 7 => [[0, 5, 35], [8], [36]]
  | 8 => [[1, 8, 20, 35], []]
  | 9 => [[], [], [37], [38], [39]]
  | 10 => [[], [], [40]]
  | 11 => [[41], [10], [], [], [44], [43, 45], [46], [42, 47], [48]]
  | 12 => [[41], [11], [49]]
  | 13 => [[50], [10], [0], [], [53], [52, 54], [55], [51, 56], [57]]
  | 14 => [[0, 50], [], [58], [], [60], [5], [62], [10], [59, 61, 63, 64], [65]]
  | _ => []
def fo44 : Nat → List Nat
  | 5 => [0, 5, 8, 9]
  | _ => []
theorem rFolded_c {l : List Node} {e : Ex} (hx : IsEx l e) (hl : l.length ≤ 100) (ht : e.typ = true) (hn : nodesB l) : ∀ j : Nat, j < l.length → ACall Try.prog 44 [nodesV l, .lit (.int .i64 (j : Int))] (nodesV ((foldE (e.subE j)).fl 0)) := by
  intro j
  induction j using Nat.strongRecOn with
  | _ j ih =>
    intro hj
    have P := hx.partAt ht hn hj
    have hle := hx.len
    have hCu := rCut_c j (by omega) hx hj
    rw [P.cut] at hCu
    have hFx := fixed_c ((e.subE j).fl 0) (by rw [Ex.fl_length]; have := P.sz; omega)
    rw [Ex.fixL_fl _ 0 P.wf] at hFx
    have hV := rValue_c (by omega) hx rc0 rc0_B hn j hj
    rw [P.val rc0] at hV
    have hrc : rc0.cells = [.lit (.int .i64 0), .lit (.int .i64 0), .lit (.int .i64 0)] := rfl
    rw [hrc] at hV
    have hG := gives_c (e.subE j).hd.kind
    have hFo := rForm_c ((e.subE j).val rc0) (givesB (e.subE j).hd.kind) (e.subE j).hd.pos (Ex.val_B rc0_B P.nB) fun h => Ex.val_truth rc0 P.wf h
    have hy := P.node
    have hok := Ex.hd_ok P.wf
    cases hfrm : frm (e.subE j) with
    | some g =>
      obtain ⟨hf, hfo⟩ := frm_fixed hfrm
      rw [foldE_some hfrm]
      rw [hf] at hFx
      rw [hfo] at hFo
      simp only [fr] at hFo
      have hk := (e.subE j).nodeA_kind j
      have hp := (e.subE j).nodeA_pos j
      rw [← hk, ← hp] at hFo
      rw [← hk] at hG
      generalize (e.subE j).nodeA j = y at *
      generalize (e.subE j).fl 0 = cl at *
      generalize (e.subE j).val rc0 = v at *
      generalize g.fl 0 = gl at *
      obtain ⟨kd, nn, xa, xb, xp⟩ := y
      simp only at hG hFo
      generalize givesB kd = gv at *
      clear hk hp hok P ih hx ht hn hf hfo hfrm
      unfold nodesV at *
      refine acall_of (n := 66) (rs := [.tmp 4]) Try.func44 rfl (by kernel_rfl) rfl rfl rfl ?_; simp only [argsE, Nat.reduceAdd]
      repeat (any_goals (first | ((first | refine aops_cons (fun K' h' => ?_) | refine aopsD_cons (fun K' h' => ?_)); simp only [go_sem, simprocAttr, Node.cells, hy]; (try ((first | refine ⟨_, hM, ?_⟩ | refine ⟨_, fun _ => hM, ?_⟩ | refine ⟨_, hFo, ?_⟩ | refine ⟨_, fun _ => hFo, ?_⟩ | refine ⟨_, hR1, ?_⟩ | refine ⟨_, fun _ => hR1, ?_⟩ | refine ⟨_, hR2, ?_⟩ | refine ⟨_, fun _ => hR2, ?_⟩ | refine ⟨_, hCu, ?_⟩ | refine ⟨_, fun _ => hCu, ?_⟩ | refine ⟨_, hFx, ?_⟩ | refine ⟨_, fun _ => hFx, ?_⟩ | refine ⟨_, hV, ?_⟩ | refine ⟨_, fun _ => hV, ?_⟩ | refine ⟨_, hG, ?_⟩ | refine ⟨_, fun _ => hG, ?_⟩ | refine ⟨_, hCo, ?_⟩ | refine ⟨_, fun _ => hCo, ?_⟩); (try simp only [go_sem, simprocAttr, Node.cells, hy]))); (try simp (disch := omega) only [wrap_id, getD_map_in, Int.toNat_natCast, Node.cells, hy]); (repeat (refine And.intro (by (first | omega | (simp; done) | (simp; omega) | assumption)) ?_)); refine h' _ ?_; clear h' K') | (refine aops_nil (hK _ ?_); clear hK K gs; try simp only [aThen, aBlock]) | (refine aops_consF [] (fun K' h' => ?_); simp only [go_sem, simprocAttr, Node.cells, hy]; refine ⟨_, hM, ?_⟩; (try simp only [go_sem, simprocAttr, Node.cells, hy]); (repeat (refine And.intro (by (first | omega | (simp; done) | (simp; omega) | assumption)) ?_)); refine h' _ ?_; clear h' K') | (refine AWp.sreg  dd44 rfl (fun gs K hgs hK => ?_); clear hgs) | refine AWp.seq ?_ | refine ARounds.step ?_ | refine AWp.block ?_ | refine AWp.label ?_ | (refine AWp.ret ?_; try simp only [aThen, aBlock]) | (refine AWp.skip ?_; try simp only [aThen, aBlock]) | (refine AWp.exit ?_; try simp only [aThen, aBlock, Nat.reduceEqDiff, reduceIte]) | (refine AWp.reg  dd44 rfl (fun gs K hgs hK => ?_); clear hgs) | ((first | refine AWp.sregD  fo44 mo_fact (by kernel_rfl) (fun gs K hgs hK => ?_) | refine AWp.regD  fo44 mo_fact (by kernel_rfl) (fun gs K hgs hK => ?_)); clear hgs) | (refine aopsD_nil (hK _ ?_); clear hK K gs; simp only [fo44]; simp only [ASt.prune, pruneE, keepB, keepR, Bool.or_false, Bool.or_true, Bool.true_or, Bool.false_or, reduceIte, Bool.or_self, Bool.false_eq_true, aThen, aBlock, Nat.reduceEqDiff]) | (refine AWp.cond rfl (fun h => ?_) (fun h => ?_) <;> (try simp only [decide_eq_true_eq, decide_eq_false_iff_not, beq_iff_eq, bne_iff_ne, ne_eq, Bool.not_eq_true', Bool.not_eq_false', beq_eq_false_iff_ne, Bool.true_eq_false, Bool.false_eq_true, Int.not_le, Int.not_lt, Bool.and_eq_true, Bool.and_eq_false_iff, Bool.or_eq_true, Bool.or_eq_false_iff, bne_eq_false_iff_eq, reduceCtorEq] at h) <;> (try first | contradiction | (exfalso; omega) | (exfalso; revert h; simp; done) | (exfalso; revert h; simp; omega)))))
      all_goals simp only [Out, outA, outL, resA, go_sem, simprocAttr]
      all_goals exact AVle.refl _
    | none =>
      have hfd : (e.subE j).fixed = false ∨ ((e.subE j).fixed = true ∧ formE ((e.subE j).val rc0) (givesB (e.subE j).hd.kind) (e.subE j).hd.pos = none) := by
        unfold frm at hfrm
        split at hfrm
        · exact .inr ⟨by assumption, hfrm⟩
        · rename_i h
          exact .inl (by simpa using h)
      generalize hcl : Ex.fl 0 (e.subE j) = cl at *
      generalize hv : Ex.val rc0 (e.subE j) = v at *
      generalize hfx : (e.subE j).fixed = fx at *
      have hwf := P.wf
      have htyp := P.typ
      have hnB := P.nB
      have hsz := P.sz
      clear P hcl hv
      cases hs : e.subE j with
      | leaf x =>
        rw [hs] at hfrm hfd hG hFo hy hwf
        have hCo := countI_leaf hwf.1 hwf.2
        have hCo := count_c x.kind
        rw [countI_leaf hwf.1 hwf.2] at hCo
        have hM := rMade_0 x.kind x.n x.pos
        have hfl : foldE (.leaf x) = .leaf x := by simp [foldE, hfrm]
        rw [hfl]
        simp only [Ex.fl, Ex.nodeA, Hd.node, Ex.hd] at hy hG hFo hfd ⊢
        clear ih hx ht hn hs hfrm hfx hok hwf htyp hnB hfl
        obtain ⟨kd, nn, xp⟩ := x
        simp only at *
        generalize givesB kd = gv at *
        rcases hfd with rfl | ⟨rfl, hfo⟩
        · clear hFo
          unfold nodesV at *
          refine acall_of (n := 66) (rs := [.tmp 4]) Try.func44 rfl (by kernel_rfl) rfl rfl rfl ?_; simp only [argsE, Nat.reduceAdd]
          repeat (any_goals (first | ((first | refine aops_cons (fun K' h' => ?_) | refine aopsD_cons (fun K' h' => ?_)); simp only [go_sem, simprocAttr, Node.cells, hy]; (try ((first | refine ⟨_, hM, ?_⟩ | refine ⟨_, fun _ => hM, ?_⟩ | refine ⟨_, hFo, ?_⟩ | refine ⟨_, fun _ => hFo, ?_⟩ | refine ⟨_, hR1, ?_⟩ | refine ⟨_, fun _ => hR1, ?_⟩ | refine ⟨_, hR2, ?_⟩ | refine ⟨_, fun _ => hR2, ?_⟩ | refine ⟨_, hCu, ?_⟩ | refine ⟨_, fun _ => hCu, ?_⟩ | refine ⟨_, hFx, ?_⟩ | refine ⟨_, fun _ => hFx, ?_⟩ | refine ⟨_, hV, ?_⟩ | refine ⟨_, fun _ => hV, ?_⟩ | refine ⟨_, hG, ?_⟩ | refine ⟨_, fun _ => hG, ?_⟩ | refine ⟨_, hCo, ?_⟩ | refine ⟨_, fun _ => hCo, ?_⟩); (try simp only [go_sem, simprocAttr, Node.cells, hy]))); (try simp (disch := omega) only [wrap_id, getD_map_in, Int.toNat_natCast, Node.cells, hy]); (repeat (refine And.intro (by (first | omega | (simp; done) | (simp; omega) | assumption)) ?_)); refine h' _ ?_; clear h' K') | (refine aops_nil (hK _ ?_); clear hK K gs; try simp only [aThen, aBlock]) | (refine aops_consF [] (fun K' h' => ?_); simp only [go_sem, simprocAttr, Node.cells, hy]; refine ⟨_, hM, ?_⟩; (try simp only [go_sem, simprocAttr, Node.cells, hy]); (repeat (refine And.intro (by (first | omega | (simp; done) | (simp; omega) | assumption)) ?_)); refine h' _ ?_; clear h' K') | (refine AWp.sreg  dd44 rfl (fun gs K hgs hK => ?_); clear hgs) | refine AWp.seq ?_ | refine ARounds.step ?_ | refine AWp.block ?_ | refine AWp.label ?_ | (refine AWp.ret ?_; try simp only [aThen, aBlock]) | (refine AWp.skip ?_; try simp only [aThen, aBlock]) | (refine AWp.exit ?_; try simp only [aThen, aBlock, Nat.reduceEqDiff, reduceIte]) | (refine AWp.reg  dd44 rfl (fun gs K hgs hK => ?_); clear hgs) | ((first | refine AWp.sregD  fo44 mo_fact (by kernel_rfl) (fun gs K hgs hK => ?_) | refine AWp.regD  fo44 mo_fact (by kernel_rfl) (fun gs K hgs hK => ?_)); clear hgs) | (refine aopsD_nil (hK _ ?_); clear hK K gs; simp only [fo44]; simp only [ASt.prune, pruneE, keepB, keepR, Bool.or_false, Bool.or_true, Bool.true_or, Bool.false_or, reduceIte, Bool.or_self, Bool.false_eq_true, aThen, aBlock, Nat.reduceEqDiff]) | (refine AWp.cond rfl (fun h => ?_) (fun h => ?_) <;> (try simp only [decide_eq_true_eq, decide_eq_false_iff_not, beq_iff_eq, bne_iff_ne, ne_eq, Bool.not_eq_true', Bool.not_eq_false', beq_eq_false_iff_ne, Bool.true_eq_false, Bool.false_eq_true, Int.not_le, Int.not_lt, Bool.and_eq_true, Bool.and_eq_false_iff, Bool.or_eq_true, Bool.or_eq_false_iff, bne_eq_false_iff_eq, reduceCtorEq] at h) <;> (try first | contradiction | (exfalso; omega) | (exfalso; revert h; simp; done) | (exfalso; revert h; simp; omega)))))
          all_goals simp only [Out, outA, outL, resA, go_sem, simprocAttr]
          all_goals exact AVle.refl _
        · rw [hfo] at hFo
          simp only [fr] at hFo
          unfold nodesV at *
          refine acall_of (n := 66) (rs := [.tmp 4]) Try.func44 rfl (by kernel_rfl) rfl rfl rfl ?_; simp only [argsE, Nat.reduceAdd]
          repeat (any_goals (first | ((first | refine aops_cons (fun K' h' => ?_) | refine aopsD_cons (fun K' h' => ?_)); simp only [go_sem, simprocAttr, Node.cells, hy]; (try ((first | refine ⟨_, hM, ?_⟩ | refine ⟨_, fun _ => hM, ?_⟩ | refine ⟨_, hFo, ?_⟩ | refine ⟨_, fun _ => hFo, ?_⟩ | refine ⟨_, hR1, ?_⟩ | refine ⟨_, fun _ => hR1, ?_⟩ | refine ⟨_, hR2, ?_⟩ | refine ⟨_, fun _ => hR2, ?_⟩ | refine ⟨_, hCu, ?_⟩ | refine ⟨_, fun _ => hCu, ?_⟩ | refine ⟨_, hFx, ?_⟩ | refine ⟨_, fun _ => hFx, ?_⟩ | refine ⟨_, hV, ?_⟩ | refine ⟨_, fun _ => hV, ?_⟩ | refine ⟨_, hG, ?_⟩ | refine ⟨_, fun _ => hG, ?_⟩ | refine ⟨_, hCo, ?_⟩ | refine ⟨_, fun _ => hCo, ?_⟩); (try simp only [go_sem, simprocAttr, Node.cells, hy]))); (try simp (disch := omega) only [wrap_id, getD_map_in, Int.toNat_natCast, Node.cells, hy]); (repeat (refine And.intro (by (first | omega | (simp; done) | (simp; omega) | assumption)) ?_)); refine h' _ ?_; clear h' K') | (refine aops_nil (hK _ ?_); clear hK K gs; try simp only [aThen, aBlock]) | (refine aops_consF [] (fun K' h' => ?_); simp only [go_sem, simprocAttr, Node.cells, hy]; refine ⟨_, hM, ?_⟩; (try simp only [go_sem, simprocAttr, Node.cells, hy]); (repeat (refine And.intro (by (first | omega | (simp; done) | (simp; omega) | assumption)) ?_)); refine h' _ ?_; clear h' K') | (refine AWp.sreg  dd44 rfl (fun gs K hgs hK => ?_); clear hgs) | refine AWp.seq ?_ | refine ARounds.step ?_ | refine AWp.block ?_ | refine AWp.label ?_ | (refine AWp.ret ?_; try simp only [aThen, aBlock]) | (refine AWp.skip ?_; try simp only [aThen, aBlock]) | (refine AWp.exit ?_; try simp only [aThen, aBlock, Nat.reduceEqDiff, reduceIte]) | (refine AWp.reg  dd44 rfl (fun gs K hgs hK => ?_); clear hgs) | ((first | refine AWp.sregD  fo44 mo_fact (by kernel_rfl) (fun gs K hgs hK => ?_) | refine AWp.regD  fo44 mo_fact (by kernel_rfl) (fun gs K hgs hK => ?_)); clear hgs) | (refine aopsD_nil (hK _ ?_); clear hK K gs; simp only [fo44]; simp only [ASt.prune, pruneE, keepB, keepR, Bool.or_false, Bool.or_true, Bool.true_or, Bool.false_or, reduceIte, Bool.or_self, Bool.false_eq_true, aThen, aBlock, Nat.reduceEqDiff]) | (refine AWp.cond rfl (fun h => ?_) (fun h => ?_) <;> (try simp only [decide_eq_true_eq, decide_eq_false_iff_not, beq_iff_eq, bne_iff_ne, ne_eq, Bool.not_eq_true', Bool.not_eq_false', beq_eq_false_iff_ne, Bool.true_eq_false, Bool.false_eq_true, Int.not_le, Int.not_lt, Bool.and_eq_true, Bool.and_eq_false_iff, Bool.or_eq_true, Bool.or_eq_false_iff, bne_eq_false_iff_eq, reduceCtorEq] at h) <;> (try first | contradiction | (exfalso; omega) | (exfalso; revert h; simp; done) | (exfalso; revert h; simp; omega)))))
          all_goals simp only [Out, outA, outL, resA, go_sem, simprocAttr]
          all_goals exact AVle.refl _
      | un x g =>
        obtain ⟨q0, q1, q2⟩ := Ex.subE_un (by omega) hs
        rw [hs] at hfrm hfd hG hFo hy hwf htyp hnB hsz
        have hCo := count_c x.kind
        rw [countI_un hwf.1 hwf.2.1 hwf.2.2.1] at hCo
        have hR1 := ih (j - 1) (by omega) (by omega)
        rw [q2] at hR1
        simp only [Ex.typ, Bool.and_eq_true] at htyp
        simp only [Ex.sz] at hsz
        obtain ⟨k1, k2, k3, k4⟩ := fold_ok hwf.2.2.2 htyp.2 hnB (by omega)
        have hM := rMade_1 x.kind x.n x.pos ((foldE g).fl 0) k2 k3 k4
        rw [(k1.made1 hwf.1 hwf.2.1 hwf.2.2.1).2] at hM
        have hfl : foldE (.un x g) = .un x (foldE g) := by simp [foldE, hfrm]
        rw [hfl]
        clear k1 k2 k3 k4 hfl
        generalize Ex.fl 0 (Ex.un x (foldE g)) = out at *
        generalize Ex.fl 0 (foldE g) = pa at *
        simp only [Ex.nodeA, Hd.node, Ex.hd] at hy hG hFo hfd ⊢
        clear ih hx ht hn hs hfrm hfx hok hwf htyp hnB q2
        obtain ⟨kd, nn, xp⟩ := x
        simp only at *
        generalize givesB kd = gv at *
        rcases hfd with rfl | ⟨rfl, hfo⟩
        · clear hFo
          unfold nodesV at *
          refine acall_of (n := 66) (rs := [.tmp 4]) Try.func44 rfl (by kernel_rfl) rfl rfl rfl ?_; simp only [argsE, Nat.reduceAdd]
          repeat (any_goals (first | ((first | refine aops_cons (fun K' h' => ?_) | refine aopsD_cons (fun K' h' => ?_)); simp only [go_sem, simprocAttr, Node.cells, hy]; (try ((first | refine ⟨_, hM, ?_⟩ | refine ⟨_, fun _ => hM, ?_⟩ | refine ⟨_, hFo, ?_⟩ | refine ⟨_, fun _ => hFo, ?_⟩ | refine ⟨_, hR1, ?_⟩ | refine ⟨_, fun _ => hR1, ?_⟩ | refine ⟨_, hR2, ?_⟩ | refine ⟨_, fun _ => hR2, ?_⟩ | refine ⟨_, hCu, ?_⟩ | refine ⟨_, fun _ => hCu, ?_⟩ | refine ⟨_, hFx, ?_⟩ | refine ⟨_, fun _ => hFx, ?_⟩ | refine ⟨_, hV, ?_⟩ | refine ⟨_, fun _ => hV, ?_⟩ | refine ⟨_, hG, ?_⟩ | refine ⟨_, fun _ => hG, ?_⟩ | refine ⟨_, hCo, ?_⟩ | refine ⟨_, fun _ => hCo, ?_⟩); (try simp only [go_sem, simprocAttr, Node.cells, hy]))); (try simp (disch := omega) only [wrap_id, getD_map_in, Int.toNat_natCast, Node.cells, hy]); (repeat (refine And.intro (by (first | omega | (simp; done) | (simp; omega) | assumption)) ?_)); refine h' _ ?_; clear h' K') | (refine aops_nil (hK _ ?_); clear hK K gs; try simp only [aThen, aBlock]) | (refine aops_consF [] (fun K' h' => ?_); simp only [go_sem, simprocAttr, Node.cells, hy]; refine ⟨_, hM, ?_⟩; (try simp only [go_sem, simprocAttr, Node.cells, hy]); (repeat (refine And.intro (by (first | omega | (simp; done) | (simp; omega) | assumption)) ?_)); refine h' _ ?_; clear h' K') | (refine AWp.sreg  dd44 rfl (fun gs K hgs hK => ?_); clear hgs) | refine AWp.seq ?_ | refine ARounds.step ?_ | refine AWp.block ?_ | refine AWp.label ?_ | (refine AWp.ret ?_; try simp only [aThen, aBlock]) | (refine AWp.skip ?_; try simp only [aThen, aBlock]) | (refine AWp.exit ?_; try simp only [aThen, aBlock, Nat.reduceEqDiff, reduceIte]) | (refine AWp.reg  dd44 rfl (fun gs K hgs hK => ?_); clear hgs) | ((first | refine AWp.sregD  fo44 mo_fact (by kernel_rfl) (fun gs K hgs hK => ?_) | refine AWp.regD  fo44 mo_fact (by kernel_rfl) (fun gs K hgs hK => ?_)); clear hgs) | (refine aopsD_nil (hK _ ?_); clear hK K gs; simp only [fo44]; simp only [ASt.prune, pruneE, keepB, keepR, Bool.or_false, Bool.or_true, Bool.true_or, Bool.false_or, reduceIte, Bool.or_self, Bool.false_eq_true, aThen, aBlock, Nat.reduceEqDiff]) | (refine AWp.cond rfl (fun h => ?_) (fun h => ?_) <;> (try simp only [decide_eq_true_eq, decide_eq_false_iff_not, beq_iff_eq, bne_iff_ne, ne_eq, Bool.not_eq_true', Bool.not_eq_false', beq_eq_false_iff_ne, Bool.true_eq_false, Bool.false_eq_true, Int.not_le, Int.not_lt, Bool.and_eq_true, Bool.and_eq_false_iff, Bool.or_eq_true, Bool.or_eq_false_iff, bne_eq_false_iff_eq, reduceCtorEq] at h) <;> (try first | contradiction | (exfalso; omega) | (exfalso; revert h; simp; done) | (exfalso; revert h; simp; omega)))))
          all_goals simp only [Out, outA, outL, resA, go_sem, simprocAttr]
          all_goals exact AVle.refl _
        · rw [hfo] at hFo
          simp only [fr] at hFo
          unfold nodesV at *
          refine acall_of (n := 66) (rs := [.tmp 4]) Try.func44 rfl (by kernel_rfl) rfl rfl rfl ?_; simp only [argsE, Nat.reduceAdd]
          repeat (any_goals (first | ((first | refine aops_cons (fun K' h' => ?_) | refine aopsD_cons (fun K' h' => ?_)); simp only [go_sem, simprocAttr, Node.cells, hy]; (try ((first | refine ⟨_, hM, ?_⟩ | refine ⟨_, fun _ => hM, ?_⟩ | refine ⟨_, hFo, ?_⟩ | refine ⟨_, fun _ => hFo, ?_⟩ | refine ⟨_, hR1, ?_⟩ | refine ⟨_, fun _ => hR1, ?_⟩ | refine ⟨_, hR2, ?_⟩ | refine ⟨_, fun _ => hR2, ?_⟩ | refine ⟨_, hCu, ?_⟩ | refine ⟨_, fun _ => hCu, ?_⟩ | refine ⟨_, hFx, ?_⟩ | refine ⟨_, fun _ => hFx, ?_⟩ | refine ⟨_, hV, ?_⟩ | refine ⟨_, fun _ => hV, ?_⟩ | refine ⟨_, hG, ?_⟩ | refine ⟨_, fun _ => hG, ?_⟩ | refine ⟨_, hCo, ?_⟩ | refine ⟨_, fun _ => hCo, ?_⟩); (try simp only [go_sem, simprocAttr, Node.cells, hy]))); (try simp (disch := omega) only [wrap_id, getD_map_in, Int.toNat_natCast, Node.cells, hy]); (repeat (refine And.intro (by (first | omega | (simp; done) | (simp; omega) | assumption)) ?_)); refine h' _ ?_; clear h' K') | (refine aops_nil (hK _ ?_); clear hK K gs; try simp only [aThen, aBlock]) | (refine aops_consF [] (fun K' h' => ?_); simp only [go_sem, simprocAttr, Node.cells, hy]; refine ⟨_, hM, ?_⟩; (try simp only [go_sem, simprocAttr, Node.cells, hy]); (repeat (refine And.intro (by (first | omega | (simp; done) | (simp; omega) | assumption)) ?_)); refine h' _ ?_; clear h' K') | (refine AWp.sreg  dd44 rfl (fun gs K hgs hK => ?_); clear hgs) | refine AWp.seq ?_ | refine ARounds.step ?_ | refine AWp.block ?_ | refine AWp.label ?_ | (refine AWp.ret ?_; try simp only [aThen, aBlock]) | (refine AWp.skip ?_; try simp only [aThen, aBlock]) | (refine AWp.exit ?_; try simp only [aThen, aBlock, Nat.reduceEqDiff, reduceIte]) | (refine AWp.reg  dd44 rfl (fun gs K hgs hK => ?_); clear hgs) | ((first | refine AWp.sregD  fo44 mo_fact (by kernel_rfl) (fun gs K hgs hK => ?_) | refine AWp.regD  fo44 mo_fact (by kernel_rfl) (fun gs K hgs hK => ?_)); clear hgs) | (refine aopsD_nil (hK _ ?_); clear hK K gs; simp only [fo44]; simp only [ASt.prune, pruneE, keepB, keepR, Bool.or_false, Bool.or_true, Bool.true_or, Bool.false_or, reduceIte, Bool.or_self, Bool.false_eq_true, aThen, aBlock, Nat.reduceEqDiff]) | (refine AWp.cond rfl (fun h => ?_) (fun h => ?_) <;> (try simp only [decide_eq_true_eq, decide_eq_false_iff_not, beq_iff_eq, bne_iff_ne, ne_eq, Bool.not_eq_true', Bool.not_eq_false', beq_eq_false_iff_ne, Bool.true_eq_false, Bool.false_eq_true, Int.not_le, Int.not_lt, Bool.and_eq_true, Bool.and_eq_false_iff, Bool.or_eq_true, Bool.or_eq_false_iff, bne_eq_false_iff_eq, reduceCtorEq] at h) <;> (try first | contradiction | (exfalso; omega) | (exfalso; revert h; simp; done) | (exfalso; revert h; simp; omega)))))
          all_goals simp only [Out, outA, outL, resA, go_sem, simprocAttr]
          all_goals exact AVle.refl _
      | bin x g k =>
        obtain ⟨q1, q2, q3⟩ := Ex.subE_bin (by omega) hs
        have g0 := g.sz_pos
        have k0 := k.sz_pos
        rw [hs] at hfrm hfd hG hFo hy hwf htyp hnB hsz
        have hCo := count_c x.kind
        rw [countI_bin hwf.1 hwf.2.1] at hCo
        have hR2 := ih (j - 1) (by omega) (by omega)
        rw [q2] at hR2
        have hR1 := ih (j - 1 - k.sz) (by omega) (by omega)
        rw [q3] at hR1
        simp only [Ex.typ, Bool.and_eq_true] at htyp
        simp only [Ex.sz] at hsz
        obtain ⟨k1, k2, k3, k4⟩ := fold_ok hwf.2.2.1 htyp.1.2 hnB.1 (by omega)
        obtain ⟨l1, l2, l3, l4⟩ := fold_ok hwf.2.2.2 htyp.2 hnB.2 (by omega)
        have hM := rMade_2 x.kind x.n x.pos ((foldE g).fl 0) ((foldE k).fl 0) k2 k3 k4 l2 l3 l4
        rw [(k1.made2 l1 hwf.1 hwf.2.1).2] at hM
        have hfl : foldE (.bin x g k) = .bin x (foldE g) (foldE k) := by simp [foldE, hfrm]
        rw [hfl]
        clear k1 k2 k3 k4 l1 l2 l3 l4 hfl
        generalize Ex.fl 0 (Ex.bin x (foldE g) (foldE k)) = out at *
        generalize Ex.fl 0 (foldE g) = pa at *
        generalize Ex.fl 0 (foldE k) = pb at *
        simp only [Ex.nodeA, Hd.node, Ex.hd] at hy hG hFo hfd ⊢
        clear ih hx ht hn hs hfrm hfx hok hwf htyp hnB q2 q3
        obtain ⟨kd, nn, xp⟩ := x
        simp only at *
        generalize givesB kd = gv at *
        rcases hfd with rfl | ⟨rfl, hfo⟩
        · clear hFo
          unfold nodesV at *
          refine acall_of (n := 66) (rs := [.tmp 4]) Try.func44 rfl (by kernel_rfl) rfl rfl rfl ?_; simp only [argsE, Nat.reduceAdd]
          repeat (any_goals (first | ((first | refine aops_cons (fun K' h' => ?_) | refine aopsD_cons (fun K' h' => ?_)); simp only [go_sem, simprocAttr, Node.cells, hy]; (try ((first | refine ⟨_, hM, ?_⟩ | refine ⟨_, fun _ => hM, ?_⟩ | refine ⟨_, hFo, ?_⟩ | refine ⟨_, fun _ => hFo, ?_⟩ | refine ⟨_, hR1, ?_⟩ | refine ⟨_, fun _ => hR1, ?_⟩ | refine ⟨_, hR2, ?_⟩ | refine ⟨_, fun _ => hR2, ?_⟩ | refine ⟨_, hCu, ?_⟩ | refine ⟨_, fun _ => hCu, ?_⟩ | refine ⟨_, hFx, ?_⟩ | refine ⟨_, fun _ => hFx, ?_⟩ | refine ⟨_, hV, ?_⟩ | refine ⟨_, fun _ => hV, ?_⟩ | refine ⟨_, hG, ?_⟩ | refine ⟨_, fun _ => hG, ?_⟩ | refine ⟨_, hCo, ?_⟩ | refine ⟨_, fun _ => hCo, ?_⟩); (try simp only [go_sem, simprocAttr, Node.cells, hy]))); (try simp (disch := omega) only [wrap_id, getD_map_in, Int.toNat_natCast, Node.cells, hy]); (repeat (refine And.intro (by (first | omega | (simp; done) | (simp; omega) | assumption)) ?_)); refine h' _ ?_; clear h' K') | (refine aops_nil (hK _ ?_); clear hK K gs; try simp only [aThen, aBlock]) | (refine aops_consF [] (fun K' h' => ?_); simp only [go_sem, simprocAttr, Node.cells, hy]; refine ⟨_, hM, ?_⟩; (try simp only [go_sem, simprocAttr, Node.cells, hy]); (repeat (refine And.intro (by (first | omega | (simp; done) | (simp; omega) | assumption)) ?_)); refine h' _ ?_; clear h' K') | (refine AWp.sreg  dd44 rfl (fun gs K hgs hK => ?_); clear hgs) | refine AWp.seq ?_ | refine ARounds.step ?_ | refine AWp.block ?_ | refine AWp.label ?_ | (refine AWp.ret ?_; try simp only [aThen, aBlock]) | (refine AWp.skip ?_; try simp only [aThen, aBlock]) | (refine AWp.exit ?_; try simp only [aThen, aBlock, Nat.reduceEqDiff, reduceIte]) | (refine AWp.reg  dd44 rfl (fun gs K hgs hK => ?_); clear hgs) | ((first | refine AWp.sregD  fo44 mo_fact (by kernel_rfl) (fun gs K hgs hK => ?_) | refine AWp.regD  fo44 mo_fact (by kernel_rfl) (fun gs K hgs hK => ?_)); clear hgs) | (refine aopsD_nil (hK _ ?_); clear hK K gs; simp only [fo44]; simp only [ASt.prune, pruneE, keepB, keepR, Bool.or_false, Bool.or_true, Bool.true_or, Bool.false_or, reduceIte, Bool.or_self, Bool.false_eq_true, aThen, aBlock, Nat.reduceEqDiff]) | (refine AWp.cond rfl (fun h => ?_) (fun h => ?_) <;> (try simp only [decide_eq_true_eq, decide_eq_false_iff_not, beq_iff_eq, bne_iff_ne, ne_eq, Bool.not_eq_true', Bool.not_eq_false', beq_eq_false_iff_ne, Bool.true_eq_false, Bool.false_eq_true, Int.not_le, Int.not_lt, Bool.and_eq_true, Bool.and_eq_false_iff, Bool.or_eq_true, Bool.or_eq_false_iff, bne_eq_false_iff_eq, reduceCtorEq] at h) <;> (try first | contradiction | (exfalso; omega) | (exfalso; revert h; simp; done) | (exfalso; revert h; simp; omega)))))
          all_goals simp only [Out, outA, outL, resA, go_sem, simprocAttr]
          all_goals exact AVle.refl _
        · rw [hfo] at hFo
          simp only [fr] at hFo
          unfold nodesV at *
          refine acall_of (n := 66) (rs := [.tmp 4]) Try.func44 rfl (by kernel_rfl) rfl rfl rfl ?_; simp only [argsE, Nat.reduceAdd]
          repeat (any_goals (first | ((first | refine aops_cons (fun K' h' => ?_) | refine aopsD_cons (fun K' h' => ?_)); simp only [go_sem, simprocAttr, Node.cells, hy]; (try ((first | refine ⟨_, hM, ?_⟩ | refine ⟨_, fun _ => hM, ?_⟩ | refine ⟨_, hFo, ?_⟩ | refine ⟨_, fun _ => hFo, ?_⟩ | refine ⟨_, hR1, ?_⟩ | refine ⟨_, fun _ => hR1, ?_⟩ | refine ⟨_, hR2, ?_⟩ | refine ⟨_, fun _ => hR2, ?_⟩ | refine ⟨_, hCu, ?_⟩ | refine ⟨_, fun _ => hCu, ?_⟩ | refine ⟨_, hFx, ?_⟩ | refine ⟨_, fun _ => hFx, ?_⟩ | refine ⟨_, hV, ?_⟩ | refine ⟨_, fun _ => hV, ?_⟩ | refine ⟨_, hG, ?_⟩ | refine ⟨_, fun _ => hG, ?_⟩ | refine ⟨_, hCo, ?_⟩ | refine ⟨_, fun _ => hCo, ?_⟩); (try simp only [go_sem, simprocAttr, Node.cells, hy]))); (try simp (disch := omega) only [wrap_id, getD_map_in, Int.toNat_natCast, Node.cells, hy]); (repeat (refine And.intro (by (first | omega | (simp; done) | (simp; omega) | assumption)) ?_)); refine h' _ ?_; clear h' K') | (refine aops_nil (hK _ ?_); clear hK K gs; try simp only [aThen, aBlock]) | (refine aops_consF [] (fun K' h' => ?_); simp only [go_sem, simprocAttr, Node.cells, hy]; refine ⟨_, hM, ?_⟩; (try simp only [go_sem, simprocAttr, Node.cells, hy]); (repeat (refine And.intro (by (first | omega | (simp; done) | (simp; omega) | assumption)) ?_)); refine h' _ ?_; clear h' K') | (refine AWp.sreg  dd44 rfl (fun gs K hgs hK => ?_); clear hgs) | refine AWp.seq ?_ | refine ARounds.step ?_ | refine AWp.block ?_ | refine AWp.label ?_ | (refine AWp.ret ?_; try simp only [aThen, aBlock]) | (refine AWp.skip ?_; try simp only [aThen, aBlock]) | (refine AWp.exit ?_; try simp only [aThen, aBlock, Nat.reduceEqDiff, reduceIte]) | (refine AWp.reg  dd44 rfl (fun gs K hgs hK => ?_); clear hgs) | ((first | refine AWp.sregD  fo44 mo_fact (by kernel_rfl) (fun gs K hgs hK => ?_) | refine AWp.regD  fo44 mo_fact (by kernel_rfl) (fun gs K hgs hK => ?_)); clear hgs) | (refine aopsD_nil (hK _ ?_); clear hK K gs; simp only [fo44]; simp only [ASt.prune, pruneE, keepB, keepR, Bool.or_false, Bool.or_true, Bool.true_or, Bool.false_or, reduceIte, Bool.or_self, Bool.false_eq_true, aThen, aBlock, Nat.reduceEqDiff]) | (refine AWp.cond rfl (fun h => ?_) (fun h => ?_) <;> (try simp only [decide_eq_true_eq, decide_eq_false_iff_not, beq_iff_eq, bne_iff_ne, ne_eq, Bool.not_eq_true', Bool.not_eq_false', beq_eq_false_iff_ne, Bool.true_eq_false, Bool.false_eq_true, Int.not_le, Int.not_lt, Bool.and_eq_true, Bool.and_eq_false_iff, Bool.or_eq_true, Bool.or_eq_false_iff, bne_eq_false_iff_eq, reduceCtorEq] at h) <;> (try first | contradiction | (exfalso; omega) | (exfalso; revert h; simp; done) | (exfalso; revert h; simp; omega)))))
          all_goals simp only [Out, outA, outL, resA, go_sem, simprocAttr]
          all_goals exact AVle.refl _
def dd13 : Nat → List (List Nat)
  | 0 => [[], [2], [3]]
  | 1 => [[], [], [8], [9], [], [], [7], [4, 10], [5, 11], [12]]
  | 2 => [[], [], [13]]
  | 3 => [[0, 14], [6], [], [15]]
  | 4 => [[6, 14], [], [0], [17], [18], [16, 19], [20], []]
  | _ => []
theorem rFold_c (l : List Node) (hl : l.length ≤ 1000) (hn : nodesB l) : ACall Try.prog 13 [nodesV l] (.tup [nodesV (fldR l), .lit (.int .i64 (ofE l))]) := by
  have hO := rOf_c l hl
  by_cases h0 : ofE l = 0
  · obtain ⟨e, ht, hx, h2, h3, h4, hlen⟩ := ofE_tree h0
    have hp := e.sz_pos
    have hR1 := rFolded_c hx (by omega) h4 hn (l.length - 1) (by omega)
    rw [hlen, e.subE_end, ← hlen, show ((l.length - 1 : Nat) : Int) = (l.length : Int) - 1 by omega] at hR1
    rw [fldR_ex h0 ht]
    rw [h0] at hO ⊢
    generalize (foldE e).fl 0 = out at *
    generalize ofN l = on at *
    generalize ofB l = ob at *
    clear hx h0 ht
    unfold nodesV at *
    refine acall_of (n := 21) (rs := [.tmp 2, .tmp 3]) Try.func13 rfl (by kernel_rfl) rfl rfl rfl ?_; simp only [argsE, Nat.reduceAdd]
    repeat (any_goals (first | (refine aops_cons (fun K' h' => ?_); simp only [go_sem, simprocAttr, Node.cells]; (try ((first | refine ⟨_, hR1, ?_⟩ | refine ⟨_, fun _ => hR1, ?_⟩ | refine ⟨_, hR2, ?_⟩ | refine ⟨_, fun _ => hR2, ?_⟩ | refine ⟨_, hO, ?_⟩ | refine ⟨_, fun _ => hO, ?_⟩); (try simp only [go_sem, simprocAttr, Node.cells]))); (try simp (disch := omega) only [wrap_id, getD_map_in, Int.toNat_natCast, Node.cells]); (repeat (refine And.intro (by (first | omega | (simp; done) | (simp; omega) | assumption)) ?_)); refine h' _ ?_; clear h' K') | (refine aops_nil (hK _ ?_); clear hK K gs; try simp only [aThen, aBlock]) | (refine AWp.sreg  dd13 rfl (fun gs K hgs hK => ?_); clear hgs) | refine AWp.seq ?_ | refine ARounds.step ?_ | refine AWp.block ?_ | refine AWp.label ?_ | (refine AWp.ret ?_; try simp only [aThen, aBlock]) | (refine AWp.skip ?_; try simp only [aThen, aBlock]) | (refine AWp.exit ?_; try simp only [aThen, aBlock, Nat.reduceEqDiff, reduceIte]) | (refine AWp.reg  dd13 rfl (fun gs K hgs hK => ?_); clear hgs) | (refine AWp.cond rfl (fun h => ?_) (fun h => ?_) <;> (try simp only [decide_eq_true_eq, decide_eq_false_iff_not, beq_iff_eq, bne_iff_ne, ne_eq, Bool.not_eq_true', Bool.not_eq_false', beq_eq_false_iff_ne, Bool.true_eq_false, Bool.false_eq_true, Int.not_le, Int.not_lt, Bool.and_eq_true, Bool.and_eq_false_iff, Bool.or_eq_true, Bool.or_eq_false_iff, bne_eq_false_iff_eq, reduceCtorEq] at h) <;> (try first | contradiction | (exfalso; omega) | (exfalso; revert h; simp; done) | (exfalso; revert h; simp; omega)))))
    all_goals simp only [Out, outA, outL, resA, go_sem, simprocAttr]
    all_goals exact AVle.refl _
  · rw [show fldR l = [] from if_neg h0]
    generalize ofE l = oe at *
    generalize ofN l = on at *
    generalize ofB l = ob at *
    unfold nodesV at *
    refine acall_of (n := 21) (rs := [.tmp 2, .tmp 3]) Try.func13 rfl (by kernel_rfl) rfl rfl rfl ?_; simp only [argsE, Nat.reduceAdd]
    repeat (any_goals (first | (refine aops_cons (fun K' h' => ?_); simp only [go_sem, simprocAttr, Node.cells]; (try ((first | refine ⟨_, hR1, ?_⟩ | refine ⟨_, fun _ => hR1, ?_⟩ | refine ⟨_, hR2, ?_⟩ | refine ⟨_, fun _ => hR2, ?_⟩ | refine ⟨_, hO, ?_⟩ | refine ⟨_, fun _ => hO, ?_⟩); (try simp only [go_sem, simprocAttr, Node.cells]))); (try simp (disch := omega) only [wrap_id, getD_map_in, Int.toNat_natCast, Node.cells]); (repeat (refine And.intro (by (first | omega | (simp; done) | (simp; omega) | assumption)) ?_)); refine h' _ ?_; clear h' K') | (refine aops_nil (hK _ ?_); clear hK K gs; try simp only [aThen, aBlock]) | (refine AWp.sreg  dd13 rfl (fun gs K hgs hK => ?_); clear hgs) | refine AWp.seq ?_ | refine ARounds.step ?_ | refine AWp.block ?_ | refine AWp.label ?_ | (refine AWp.ret ?_; try simp only [aThen, aBlock]) | (refine AWp.skip ?_; try simp only [aThen, aBlock]) | (refine AWp.exit ?_; try simp only [aThen, aBlock, Nat.reduceEqDiff, reduceIte]) | (refine AWp.reg  dd13 rfl (fun gs K hgs hK => ?_); clear hgs) | (refine AWp.cond rfl (fun h => ?_) (fun h => ?_) <;> (try simp only [decide_eq_true_eq, decide_eq_false_iff_not, beq_iff_eq, bne_iff_ne, ne_eq, Bool.not_eq_true', Bool.not_eq_false', beq_eq_false_iff_ne, Bool.true_eq_false, Bool.false_eq_true, Int.not_le, Int.not_lt, Bool.and_eq_true, Bool.and_eq_false_iff, Bool.or_eq_true, Bool.or_eq_false_iff, bne_eq_false_iff_eq, reduceCtorEq] at h) <;> (try first | contradiction | (exfalso; omega) | (exfalso; revert h; simp; done) | (exfalso; revert h; simp; omega)))))
    all_goals simp only [Out, outA, outL, resA, go_sem, simprocAttr]
    all_goals exact AVle.tup ⟨AVle.nil 5, AVle.refl _, trivial⟩
end Go.Proofs.Yteohklfoggiojaa
