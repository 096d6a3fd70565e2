/-
  The walk over the reference's Alike of two node lists.
-/
import Derived.Test.YteohklfoggiojaaQSameW
import Derived.Test.YteohklfoggiojaaAbsM
namespace Go.Proofs.Yteohklfoggiojaa
open Go.AL Go.RowKit
set_option linter.unusedSimpArgs false
set_option linter.unusedVariables false
set_option maxRecDepth 10000
set_option maxHeartbeats 4000000
def dd81 : Nat → List (List Nat)
  | 0 => [[], [4]]
  | 1 => [[], [], [8], [], [10], [9, 11]]
  | 2 => [[0, 1, 12], []]
  | 3 => [[12], []]
  | 4 => [[], [], [], [14], [13, 15]]
  | 5 => [[31], [5], [17], [18]]
  | 7 => [[], [], [27], [], [28]]
  | 8 => [[], [6], [7], [29, 30]]
  | 9 => [[0, 1, 5, 31], []]
  | 10 => [[0, 1, 5, 16], []]
  | _ => []
def fo81 : Nat → List Nat
  | 6 => [0, 1, 5, 6, 7]
  | _ => []
theorem alikeR_c (a b : List Node) (ha : a.length ≤ 1000) (hb : b.length ≤ 1000) : ACall Try.prog 81 [nodesV a, nodesV b] (.lit (.bool (sameN a b))) := by
  unfold nodesV
  refine acall_of (n := 32) (rs := [.tmp 4]) Try.func81 rfl (by kernel_rfl) rfl rfl rfl ?_; simp only [argsE, Nat.reduceAdd]
  repeat (any_goals (first | ((first | refine aops_cons (fun K' h' => ?_) | refine aopsD_cons (fun K' h' => ?_) | refine aopsM_cons (fun K' h' => ?_)); simp only [go_sem, simprocAttr, Node.cells]; (try simp (disch := omega) only [wrap_id, getD_map_in, Int.toNat_natCast, Node.cells]); (repeat (refine And.intro (by (first | omega | (simp; done) | (simp; omega) | assumption)) ?_)); refine h' _ ?_; clear h' K') | (refine aops_nil (hK _ ?_); clear hK K gs; try simp only [aThen, aBlock]) | (refine AWp.sreg  dd81 rfl (fun gs K hgs hK => ?_); clear hgs) | refine AWp.seq ?_ | refine ARounds.step ?_ | refine AWp.block ?_ | refine AWp.label ?_ | (refine AWp.ret ?_; try simp only [aThen, aBlock]) | (refine AWp.skip ?_; try simp only [aThen, aBlock]) | (refine AWp.exit ?_; try simp only [aThen, aBlock, Nat.reduceEqDiff, reduceIte]) | (refine AWp.reg  dd81 rfl (fun gs K hgs hK => ?_); clear hgs) | ((refine AWp.sregA2 (id := 6) fo81 8 mo_fact (by kernel_rfl) (by kernel_rfl) (by kernel_rfl) (by kernel_rfl) (fun gs K K1 hgs hK hK1 => ?_); clear hgs); simp only [List.take_succ_cons, List.take_zero, List.drop_succ_cons, List.drop_zero, swp2] at *) | ((refine AWp.regA2 (id := 6) fo81 8 mo_fact (by kernel_rfl) (by kernel_rfl) (by kernel_rfl) (by kernel_rfl) (fun gs K K1 hgs hK hK1 => ?_); clear hgs); simp only [List.take_succ_cons, List.take_zero, List.drop_succ_cons, List.drop_zero, swp2] at *) | (refine aopsM_nil (hK1 _ (And.intro ?_ ?_)) <;> clear hK1 K1) | (refine aopsM_nil (hK _ ?_); clear hK K gs; simp only [fo81]; simp only [ASt.prune, pruneE, keepB, keepR, Bool.or_false, Bool.or_true, Bool.true_or, Bool.false_or, reduceIte, Bool.or_self, Bool.false_eq_true, aThen, aBlock, Nat.reduceEqDiff]) | (refine AWp.cond rfl (fun h => ?_) (fun h => ?_) <;> (try simp only [decide_eq_true_eq, decide_eq_false_iff_not, beq_iff_eq, bne_iff_ne, ne_eq, Bool.not_eq_true', Bool.not_eq_false', beq_eq_false_iff_ne, Bool.true_eq_false, Bool.false_eq_true, Int.not_le, Int.not_lt, Bool.and_eq_true, Bool.and_eq_false_iff, Bool.or_eq_true, Bool.or_eq_false_iff, bne_eq_false_iff_eq, reduceCtorEq] at h) <;> (try first | contradiction | (exfalso; omega) | (exfalso; revert h; simp; done) | (exfalso; revert h; simp; omega)))))
  · simp only [Out, outA, outL, resA, go_sem, simprocAttr]
    refine AVle.of_eq ?_
    cases hs : sameN a b with
    | false => rfl
    | true => have := sameN_len hs; omega
  · refine AWp.loop (I := fun k : Nat => k ≤ a.length ∧ ∀ j, j < k → (a.getD j default).setp 0 = (b.getD j default).setp 0) (fun k => ⟨[(0, .ro 5 (a.map Node.cells)), (1, .ro 5 (b.map Node.cells)), (5, .lit (.int .i64 (k : Int)))], [], []⟩) (fun k => a.length - k) 0 ?_ ?_ ?_
    · exact ⟨Nat.zero_le _, fun j h => absurd h (Nat.not_lt_zero j)⟩
    · refine Wk.of rfl rfl ?_
      simp [subE, eget, ASt.drop, dropE, keepR, lowE, AV.lowB, lowL, Nat.blt, Nat.ble]
    · rintro k ⟨hk, hall⟩
      repeat ((first | ((first | refine aops_cons (fun K' h' => ?_) | refine aopsD_cons (fun K' h' => ?_) | refine aopsM_cons (fun K' h' => ?_)); simp only [go_sem, simprocAttr, Node.cells]; (try simp (disch := omega) only [wrap_id, getD_map_in, Int.toNat_natCast, Node.cells]); (repeat (refine And.intro (by (first | omega | (simp; done) | (simp; omega) | assumption)) ?_)); refine h' _ ?_; clear h' K') | (refine aops_nil (hK _ ?_); clear hK K gs; try simp only [aThen, aBlock]) | (refine AWp.sreg  dd81 rfl (fun gs K hgs hK => ?_); clear hgs) | refine AWp.seq ?_ | refine ARounds.step ?_ | refine AWp.block ?_ | refine AWp.label ?_ | (refine AWp.ret ?_; try simp only [aThen, aBlock]) | (refine AWp.skip ?_; try simp only [aThen, aBlock]) | (refine AWp.exit ?_; try simp only [aThen, aBlock, Nat.reduceEqDiff, reduceIte]) | (refine AWp.reg  dd81 rfl (fun gs K hgs hK => ?_); clear hgs) | ((refine AWp.sregA2 (id := 6) fo81 8 mo_fact (by kernel_rfl) (by kernel_rfl) (by kernel_rfl) (by kernel_rfl) (fun gs K K1 hgs hK hK1 => ?_); clear hgs); simp only [List.take_succ_cons, List.take_zero, List.drop_succ_cons, List.drop_zero, swp2] at *) | ((refine AWp.regA2 (id := 6) fo81 8 mo_fact (by kernel_rfl) (by kernel_rfl) (by kernel_rfl) (by kernel_rfl) (fun gs K K1 hgs hK hK1 => ?_); clear hgs); simp only [List.take_succ_cons, List.take_zero, List.drop_succ_cons, List.drop_zero, swp2] at *) | (refine aopsM_nil (hK1 _ (And.intro ?_ ?_)) <;> clear hK1 K1) | (refine aopsM_nil (hK _ ?_); clear hK K gs; simp only [fo81]; simp only [ASt.prune, pruneE, keepB, keepR, Bool.or_false, Bool.or_true, Bool.true_or, Bool.false_or, reduceIte, Bool.or_self, Bool.false_eq_true, aThen, aBlock, Nat.reduceEqDiff])))
      (refine AWp.cond rfl (fun h => ?_) (fun h => ?_) <;> (try simp only [decide_eq_true_eq, decide_eq_false_iff_not, beq_iff_eq, bne_iff_ne, ne_eq, Bool.not_eq_true', Bool.not_eq_false', beq_eq_false_iff_ne, Bool.true_eq_false, Bool.false_eq_true, Int.not_le, Int.not_lt, Bool.and_eq_true, Bool.and_eq_false_iff, Bool.or_eq_true, Bool.or_eq_false_iff, bne_eq_false_iff_eq, reduceCtorEq] at h) <;> (try first | contradiction | (exfalso; omega) | (exfalso; revert h; simp; done) | (exfalso; revert h; simp; omega)))
      · obtain ⟨x, hx⟩ : ∃ x, a.getD k default = x := ⟨_, rfl⟩
        obtain ⟨y, hy⟩ : ∃ y, b.getD k default = y := ⟨_, rfl⟩
        obtain ⟨kd, nn, xa, xb, xp⟩ := x
        obtain ⟨kd2, nn2, xa2, xb2, xp2⟩ := y
        repeat (any_goals (first | ((first | refine aops_cons (fun K' h' => ?_) | refine aopsD_cons (fun K' h' => ?_) | refine aopsM_cons (fun K' h' => ?_)); simp only [go_sem, simprocAttr, Node.cells, hx, hy]; (try simp (disch := omega) only [wrap_id, getD_map_in, Int.toNat_natCast, Node.cells, hx, hy]); (repeat (refine And.intro (by (first | omega | (simp; done) | (simp; omega) | assumption)) ?_)); refine h' _ ?_; clear h' K') | (refine aops_nil (hK _ ?_); clear hK K gs; try simp only [aThen, aBlock]) | (refine AWp.sreg  dd81 rfl (fun gs K hgs hK => ?_); clear hgs) | refine AWp.seq ?_ | refine ARounds.step ?_ | refine AWp.block ?_ | refine AWp.label ?_ | (refine AWp.ret ?_; try simp only [aThen, aBlock]) | (refine AWp.skip ?_; try simp only [aThen, aBlock]) | (refine AWp.exit ?_; try simp only [aThen, aBlock, Nat.reduceEqDiff, reduceIte]) | (refine AWp.reg  dd81 rfl (fun gs K hgs hK => ?_); clear hgs) | ((refine AWp.sregA2 (id := 6) fo81 8 mo_fact (by kernel_rfl) (by kernel_rfl) (by kernel_rfl) (by kernel_rfl) (fun gs K K1 hgs hK hK1 => ?_); clear hgs); simp only [List.take_succ_cons, List.take_zero, List.drop_succ_cons, List.drop_zero, swp2] at *) | ((refine AWp.regA2 (id := 6) fo81 8 mo_fact (by kernel_rfl) (by kernel_rfl) (by kernel_rfl) (by kernel_rfl) (fun gs K K1 hgs hK hK1 => ?_); clear hgs); simp only [List.take_succ_cons, List.take_zero, List.drop_succ_cons, List.drop_zero, swp2] at *) | (refine aopsM_nil (hK1 _ (And.intro ?_ ?_)) <;> clear hK1 K1) | (refine aopsM_nil (hK _ ?_); clear hK K gs; simp only [fo81]; simp only [ASt.prune, pruneE, keepB, keepR, Bool.or_false, Bool.or_true, Bool.true_or, Bool.false_or, reduceIte, Bool.or_self, Bool.false_eq_true, aThen, aBlock, Nat.reduceEqDiff]) | (refine AWp.cond rfl (fun h => ?_) (fun h => ?_) <;> (try simp only [decide_eq_true_eq, decide_eq_false_iff_not, beq_iff_eq, bne_iff_ne, ne_eq, Bool.not_eq_true', Bool.not_eq_false', beq_eq_false_iff_ne, Bool.true_eq_false, Bool.false_eq_true, Int.not_le, Int.not_lt, Bool.and_eq_true, Bool.and_eq_false_iff, Bool.or_eq_true, Bool.or_eq_false_iff, bne_eq_false_iff_eq, reduceCtorEq] at h) <;> (try first | contradiction | (exfalso; omega) | (exfalso; revert h; simp; done) | (exfalso; revert h; simp; omega)))))
        · simp only [Out, outA, outL, resA, go_sem, simprocAttr]
          refine AVle.of_eq ?_
          cases hs : sameN a b with
          | false => rfl
          | true =>
            have h1 := sameN_at hs k
            rw [hx, hy] at h1
            simp only [Node.setp, Node.mk.injEq, and_true] at h1
            simp [h1] at h
        · have hh := h
          refine ⟨k + 1, ⟨by omega, fun j hj => ?_⟩, Wk.ofCut 0 0 rfl rfl ?_, by omega⟩
          · by_cases hjk : j = k
            · subst hjk
              rw [hx, hy]
              simp [Node.setp, hh]
            · exact hall j (by omega)
          · first
              | (simp [subE, eget, ASt.drop, dropE, keepR, lowE, AV.lowB, lowL, Nat.blt, Nat.ble]; done)
              | (simp [subE, eget, ASt.drop, dropE, keepR, lowE, AV.lowB, lowL, Nat.blt, Nat.ble]; omega)
        · simp only [Out, outA, outL, resA, go_sem, simprocAttr]
          refine AVle.of_eq ?_
          cases hs : sameN a b with
          | false => rfl
          | true =>
            have h1 := sameN_at hs k
            rw [hx, hy] at h1
            simp only [Node.setp, Node.mk.injEq, and_true] at h1
            simp [h1] at h
        · have hh := h
          refine ⟨k + 1, ⟨by omega, fun j hj => ?_⟩, Wk.ofCut 0 0 rfl rfl ?_, by omega⟩
          · by_cases hjk : j = k
            · subst hjk
              rw [hx, hy]
              simp [Node.setp, hh]
            · exact hall j (by omega)
          · first
              | (simp [subE, eget, ASt.drop, dropE, keepR, lowE, AV.lowB, lowL, Nat.blt, Nat.ble]; done)
              | (simp [subE, eget, ASt.drop, dropE, keepR, lowE, AV.lowB, lowL, Nat.blt, Nat.ble]; omega)
      · have : sameN a b = true := sameN_of (by omega) fun j hj => hall j (by omega)
        rw [this]
        repeat (any_goals (first | ((first | refine aops_cons (fun K' h' => ?_) | refine aopsD_cons (fun K' h' => ?_) | refine aopsM_cons (fun K' h' => ?_)); simp only [go_sem, simprocAttr, Node.cells]; (try simp (disch := omega) only [wrap_id, getD_map_in, Int.toNat_natCast, Node.cells]); (repeat (refine And.intro (by (first | omega | (simp; done) | (simp; omega) | assumption)) ?_)); refine h' _ ?_; clear h' K') | (refine aops_nil (hK _ ?_); clear hK K gs; try simp only [aThen, aBlock]) | (refine AWp.sreg  dd81 rfl (fun gs K hgs hK => ?_); clear hgs) | refine AWp.seq ?_ | refine ARounds.step ?_ | refine AWp.block ?_ | refine AWp.label ?_ | (refine AWp.ret ?_; try simp only [aThen, aBlock]) | (refine AWp.skip ?_; try simp only [aThen, aBlock]) | (refine AWp.exit ?_; try simp only [aThen, aBlock, Nat.reduceEqDiff, reduceIte]) | (refine AWp.reg  dd81 rfl (fun gs K hgs hK => ?_); clear hgs) | ((refine AWp.sregA2 (id := 6) fo81 8 mo_fact (by kernel_rfl) (by kernel_rfl) (by kernel_rfl) (by kernel_rfl) (fun gs K K1 hgs hK hK1 => ?_); clear hgs); simp only [List.take_succ_cons, List.take_zero, List.drop_succ_cons, List.drop_zero, swp2] at *) | ((refine AWp.regA2 (id := 6) fo81 8 mo_fact (by kernel_rfl) (by kernel_rfl) (by kernel_rfl) (by kernel_rfl) (fun gs K K1 hgs hK hK1 => ?_); clear hgs); simp only [List.take_succ_cons, List.take_zero, List.drop_succ_cons, List.drop_zero, swp2] at *) | (refine aopsM_nil (hK1 _ (And.intro ?_ ?_)) <;> clear hK1 K1) | (refine aopsM_nil (hK _ ?_); clear hK K gs; simp only [fo81]; simp only [ASt.prune, pruneE, keepB, keepR, Bool.or_false, Bool.or_true, Bool.true_or, Bool.false_or, reduceIte, Bool.or_self, Bool.false_eq_true, aThen, aBlock, Nat.reduceEqDiff]) | (refine AWp.cond rfl (fun h => ?_) (fun h => ?_) <;> (try simp only [decide_eq_true_eq, decide_eq_false_iff_not, beq_iff_eq, bne_iff_ne, ne_eq, Bool.not_eq_true', Bool.not_eq_false', beq_eq_false_iff_ne, Bool.true_eq_false, Bool.false_eq_true, Int.not_le, Int.not_lt, Bool.and_eq_true, Bool.and_eq_false_iff, Bool.or_eq_true, Bool.or_eq_false_iff, bne_eq_false_iff_eq, reduceCtorEq] at h) <;> (try first | contradiction | (exfalso; omega) | (exfalso; revert h; simp; done) | (exfalso; revert h; simp; omega)))))
        simp only [Out, outA, outL, resA, go_sem, simprocAttr]
        exact AVle.refl _
end Go.Proofs.Yteohklfoggiojaa
