/-
  The walk over the reference's Equal.
-/
import Derived.Test.YteohklfoggiojaaPlnM
import Derived.Test.YteohklfoggiojaaFacts
namespace Go.Proofs.Yteohklfoggiojaa
open Go.AL Go.RowKit
set_option linter.unusedSimpArgs false
set_option linter.unusedVariables false
set_option maxRecDepth 10000
set_option maxHeartbeats 4000000
def dd16 : Nat → List (List Nat)
  | 0 => [[], [4]]
  | 1 => [[], [], [6], [], [8], [7, 9]]
  | 2 => [[0, 1, 10], []]
  | 3 => [[10], []]
  | 4 => [[], [], [], [12], [11, 13]]
  | 5 => [[25], [5], [15], [16]]
  | 7 => [[0, 1, 5, 25], []]
  | 8 => [[0, 1, 5, 14], []]
  | _ => []
def fo16 : Nat → List Nat
  | 6 => [0, 1, 5, 25]
  | _ => []
theorem rEqual_c (a b : List Node) (ha : a.length ≤ 1000) (hb : b.length ≤ 1000) : ACall Try.prog 16 [nodesV a, nodesV b] (.lit (.bool (decide (a = b)))) := by
  unfold nodesV
  refine acall_of (n := 26) (rs := [.tmp 4]) Try.func16 rfl (by kernel_rfl) rfl rfl rfl ?_; simp only [argsE, Nat.reduceAdd]
  repeat (any_goals (first | ((first | refine aops_cons (fun K' h' => ?_) | refine aopsD_cons (fun K' h' => ?_)); simp only [go_sem, simprocAttr, Node.cells]; (try simp (disch := omega) only [wrap_id, getD_map_in, Int.toNat_natCast, Node.cells]); (repeat (refine And.intro (by (first | omega | (simp; done) | (simp; omega) | assumption)) ?_)); refine h' _ ?_; clear h' K') | (refine aops_nil (hK _ ?_); clear hK K gs; try simp only [aThen, aBlock]) | (refine AWp.sreg  dd16 rfl (fun gs K hgs hK => ?_); clear hgs) | refine AWp.seq ?_ | refine ARounds.step ?_ | refine AWp.block ?_ | refine AWp.label ?_ | (refine AWp.ret ?_; try simp only [aThen, aBlock]) | (refine AWp.skip ?_; try simp only [aThen, aBlock]) | (refine AWp.exit ?_; try simp only [aThen, aBlock, Nat.reduceEqDiff, reduceIte]) | (refine AWp.reg  dd16 rfl (fun gs K hgs hK => ?_); clear hgs) | ((first | refine AWp.sregD  fo16 mo_fact (by kernel_rfl) (fun gs K hgs hK => ?_) | refine AWp.regD  fo16 mo_fact (by kernel_rfl) (fun gs K hgs hK => ?_)); clear hgs) | (refine aopsD_nil (hK _ ?_); clear hK K gs; simp only [fo16]; simp only [ASt.prune, pruneE, keepB, keepR, Bool.or_false, Bool.or_true, Bool.true_or, Bool.false_or, reduceIte, Bool.or_self, Bool.false_eq_true, aThen, aBlock, Nat.reduceEqDiff]) | (refine AWp.cond rfl (fun h => ?_) (fun h => ?_) <;> (try simp only [decide_eq_true_eq, decide_eq_false_iff_not, beq_iff_eq, bne_iff_ne, ne_eq, Bool.not_eq_true', Bool.not_eq_false', beq_eq_false_iff_ne, Bool.true_eq_false, Bool.false_eq_true, Int.not_le, Int.not_lt, Bool.and_eq_true, Bool.and_eq_false_iff, Bool.or_eq_true, Bool.or_eq_false_iff, bne_eq_false_iff_eq, reduceCtorEq] at h) <;> (try first | contradiction | (exfalso; omega) | (exfalso; revert h; simp; done) | (exfalso; revert h; simp; omega)))))
  · simp only [Out, outA, outL, resA, go_sem, simprocAttr]
    refine AVle.of_eq ?_
    have : a ≠ b := fun h => by subst h; omega
    simp [this]
  · refine AWp.loop (I := fun k : Nat => k ≤ a.length ∧ ∀ j, j < k → a.getD j default = b.getD j default) (fun k => ⟨[(0, .ro 5 (a.map Node.cells)), (1, .ro 5 (b.map Node.cells)), (5, .lit (.int .i64 (k : Int)))], [], []⟩) (fun k => a.length - k) 0 ?_ ?_ ?_
    · exact ⟨Nat.zero_le _, fun j h => absurd h (Nat.not_lt_zero j)⟩
    · refine Wk.of rfl rfl ?_
      simp [subE, eget, ASt.drop, dropE, keepR, lowE, AV.lowB, lowL, Nat.blt, Nat.ble]
    · rintro k ⟨hk, hall⟩
      repeat ((first | ((first | refine aops_cons (fun K' h' => ?_) | refine aopsD_cons (fun K' h' => ?_)); simp only [go_sem, simprocAttr, Node.cells]; (try simp (disch := omega) only [wrap_id, getD_map_in, Int.toNat_natCast, Node.cells]); (repeat (refine And.intro (by (first | omega | (simp; done) | (simp; omega) | assumption)) ?_)); refine h' _ ?_; clear h' K') | (refine aops_nil (hK _ ?_); clear hK K gs; try simp only [aThen, aBlock]) | (refine AWp.sreg  dd16 rfl (fun gs K hgs hK => ?_); clear hgs) | refine AWp.seq ?_ | refine ARounds.step ?_ | refine AWp.block ?_ | refine AWp.label ?_ | (refine AWp.ret ?_; try simp only [aThen, aBlock]) | (refine AWp.skip ?_; try simp only [aThen, aBlock]) | (refine AWp.exit ?_; try simp only [aThen, aBlock, Nat.reduceEqDiff, reduceIte]) | (refine AWp.reg  dd16 rfl (fun gs K hgs hK => ?_); clear hgs) | ((first | refine AWp.sregD  fo16 mo_fact (by kernel_rfl) (fun gs K hgs hK => ?_) | refine AWp.regD  fo16 mo_fact (by kernel_rfl) (fun gs K hgs hK => ?_)); clear hgs) | (refine aopsD_nil (hK _ ?_); clear hK K gs; simp only [fo16]; simp only [ASt.prune, pruneE, keepB, keepR, Bool.or_false, Bool.or_true, Bool.true_or, Bool.false_or, reduceIte, Bool.or_self, Bool.false_eq_true, aThen, aBlock, Nat.reduceEqDiff])))
      (refine AWp.cond rfl (fun h => ?_) (fun h => ?_) <;> (try simp only [decide_eq_true_eq, decide_eq_false_iff_not, beq_iff_eq, bne_iff_ne, ne_eq, Bool.not_eq_true', Bool.not_eq_false', beq_eq_false_iff_ne, Bool.true_eq_false, Bool.false_eq_true, Int.not_le, Int.not_lt, Bool.and_eq_true, Bool.and_eq_false_iff, Bool.or_eq_true, Bool.or_eq_false_iff, bne_eq_false_iff_eq, reduceCtorEq] at h) <;> (try first | contradiction | (exfalso; omega) | (exfalso; revert h; simp; done) | (exfalso; revert h; simp; omega)))
      · obtain ⟨x, hx⟩ : ∃ x, a.getD k default = x := ⟨_, rfl⟩
        obtain ⟨y, hy⟩ : ∃ y, b.getD k default = y := ⟨_, rfl⟩
        obtain ⟨kd, nn, xa, xb, xp⟩ := x
        obtain ⟨kd2, nn2, xa2, xb2, xp2⟩ := y
        repeat (any_goals (first | ((first | refine aops_cons (fun K' h' => ?_) | refine aopsD_cons (fun K' h' => ?_)); simp only [go_sem, simprocAttr, Node.cells, hx, hy]; (try simp (disch := omega) only [wrap_id, getD_map_in, Int.toNat_natCast, Node.cells, hx, hy]); (repeat (refine And.intro (by (first | omega | (simp; done) | (simp; omega) | assumption)) ?_)); refine h' _ ?_; clear h' K') | (refine aops_nil (hK _ ?_); clear hK K gs; try simp only [aThen, aBlock]) | (refine AWp.sreg  dd16 rfl (fun gs K hgs hK => ?_); clear hgs) | refine AWp.seq ?_ | refine ARounds.step ?_ | refine AWp.block ?_ | refine AWp.label ?_ | (refine AWp.ret ?_; try simp only [aThen, aBlock]) | (refine AWp.skip ?_; try simp only [aThen, aBlock]) | (refine AWp.exit ?_; try simp only [aThen, aBlock, Nat.reduceEqDiff, reduceIte]) | (refine AWp.reg  dd16 rfl (fun gs K hgs hK => ?_); clear hgs) | ((first | refine AWp.sregD  fo16 mo_fact (by kernel_rfl) (fun gs K hgs hK => ?_) | refine AWp.regD  fo16 mo_fact (by kernel_rfl) (fun gs K hgs hK => ?_)); clear hgs) | (refine aopsD_nil (hK _ ?_); clear hK K gs; simp only [fo16]; simp only [ASt.prune, pruneE, keepB, keepR, Bool.or_false, Bool.or_true, Bool.true_or, Bool.false_or, reduceIte, Bool.or_self, Bool.false_eq_true, aThen, aBlock, Nat.reduceEqDiff]) | (refine AWp.cond rfl (fun h => ?_) (fun h => ?_) <;> (try simp only [decide_eq_true_eq, decide_eq_false_iff_not, beq_iff_eq, bne_iff_ne, ne_eq, Bool.not_eq_true', Bool.not_eq_false', beq_eq_false_iff_ne, Bool.true_eq_false, Bool.false_eq_true, Int.not_le, Int.not_lt, Bool.and_eq_true, Bool.and_eq_false_iff, Bool.or_eq_true, Bool.or_eq_false_iff, bne_eq_false_iff_eq, reduceCtorEq] at h) <;> (try first | contradiction | (exfalso; omega) | (exfalso; revert h; simp; done) | (exfalso; revert h; simp; omega)))))
        · simp only [Out, outA, outL, resA, go_sem, simprocAttr]
          refine AVle.of_eq ?_
          have : a ≠ b := fun h => by
            subst h
            rw [hx] at hy
            simp only [Node.mk.injEq] at hy
            omega
          simp [this]
        · refine ⟨k + 1, ⟨by omega, fun j hj => ?_⟩, Wk.of rfl rfl ?_, by omega⟩
          · by_cases hjk : j = k
            · subst hjk
              rw [hx, hy]
              simp only [Node.mk.injEq]
              assumption
            · exact hall j (by omega)
          · simp [subE, eget, ASt.drop, dropE, keepR, lowE, AV.lowB, lowL, Nat.blt, Nat.ble]
      · repeat (any_goals (first | ((first | refine aops_cons (fun K' h' => ?_) | refine aopsD_cons (fun K' h' => ?_)); simp only [go_sem, simprocAttr, Node.cells]; (try simp (disch := omega) only [wrap_id, getD_map_in, Int.toNat_natCast, Node.cells]); (repeat (refine And.intro (by (first | omega | (simp; done) | (simp; omega) | assumption)) ?_)); refine h' _ ?_; clear h' K') | (refine aops_nil (hK _ ?_); clear hK K gs; try simp only [aThen, aBlock]) | (refine AWp.sreg  dd16 rfl (fun gs K hgs hK => ?_); clear hgs) | refine AWp.seq ?_ | refine ARounds.step ?_ | refine AWp.block ?_ | refine AWp.label ?_ | (refine AWp.ret ?_; try simp only [aThen, aBlock]) | (refine AWp.skip ?_; try simp only [aThen, aBlock]) | (refine AWp.exit ?_; try simp only [aThen, aBlock, Nat.reduceEqDiff, reduceIte]) | (refine AWp.reg  dd16 rfl (fun gs K hgs hK => ?_); clear hgs) | ((first | refine AWp.sregD  fo16 mo_fact (by kernel_rfl) (fun gs K hgs hK => ?_) | refine AWp.regD  fo16 mo_fact (by kernel_rfl) (fun gs K hgs hK => ?_)); clear hgs) | (refine aopsD_nil (hK _ ?_); clear hK K gs; simp only [fo16]; simp only [ASt.prune, pruneE, keepB, keepR, Bool.or_false, Bool.or_true, Bool.true_or, Bool.false_or, reduceIte, Bool.or_self, Bool.false_eq_true, aThen, aBlock, Nat.reduceEqDiff]) | (refine AWp.cond rfl (fun h => ?_) (fun h => ?_) <;> (try simp only [decide_eq_true_eq, decide_eq_false_iff_not, beq_iff_eq, bne_iff_ne, ne_eq, Bool.not_eq_true', Bool.not_eq_false', beq_eq_false_iff_ne, Bool.true_eq_false, Bool.false_eq_true, Int.not_le, Int.not_lt, Bool.and_eq_true, Bool.and_eq_false_iff, Bool.or_eq_true, Bool.or_eq_false_iff, bne_eq_false_iff_eq, reduceCtorEq] at h) <;> (try first | contradiction | (exfalso; omega) | (exfalso; revert h; simp; done) | (exfalso; revert h; simp; omega)))))
        simp only [Out, outA, outL, resA, go_sem, simprocAttr]
        refine AVle.of_eq ?_
        have : a = b := by
          apply List.ext_getElem (by omega)
          intro i h1 h2
          have := hall i (by omega)
          simpa [List.getD_eq_getElem?_getD, List.getElem?_eq_getElem h1, List.getElem?_eq_getElem h2] using this
        simp [this]
end Go.Proofs.Yteohklfoggiojaa
