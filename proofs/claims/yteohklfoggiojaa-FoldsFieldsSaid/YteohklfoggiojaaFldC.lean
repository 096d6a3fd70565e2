/-
  The walk over the reference's folding.
-/
import Derived.Test.YteohklfoggiojaaFldB
namespace Go.Proofs.Yteohklfoggiojaa
open Go.AL Go.RowKit
set_option linter.unusedSimpArgs false
set_option linter.unusedVariables false
set_option maxRecDepth 10000
set_option maxHeartbeats 4000000
def dd89 : Nat → List (List Nat)
  | 0 => [[], [4]]
  | 1 => [[], [0], [1], [5, 6], [7], [8]]
  | _ => []
theorem rNum_c (x p : Int) : ACall Try.prog 89 [.lit (.int .i64 x), .lit (.int .i64 p)] (nodesV [⟨1, x, 0, 0, p⟩]) := by
  unfold nodesV
  refine acall_of (n := 9) (rs := [.tmp 4]) Try.func89 rfl (by kernel_rfl) rfl rfl rfl ?_; simp only [argsE, Nat.reduceAdd]
  repeat (any_goals (first | (refine aops_cons (fun K' h' => ?_); simp only [go_sem, Nat.reduceLT, Nat.reduceLeDiff, Nat.reduceEqDiff, reduceIte, Nat.reduceAdd, Nat.reduceMul, Nat.reduceSub, Int.reduceLT, Int.reduceLE, Int.reduceToNat, Int.reduceNeg, reduceCtorEq, Node.cells]; (try simp (disch := omega) only [wrap_id, getD_map_in, Int.toNat_natCast, Node.cells]); (repeat (refine And.intro (by (first | omega | (simp; done) | (simp; omega) | assumption)) ?_)); refine h' _ ?_; clear h' K') | (refine aops_nil (hK _ ?_); clear hK K gs; try simp only [aThen, aBlock]) | (refine AWp.sreg  dd89 rfl (fun gs K hgs hK => ?_); clear hgs) | refine AWp.seq ?_ | refine ARounds.step ?_ | refine AWp.block ?_ | refine AWp.label ?_ | (refine AWp.ret ?_; try simp only [aThen, aBlock]) | (refine AWp.skip ?_; try simp only [aThen, aBlock]) | (refine AWp.exit ?_; try simp only [aThen, aBlock, Nat.reduceEqDiff, reduceIte]) | (refine AWp.reg  dd89 rfl (fun gs K hgs hK => ?_); clear hgs) | (refine AWp.cond rfl (fun h => ?_) (fun h => ?_) <;> (try simp only [decide_eq_true_eq, decide_eq_false_iff_not, beq_iff_eq, bne_iff_ne, ne_eq, Bool.not_eq_true', Bool.not_eq_false', beq_eq_false_iff_ne, Bool.true_eq_false, Bool.false_eq_true, Int.not_le, Int.not_lt, Bool.and_eq_true, Bool.and_eq_false_iff, Bool.or_eq_true, Bool.or_eq_false_iff, bne_eq_false_iff_eq, reduceCtorEq] at h) <;> (try first | contradiction | (exfalso; omega) | (exfalso; revert h; simp; done) | (exfalso; revert h; simp; omega)))))
  simp only [Out, outA, outL, resA, go_sem, Nat.reduceLT, Nat.reduceLeDiff, Nat.reduceEqDiff, reduceIte, Nat.reduceAdd, Nat.reduceMul, Nat.reduceSub, Int.reduceLT, Int.reduceLE, Int.reduceToNat, Int.reduceNeg, reduceCtorEq]
  exact AVle.refl _
theorem rMade_0 (k0 n p : Int) : ACall Try.prog 29 [.lit (.int .u8 k0), .lit (.int .i64 n), .lit (.int .i64 p), .lit (.slice none 0 0)] (nodesV [⟨k0, n, 0, 0, p⟩]) := by
  unfold nodesV
  refine acall_of (n := 79) (rs := [.tmp 8]) Try.func29 rfl (by kernel_rfl) rfl rfl rfl ?_; simp only [argsE, Nat.reduceAdd]
  repeat (any_goals (first | (refine aops_cons (fun K' h' => ?_); simp only [go_sem, Nat.reduceLT, Nat.reduceLeDiff, Nat.reduceEqDiff, reduceIte, Nat.reduceAdd, Nat.reduceMul, Nat.reduceSub, Int.reduceLT, Int.reduceLE, Int.reduceToNat, Int.reduceNeg, reduceCtorEq, Node.cells]; (try ((first | refine ⟨_, hCo, ?_⟩ | refine ⟨_, fun _ => hCo, ?_⟩); (try simp only [go_sem, Nat.reduceLT, Nat.reduceLeDiff, Nat.reduceEqDiff, reduceIte, Nat.reduceAdd, Nat.reduceMul, Nat.reduceSub, Int.reduceLT, Int.reduceLE, Int.reduceToNat, Int.reduceNeg, reduceCtorEq, Node.cells]))); (try simp (disch := omega) only [wrap_id, getD_map_in, Int.toNat_natCast, Node.cells]); (repeat (refine And.intro (by (first | omega | (simp; done) | (simp; omega) | assumption)) ?_)); refine h' _ ?_; clear h' K') | (refine aops_nil (hK _ ?_); clear hK K gs; try simp only [aThen, aBlock]) | (refine AWp.sreg  dd29 rfl (fun gs K hgs hK => ?_); clear hgs) | refine AWp.seq ?_ | refine ARounds.step ?_ | refine AWp.block ?_ | refine AWp.label ?_ | (refine AWp.ret ?_; try simp only [aThen, aBlock]) | (refine AWp.skip ?_; try simp only [aThen, aBlock]) | (refine AWp.exit ?_; try simp only [aThen, aBlock, Nat.reduceEqDiff, reduceIte]) | (refine AWp.reg  dd29 rfl (fun gs K hgs hK => ?_); clear hgs) | (refine AWp.cond rfl (fun h => ?_) (fun h => ?_) <;> (try simp only [decide_eq_true_eq, decide_eq_false_iff_not, beq_iff_eq, bne_iff_ne, ne_eq, Bool.not_eq_true', Bool.not_eq_false', beq_eq_false_iff_ne, Bool.true_eq_false, Bool.false_eq_true, Int.not_le, Int.not_lt, Bool.and_eq_true, Bool.and_eq_false_iff, Bool.or_eq_true, Bool.or_eq_false_iff, bne_eq_false_iff_eq, reduceCtorEq] at h) <;> (try first | contradiction | (exfalso; omega) | (exfalso; revert h; simp; done) | (exfalso; revert h; simp; omega)))))
  refine AWp.loopR 1 ?_
  repeat (any_goals (first | (refine aops_cons (fun K' h' => ?_); simp only [go_sem, Nat.reduceLT, Nat.reduceLeDiff, Nat.reduceEqDiff, reduceIte, Nat.reduceAdd, Nat.reduceMul, Nat.reduceSub, Int.reduceLT, Int.reduceLE, Int.reduceToNat, Int.reduceNeg, reduceCtorEq, Node.cells]; (try ((first | refine ⟨_, hCo, ?_⟩ | refine ⟨_, fun _ => hCo, ?_⟩); (try simp only [go_sem, Nat.reduceLT, Nat.reduceLeDiff, Nat.reduceEqDiff, reduceIte, Nat.reduceAdd, Nat.reduceMul, Nat.reduceSub, Int.reduceLT, Int.reduceLE, Int.reduceToNat, Int.reduceNeg, reduceCtorEq, Node.cells]))); (try simp (disch := omega) only [wrap_id, getD_map_in, Int.toNat_natCast, Node.cells]); (repeat (refine And.intro (by (first | omega | (simp; done) | (simp; omega) | assumption)) ?_)); refine h' _ ?_; clear h' K') | (refine aops_nil (hK _ ?_); clear hK K gs; try simp only [aThen, aBlock]) | (refine AWp.sreg  dd29 rfl (fun gs K hgs hK => ?_); clear hgs) | refine AWp.seq ?_ | refine ARounds.step ?_ | refine AWp.block ?_ | refine AWp.label ?_ | (refine AWp.ret ?_; try simp only [aThen, aBlock]) | (refine AWp.skip ?_; try simp only [aThen, aBlock]) | (refine AWp.exit ?_; try simp only [aThen, aBlock, Nat.reduceEqDiff, reduceIte]) | (refine AWp.reg  dd29 rfl (fun gs K hgs hK => ?_); clear hgs) | (refine AWp.cond rfl (fun h => ?_) (fun h => ?_) <;> (try simp only [decide_eq_true_eq, decide_eq_false_iff_not, beq_iff_eq, bne_iff_ne, ne_eq, Bool.not_eq_true', Bool.not_eq_false', beq_eq_false_iff_ne, Bool.true_eq_false, Bool.false_eq_true, Int.not_le, Int.not_lt, Bool.and_eq_true, Bool.and_eq_false_iff, Bool.or_eq_true, Bool.or_eq_false_iff, bne_eq_false_iff_eq, reduceCtorEq] at h) <;> (try first | contradiction | (exfalso; omega) | (exfalso; revert h; simp; done) | (exfalso; revert h; simp; omega)))))
  all_goals simp only [Out, outA, outL, resA, go_sem, Nat.reduceLT, Nat.reduceLeDiff, Nat.reduceEqDiff, reduceIte, Nat.reduceAdd, Nat.reduceMul, Nat.reduceSub, Int.reduceLT, Int.reduceLE, Int.reduceToNat, Int.reduceNeg, reduceCtorEq]
  all_goals exact AVle.refl _
def fr : Option Ex → AV
  | some g => .tup [nodesV (g.fl 0), .lit (.bool true)]
  | none => .tup [nodesV [], .lit (.bool false)]
theorem num_B {x p : Int} : NodeB [⟨1, x, 0, 0, p⟩] := by
  intro y hy
  rw [List.mem_singleton.1 hy]
  exact ⟨by show (-2000 : Int) ≤ 0; decide, by show (0 : Int) ≤ 2000; decide, by show (-2000 : Int) ≤ 0; decide, by show (0 : Int) ≤ 2000; decide, by show (1 : Int) ≤ 1; decide, by show (1 : Int) ≤ 19; decide⟩
def dd72 : Nat → List (List Nat)
  | 0 => [[], [6], [7]]
  | 1 => [[], [], [9], [], [11], [10, 12], [13]]
  | 2 => [[], [], [15], [], [17], [16, 18], [19]]
  | 3 => [[0, 1, 14], [2], [8], [20, 21], [22], []]
  | 4 => [[14], [1], [24]]
  | 5 => [[0, 23], [2], [8], [25, 26], [27], []]
  | 6 => [[8, 23], [], [29], [30]]
  | 7 => [[28], [0], [2], [31, 32], [33], []]
  | 8 => [[28], [], [35], [36]]
  | 9 => [[34], [], [0], [38], [2], [39, 40], [41], [37, 42], [43], []]
  | 10 => [[0, 2, 34], [], []]
  | _ => []
theorem rForm_c (x : Int) (t : Bool) (p : Int) (hx : i64B x) (ht : t = true → x = 0 ∨ x = 1) : ACall Try.prog 72 [.lit (.int .i64 x), .lit (.bool t), .lit (.int .i64 p)] (fr (formE x t p)) := by
  have hB := hx
  unfold i64B at hB
  have hF := rNum_c 0 p
  cases t
  · have hF2 := rNum_c x p
    by_cases h0 : 0 ≤ x
    · rw [show formE x false p = some (numE x p) by unfold formE; rw [if_neg (by decide), if_pos h0]]
      simp only [fr, numE, Ex.fl, Hd.node]
      unfold nodesV at *
      refine acall_of (n := 44) (rs := [.tmp 6, .tmp 7]) Try.func72 rfl (by kernel_rfl) rfl rfl rfl ?_; simp only [argsE, Nat.reduceAdd]
      repeat (any_goals (first | (refine aops_cons (fun K' h' => ?_); simp only [go_sem, Nat.reduceLT, Nat.reduceLeDiff, Nat.reduceEqDiff, reduceIte, Nat.reduceAdd, Nat.reduceMul, Nat.reduceSub, Int.reduceLT, Int.reduceLE, Int.reduceToNat, Int.reduceNeg, reduceCtorEq, hgs, Node.cells]; (try ((first | refine ⟨_, hM, ?_⟩ | refine ⟨_, fun _ => hM, ?_⟩ | refine ⟨_, hF, ?_⟩ | refine ⟨_, fun _ => hF, ?_⟩ | refine ⟨_, hF2, ?_⟩ | refine ⟨_, fun _ => hF2, ?_⟩); (try simp only [go_sem, Nat.reduceLT, Nat.reduceLeDiff, Nat.reduceEqDiff, reduceIte, Nat.reduceAdd, Nat.reduceMul, Nat.reduceSub, Int.reduceLT, Int.reduceLE, Int.reduceToNat, Int.reduceNeg, reduceCtorEq, hgs, Node.cells]))); (try simp (disch := omega) only [wrap_id, getD_map_in, Int.toNat_natCast, Node.cells]); (repeat (refine And.intro (by (first | omega | (simp; done) | (simp; omega) | assumption)) ?_)); refine h' _ ?_; clear h' K') | (refine aops_nil (hK _ ?_); clear hK K hgs gs; try simp only [aThen, aBlock]) | (refine aops_consF [] (fun K' h' => ?_); simp only [go_sem, Nat.reduceLT, Nat.reduceLeDiff, Nat.reduceEqDiff, reduceIte, Nat.reduceAdd, Nat.reduceMul, Nat.reduceSub, Int.reduceLT, Int.reduceLE, Int.reduceToNat, Int.reduceNeg, reduceCtorEq, hgs, Node.cells]; refine ⟨_, hM, ?_⟩; (try simp only [go_sem, Nat.reduceLT, Nat.reduceLeDiff, Nat.reduceEqDiff, reduceIte, Nat.reduceAdd, Nat.reduceMul, Nat.reduceSub, Int.reduceLT, Int.reduceLE, Int.reduceToNat, Int.reduceNeg, reduceCtorEq, hgs, Node.cells]); (repeat (refine And.intro (by (first | omega | (simp; done) | (simp; omega) | assumption)) ?_)); refine h' _ ?_; clear h' K') | ((first | refine AWp.sreg (id := 2) dd72 rfl (fun gs K hgs hK => ?_) | refine AWp.reg (id := 2) dd72 rfl (fun gs K hgs hK => ?_)); replace hgs : gs 1 = some 16 := hgs 1) | (refine AWp.sreg  dd72 rfl (fun gs K hgs hK => ?_); replace hgs : Nat.succ 0 = 1 := rfl) | refine AWp.seq ?_ | refine ARounds.step ?_ | refine AWp.block ?_ | refine AWp.label ?_ | (refine AWp.ret ?_; try simp only [aThen, aBlock]) | (refine AWp.skip ?_; try simp only [aThen, aBlock]) | (refine AWp.exit ?_; try simp only [aThen, aBlock, Nat.reduceEqDiff, reduceIte]) | (refine AWp.reg  dd72 rfl (fun gs K hgs hK => ?_); replace hgs : Nat.succ 0 = 1 := rfl) | (refine aops_consG (fun K' h' => ?_); simp only [go_sem, Nat.reduceLT, Nat.reduceLeDiff, Nat.reduceEqDiff, reduceIte, Nat.reduceAdd, Nat.reduceMul, Nat.reduceSub, Int.reduceLT, Int.reduceLE, Int.reduceToNat, Int.reduceNeg, reduceCtorEq, hgs, Node.cells]; (try simp (disch := omega) only [wrap_id, getD_map_in, Int.toNat_natCast, Node.cells]); (repeat (refine And.intro (by (first | omega | (simp; done) | (simp; omega) | assumption)) ?_)); refine h' _ ?_; clear h' K') | (refine AWp.cond rfl (fun h => ?_) (fun h => ?_) <;> (try simp only [decide_eq_true_eq, decide_eq_false_iff_not, beq_iff_eq, bne_iff_ne, ne_eq, Bool.not_eq_true', Bool.not_eq_false', beq_eq_false_iff_ne, Bool.true_eq_false, Bool.false_eq_true, Int.not_le, Int.not_lt, Bool.and_eq_true, Bool.and_eq_false_iff, Bool.or_eq_true, Bool.or_eq_false_iff, bne_eq_false_iff_eq, reduceCtorEq] at h) <;> (try first | contradiction | (exfalso; omega) | (exfalso; revert h; simp; done) | (exfalso; revert h; simp; omega)))))
      all_goals simp only [Out, outA, outL, resA, go_sem, Nat.reduceLT, Nat.reduceLeDiff, Nat.reduceEqDiff, reduceIte, Nat.reduceAdd, Nat.reduceMul, Nat.reduceSub, Int.reduceLT, Int.reduceLE, Int.reduceToNat, Int.reduceNeg, reduceCtorEq]
      all_goals exact AVle.refl _
    · by_cases h1 : -9223372036854775808 < x
      · rw [show formE x false p = some (.un ⟨5, 0, p⟩ (numE (-x) p)) by unfold formE; rw [if_neg (by decide), if_neg h0, if_pos h1]]
        have hF2 := rNum_c (-x) p
        have hM := rMade_1 5 0 p [⟨1, -x, 0, 0, p⟩] (by simp) (by simp) num_B
        have hm : made1 5 0 p [⟨1, -x, 0, 0, p⟩] = (Ex.un ⟨5, 0, p⟩ (numE (-x) p)).fl 0 := rfl
        rw [hm] at hM
        simp only [fr]
        clear hm
        generalize (Ex.un ⟨5, 0, p⟩ (numE (-x) p)).fl 0 = ml at *
        unfold nodesV at *
        refine acall_of (n := 44) (rs := [.tmp 6, .tmp 7]) Try.func72 rfl (by kernel_rfl) rfl rfl rfl ?_; simp only [argsE, Nat.reduceAdd]
        repeat (any_goals (first | (refine aops_cons (fun K' h' => ?_); simp only [go_sem, Nat.reduceLT, Nat.reduceLeDiff, Nat.reduceEqDiff, reduceIte, Nat.reduceAdd, Nat.reduceMul, Nat.reduceSub, Int.reduceLT, Int.reduceLE, Int.reduceToNat, Int.reduceNeg, reduceCtorEq, hgs, Node.cells, Int.zero_sub]; (try ((first | refine ⟨_, hM, ?_⟩ | refine ⟨_, fun _ => hM, ?_⟩ | refine ⟨_, hF, ?_⟩ | refine ⟨_, fun _ => hF, ?_⟩ | refine ⟨_, hF2, ?_⟩ | refine ⟨_, fun _ => hF2, ?_⟩); (try simp only [go_sem, Nat.reduceLT, Nat.reduceLeDiff, Nat.reduceEqDiff, reduceIte, Nat.reduceAdd, Nat.reduceMul, Nat.reduceSub, Int.reduceLT, Int.reduceLE, Int.reduceToNat, Int.reduceNeg, reduceCtorEq, hgs, Node.cells, Int.zero_sub]))); (try simp (disch := omega) only [wrap_id, getD_map_in, Int.toNat_natCast, Node.cells, Int.zero_sub]); (repeat (refine And.intro (by (first | omega | (simp; done) | (simp; omega) | assumption)) ?_)); refine h' _ ?_; clear h' K') | (refine aops_nil (hK _ ?_); clear hK K hgs gs; try simp only [aThen, aBlock]) | (refine aops_consF [] (fun K' h' => ?_); simp only [go_sem, Nat.reduceLT, Nat.reduceLeDiff, Nat.reduceEqDiff, reduceIte, Nat.reduceAdd, Nat.reduceMul, Nat.reduceSub, Int.reduceLT, Int.reduceLE, Int.reduceToNat, Int.reduceNeg, reduceCtorEq, hgs, Node.cells, Int.zero_sub]; refine ⟨_, hM, ?_⟩; (try simp only [go_sem, Nat.reduceLT, Nat.reduceLeDiff, Nat.reduceEqDiff, reduceIte, Nat.reduceAdd, Nat.reduceMul, Nat.reduceSub, Int.reduceLT, Int.reduceLE, Int.reduceToNat, Int.reduceNeg, reduceCtorEq, hgs, Node.cells, Int.zero_sub]); (repeat (refine And.intro (by (first | omega | (simp; done) | (simp; omega) | assumption)) ?_)); refine h' _ ?_; clear h' K') | ((first | refine AWp.sreg (id := 2) dd72 rfl (fun gs K hgs hK => ?_) | refine AWp.reg (id := 2) dd72 rfl (fun gs K hgs hK => ?_)); replace hgs : gs 1 = some 16 := hgs 1) | (refine AWp.sreg  dd72 rfl (fun gs K hgs hK => ?_); replace hgs : Nat.succ 0 = 1 := rfl) | refine AWp.seq ?_ | refine ARounds.step ?_ | refine AWp.block ?_ | refine AWp.label ?_ | (refine AWp.ret ?_; try simp only [aThen, aBlock]) | (refine AWp.skip ?_; try simp only [aThen, aBlock]) | (refine AWp.exit ?_; try simp only [aThen, aBlock, Nat.reduceEqDiff, reduceIte]) | (refine AWp.reg  dd72 rfl (fun gs K hgs hK => ?_); replace hgs : Nat.succ 0 = 1 := rfl) | (refine aops_consG (fun K' h' => ?_); simp only [go_sem, Nat.reduceLT, Nat.reduceLeDiff, Nat.reduceEqDiff, reduceIte, Nat.reduceAdd, Nat.reduceMul, Nat.reduceSub, Int.reduceLT, Int.reduceLE, Int.reduceToNat, Int.reduceNeg, reduceCtorEq, hgs, Node.cells, Int.zero_sub]; (try simp (disch := omega) only [wrap_id, getD_map_in, Int.toNat_natCast, Node.cells, Int.zero_sub]); (repeat (refine And.intro (by (first | omega | (simp; done) | (simp; omega) | assumption)) ?_)); refine h' _ ?_; clear h' K') | (refine AWp.cond rfl (fun h => ?_) (fun h => ?_) <;> (try simp only [decide_eq_true_eq, decide_eq_false_iff_not, beq_iff_eq, bne_iff_ne, ne_eq, Bool.not_eq_true', Bool.not_eq_false', beq_eq_false_iff_ne, Bool.true_eq_false, Bool.false_eq_true, Int.not_le, Int.not_lt, Bool.and_eq_true, Bool.and_eq_false_iff, Bool.or_eq_true, Bool.or_eq_false_iff, bne_eq_false_iff_eq, reduceCtorEq] at h) <;> (try first | contradiction | (exfalso; omega) | (exfalso; revert h; simp; done) | (exfalso; revert h; simp; omega)))))
        all_goals first
          | (exfalso; omega)
          | skip
        all_goals simp only [Out, outA, outL, resA, go_sem, Nat.reduceLT, Nat.reduceLeDiff, Nat.reduceEqDiff, reduceIte, Nat.reduceAdd, Nat.reduceMul, Nat.reduceSub, Int.reduceLT, Int.reduceLE, Int.reduceToNat, Int.reduceNeg, reduceCtorEq]
        all_goals exact AVle.refl _
      · obtain rfl : x = -9223372036854775808 := by omega
        rw [show formE (-9223372036854775808) false p = none from rfl]
        simp only [fr]
        unfold nodesV at *
        refine acall_of (n := 44) (rs := [.tmp 6, .tmp 7]) Try.func72 rfl (by kernel_rfl) rfl rfl rfl ?_; simp only [argsE, Nat.reduceAdd]
        repeat (any_goals (first | (refine aops_cons (fun K' h' => ?_); simp only [go_sem, Nat.reduceLT, Nat.reduceLeDiff, Nat.reduceEqDiff, reduceIte, Nat.reduceAdd, Nat.reduceMul, Nat.reduceSub, Int.reduceLT, Int.reduceLE, Int.reduceToNat, Int.reduceNeg, reduceCtorEq, hgs, Node.cells]; (try ((first | refine ⟨_, hM, ?_⟩ | refine ⟨_, fun _ => hM, ?_⟩ | refine ⟨_, hF, ?_⟩ | refine ⟨_, fun _ => hF, ?_⟩ | refine ⟨_, hF2, ?_⟩ | refine ⟨_, fun _ => hF2, ?_⟩); (try simp only [go_sem, Nat.reduceLT, Nat.reduceLeDiff, Nat.reduceEqDiff, reduceIte, Nat.reduceAdd, Nat.reduceMul, Nat.reduceSub, Int.reduceLT, Int.reduceLE, Int.reduceToNat, Int.reduceNeg, reduceCtorEq, hgs, Node.cells]))); (try simp (disch := omega) only [wrap_id, getD_map_in, Int.toNat_natCast, Node.cells]); (repeat (refine And.intro (by (first | omega | (simp; done) | (simp; omega) | assumption)) ?_)); refine h' _ ?_; clear h' K') | (refine aops_nil (hK _ ?_); clear hK K hgs gs; try simp only [aThen, aBlock]) | (refine aops_consF [] (fun K' h' => ?_); simp only [go_sem, Nat.reduceLT, Nat.reduceLeDiff, Nat.reduceEqDiff, reduceIte, Nat.reduceAdd, Nat.reduceMul, Nat.reduceSub, Int.reduceLT, Int.reduceLE, Int.reduceToNat, Int.reduceNeg, reduceCtorEq, hgs, Node.cells]; refine ⟨_, hM, ?_⟩; (try simp only [go_sem, Nat.reduceLT, Nat.reduceLeDiff, Nat.reduceEqDiff, reduceIte, Nat.reduceAdd, Nat.reduceMul, Nat.reduceSub, Int.reduceLT, Int.reduceLE, Int.reduceToNat, Int.reduceNeg, reduceCtorEq, hgs, Node.cells]); (repeat (refine And.intro (by (first | omega | (simp; done) | (simp; omega) | assumption)) ?_)); refine h' _ ?_; clear h' K') | ((first | refine AWp.sreg (id := 2) dd72 rfl (fun gs K hgs hK => ?_) | refine AWp.reg (id := 2) dd72 rfl (fun gs K hgs hK => ?_)); replace hgs : gs 1 = some 16 := hgs 1) | (refine AWp.sreg  dd72 rfl (fun gs K hgs hK => ?_); replace hgs : Nat.succ 0 = 1 := rfl) | refine AWp.seq ?_ | refine ARounds.step ?_ | refine AWp.block ?_ | refine AWp.label ?_ | (refine AWp.ret ?_; try simp only [aThen, aBlock]) | (refine AWp.skip ?_; try simp only [aThen, aBlock]) | (refine AWp.exit ?_; try simp only [aThen, aBlock, Nat.reduceEqDiff, reduceIte]) | (refine AWp.reg  dd72 rfl (fun gs K hgs hK => ?_); replace hgs : Nat.succ 0 = 1 := rfl) | (refine aops_consG (fun K' h' => ?_); simp only [go_sem, Nat.reduceLT, Nat.reduceLeDiff, Nat.reduceEqDiff, reduceIte, Nat.reduceAdd, Nat.reduceMul, Nat.reduceSub, Int.reduceLT, Int.reduceLE, Int.reduceToNat, Int.reduceNeg, reduceCtorEq, hgs, Node.cells]; (try simp (disch := omega) only [wrap_id, getD_map_in, Int.toNat_natCast, Node.cells]); (repeat (refine And.intro (by (first | omega | (simp; done) | (simp; omega) | assumption)) ?_)); refine h' _ ?_; clear h' K') | (refine AWp.cond rfl (fun h => ?_) (fun h => ?_) <;> (try simp only [decide_eq_true_eq, decide_eq_false_iff_not, beq_iff_eq, bne_iff_ne, ne_eq, Bool.not_eq_true', Bool.not_eq_false', beq_eq_false_iff_ne, Bool.true_eq_false, Bool.false_eq_true, Int.not_le, Int.not_lt, Bool.and_eq_true, Bool.and_eq_false_iff, Bool.or_eq_true, Bool.or_eq_false_iff, bne_eq_false_iff_eq, reduceCtorEq] at h) <;> (try first | contradiction | (exfalso; omega) | (exfalso; revert h; simp; done) | (exfalso; revert h; simp; omega)))))
        all_goals simp only [Out, outA, outL, resA, go_sem, Nat.reduceLT, Nat.reduceLeDiff, Nat.reduceEqDiff, reduceIte, Nat.reduceAdd, Nat.reduceMul, Nat.reduceSub, Int.reduceLT, Int.reduceLE, Int.reduceToNat, Int.reduceNeg, reduceCtorEq]
        all_goals exact AVle.tup ⟨AVle.nil 5, AVle.refl _, trivial⟩
  · rw [show formE x true p = some (.bin ⟨if x = 0 then 17 else 16, 0, p⟩ (numE 0 p) (numE 0 p)) from if_pos rfl]
    have key : ∀ k : Int, ACall Try.prog 29 [.lit (.int .u8 k), .lit (.int .i64 0), .lit (.int .i64 p), partsV [[⟨1, 0, 0, 0, p⟩], [⟨1, 0, 0, 0, p⟩]]] (nodesV ((Ex.bin ⟨k, 0, p⟩ (numE 0 p) (numE 0 p)).fl 0)) := fun k =>
      rMade_2 k 0 p [⟨1, 0, 0, 0, p⟩] [⟨1, 0, 0, 0, p⟩] (by simp) (by simp) num_B (by simp) (by simp) num_B
    rcases ht rfl with rfl | rfl
    · have hM := key 17
      rw [if_pos rfl]
      simp only [fr]
      clear key
      unfold partsV at hM
      generalize (Ex.bin ⟨17, 0, p⟩ (numE 0 p) (numE 0 p)).fl 0 = ml at *
      unfold nodesV at *
      refine acall_of (n := 44) (rs := [.tmp 6, .tmp 7]) Try.func72 rfl (by kernel_rfl) rfl rfl rfl ?_; simp only [argsE, Nat.reduceAdd]
      repeat (any_goals (first | (refine aops_cons (fun K' h' => ?_); simp only [go_sem, Nat.reduceLT, Nat.reduceLeDiff, Nat.reduceEqDiff, reduceIte, Nat.reduceAdd, Nat.reduceMul, Nat.reduceSub, Int.reduceLT, Int.reduceLE, Int.reduceToNat, Int.reduceNeg, reduceCtorEq, hgs, Node.cells]; (try ((first | refine ⟨_, hM, ?_⟩ | refine ⟨_, fun _ => hM, ?_⟩ | refine ⟨_, hF, ?_⟩ | refine ⟨_, fun _ => hF, ?_⟩ | refine ⟨_, hF2, ?_⟩ | refine ⟨_, fun _ => hF2, ?_⟩); (try simp only [go_sem, Nat.reduceLT, Nat.reduceLeDiff, Nat.reduceEqDiff, reduceIte, Nat.reduceAdd, Nat.reduceMul, Nat.reduceSub, Int.reduceLT, Int.reduceLE, Int.reduceToNat, Int.reduceNeg, reduceCtorEq, hgs, Node.cells]))); (try simp (disch := omega) only [wrap_id, getD_map_in, Int.toNat_natCast, Node.cells]); (repeat (refine And.intro (by (first | omega | (simp; done) | (simp; omega) | assumption)) ?_)); refine h' _ ?_; clear h' K') | (refine aops_nil (hK _ ?_); clear hK K hgs gs; try simp only [aThen, aBlock]) | (refine aops_consF [] (fun K' h' => ?_); simp only [go_sem, Nat.reduceLT, Nat.reduceLeDiff, Nat.reduceEqDiff, reduceIte, Nat.reduceAdd, Nat.reduceMul, Nat.reduceSub, Int.reduceLT, Int.reduceLE, Int.reduceToNat, Int.reduceNeg, reduceCtorEq, hgs, Node.cells]; refine ⟨_, hM, ?_⟩; (try simp only [go_sem, Nat.reduceLT, Nat.reduceLeDiff, Nat.reduceEqDiff, reduceIte, Nat.reduceAdd, Nat.reduceMul, Nat.reduceSub, Int.reduceLT, Int.reduceLE, Int.reduceToNat, Int.reduceNeg, reduceCtorEq, hgs, Node.cells]); (repeat (refine And.intro (by (first | omega | (simp; done) | (simp; omega) | assumption)) ?_)); refine h' _ ?_; clear h' K') | ((first | refine AWp.sreg (id := 2) dd72 rfl (fun gs K hgs hK => ?_) | refine AWp.reg (id := 2) dd72 rfl (fun gs K hgs hK => ?_)); replace hgs : gs 1 = some 16 := hgs 1) | (refine AWp.sreg  dd72 rfl (fun gs K hgs hK => ?_); replace hgs : Nat.succ 0 = 1 := rfl) | refine AWp.seq ?_ | refine ARounds.step ?_ | refine AWp.block ?_ | refine AWp.label ?_ | (refine AWp.ret ?_; try simp only [aThen, aBlock]) | (refine AWp.skip ?_; try simp only [aThen, aBlock]) | (refine AWp.exit ?_; try simp only [aThen, aBlock, Nat.reduceEqDiff, reduceIte]) | (refine AWp.reg  dd72 rfl (fun gs K hgs hK => ?_); replace hgs : Nat.succ 0 = 1 := rfl) | (refine aops_consG (fun K' h' => ?_); simp only [go_sem, Nat.reduceLT, Nat.reduceLeDiff, Nat.reduceEqDiff, reduceIte, Nat.reduceAdd, Nat.reduceMul, Nat.reduceSub, Int.reduceLT, Int.reduceLE, Int.reduceToNat, Int.reduceNeg, reduceCtorEq, hgs, Node.cells]; (try simp (disch := omega) only [wrap_id, getD_map_in, Int.toNat_natCast, Node.cells]); (repeat (refine And.intro (by (first | omega | (simp; done) | (simp; omega) | assumption)) ?_)); refine h' _ ?_; clear h' K') | (refine AWp.cond rfl (fun h => ?_) (fun h => ?_) <;> (try simp only [decide_eq_true_eq, decide_eq_false_iff_not, beq_iff_eq, bne_iff_ne, ne_eq, Bool.not_eq_true', Bool.not_eq_false', beq_eq_false_iff_ne, Bool.true_eq_false, Bool.false_eq_true, Int.not_le, Int.not_lt, Bool.and_eq_true, Bool.and_eq_false_iff, Bool.or_eq_true, Bool.or_eq_false_iff, bne_eq_false_iff_eq, reduceCtorEq] at h) <;> (try first | contradiction | (exfalso; omega) | (exfalso; revert h; simp; done) | (exfalso; revert h; simp; omega)))))
      all_goals simp only [Out, outA, outL, resA, go_sem, Nat.reduceLT, Nat.reduceLeDiff, Nat.reduceEqDiff, reduceIte, Nat.reduceAdd, Nat.reduceMul, Nat.reduceSub, Int.reduceLT, Int.reduceLE, Int.reduceToNat, Int.reduceNeg, reduceCtorEq]
      all_goals exact AVle.refl _
    · have hM := key 16
      rw [if_neg (by decide)]
      simp only [fr]
      clear key
      unfold partsV at hM
      generalize (Ex.bin ⟨16, 0, p⟩ (numE 0 p) (numE 0 p)).fl 0 = ml at *
      unfold nodesV at *
      refine acall_of (n := 44) (rs := [.tmp 6, .tmp 7]) Try.func72 rfl (by kernel_rfl) rfl rfl rfl ?_; simp only [argsE, Nat.reduceAdd]
      repeat (any_goals (first | (refine aops_cons (fun K' h' => ?_); simp only [go_sem, Nat.reduceLT, Nat.reduceLeDiff, Nat.reduceEqDiff, reduceIte, Nat.reduceAdd, Nat.reduceMul, Nat.reduceSub, Int.reduceLT, Int.reduceLE, Int.reduceToNat, Int.reduceNeg, reduceCtorEq, hgs, Node.cells]; (try ((first | refine ⟨_, hM, ?_⟩ | refine ⟨_, fun _ => hM, ?_⟩ | refine ⟨_, hF, ?_⟩ | refine ⟨_, fun _ => hF, ?_⟩ | refine ⟨_, hF2, ?_⟩ | refine ⟨_, fun _ => hF2, ?_⟩); (try simp only [go_sem, Nat.reduceLT, Nat.reduceLeDiff, Nat.reduceEqDiff, reduceIte, Nat.reduceAdd, Nat.reduceMul, Nat.reduceSub, Int.reduceLT, Int.reduceLE, Int.reduceToNat, Int.reduceNeg, reduceCtorEq, hgs, Node.cells]))); (try simp (disch := omega) only [wrap_id, getD_map_in, Int.toNat_natCast, Node.cells]); (repeat (refine And.intro (by (first | omega | (simp; done) | (simp; omega) | assumption)) ?_)); refine h' _ ?_; clear h' K') | (refine aops_nil (hK _ ?_); clear hK K hgs gs; try simp only [aThen, aBlock]) | (refine aops_consF [] (fun K' h' => ?_); simp only [go_sem, Nat.reduceLT, Nat.reduceLeDiff, Nat.reduceEqDiff, reduceIte, Nat.reduceAdd, Nat.reduceMul, Nat.reduceSub, Int.reduceLT, Int.reduceLE, Int.reduceToNat, Int.reduceNeg, reduceCtorEq, hgs, Node.cells]; refine ⟨_, hM, ?_⟩; (try simp only [go_sem, Nat.reduceLT, Nat.reduceLeDiff, Nat.reduceEqDiff, reduceIte, Nat.reduceAdd, Nat.reduceMul, Nat.reduceSub, Int.reduceLT, Int.reduceLE, Int.reduceToNat, Int.reduceNeg, reduceCtorEq, hgs, Node.cells]); (repeat (refine And.intro (by (first | omega | (simp; done) | (simp; omega) | assumption)) ?_)); refine h' _ ?_; clear h' K') | ((first | refine AWp.sreg (id := 2) dd72 rfl (fun gs K hgs hK => ?_) | refine AWp.reg (id := 2) dd72 rfl (fun gs K hgs hK => ?_)); replace hgs : gs 1 = some 16 := hgs 1) | (refine AWp.sreg  dd72 rfl (fun gs K hgs hK => ?_); replace hgs : Nat.succ 0 = 1 := rfl) | refine AWp.seq ?_ | refine ARounds.step ?_ | refine AWp.block ?_ | refine AWp.label ?_ | (refine AWp.ret ?_; try simp only [aThen, aBlock]) | (refine AWp.skip ?_; try simp only [aThen, aBlock]) | (refine AWp.exit ?_; try simp only [aThen, aBlock, Nat.reduceEqDiff, reduceIte]) | (refine AWp.reg  dd72 rfl (fun gs K hgs hK => ?_); replace hgs : Nat.succ 0 = 1 := rfl) | (refine aops_consG (fun K' h' => ?_); simp only [go_sem, Nat.reduceLT, Nat.reduceLeDiff, Nat.reduceEqDiff, reduceIte, Nat.reduceAdd, Nat.reduceMul, Nat.reduceSub, Int.reduceLT, Int.reduceLE, Int.reduceToNat, Int.reduceNeg, reduceCtorEq, hgs, Node.cells]; (try simp (disch := omega) only [wrap_id, getD_map_in, Int.toNat_natCast, Node.cells]); (repeat (refine And.intro (by (first | omega | (simp; done) | (simp; omega) | assumption)) ?_)); refine h' _ ?_; clear h' K') | (refine AWp.cond rfl (fun h => ?_) (fun h => ?_) <;> (try simp only [decide_eq_true_eq, decide_eq_false_iff_not, beq_iff_eq, bne_iff_ne, ne_eq, Bool.not_eq_true', Bool.not_eq_false', beq_eq_false_iff_ne, Bool.true_eq_false, Bool.false_eq_true, Int.not_le, Int.not_lt, Bool.and_eq_true, Bool.and_eq_false_iff, Bool.or_eq_true, Bool.or_eq_false_iff, bne_eq_false_iff_eq, reduceCtorEq] at h) <;> (try first | contradiction | (exfalso; omega) | (exfalso; revert h; simp; done) | (exfalso; revert h; simp; omega)))))
      all_goals simp only [Out, outA, outL, resA, go_sem, Nat.reduceLT, Nat.reduceLeDiff, Nat.reduceEqDiff, reduceIte, Nat.reduceAdd, Nat.reduceMul, Nat.reduceSub, Int.reduceLT, Int.reduceLE, Int.reduceToNat, Int.reduceNeg, reduceCtorEq]
      all_goals exact AVle.refl _
theorem ex_NodeB {e : Ex} (hw : e.wf) (h : e.sz ≤ 100) : NodeB (e.fl 0) := fun x hx => by
  have h1 := e.ab_bd 0 x hx
  have h2 := Ex.kinds e 0 hw x hx
  omega
structure PartAt (l : List Node) (e : Ex) (j : Nat) : Prop where
  wf : (e.subE j).wf
  typ : (e.subE j).typ = true
  nB : (e.subE j).nB
  sz : (e.subE j).sz ≤ j + 1
  cut : cutL l (j + 1 - e.szs.getD j default) (e.szs.getD j default) = (e.subE j).fl 0
  val : ∀ r, valAt r l j = (e.subE j).val r
  node : l.getD j default = (e.subE j).nodeA j
  dp : (e.subE j).dp ≤ e.dp
theorem IsEx.partAt {l : List Node} {e : Ex} (hx : IsEx l e) (ht : e.typ = true) (hn : nodesB l) {j : Nat} (hj : j < l.length) : PartAt l e j := by
  obtain ⟨hw, rfl⟩ := hx
  rw [e.fl_length] at hj
  obtain ⟨h1, h2, h3⟩ := Ex.subE_sz hj hw
  exact ⟨Ex.subE_wf hj hw, Ex.typ_sub ht j, Ex.nB_sub (e.nB_of 0 hn) j, h1, by rw [h2]; exact Ex.subE_cut hj hw, fun r => Ex.val_at r hw j hj, by rw [e.node_at 0 j hj, Nat.zero_add], h3⟩
theorem fold_ok {f : Ex} (hw : f.wf) (ht : f.typ = true) (hn : f.nB) (h : f.sz ≤ 100) : IsEx ((foldE f).fl 0) (foldE f) ∧ ((foldE f).fl 0).length ≤ 100 ∧ 0 < ((foldE f).fl 0).length ∧ NodeB ((foldE f).fl 0) := by
  have S := foldE_same hw ht hn
  have := S.sz
  exact ⟨⟨S.wf, rfl⟩, by rw [Ex.fl_length]; omega, by rw [Ex.fl_length]; exact Ex.sz_pos _, ex_NodeB S.wf (by omega)⟩
theorem countI_leaf {x : Hd} (h : x.ok) (k : x.kind ≤ 4) : countI x.kind = 0 := by rw [count_parts h.k1 h.k2, partsN_leaf h k]
theorem countI_un {x : Hd} (h : x.ok) (h1 : 4 < x.kind) (h2 : x.kind ≤ 6) : countI x.kind = 1 := by rw [count_parts h.k1 h.k2, partsN_un h1 h2]
theorem countI_bin {x : Hd} (h : x.ok) (h1 : 6 < x.kind) : countI x.kind = 2 := by rw [count_parts h.k1 h.k2, partsN_bin h h1]
def dd44 : Nat → List (List Nat)
  | 0 => [[], [4]]
  | 1 => [[], [], [], [12, 13], [14], [], [15]]
  | 2 => [[], [], [], [16, 17], [18]]
  | 3 => [[], [6], [19]]
  | 4 => [[20], [], [1], [], [21, 22, 23], [24]]
  | 6 => [[], [9]]
  | 7 => [[0, 5, 35], [8], [36]]
  | 8 => [[1, 8, 20, 35], []]
  | 9 => [[], [], [37], [38], [39]]
  | 10 => [[], [], [40]]
  | 11 => [[41], [10], [], [], [44], [43, 45], [46], [42, 47], [48]]
  | 12 => [[41], [11], [49]]
  | 13 => [[50], [10], [0], [], [53], [52, 54], [55], [51, 56], [57]]
  | 14 => [[0, 50], [], [58], [], [60], [5], [62], [10], [59, 61, 63, 64], [65]]
  | _ => []
def fo44 : Nat → List Nat
  | 5 => [0, 5, 8, 9]
  | _ => []
theorem rFolded_c {l : List Node} {e : Ex} (hx : IsEx l e) (hl : l.length ≤ 100) (ht : e.typ = true) (hn : nodesB l) : ∀ j : Nat, j < l.length → ACall Try.prog 44 [nodesV l, .lit (.int .i64 (j : Int))] (nodesV ((foldE (e.subE j)).fl 0)) := by
  intro j
  induction j using Nat.strongRecOn with
  | _ j ih =>
    intro hj
    have P := hx.partAt ht hn hj
    have hle := hx.len
    have hCu := rCut_c j (by omega) hx hj
    rw [P.cut] at hCu
    have hFx := fixed_c ((e.subE j).fl 0) (by rw [Ex.fl_length]; have := P.sz; omega)
    rw [Ex.fixL_fl _ 0 P.wf] at hFx
    have hV := rValue_c (by omega) hx rc0 rc0_B hn j hj
    rw [P.val rc0] at hV
    have hrc : rc0.cells = [.lit (.int .i64 0), .lit (.int .i64 0), .lit (.int .i64 0)] := rfl
    rw [hrc] at hV
    have hG := gives_c (e.subE j).hd.kind
    have hFo := rForm_c ((e.subE j).val rc0) (givesB (e.subE j).hd.kind) (e.subE j).hd.pos (Ex.val_B rc0_B P.nB) fun h => Ex.val_truth rc0 P.wf h
    have hy := P.node
    have hok := Ex.hd_ok P.wf
    cases hfrm : frm (e.subE j) with
    | some g =>
      obtain ⟨hf, hfo⟩ := frm_fixed hfrm
      rw [foldE_some hfrm]
      rw [hf] at hFx
      rw [hfo] at hFo
      simp only [fr] at hFo
      have hk := (e.subE j).nodeA_kind j
      have hp := (e.subE j).nodeA_pos j
      rw [← hk, ← hp] at hFo
      rw [← hk] at hG
      generalize (e.subE j).nodeA j = y at *
      generalize (e.subE j).fl 0 = cl at *
      generalize (e.subE j).val rc0 = v at *
      generalize g.fl 0 = gl at *
      obtain ⟨kd, nn, xa, xb, xp⟩ := y
      simp only at hG hFo
      generalize givesB kd = gv at *
      clear hk hp hok P ih hx ht hn hf hfo hfrm
      unfold nodesV at *
      refine acall_of (n := 66) (rs := [.tmp 4]) Try.func44 rfl (by kernel_rfl) rfl rfl rfl ?_; simp only [argsE, Nat.reduceAdd]
      repeat (any_goals (first | ((first | refine aops_cons (fun K' h' => ?_) | refine aopsD_cons (fun K' h' => ?_)); simp only [go_sem, Nat.reduceLT, Nat.reduceLeDiff, Nat.reduceEqDiff, reduceIte, Nat.reduceAdd, Nat.reduceMul, Nat.reduceSub, Int.reduceLT, Int.reduceLE, Int.reduceToNat, Int.reduceNeg, reduceCtorEq, Node.cells, hy]; (try ((first | refine ⟨_, hM, ?_⟩ | refine ⟨_, fun _ => hM, ?_⟩ | refine ⟨_, hFo, ?_⟩ | refine ⟨_, fun _ => hFo, ?_⟩ | refine ⟨_, hR1, ?_⟩ | refine ⟨_, fun _ => hR1, ?_⟩ | refine ⟨_, hR2, ?_⟩ | refine ⟨_, fun _ => hR2, ?_⟩ | refine ⟨_, hCu, ?_⟩ | refine ⟨_, fun _ => hCu, ?_⟩ | refine ⟨_, hFx, ?_⟩ | refine ⟨_, fun _ => hFx, ?_⟩ | refine ⟨_, hV, ?_⟩ | refine ⟨_, fun _ => hV, ?_⟩ | refine ⟨_, hG, ?_⟩ | refine ⟨_, fun _ => hG, ?_⟩ | refine ⟨_, hCo, ?_⟩ | refine ⟨_, fun _ => hCo, ?_⟩); (try simp only [go_sem, Nat.reduceLT, Nat.reduceLeDiff, Nat.reduceEqDiff, reduceIte, Nat.reduceAdd, Nat.reduceMul, Nat.reduceSub, Int.reduceLT, Int.reduceLE, Int.reduceToNat, Int.reduceNeg, reduceCtorEq, Node.cells, hy]))); (try simp (disch := omega) only [wrap_id, getD_map_in, Int.toNat_natCast, Node.cells, hy]); (repeat (refine And.intro (by (first | omega | (simp; done) | (simp; omega) | assumption)) ?_)); refine h' _ ?_; clear h' K') | (refine aops_nil (hK _ ?_); clear hK K gs; try simp only [aThen, aBlock]) | (refine aops_consF [] (fun K' h' => ?_); simp only [go_sem, Nat.reduceLT, Nat.reduceLeDiff, Nat.reduceEqDiff, reduceIte, Nat.reduceAdd, Nat.reduceMul, Nat.reduceSub, Int.reduceLT, Int.reduceLE, Int.reduceToNat, Int.reduceNeg, reduceCtorEq, Node.cells, hy]; refine ⟨_, hM, ?_⟩; (try simp only [go_sem, Nat.reduceLT, Nat.reduceLeDiff, Nat.reduceEqDiff, reduceIte, Nat.reduceAdd, Nat.reduceMul, Nat.reduceSub, Int.reduceLT, Int.reduceLE, Int.reduceToNat, Int.reduceNeg, reduceCtorEq, Node.cells, hy]); (repeat (refine And.intro (by (first | omega | (simp; done) | (simp; omega) | assumption)) ?_)); refine h' _ ?_; clear h' K') | (refine AWp.sreg  dd44 rfl (fun gs K hgs hK => ?_); clear hgs) | refine AWp.seq ?_ | refine ARounds.step ?_ | refine AWp.block ?_ | refine AWp.label ?_ | (refine AWp.ret ?_; try simp only [aThen, aBlock]) | (refine AWp.skip ?_; try simp only [aThen, aBlock]) | (refine AWp.exit ?_; try simp only [aThen, aBlock, Nat.reduceEqDiff, reduceIte]) | (refine AWp.reg  dd44 rfl (fun gs K hgs hK => ?_); clear hgs) | ((first | refine AWp.sregD  fo44 mo_fact (by kernel_rfl) (fun gs K hgs hK => ?_) | refine AWp.regD  fo44 mo_fact (by kernel_rfl) (fun gs K hgs hK => ?_)); clear hgs) | (refine aopsD_nil (hK _ ?_); clear hK K gs; simp only [fo44]; simp only [ASt.prune, pruneE, keepB, keepR, Bool.or_false, Bool.or_true, Bool.true_or, Bool.false_or, reduceIte, Bool.or_self, Bool.false_eq_true, aThen, aBlock, Nat.reduceEqDiff]) | (refine AWp.cond rfl (fun h => ?_) (fun h => ?_) <;> (try simp only [decide_eq_true_eq, decide_eq_false_iff_not, beq_iff_eq, bne_iff_ne, ne_eq, Bool.not_eq_true', Bool.not_eq_false', beq_eq_false_iff_ne, Bool.true_eq_false, Bool.false_eq_true, Int.not_le, Int.not_lt, Bool.and_eq_true, Bool.and_eq_false_iff, Bool.or_eq_true, Bool.or_eq_false_iff, bne_eq_false_iff_eq, reduceCtorEq] at h) <;> (try first | contradiction | (exfalso; omega) | (exfalso; revert h; simp; done) | (exfalso; revert h; simp; omega)))))
      all_goals simp only [Out, outA, outL, resA, go_sem, Nat.reduceLT, Nat.reduceLeDiff, Nat.reduceEqDiff, reduceIte, Nat.reduceAdd, Nat.reduceMul, Nat.reduceSub, Int.reduceLT, Int.reduceLE, Int.reduceToNat, Int.reduceNeg, reduceCtorEq]
      all_goals exact AVle.refl _
    | none =>
      have hfd : (e.subE j).fixed = false ∨ ((e.subE j).fixed = true ∧ formE ((e.subE j).val rc0) (givesB (e.subE j).hd.kind) (e.subE j).hd.pos = none) := by
        unfold frm at hfrm
        split at hfrm
        · exact .inr ⟨by assumption, hfrm⟩
        · rename_i h
          exact .inl (by simpa using h)
      generalize hcl : Ex.fl 0 (e.subE j) = cl at *
      generalize hv : Ex.val rc0 (e.subE j) = v at *
      generalize hfx : (e.subE j).fixed = fx at *
      have hwf := P.wf
      have htyp := P.typ
      have hnB := P.nB
      have hsz := P.sz
      clear P hcl hv
      cases hs : e.subE j with
      | leaf x =>
        rw [hs] at hfrm hfd hG hFo hy hwf
        have hCo := countI_leaf hwf.1 hwf.2
        have hCo := count_c x.kind
        rw [countI_leaf hwf.1 hwf.2] at hCo
        have hM := rMade_0 x.kind x.n x.pos
        have hfl : foldE (.leaf x) = .leaf x := by simp [foldE, hfrm]
        rw [hfl]
        simp only [Ex.fl, Ex.nodeA, Hd.node, Ex.hd] at hy hG hFo hfd ⊢
        clear ih hx ht hn hs hfrm hfx hok hwf htyp hnB hfl
        obtain ⟨kd, nn, xp⟩ := x
        simp only at *
        generalize givesB kd = gv at *
        rcases hfd with rfl | ⟨rfl, hfo⟩
        · clear hFo
          unfold nodesV at *
          refine acall_of (n := 66) (rs := [.tmp 4]) Try.func44 rfl (by kernel_rfl) rfl rfl rfl ?_; simp only [argsE, Nat.reduceAdd]
          repeat (any_goals (first | ((first | refine aops_cons (fun K' h' => ?_) | refine aopsD_cons (fun K' h' => ?_)); simp only [go_sem, Nat.reduceLT, Nat.reduceLeDiff, Nat.reduceEqDiff, reduceIte, Nat.reduceAdd, Nat.reduceMul, Nat.reduceSub, Int.reduceLT, Int.reduceLE, Int.reduceToNat, Int.reduceNeg, reduceCtorEq, Node.cells, hy]; (try ((first | refine ⟨_, hM, ?_⟩ | refine ⟨_, fun _ => hM, ?_⟩ | refine ⟨_, hFo, ?_⟩ | refine ⟨_, fun _ => hFo, ?_⟩ | refine ⟨_, hR1, ?_⟩ | refine ⟨_, fun _ => hR1, ?_⟩ | refine ⟨_, hR2, ?_⟩ | refine ⟨_, fun _ => hR2, ?_⟩ | refine ⟨_, hCu, ?_⟩ | refine ⟨_, fun _ => hCu, ?_⟩ | refine ⟨_, hFx, ?_⟩ | refine ⟨_, fun _ => hFx, ?_⟩ | refine ⟨_, hV, ?_⟩ | refine ⟨_, fun _ => hV, ?_⟩ | refine ⟨_, hG, ?_⟩ | refine ⟨_, fun _ => hG, ?_⟩ | refine ⟨_, hCo, ?_⟩ | refine ⟨_, fun _ => hCo, ?_⟩); (try simp only [go_sem, Nat.reduceLT, Nat.reduceLeDiff, Nat.reduceEqDiff, reduceIte, Nat.reduceAdd, Nat.reduceMul, Nat.reduceSub, Int.reduceLT, Int.reduceLE, Int.reduceToNat, Int.reduceNeg, reduceCtorEq, Node.cells, hy]))); (try simp (disch := omega) only [wrap_id, getD_map_in, Int.toNat_natCast, Node.cells, hy]); (repeat (refine And.intro (by (first | omega | (simp; done) | (simp; omega) | assumption)) ?_)); refine h' _ ?_; clear h' K') | (refine aops_nil (hK _ ?_); clear hK K gs; try simp only [aThen, aBlock]) | (refine aops_consF [] (fun K' h' => ?_); simp only [go_sem, Nat.reduceLT, Nat.reduceLeDiff, Nat.reduceEqDiff, reduceIte, Nat.reduceAdd, Nat.reduceMul, Nat.reduceSub, Int.reduceLT, Int.reduceLE, Int.reduceToNat, Int.reduceNeg, reduceCtorEq, Node.cells, hy]; refine ⟨_, hM, ?_⟩; (try simp only [go_sem, Nat.reduceLT, Nat.reduceLeDiff, Nat.reduceEqDiff, reduceIte, Nat.reduceAdd, Nat.reduceMul, Nat.reduceSub, Int.reduceLT, Int.reduceLE, Int.reduceToNat, Int.reduceNeg, reduceCtorEq, Node.cells, hy]); (repeat (refine And.intro (by (first | omega | (simp; done) | (simp; omega) | assumption)) ?_)); refine h' _ ?_; clear h' K') | (refine AWp.sreg  dd44 rfl (fun gs K hgs hK => ?_); clear hgs) | refine AWp.seq ?_ | refine ARounds.step ?_ | refine AWp.block ?_ | refine AWp.label ?_ | (refine AWp.ret ?_; try simp only [aThen, aBlock]) | (refine AWp.skip ?_; try simp only [aThen, aBlock]) | (refine AWp.exit ?_; try simp only [aThen, aBlock, Nat.reduceEqDiff, reduceIte]) | (refine AWp.reg  dd44 rfl (fun gs K hgs hK => ?_); clear hgs) | ((first | refine AWp.sregD  fo44 mo_fact (by kernel_rfl) (fun gs K hgs hK => ?_) | refine AWp.regD  fo44 mo_fact (by kernel_rfl) (fun gs K hgs hK => ?_)); clear hgs) | (refine aopsD_nil (hK _ ?_); clear hK K gs; simp only [fo44]; simp only [ASt.prune, pruneE, keepB, keepR, Bool.or_false, Bool.or_true, Bool.true_or, Bool.false_or, reduceIte, Bool.or_self, Bool.false_eq_true, aThen, aBlock, Nat.reduceEqDiff]) | (refine AWp.cond rfl (fun h => ?_) (fun h => ?_) <;> (try simp only [decide_eq_true_eq, decide_eq_false_iff_not, beq_iff_eq, bne_iff_ne, ne_eq, Bool.not_eq_true', Bool.not_eq_false', beq_eq_false_iff_ne, Bool.true_eq_false, Bool.false_eq_true, Int.not_le, Int.not_lt, Bool.and_eq_true, Bool.and_eq_false_iff, Bool.or_eq_true, Bool.or_eq_false_iff, bne_eq_false_iff_eq, reduceCtorEq] at h) <;> (try first | contradiction | (exfalso; omega) | (exfalso; revert h; simp; done) | (exfalso; revert h; simp; omega)))))
          all_goals simp only [Out, outA, outL, resA, go_sem, Nat.reduceLT, Nat.reduceLeDiff, Nat.reduceEqDiff, reduceIte, Nat.reduceAdd, Nat.reduceMul, Nat.reduceSub, Int.reduceLT, Int.reduceLE, Int.reduceToNat, Int.reduceNeg, reduceCtorEq]
          all_goals exact AVle.refl _
        · rw [hfo] at hFo
          simp only [fr] at hFo
          unfold nodesV at *
          refine acall_of (n := 66) (rs := [.tmp 4]) Try.func44 rfl (by kernel_rfl) rfl rfl rfl ?_; simp only [argsE, Nat.reduceAdd]
          repeat (any_goals (first | ((first | refine aops_cons (fun K' h' => ?_) | refine aopsD_cons (fun K' h' => ?_)); simp only [go_sem, Nat.reduceLT, Nat.reduceLeDiff, Nat.reduceEqDiff, reduceIte, Nat.reduceAdd, Nat.reduceMul, Nat.reduceSub, Int.reduceLT, Int.reduceLE, Int.reduceToNat, Int.reduceNeg, reduceCtorEq, Node.cells, hy]; (try ((first | refine ⟨_, hM, ?_⟩ | refine ⟨_, fun _ => hM, ?_⟩ | refine ⟨_, hFo, ?_⟩ | refine ⟨_, fun _ => hFo, ?_⟩ | refine ⟨_, hR1, ?_⟩ | refine ⟨_, fun _ => hR1, ?_⟩ | refine ⟨_, hR2, ?_⟩ | refine ⟨_, fun _ => hR2, ?_⟩ | refine ⟨_, hCu, ?_⟩ | refine ⟨_, fun _ => hCu, ?_⟩ | refine ⟨_, hFx, ?_⟩ | refine ⟨_, fun _ => hFx, ?_⟩ | refine ⟨_, hV, ?_⟩ | refine ⟨_, fun _ => hV, ?_⟩ | refine ⟨_, hG, ?_⟩ | refine ⟨_, fun _ => hG, ?_⟩ | refine ⟨_, hCo, ?_⟩ | refine ⟨_, fun _ => hCo, ?_⟩); (try simp only [go_sem, Nat.reduceLT, Nat.reduceLeDiff, Nat.reduceEqDiff, reduceIte, Nat.reduceAdd, Nat.reduceMul, Nat.reduceSub, Int.reduceLT, Int.reduceLE, Int.reduceToNat, Int.reduceNeg, reduceCtorEq, Node.cells, hy]))); (try simp (disch := omega) only [wrap_id, getD_map_in, Int.toNat_natCast, Node.cells, hy]); (repeat (refine And.intro (by (first | omega | (simp; done) | (simp; omega) | assumption)) ?_)); refine h' _ ?_; clear h' K') | (refine aops_nil (hK _ ?_); clear hK K gs; try simp only [aThen, aBlock]) | (refine aops_consF [] (fun K' h' => ?_); simp only [go_sem, Nat.reduceLT, Nat.reduceLeDiff, Nat.reduceEqDiff, reduceIte, Nat.reduceAdd, Nat.reduceMul, Nat.reduceSub, Int.reduceLT, Int.reduceLE, Int.reduceToNat, Int.reduceNeg, reduceCtorEq, Node.cells, hy]; refine ⟨_, hM, ?_⟩; (try simp only [go_sem, Nat.reduceLT, Nat.reduceLeDiff, Nat.reduceEqDiff, reduceIte, Nat.reduceAdd, Nat.reduceMul, Nat.reduceSub, Int.reduceLT, Int.reduceLE, Int.reduceToNat, Int.reduceNeg, reduceCtorEq, Node.cells, hy]); (repeat (refine And.intro (by (first | omega | (simp; done) | (simp; omega) | assumption)) ?_)); refine h' _ ?_; clear h' K') | (refine AWp.sreg  dd44 rfl (fun gs K hgs hK => ?_); clear hgs) | refine AWp.seq ?_ | refine ARounds.step ?_ | refine AWp.block ?_ | refine AWp.label ?_ | (refine AWp.ret ?_; try simp only [aThen, aBlock]) | (refine AWp.skip ?_; try simp only [aThen, aBlock]) | (refine AWp.exit ?_; try simp only [aThen, aBlock, Nat.reduceEqDiff, reduceIte]) | (refine AWp.reg  dd44 rfl (fun gs K hgs hK => ?_); clear hgs) | ((first | refine AWp.sregD  fo44 mo_fact (by kernel_rfl) (fun gs K hgs hK => ?_) | refine AWp.regD  fo44 mo_fact (by kernel_rfl) (fun gs K hgs hK => ?_)); clear hgs) | (refine aopsD_nil (hK _ ?_); clear hK K gs; simp only [fo44]; simp only [ASt.prune, pruneE, keepB, keepR, Bool.or_false, Bool.or_true, Bool.true_or, Bool.false_or, reduceIte, Bool.or_self, Bool.false_eq_true, aThen, aBlock, Nat.reduceEqDiff]) | (refine AWp.cond rfl (fun h => ?_) (fun h => ?_) <;> (try simp only [decide_eq_true_eq, decide_eq_false_iff_not, beq_iff_eq, bne_iff_ne, ne_eq, Bool.not_eq_true', Bool.not_eq_false', beq_eq_false_iff_ne, Bool.true_eq_false, Bool.false_eq_true, Int.not_le, Int.not_lt, Bool.and_eq_true, Bool.and_eq_false_iff, Bool.or_eq_true, Bool.or_eq_false_iff, bne_eq_false_iff_eq, reduceCtorEq] at h) <;> (try first | contradiction | (exfalso; omega) | (exfalso; revert h; simp; done) | (exfalso; revert h; simp; omega)))))
          all_goals simp only [Out, outA, outL, resA, go_sem, Nat.reduceLT, Nat.reduceLeDiff, Nat.reduceEqDiff, reduceIte, Nat.reduceAdd, Nat.reduceMul, Nat.reduceSub, Int.reduceLT, Int.reduceLE, Int.reduceToNat, Int.reduceNeg, reduceCtorEq]
          all_goals exact AVle.refl _
      | un x g =>
        obtain ⟨q0, q1, q2⟩ := Ex.subE_un (by omega) hs
        rw [hs] at hfrm hfd hG hFo hy hwf htyp hnB hsz
        have hCo := count_c x.kind
        rw [countI_un hwf.1 hwf.2.1 hwf.2.2.1] at hCo
        have hR1 := ih (j - 1) (by omega) (by omega)
        rw [q2] at hR1
        simp only [Ex.typ, Bool.and_eq_true] at htyp
        simp only [Ex.sz] at hsz
        obtain ⟨k1, k2, k3, k4⟩ := fold_ok hwf.2.2.2 htyp.2 hnB (by omega)
        have hM := rMade_1 x.kind x.n x.pos ((foldE g).fl 0) k2 k3 k4
        rw [(k1.made1 hwf.1 hwf.2.1 hwf.2.2.1).2] at hM
        have hfl : foldE (.un x g) = .un x (foldE g) := by simp [foldE, hfrm]
        rw [hfl]
        clear k1 k2 k3 k4 hfl
        generalize Ex.fl 0 (Ex.un x (foldE g)) = out at *
        generalize Ex.fl 0 (foldE g) = pa at *
        simp only [Ex.nodeA, Hd.node, Ex.hd] at hy hG hFo hfd ⊢
        clear ih hx ht hn hs hfrm hfx hok hwf htyp hnB q2
        obtain ⟨kd, nn, xp⟩ := x
        simp only at *
        generalize givesB kd = gv at *
        rcases hfd with rfl | ⟨rfl, hfo⟩
        · clear hFo
          unfold nodesV at *
          refine acall_of (n := 66) (rs := [.tmp 4]) Try.func44 rfl (by kernel_rfl) rfl rfl rfl ?_; simp only [argsE, Nat.reduceAdd]
          repeat (any_goals (first | ((first | refine aops_cons (fun K' h' => ?_) | refine aopsD_cons (fun K' h' => ?_)); simp only [go_sem, Nat.reduceLT, Nat.reduceLeDiff, Nat.reduceEqDiff, reduceIte, Nat.reduceAdd, Nat.reduceMul, Nat.reduceSub, Int.reduceLT, Int.reduceLE, Int.reduceToNat, Int.reduceNeg, reduceCtorEq, Node.cells, hy]; (try ((first | refine ⟨_, hM, ?_⟩ | refine ⟨_, fun _ => hM, ?_⟩ | refine ⟨_, hFo, ?_⟩ | refine ⟨_, fun _ => hFo, ?_⟩ | refine ⟨_, hR1, ?_⟩ | refine ⟨_, fun _ => hR1, ?_⟩ | refine ⟨_, hR2, ?_⟩ | refine ⟨_, fun _ => hR2, ?_⟩ | refine ⟨_, hCu, ?_⟩ | refine ⟨_, fun _ => hCu, ?_⟩ | refine ⟨_, hFx, ?_⟩ | refine ⟨_, fun _ => hFx, ?_⟩ | refine ⟨_, hV, ?_⟩ | refine ⟨_, fun _ => hV, ?_⟩ | refine ⟨_, hG, ?_⟩ | refine ⟨_, fun _ => hG, ?_⟩ | refine ⟨_, hCo, ?_⟩ | refine ⟨_, fun _ => hCo, ?_⟩); (try simp only [go_sem, Nat.reduceLT, Nat.reduceLeDiff, Nat.reduceEqDiff, reduceIte, Nat.reduceAdd, Nat.reduceMul, Nat.reduceSub, Int.reduceLT, Int.reduceLE, Int.reduceToNat, Int.reduceNeg, reduceCtorEq, Node.cells, hy]))); (try simp (disch := omega) only [wrap_id, getD_map_in, Int.toNat_natCast, Node.cells, hy]); (repeat (refine And.intro (by (first | omega | (simp; done) | (simp; omega) | assumption)) ?_)); refine h' _ ?_; clear h' K') | (refine aops_nil (hK _ ?_); clear hK K gs; try simp only [aThen, aBlock]) | (refine aops_consF [] (fun K' h' => ?_); simp only [go_sem, Nat.reduceLT, Nat.reduceLeDiff, Nat.reduceEqDiff, reduceIte, Nat.reduceAdd, Nat.reduceMul, Nat.reduceSub, Int.reduceLT, Int.reduceLE, Int.reduceToNat, Int.reduceNeg, reduceCtorEq, Node.cells, hy]; refine ⟨_, hM, ?_⟩; (try simp only [go_sem, Nat.reduceLT, Nat.reduceLeDiff, Nat.reduceEqDiff, reduceIte, Nat.reduceAdd, Nat.reduceMul, Nat.reduceSub, Int.reduceLT, Int.reduceLE, Int.reduceToNat, Int.reduceNeg, reduceCtorEq, Node.cells, hy]); (repeat (refine And.intro (by (first | omega | (simp; done) | (simp; omega) | assumption)) ?_)); refine h' _ ?_; clear h' K') | (refine AWp.sreg  dd44 rfl (fun gs K hgs hK => ?_); clear hgs) | refine AWp.seq ?_ | refine ARounds.step ?_ | refine AWp.block ?_ | refine AWp.label ?_ | (refine AWp.ret ?_; try simp only [aThen, aBlock]) | (refine AWp.skip ?_; try simp only [aThen, aBlock]) | (refine AWp.exit ?_; try simp only [aThen, aBlock, Nat.reduceEqDiff, reduceIte]) | (refine AWp.reg  dd44 rfl (fun gs K hgs hK => ?_); clear hgs) | ((first | refine AWp.sregD  fo44 mo_fact (by kernel_rfl) (fun gs K hgs hK => ?_) | refine AWp.regD  fo44 mo_fact (by kernel_rfl) (fun gs K hgs hK => ?_)); clear hgs) | (refine aopsD_nil (hK _ ?_); clear hK K gs; simp only [fo44]; simp only [ASt.prune, pruneE, keepB, keepR, Bool.or_false, Bool.or_true, Bool.true_or, Bool.false_or, reduceIte, Bool.or_self, Bool.false_eq_true, aThen, aBlock, Nat.reduceEqDiff]) | (refine AWp.cond rfl (fun h => ?_) (fun h => ?_) <;> (try simp only [decide_eq_true_eq, decide_eq_false_iff_not, beq_iff_eq, bne_iff_ne, ne_eq, Bool.not_eq_true', Bool.not_eq_false', beq_eq_false_iff_ne, Bool.true_eq_false, Bool.false_eq_true, Int.not_le, Int.not_lt, Bool.and_eq_true, Bool.and_eq_false_iff, Bool.or_eq_true, Bool.or_eq_false_iff, bne_eq_false_iff_eq, reduceCtorEq] at h) <;> (try first | contradiction | (exfalso; omega) | (exfalso; revert h; simp; done) | (exfalso; revert h; simp; omega)))))
          all_goals simp only [Out, outA, outL, resA, go_sem, Nat.reduceLT, Nat.reduceLeDiff, Nat.reduceEqDiff, reduceIte, Nat.reduceAdd, Nat.reduceMul, Nat.reduceSub, Int.reduceLT, Int.reduceLE, Int.reduceToNat, Int.reduceNeg, reduceCtorEq]
          all_goals exact AVle.refl _
        · rw [hfo] at hFo
          simp only [fr] at hFo
          unfold nodesV at *
          refine acall_of (n := 66) (rs := [.tmp 4]) Try.func44 rfl (by kernel_rfl) rfl rfl rfl ?_; simp only [argsE, Nat.reduceAdd]
          repeat (any_goals (first | ((first | refine aops_cons (fun K' h' => ?_) | refine aopsD_cons (fun K' h' => ?_)); simp only [go_sem, Nat.reduceLT, Nat.reduceLeDiff, Nat.reduceEqDiff, reduceIte, Nat.reduceAdd, Nat.reduceMul, Nat.reduceSub, Int.reduceLT, Int.reduceLE, Int.reduceToNat, Int.reduceNeg, reduceCtorEq, Node.cells, hy]; (try ((first | refine ⟨_, hM, ?_⟩ | refine ⟨_, fun _ => hM, ?_⟩ | refine ⟨_, hFo, ?_⟩ | refine ⟨_, fun _ => hFo, ?_⟩ | refine ⟨_, hR1, ?_⟩ | refine ⟨_, fun _ => hR1, ?_⟩ | refine ⟨_, hR2, ?_⟩ | refine ⟨_, fun _ => hR2, ?_⟩ | refine ⟨_, hCu, ?_⟩ | refine ⟨_, fun _ => hCu, ?_⟩ | refine ⟨_, hFx, ?_⟩ | refine ⟨_, fun _ => hFx, ?_⟩ | refine ⟨_, hV, ?_⟩ | refine ⟨_, fun _ => hV, ?_⟩ | refine ⟨_, hG, ?_⟩ | refine ⟨_, fun _ => hG, ?_⟩ | refine ⟨_, hCo, ?_⟩ | refine ⟨_, fun _ => hCo, ?_⟩); (try simp only [go_sem, Nat.reduceLT, Nat.reduceLeDiff, Nat.reduceEqDiff, reduceIte, Nat.reduceAdd, Nat.reduceMul, Nat.reduceSub, Int.reduceLT, Int.reduceLE, Int.reduceToNat, Int.reduceNeg, reduceCtorEq, Node.cells, hy]))); (try simp (disch := omega) only [wrap_id, getD_map_in, Int.toNat_natCast, Node.cells, hy]); (repeat (refine And.intro (by (first | omega | (simp; done) | (simp; omega) | assumption)) ?_)); refine h' _ ?_; clear h' K') | (refine aops_nil (hK _ ?_); clear hK K gs; try simp only [aThen, aBlock]) | (refine aops_consF [] (fun K' h' => ?_); simp only [go_sem, Nat.reduceLT, Nat.reduceLeDiff, Nat.reduceEqDiff, reduceIte, Nat.reduceAdd, Nat.reduceMul, Nat.reduceSub, Int.reduceLT, Int.reduceLE, Int.reduceToNat, Int.reduceNeg, reduceCtorEq, Node.cells, hy]; refine ⟨_, hM, ?_⟩; (try simp only [go_sem, Nat.reduceLT, Nat.reduceLeDiff, Nat.reduceEqDiff, reduceIte, Nat.reduceAdd, Nat.reduceMul, Nat.reduceSub, Int.reduceLT, Int.reduceLE, Int.reduceToNat, Int.reduceNeg, reduceCtorEq, Node.cells, hy]); (repeat (refine And.intro (by (first | omega | (simp; done) | (simp; omega) | assumption)) ?_)); refine h' _ ?_; clear h' K') | (refine AWp.sreg  dd44 rfl (fun gs K hgs hK => ?_); clear hgs) | refine AWp.seq ?_ | refine ARounds.step ?_ | refine AWp.block ?_ | refine AWp.label ?_ | (refine AWp.ret ?_; try simp only [aThen, aBlock]) | (refine AWp.skip ?_; try simp only [aThen, aBlock]) | (refine AWp.exit ?_; try simp only [aThen, aBlock, Nat.reduceEqDiff, reduceIte]) | (refine AWp.reg  dd44 rfl (fun gs K hgs hK => ?_); clear hgs) | ((first | refine AWp.sregD  fo44 mo_fact (by kernel_rfl) (fun gs K hgs hK => ?_) | refine AWp.regD  fo44 mo_fact (by kernel_rfl) (fun gs K hgs hK => ?_)); clear hgs) | (refine aopsD_nil (hK _ ?_); clear hK K gs; simp only [fo44]; simp only [ASt.prune, pruneE, keepB, keepR, Bool.or_false, Bool.or_true, Bool.true_or, Bool.false_or, reduceIte, Bool.or_self, Bool.false_eq_true, aThen, aBlock, Nat.reduceEqDiff]) | (refine AWp.cond rfl (fun h => ?_) (fun h => ?_) <;> (try simp only [decide_eq_true_eq, decide_eq_false_iff_not, beq_iff_eq, bne_iff_ne, ne_eq, Bool.not_eq_true', Bool.not_eq_false', beq_eq_false_iff_ne, Bool.true_eq_false, Bool.false_eq_true, Int.not_le, Int.not_lt, Bool.and_eq_true, Bool.and_eq_false_iff, Bool.or_eq_true, Bool.or_eq_false_iff, bne_eq_false_iff_eq, reduceCtorEq] at h) <;> (try first | contradiction | (exfalso; omega) | (exfalso; revert h; simp; done) | (exfalso; revert h; simp; omega)))))
          all_goals simp only [Out, outA, outL, resA, go_sem, Nat.reduceLT, Nat.reduceLeDiff, Nat.reduceEqDiff, reduceIte, Nat.reduceAdd, Nat.reduceMul, Nat.reduceSub, Int.reduceLT, Int.reduceLE, Int.reduceToNat, Int.reduceNeg, reduceCtorEq]
          all_goals exact AVle.refl _
      | bin x g k =>
        obtain ⟨q1, q2, q3⟩ := Ex.subE_bin (by omega) hs
        have g0 := g.sz_pos
        have k0 := k.sz_pos
        rw [hs] at hfrm hfd hG hFo hy hwf htyp hnB hsz
        have hCo := count_c x.kind
        rw [countI_bin hwf.1 hwf.2.1] at hCo
        have hR2 := ih (j - 1) (by omega) (by omega)
        rw [q2] at hR2
        have hR1 := ih (j - 1 - k.sz) (by omega) (by omega)
        rw [q3] at hR1
        simp only [Ex.typ, Bool.and_eq_true] at htyp
        simp only [Ex.sz] at hsz
        obtain ⟨k1, k2, k3, k4⟩ := fold_ok hwf.2.2.1 htyp.1.2 hnB.1 (by omega)
        obtain ⟨l1, l2, l3, l4⟩ := fold_ok hwf.2.2.2 htyp.2 hnB.2 (by omega)
        have hM := rMade_2 x.kind x.n x.pos ((foldE g).fl 0) ((foldE k).fl 0) k2 k3 k4 l2 l3 l4
        rw [(k1.made2 l1 hwf.1 hwf.2.1).2] at hM
        have hfl : foldE (.bin x g k) = .bin x (foldE g) (foldE k) := by simp [foldE, hfrm]
        rw [hfl]
        clear k1 k2 k3 k4 l1 l2 l3 l4 hfl
        generalize Ex.fl 0 (Ex.bin x (foldE g) (foldE k)) = out at *
        generalize Ex.fl 0 (foldE g) = pa at *
        generalize Ex.fl 0 (foldE k) = pb at *
        simp only [Ex.nodeA, Hd.node, Ex.hd] at hy hG hFo hfd ⊢
        clear ih hx ht hn hs hfrm hfx hok hwf htyp hnB q2 q3
        obtain ⟨kd, nn, xp⟩ := x
        simp only at *
        generalize givesB kd = gv at *
        rcases hfd with rfl | ⟨rfl, hfo⟩
        · clear hFo
          unfold nodesV at *
          refine acall_of (n := 66) (rs := [.tmp 4]) Try.func44 rfl (by kernel_rfl) rfl rfl rfl ?_; simp only [argsE, Nat.reduceAdd]
          repeat (any_goals (first | ((first | refine aops_cons (fun K' h' => ?_) | refine aopsD_cons (fun K' h' => ?_)); simp only [go_sem, Nat.reduceLT, Nat.reduceLeDiff, Nat.reduceEqDiff, reduceIte, Nat.reduceAdd, Nat.reduceMul, Nat.reduceSub, Int.reduceLT, Int.reduceLE, Int.reduceToNat, Int.reduceNeg, reduceCtorEq, Node.cells, hy]; (try ((first | refine ⟨_, hM, ?_⟩ | refine ⟨_, fun _ => hM, ?_⟩ | refine ⟨_, hFo, ?_⟩ | refine ⟨_, fun _ => hFo, ?_⟩ | refine ⟨_, hR1, ?_⟩ | refine ⟨_, fun _ => hR1, ?_⟩ | refine ⟨_, hR2, ?_⟩ | refine ⟨_, fun _ => hR2, ?_⟩ | refine ⟨_, hCu, ?_⟩ | refine ⟨_, fun _ => hCu, ?_⟩ | refine ⟨_, hFx, ?_⟩ | refine ⟨_, fun _ => hFx, ?_⟩ | refine ⟨_, hV, ?_⟩ | refine ⟨_, fun _ => hV, ?_⟩ | refine ⟨_, hG, ?_⟩ | refine ⟨_, fun _ => hG, ?_⟩ | refine ⟨_, hCo, ?_⟩ | refine ⟨_, fun _ => hCo, ?_⟩); (try simp only [go_sem, Nat.reduceLT, Nat.reduceLeDiff, Nat.reduceEqDiff, reduceIte, Nat.reduceAdd, Nat.reduceMul, Nat.reduceSub, Int.reduceLT, Int.reduceLE, Int.reduceToNat, Int.reduceNeg, reduceCtorEq, Node.cells, hy]))); (try simp (disch := omega) only [wrap_id, getD_map_in, Int.toNat_natCast, Node.cells, hy]); (repeat (refine And.intro (by (first | omega | (simp; done) | (simp; omega) | assumption)) ?_)); refine h' _ ?_; clear h' K') | (refine aops_nil (hK _ ?_); clear hK K gs; try simp only [aThen, aBlock]) | (refine aops_consF [] (fun K' h' => ?_); simp only [go_sem, Nat.reduceLT, Nat.reduceLeDiff, Nat.reduceEqDiff, reduceIte, Nat.reduceAdd, Nat.reduceMul, Nat.reduceSub, Int.reduceLT, Int.reduceLE, Int.reduceToNat, Int.reduceNeg, reduceCtorEq, Node.cells, hy]; refine ⟨_, hM, ?_⟩; (try simp only [go_sem, Nat.reduceLT, Nat.reduceLeDiff, Nat.reduceEqDiff, reduceIte, Nat.reduceAdd, Nat.reduceMul, Nat.reduceSub, Int.reduceLT, Int.reduceLE, Int.reduceToNat, Int.reduceNeg, reduceCtorEq, Node.cells, hy]); (repeat (refine And.intro (by (first | omega | (simp; done) | (simp; omega) | assumption)) ?_)); refine h' _ ?_; clear h' K') | (refine AWp.sreg  dd44 rfl (fun gs K hgs hK => ?_); clear hgs) | refine AWp.seq ?_ | refine ARounds.step ?_ | refine AWp.block ?_ | refine AWp.label ?_ | (refine AWp.ret ?_; try simp only [aThen, aBlock]) | (refine AWp.skip ?_; try simp only [aThen, aBlock]) | (refine AWp.exit ?_; try simp only [aThen, aBlock, Nat.reduceEqDiff, reduceIte]) | (refine AWp.reg  dd44 rfl (fun gs K hgs hK => ?_); clear hgs) | ((first | refine AWp.sregD  fo44 mo_fact (by kernel_rfl) (fun gs K hgs hK => ?_) | refine AWp.regD  fo44 mo_fact (by kernel_rfl) (fun gs K hgs hK => ?_)); clear hgs) | (refine aopsD_nil (hK _ ?_); clear hK K gs; simp only [fo44]; simp only [ASt.prune, pruneE, keepB, keepR, Bool.or_false, Bool.or_true, Bool.true_or, Bool.false_or, reduceIte, Bool.or_self, Bool.false_eq_true, aThen, aBlock, Nat.reduceEqDiff]) | (refine AWp.cond rfl (fun h => ?_) (fun h => ?_) <;> (try simp only [decide_eq_true_eq, decide_eq_false_iff_not, beq_iff_eq, bne_iff_ne, ne_eq, Bool.not_eq_true', Bool.not_eq_false', beq_eq_false_iff_ne, Bool.true_eq_false, Bool.false_eq_true, Int.not_le, Int.not_lt, Bool.and_eq_true, Bool.and_eq_false_iff, Bool.or_eq_true, Bool.or_eq_false_iff, bne_eq_false_iff_eq, reduceCtorEq] at h) <;> (try first | contradiction | (exfalso; omega) | (exfalso; revert h; simp; done) | (exfalso; revert h; simp; omega)))))
          all_goals simp only [Out, outA, outL, resA, go_sem, Nat.reduceLT, Nat.reduceLeDiff, Nat.reduceEqDiff, reduceIte, Nat.reduceAdd, Nat.reduceMul, Nat.reduceSub, Int.reduceLT, Int.reduceLE, Int.reduceToNat, Int.reduceNeg, reduceCtorEq]
          all_goals exact AVle.refl _
        · rw [hfo] at hFo
          simp only [fr] at hFo
          unfold nodesV at *
          refine acall_of (n := 66) (rs := [.tmp 4]) Try.func44 rfl (by kernel_rfl) rfl rfl rfl ?_; simp only [argsE, Nat.reduceAdd]
          repeat (any_goals (first | ((first | refine aops_cons (fun K' h' => ?_) | refine aopsD_cons (fun K' h' => ?_)); simp only [go_sem, Nat.reduceLT, Nat.reduceLeDiff, Nat.reduceEqDiff, reduceIte, Nat.reduceAdd, Nat.reduceMul, Nat.reduceSub, Int.reduceLT, Int.reduceLE, Int.reduceToNat, Int.reduceNeg, reduceCtorEq, Node.cells, hy]; (try ((first | refine ⟨_, hM, ?_⟩ | refine ⟨_, fun _ => hM, ?_⟩ | refine ⟨_, hFo, ?_⟩ | refine ⟨_, fun _ => hFo, ?_⟩ | refine ⟨_, hR1, ?_⟩ | refine ⟨_, fun _ => hR1, ?_⟩ | refine ⟨_, hR2, ?_⟩ | refine ⟨_, fun _ => hR2, ?_⟩ | refine ⟨_, hCu, ?_⟩ | refine ⟨_, fun _ => hCu, ?_⟩ | refine ⟨_, hFx, ?_⟩ | refine ⟨_, fun _ => hFx, ?_⟩ | refine ⟨_, hV, ?_⟩ | refine ⟨_, fun _ => hV, ?_⟩ | refine ⟨_, hG, ?_⟩ | refine ⟨_, fun _ => hG, ?_⟩ | refine ⟨_, hCo, ?_⟩ | refine ⟨_, fun _ => hCo, ?_⟩); (try simp only [go_sem, Nat.reduceLT, Nat.reduceLeDiff, Nat.reduceEqDiff, reduceIte, Nat.reduceAdd, Nat.reduceMul, Nat.reduceSub, Int.reduceLT, Int.reduceLE, Int.reduceToNat, Int.reduceNeg, reduceCtorEq, Node.cells, hy]))); (try simp (disch := omega) only [wrap_id, getD_map_in, Int.toNat_natCast, Node.cells, hy]); (repeat (refine And.intro (by (first | omega | (simp; done) | (simp; omega) | assumption)) ?_)); refine h' _ ?_; clear h' K') | (refine aops_nil (hK _ ?_); clear hK K gs; try simp only [aThen, aBlock]) | (refine aops_consF [] (fun K' h' => ?_); simp only [go_sem, Nat.reduceLT, Nat.reduceLeDiff, Nat.reduceEqDiff, reduceIte, Nat.reduceAdd, Nat.reduceMul, Nat.reduceSub, Int.reduceLT, Int.reduceLE, Int.reduceToNat, Int.reduceNeg, reduceCtorEq, Node.cells, hy]; refine ⟨_, hM, ?_⟩; (try simp only [go_sem, Nat.reduceLT, Nat.reduceLeDiff, Nat.reduceEqDiff, reduceIte, Nat.reduceAdd, Nat.reduceMul, Nat.reduceSub, Int.reduceLT, Int.reduceLE, Int.reduceToNat, Int.reduceNeg, reduceCtorEq, Node.cells, hy]); (repeat (refine And.intro (by (first | omega | (simp; done) | (simp; omega) | assumption)) ?_)); refine h' _ ?_; clear h' K') | (refine AWp.sreg  dd44 rfl (fun gs K hgs hK => ?_); clear hgs) | refine AWp.seq ?_ | refine ARounds.step ?_ | refine AWp.block ?_ | refine AWp.label ?_ | (refine AWp.ret ?_; try simp only [aThen, aBlock]) | (refine AWp.skip ?_; try simp only [aThen, aBlock]) | (refine AWp.exit ?_; try simp only [aThen, aBlock, Nat.reduceEqDiff, reduceIte]) | (refine AWp.reg  dd44 rfl (fun gs K hgs hK => ?_); clear hgs) | ((first | refine AWp.sregD  fo44 mo_fact (by kernel_rfl) (fun gs K hgs hK => ?_) | refine AWp.regD  fo44 mo_fact (by kernel_rfl) (fun gs K hgs hK => ?_)); clear hgs) | (refine aopsD_nil (hK _ ?_); clear hK K gs; simp only [fo44]; simp only [ASt.prune, pruneE, keepB, keepR, Bool.or_false, Bool.or_true, Bool.true_or, Bool.false_or, reduceIte, Bool.or_self, Bool.false_eq_true, aThen, aBlock, Nat.reduceEqDiff]) | (refine AWp.cond rfl (fun h => ?_) (fun h => ?_) <;> (try simp only [decide_eq_true_eq, decide_eq_false_iff_not, beq_iff_eq, bne_iff_ne, ne_eq, Bool.not_eq_true', Bool.not_eq_false', beq_eq_false_iff_ne, Bool.true_eq_false, Bool.false_eq_true, Int.not_le, Int.not_lt, Bool.and_eq_true, Bool.and_eq_false_iff, Bool.or_eq_true, Bool.or_eq_false_iff, bne_eq_false_iff_eq, reduceCtorEq] at h) <;> (try first | contradiction | (exfalso; omega) | (exfalso; revert h; simp; done) | (exfalso; revert h; simp; omega)))))
          all_goals simp only [Out, outA, outL, resA, go_sem, Nat.reduceLT, Nat.reduceLeDiff, Nat.reduceEqDiff, reduceIte, Nat.reduceAdd, Nat.reduceMul, Nat.reduceSub, Int.reduceLT, Int.reduceLE, Int.reduceToNat, Int.reduceNeg, reduceCtorEq]
          all_goals exact AVle.refl _
def dd13 : Nat → List (List Nat)
  | 0 => [[], [2], [3]]
  | 1 => [[], [], [8], [9], [], [], [7], [4, 10], [5, 11], [12]]
  | 2 => [[], [], [13]]
  | 3 => [[0, 14], [6], [], [15]]
  | 4 => [[6, 14], [], [0], [17], [18], [16, 19], [20], []]
  | _ => []
noncomputable def fldR (l : List Node) : List Node := if ofE l = 0 then (match treeO l with | some e => (foldE e).fl 0 | none => []) else []
theorem fldR_ex {l : List Node} {e : Ex} (h : ofE l = 0) (ht : treeO l = some e) : fldR l = (foldE e).fl 0 := by unfold fldR; rw [if_pos h, ht]
theorem ofE_tree {l : List Node} (h : ofE l = 0) : ∃ e, treeO l = some e ∧ IsEx l e ∧ e.sz ≤ 60 ∧ e.dp ≤ 20 ∧ e.typ = true ∧ l.length = e.sz := by
  obtain ⟨h0, h1⟩ := ofE_0 h
  obtain ⟨e, ht, hx, h2, h3⟩ := errL_ok h0
  refine ⟨e, ht, hx, h2, h3, ?_, hx.len⟩
  rw [← Ex.typ_iff hx.1, ← hx.2]; exact h1
theorem rFold_c (l : List Node) (hl : l.length ≤ 1000) (hn : nodesB l) : ACall Try.prog 13 [nodesV l] (.tup [nodesV (fldR l), .lit (.int .i64 (ofE l))]) := by
  have hO := rOf_c l hl
  by_cases h0 : ofE l = 0
  · obtain ⟨e, ht, hx, h2, h3, h4, hlen⟩ := ofE_tree h0
    have hp := e.sz_pos
    have hR1 := rFolded_c hx (by omega) h4 hn (l.length - 1) (by omega)
    rw [hlen, e.subE_end, ← hlen, show ((l.length - 1 : Nat) : Int) = (l.length : Int) - 1 by omega] at hR1
    rw [fldR_ex h0 ht]
    rw [h0] at hO ⊢
    generalize (foldE e).fl 0 = out at *
    generalize ofN l = on at *
    generalize ofB l = ob at *
    clear hx h0 ht
    unfold nodesV at *
    refine acall_of (n := 21) (rs := [.tmp 2, .tmp 3]) Try.func13 rfl (by kernel_rfl) rfl rfl rfl ?_; simp only [argsE, Nat.reduceAdd]
    repeat (any_goals (first | (refine aops_cons (fun K' h' => ?_); simp only [go_sem, Nat.reduceLT, Nat.reduceLeDiff, Nat.reduceEqDiff, reduceIte, Nat.reduceAdd, Nat.reduceMul, Nat.reduceSub, Int.reduceLT, Int.reduceLE, Int.reduceToNat, Int.reduceNeg, reduceCtorEq, Node.cells]; (try ((first | refine ⟨_, hR1, ?_⟩ | refine ⟨_, fun _ => hR1, ?_⟩ | refine ⟨_, hR2, ?_⟩ | refine ⟨_, fun _ => hR2, ?_⟩ | refine ⟨_, hO, ?_⟩ | refine ⟨_, fun _ => hO, ?_⟩); (try simp only [go_sem, Nat.reduceLT, Nat.reduceLeDiff, Nat.reduceEqDiff, reduceIte, Nat.reduceAdd, Nat.reduceMul, Nat.reduceSub, Int.reduceLT, Int.reduceLE, Int.reduceToNat, Int.reduceNeg, reduceCtorEq, Node.cells]))); (try simp (disch := omega) only [wrap_id, getD_map_in, Int.toNat_natCast, Node.cells]); (repeat (refine And.intro (by (first | omega | (simp; done) | (simp; omega) | assumption)) ?_)); refine h' _ ?_; clear h' K') | (refine aops_nil (hK _ ?_); clear hK K gs; try simp only [aThen, aBlock]) | (refine AWp.sreg  dd13 rfl (fun gs K hgs hK => ?_); clear hgs) | refine AWp.seq ?_ | refine ARounds.step ?_ | refine AWp.block ?_ | refine AWp.label ?_ | (refine AWp.ret ?_; try simp only [aThen, aBlock]) | (refine AWp.skip ?_; try simp only [aThen, aBlock]) | (refine AWp.exit ?_; try simp only [aThen, aBlock, Nat.reduceEqDiff, reduceIte]) | (refine AWp.reg  dd13 rfl (fun gs K hgs hK => ?_); clear hgs) | (refine AWp.cond rfl (fun h => ?_) (fun h => ?_) <;> (try simp only [decide_eq_true_eq, decide_eq_false_iff_not, beq_iff_eq, bne_iff_ne, ne_eq, Bool.not_eq_true', Bool.not_eq_false', beq_eq_false_iff_ne, Bool.true_eq_false, Bool.false_eq_true, Int.not_le, Int.not_lt, Bool.and_eq_true, Bool.and_eq_false_iff, Bool.or_eq_true, Bool.or_eq_false_iff, bne_eq_false_iff_eq, reduceCtorEq] at h) <;> (try first | contradiction | (exfalso; omega) | (exfalso; revert h; simp; done) | (exfalso; revert h; simp; omega)))))
    all_goals simp only [Out, outA, outL, resA, go_sem, Nat.reduceLT, Nat.reduceLeDiff, Nat.reduceEqDiff, reduceIte, Nat.reduceAdd, Nat.reduceMul, Nat.reduceSub, Int.reduceLT, Int.reduceLE, Int.reduceToNat, Int.reduceNeg, reduceCtorEq]
    all_goals exact AVle.refl _
  · rw [show fldR l = [] from if_neg h0]
    generalize ofE l = oe at *
    generalize ofN l = on at *
    generalize ofB l = ob at *
    unfold nodesV at *
    refine acall_of (n := 21) (rs := [.tmp 2, .tmp 3]) Try.func13 rfl (by kernel_rfl) rfl rfl rfl ?_; simp only [argsE, Nat.reduceAdd]
    repeat (any_goals (first | (refine aops_cons (fun K' h' => ?_); simp only [go_sem, Nat.reduceLT, Nat.reduceLeDiff, Nat.reduceEqDiff, reduceIte, Nat.reduceAdd, Nat.reduceMul, Nat.reduceSub, Int.reduceLT, Int.reduceLE, Int.reduceToNat, Int.reduceNeg, reduceCtorEq, Node.cells]; (try ((first | refine ⟨_, hR1, ?_⟩ | refine ⟨_, fun _ => hR1, ?_⟩ | refine ⟨_, hR2, ?_⟩ | refine ⟨_, fun _ => hR2, ?_⟩ | refine ⟨_, hO, ?_⟩ | refine ⟨_, fun _ => hO, ?_⟩); (try simp only [go_sem, Nat.reduceLT, Nat.reduceLeDiff, Nat.reduceEqDiff, reduceIte, Nat.reduceAdd, Nat.reduceMul, Nat.reduceSub, Int.reduceLT, Int.reduceLE, Int.reduceToNat, Int.reduceNeg, reduceCtorEq, Node.cells]))); (try simp (disch := omega) only [wrap_id, getD_map_in, Int.toNat_natCast, Node.cells]); (repeat (refine And.intro (by (first | omega | (simp; done) | (simp; omega) | assumption)) ?_)); refine h' _ ?_; clear h' K') | (refine aops_nil (hK _ ?_); clear hK K gs; try simp only [aThen, aBlock]) | (refine AWp.sreg  dd13 rfl (fun gs K hgs hK => ?_); clear hgs) | refine AWp.seq ?_ | refine ARounds.step ?_ | refine AWp.block ?_ | refine AWp.label ?_ | (refine AWp.ret ?_; try simp only [aThen, aBlock]) | (refine AWp.skip ?_; try simp only [aThen, aBlock]) | (refine AWp.exit ?_; try simp only [aThen, aBlock, Nat.reduceEqDiff, reduceIte]) | (refine AWp.reg  dd13 rfl (fun gs K hgs hK => ?_); clear hgs) | (refine AWp.cond rfl (fun h => ?_) (fun h => ?_) <;> (try simp only [decide_eq_true_eq, decide_eq_false_iff_not, beq_iff_eq, bne_iff_ne, ne_eq, Bool.not_eq_true', Bool.not_eq_false', beq_eq_false_iff_ne, Bool.true_eq_false, Bool.false_eq_true, Int.not_le, Int.not_lt, Bool.and_eq_true, Bool.and_eq_false_iff, Bool.or_eq_true, Bool.or_eq_false_iff, bne_eq_false_iff_eq, reduceCtorEq] at h) <;> (try first | contradiction | (exfalso; omega) | (exfalso; revert h; simp; done) | (exfalso; revert h; simp; omega)))))
    all_goals simp only [Out, outA, outL, resA, go_sem, Nat.reduceLT, Nat.reduceLeDiff, Nat.reduceEqDiff, reduceIte, Nat.reduceAdd, Nat.reduceMul, Nat.reduceSub, Int.reduceLT, Int.reduceLE, Int.reduceToNat, Int.reduceNeg, reduceCtorEq]
    all_goals exact AVle.tup ⟨AVle.nil 5, AVle.refl _, trivial⟩
end Go.Proofs.Yteohklfoggiojaa
