/-
  What filtered30 does behind its loop over messages: the records wanted, the marks raised, the marks of each part, both comparisons.
-/
import Derived.Test.YtjeehkdepoiegaaGreatFilAB
namespace Go.Proofs.YtjeehkdepoiegaaGreat
open Go.AL Go.RowKit
set_option linter.unusedSimpArgs false
set_option linter.unusedVariables false
set_option maxRecDepth 10000
set_option maxHeartbeats 8000000
theorem raised_le : ∀ (l : List Ev) (m : Int), raisedG m l ≤ l.length
  | [], m => Nat.le_refl _
  | x :: l, m => by
    have := raised_le l (markU m x)
    simp only [raisedG, List.length_cons]
    split <;> omega
def restOf : Code → Option Code
  | .seq x y => match loopOf x with
    | some _ => some y
    | none => restOf y
  | _ => none
noncomputable def fRest1 : Code := (Tryz.f13.body.bind restOf).getD .skip
noncomputable def fRest2 : Code := (restOf fRest1).getD .skip
noncomputable def fRest3 : Code := (restOf fRest2).getD .skip
def sameR (a b : List Rcd) : Prop := ACall Tryz.prog 36 [.ro 3 (a.map Rcd.cells), .ro 3 (b.map Rcd.cells)] (.lit (.bool true))
def marksP (p c : Int) : List (List AV) := [[.lit (.int .i64 c)], [.lit (.int .i64 (if 2 ≤ p then c else 0))], [.lit (.int .i64 (if 3 ≤ p then c else 0))]]
theorem fend_3 (q : Qry) (p : Int) (hp : p = 1 ∨ p = 2 ∨ p = 3) (ra : Int) (ls aa ps : List Rcd) (ha : aa.length ≤ 60) (hpl : ps.length ≤ 60) (hS1 : sameR ps ps) (hS2 : sameR aa (if q.late = 2 then ls else [])) :
    AWp Tryz.prog 252 fRest3 (Out Tryz.prog [.tmp 8] (fun o => AVle o (.lit (.bool true))))
      ⟨[(3, .lit (.int .i64 p)), (4, .bp 0 0), (14, .ro 3 (ls.map Rcd.cells)), (16, .own 1 3 0 aa.length), (17, .own 2 3 0 ps.length), (18, .own 0 1 0 3), (29, .own 3 3 0 ps.length), (34, .lit (.int .i64 ra))],
        [q.cells], [some ⟨3, 1, marksP p ra⟩, some ⟨55, 3, aa.map Rcd.cells⟩, some ⟨55, 3, ps.map Rcd.cells⟩, some ⟨55, 3, ps.map Rcd.cells⟩]⟩ := by
  unfold sameR at *
  have t1 : List.take ps.length (ps.map Rcd.cells) = ps.map Rcd.cells := List.take_of_length_le (by simp)
  have t2 : List.take aa.length (aa.map Rcd.cells) = aa.map Rcd.cells := List.take_of_length_le (by simp)
  obtain ⟨ag, ar, sr, jn, wh, ⟨kd, sz, ev⟩, bk, lt⟩ := q
  unfold Qry.cells nodesV intsV at *
  simp only at *
  have hS2' : lt ≠ 2 → ACall Tryz.prog 36 [.ro 3 (aa.map Rcd.cells), .lit (.slice none 0 0)] (.lit (.bool true)) := fun h => by
    rw [if_neg h] at hS2
    exact hS2.mono (.cons (.refl _) (.cons (AVle.nil 3) (.refl _))) (AVle.refl _)
  refine AWp.seq ?_
  rcases hp with rfl | rfl | rfl
  · rw [show marksP 1 ra = [[.lit (.int .i64 ra)], [.lit (.int .i64 0)], [.lit (.int .i64 0)]] from rfl]
    repeat (any_goals (first | ((refine aops_cons (fun K' h' => ?_)); simp only [go_sem, Nat.reduceLT, Nat.reduceLeDiff, Nat.reduceEqDiff, reduceIte, Nat.reduceAdd, Nat.reduceMul, Nat.reduceSub, Int.reduceLT, Int.reduceLE, Int.reduceToNat, Int.reduceNeg, reduceCtorEq, hgs, aopG, bne_self_eq_false, Bool.not_false, beq_self_eq_true, t1, t2, Int.reduceAdd, Int.zero_add]; (try simp (disch := omega) only [wrap_id, getD_map_in, Int.toNat_natCast, aopG, bne_self_eq_false, Bool.not_false, beq_self_eq_true, t1, t2, Int.reduceAdd, Int.zero_add]); (repeat (refine And.intro (by (omega)) ?_)); refine h' _ ?_; clear h' K') | (refine aops_nil (hK _ ?_); clear hK K hgs gs; try simp only [aThen, aBlock]) | (refine AWp.sreg  dd13 rfl (fun gs K hgs hK => ?_); replace hgs : Nat.succ 0 = 1 := rfl) | refine AWp.block ?_))
    refine AWp.loopR 2 ?_
    by_cases hlt : lt = 2
    · subst hlt
      rw [if_pos rfl] at hS2
      clear hS2'
      repeat (any_goals (first | ((refine aops_cons (fun K' h' => ?_)); simp only [go_sem, Nat.reduceLT, Nat.reduceLeDiff, Nat.reduceEqDiff, reduceIte, Nat.reduceAdd, Nat.reduceMul, Nat.reduceSub, Int.reduceLT, Int.reduceLE, Int.reduceToNat, Int.reduceNeg, reduceCtorEq, hgs, aopG, bne_self_eq_false, Bool.not_false, beq_self_eq_true, t1, t2, Int.reduceAdd, Int.zero_add]; (try ((first | refine ⟨_, hS1, ?_⟩ | refine ⟨_, hS2, ?_⟩); (try simp only [go_sem, Nat.reduceLT, Nat.reduceLeDiff, Nat.reduceEqDiff, reduceIte, Nat.reduceAdd, Nat.reduceMul, Nat.reduceSub, Int.reduceLT, Int.reduceLE, Int.reduceToNat, Int.reduceNeg, reduceCtorEq, hgs, aopG, bne_self_eq_false, Bool.not_false, beq_self_eq_true, t1, t2, Int.reduceAdd, Int.zero_add]))); (try simp (disch := omega) only [wrap_id, getD_map_in, Int.toNat_natCast, aopG, bne_self_eq_false, Bool.not_false, beq_self_eq_true, t1, t2, Int.reduceAdd, Int.zero_add]); (repeat (refine And.intro (by (omega)) ?_)); refine h' _ ?_; clear h' K') | (refine aops_nil (hK _ ?_); clear hK K hgs gs; try simp only [aThen, aBlock]) | ((refine AWp.sreg (id := 59) dd13 rfl (fun gs K hgs hK => ?_)); replace hgs : gs 3 = some 247 := hgs 3) | (refine AWp.sreg  dd13 rfl (fun gs K hgs hK => ?_); replace hgs : Nat.succ 0 = 1 := rfl) | refine AWp.seq ?_ | refine AWp.block ?_ | (refine AWp.ret ?_; try simp only [aThen, aBlock]) | (refine AWp.skip ?_; try simp only [aThen, aBlock]) | (refine AWp.exit ?_; try simp only [aThen, aBlock, Nat.reduceEqDiff, reduceIte]) | (refine AWp.reg  dd13 rfl (fun gs K hgs hK => ?_); replace hgs : Nat.succ 0 = 1 := rfl) | (refine AWp.cond rfl (fun h => ?_) (fun h => ?_) <;> (try simp only [decide_eq_true_eq, decide_eq_false_iff_not, beq_iff_eq, bne_iff_ne, ne_eq, Bool.not_eq_true', Bool.not_eq_false', beq_eq_false_iff_ne, Bool.true_eq_false, Bool.false_eq_true, Int.not_le, Int.not_lt, Bool.and_eq_true, Bool.and_eq_false_iff, Bool.or_eq_true, Bool.or_eq_false_iff, bne_eq_false_iff_eq, reduceCtorEq] at h))))
      all_goals simp only [Out, outA, outL, resA, go_sem, Nat.reduceLT, Nat.reduceLeDiff, Nat.reduceEqDiff, reduceIte, Nat.reduceAdd, Nat.reduceMul, Nat.reduceSub, Int.reduceLT, Int.reduceLE, Int.reduceToNat, Int.reduceNeg, reduceCtorEq]
      all_goals exact AVle.refl _
    · have hS2 := hS2' hlt
      clear hS2'
      repeat (any_goals (first | ((refine aops_cons (fun K' h' => ?_)); simp only [go_sem, Nat.reduceLT, Nat.reduceLeDiff, Nat.reduceEqDiff, reduceIte, Nat.reduceAdd, Nat.reduceMul, Nat.reduceSub, Int.reduceLT, Int.reduceLE, Int.reduceToNat, Int.reduceNeg, reduceCtorEq, hgs, aopG, bne_self_eq_false, Bool.not_false, beq_self_eq_true, t1, t2, Int.reduceAdd, Int.zero_add]; (try ((first | refine ⟨_, hS1, ?_⟩ | refine ⟨_, hS2, ?_⟩); (try simp only [go_sem, Nat.reduceLT, Nat.reduceLeDiff, Nat.reduceEqDiff, reduceIte, Nat.reduceAdd, Nat.reduceMul, Nat.reduceSub, Int.reduceLT, Int.reduceLE, Int.reduceToNat, Int.reduceNeg, reduceCtorEq, hgs, aopG, bne_self_eq_false, Bool.not_false, beq_self_eq_true, t1, t2, Int.reduceAdd, Int.zero_add]))); (try simp (disch := omega) only [wrap_id, getD_map_in, Int.toNat_natCast, aopG, bne_self_eq_false, Bool.not_false, beq_self_eq_true, t1, t2, Int.reduceAdd, Int.zero_add]); (repeat (refine And.intro (by (omega)) ?_)); refine h' _ ?_; clear h' K') | (refine aops_nil (hK _ ?_); clear hK K hgs gs; try simp only [aThen, aBlock]) | ((refine AWp.sreg (id := 59) dd13 rfl (fun gs K hgs hK => ?_)); replace hgs : gs 3 = some 247 := hgs 3) | (refine AWp.sreg  dd13 rfl (fun gs K hgs hK => ?_); replace hgs : Nat.succ 0 = 1 := rfl) | refine AWp.seq ?_ | refine AWp.block ?_ | (refine AWp.ret ?_; try simp only [aThen, aBlock]) | (refine AWp.skip ?_; try simp only [aThen, aBlock]) | (refine AWp.exit ?_; try simp only [aThen, aBlock, Nat.reduceEqDiff, reduceIte]) | (refine AWp.reg  dd13 rfl (fun gs K hgs hK => ?_); replace hgs : Nat.succ 0 = 1 := rfl) | (refine AWp.cond rfl (fun h => ?_) (fun h => ?_) <;> (try simp only [decide_eq_true_eq, decide_eq_false_iff_not, beq_iff_eq, bne_iff_ne, ne_eq, Bool.not_eq_true', Bool.not_eq_false', beq_eq_false_iff_ne, Bool.true_eq_false, Bool.false_eq_true, Int.not_le, Int.not_lt, Bool.and_eq_true, Bool.and_eq_false_iff, Bool.or_eq_true, Bool.or_eq_false_iff, bne_eq_false_iff_eq, reduceCtorEq] at h) <;> (try first | contradiction))))
      all_goals simp only [Out, outA, outL, resA, go_sem, Nat.reduceLT, Nat.reduceLeDiff, Nat.reduceEqDiff, reduceIte, Nat.reduceAdd, Nat.reduceMul, Nat.reduceSub, Int.reduceLT, Int.reduceLE, Int.reduceToNat, Int.reduceNeg, reduceCtorEq]
      all_goals exact AVle.refl _
  · rw [show marksP 2 ra = [[.lit (.int .i64 ra)], [.lit (.int .i64 ra)], [.lit (.int .i64 0)]] from rfl]
    repeat (any_goals (first | ((refine aops_cons (fun K' h' => ?_)); simp only [go_sem, Nat.reduceLT, Nat.reduceLeDiff, Nat.reduceEqDiff, reduceIte, Nat.reduceAdd, Nat.reduceMul, Nat.reduceSub, Int.reduceLT, Int.reduceLE, Int.reduceToNat, Int.reduceNeg, reduceCtorEq, hgs, aopG, bne_self_eq_false, Bool.not_false, beq_self_eq_true, t1, t2, Int.reduceAdd, Int.zero_add]; (try simp (disch := omega) only [wrap_id, getD_map_in, Int.toNat_natCast, aopG, bne_self_eq_false, Bool.not_false, beq_self_eq_true, t1, t2, Int.reduceAdd, Int.zero_add]); (repeat (refine And.intro (by (omega)) ?_)); refine h' _ ?_; clear h' K') | (refine aops_nil (hK _ ?_); clear hK K hgs gs; try simp only [aThen, aBlock]) | (refine AWp.sreg  dd13 rfl (fun gs K hgs hK => ?_); replace hgs : Nat.succ 0 = 1 := rfl) | refine AWp.block ?_))
    refine AWp.loopR 3 ?_
    by_cases hlt : lt = 2
    · subst hlt
      rw [if_pos rfl] at hS2
      clear hS2'
      repeat (any_goals (first | ((refine aops_cons (fun K' h' => ?_)); simp only [go_sem, Nat.reduceLT, Nat.reduceLeDiff, Nat.reduceEqDiff, reduceIte, Nat.reduceAdd, Nat.reduceMul, Nat.reduceSub, Int.reduceLT, Int.reduceLE, Int.reduceToNat, Int.reduceNeg, reduceCtorEq, hgs, aopG, bne_self_eq_false, Bool.not_false, beq_self_eq_true, t1, t2, Int.reduceAdd, Int.zero_add]; (try ((first | refine ⟨_, hS1, ?_⟩ | refine ⟨_, hS2, ?_⟩); (try simp only [go_sem, Nat.reduceLT, Nat.reduceLeDiff, Nat.reduceEqDiff, reduceIte, Nat.reduceAdd, Nat.reduceMul, Nat.reduceSub, Int.reduceLT, Int.reduceLE, Int.reduceToNat, Int.reduceNeg, reduceCtorEq, hgs, aopG, bne_self_eq_false, Bool.not_false, beq_self_eq_true, t1, t2, Int.reduceAdd, Int.zero_add]))); (try simp (disch := omega) only [wrap_id, getD_map_in, Int.toNat_natCast, aopG, bne_self_eq_false, Bool.not_false, beq_self_eq_true, t1, t2, Int.reduceAdd, Int.zero_add]); (repeat (refine And.intro (by (omega)) ?_)); refine h' _ ?_; clear h' K') | (refine aops_nil (hK _ ?_); clear hK K hgs gs; try simp only [aThen, aBlock]) | ((refine AWp.sreg (id := 59) dd13 rfl (fun gs K hgs hK => ?_)); replace hgs : gs 3 = some 247 := hgs 3) | (refine AWp.sreg  dd13 rfl (fun gs K hgs hK => ?_); replace hgs : Nat.succ 0 = 1 := rfl) | refine AWp.seq ?_ | refine AWp.block ?_ | (refine AWp.ret ?_; try simp only [aThen, aBlock]) | (refine AWp.skip ?_; try simp only [aThen, aBlock]) | (refine AWp.exit ?_; try simp only [aThen, aBlock, Nat.reduceEqDiff, reduceIte]) | (refine AWp.reg  dd13 rfl (fun gs K hgs hK => ?_); replace hgs : Nat.succ 0 = 1 := rfl) | (refine AWp.cond rfl (fun h => ?_) (fun h => ?_) <;> (try simp only [decide_eq_true_eq, decide_eq_false_iff_not, beq_iff_eq, bne_iff_ne, ne_eq, Bool.not_eq_true', Bool.not_eq_false', beq_eq_false_iff_ne, Bool.true_eq_false, Bool.false_eq_true, Int.not_le, Int.not_lt, Bool.and_eq_true, Bool.and_eq_false_iff, Bool.or_eq_true, Bool.or_eq_false_iff, bne_eq_false_iff_eq, reduceCtorEq] at h))))
      all_goals simp only [Out, outA, outL, resA, go_sem, Nat.reduceLT, Nat.reduceLeDiff, Nat.reduceEqDiff, reduceIte, Nat.reduceAdd, Nat.reduceMul, Nat.reduceSub, Int.reduceLT, Int.reduceLE, Int.reduceToNat, Int.reduceNeg, reduceCtorEq]
      all_goals exact AVle.refl _
    · have hS2 := hS2' hlt
      clear hS2'
      repeat (any_goals (first | ((refine aops_cons (fun K' h' => ?_)); simp only [go_sem, Nat.reduceLT, Nat.reduceLeDiff, Nat.reduceEqDiff, reduceIte, Nat.reduceAdd, Nat.reduceMul, Nat.reduceSub, Int.reduceLT, Int.reduceLE, Int.reduceToNat, Int.reduceNeg, reduceCtorEq, hgs, aopG, bne_self_eq_false, Bool.not_false, beq_self_eq_true, t1, t2, Int.reduceAdd, Int.zero_add]; (try ((first | refine ⟨_, hS1, ?_⟩ | refine ⟨_, hS2, ?_⟩); (try simp only [go_sem, Nat.reduceLT, Nat.reduceLeDiff, Nat.reduceEqDiff, reduceIte, Nat.reduceAdd, Nat.reduceMul, Nat.reduceSub, Int.reduceLT, Int.reduceLE, Int.reduceToNat, Int.reduceNeg, reduceCtorEq, hgs, aopG, bne_self_eq_false, Bool.not_false, beq_self_eq_true, t1, t2, Int.reduceAdd, Int.zero_add]))); (try simp (disch := omega) only [wrap_id, getD_map_in, Int.toNat_natCast, aopG, bne_self_eq_false, Bool.not_false, beq_self_eq_true, t1, t2, Int.reduceAdd, Int.zero_add]); (repeat (refine And.intro (by (omega)) ?_)); refine h' _ ?_; clear h' K') | (refine aops_nil (hK _ ?_); clear hK K hgs gs; try simp only [aThen, aBlock]) | ((refine AWp.sreg (id := 59) dd13 rfl (fun gs K hgs hK => ?_)); replace hgs : gs 3 = some 247 := hgs 3) | (refine AWp.sreg  dd13 rfl (fun gs K hgs hK => ?_); replace hgs : Nat.succ 0 = 1 := rfl) | refine AWp.seq ?_ | refine AWp.block ?_ | (refine AWp.ret ?_; try simp only [aThen, aBlock]) | (refine AWp.skip ?_; try simp only [aThen, aBlock]) | (refine AWp.exit ?_; try simp only [aThen, aBlock, Nat.reduceEqDiff, reduceIte]) | (refine AWp.reg  dd13 rfl (fun gs K hgs hK => ?_); replace hgs : Nat.succ 0 = 1 := rfl) | (refine AWp.cond rfl (fun h => ?_) (fun h => ?_) <;> (try simp only [decide_eq_true_eq, decide_eq_false_iff_not, beq_iff_eq, bne_iff_ne, ne_eq, Bool.not_eq_true', Bool.not_eq_false', beq_eq_false_iff_ne, Bool.true_eq_false, Bool.false_eq_true, Int.not_le, Int.not_lt, Bool.and_eq_true, Bool.and_eq_false_iff, Bool.or_eq_true, Bool.or_eq_false_iff, bne_eq_false_iff_eq, reduceCtorEq] at h) <;> (try first | contradiction))))
      all_goals simp only [Out, outA, outL, resA, go_sem, Nat.reduceLT, Nat.reduceLeDiff, Nat.reduceEqDiff, reduceIte, Nat.reduceAdd, Nat.reduceMul, Nat.reduceSub, Int.reduceLT, Int.reduceLE, Int.reduceToNat, Int.reduceNeg, reduceCtorEq]
      all_goals exact AVle.refl _
  · rw [show marksP 3 ra = [[.lit (.int .i64 ra)], [.lit (.int .i64 ra)], [.lit (.int .i64 ra)]] from rfl]
    repeat (any_goals (first | ((refine aops_cons (fun K' h' => ?_)); simp only [go_sem, Nat.reduceLT, Nat.reduceLeDiff, Nat.reduceEqDiff, reduceIte, Nat.reduceAdd, Nat.reduceMul, Nat.reduceSub, Int.reduceLT, Int.reduceLE, Int.reduceToNat, Int.reduceNeg, reduceCtorEq, hgs, aopG, bne_self_eq_false, Bool.not_false, beq_self_eq_true, t1, t2, Int.reduceAdd, Int.zero_add]; (try simp (disch := omega) only [wrap_id, getD_map_in, Int.toNat_natCast, aopG, bne_self_eq_false, Bool.not_false, beq_self_eq_true, t1, t2, Int.reduceAdd, Int.zero_add]); (repeat (refine And.intro (by (omega)) ?_)); refine h' _ ?_; clear h' K') | (refine aops_nil (hK _ ?_); clear hK K hgs gs; try simp only [aThen, aBlock]) | (refine AWp.sreg  dd13 rfl (fun gs K hgs hK => ?_); replace hgs : Nat.succ 0 = 1 := rfl) | refine AWp.block ?_))
    refine AWp.loopR 4 ?_
    by_cases hlt : lt = 2
    · subst hlt
      rw [if_pos rfl] at hS2
      clear hS2'
      repeat (any_goals (first | ((refine aops_cons (fun K' h' => ?_)); simp only [go_sem, Nat.reduceLT, Nat.reduceLeDiff, Nat.reduceEqDiff, reduceIte, Nat.reduceAdd, Nat.reduceMul, Nat.reduceSub, Int.reduceLT, Int.reduceLE, Int.reduceToNat, Int.reduceNeg, reduceCtorEq, hgs, aopG, bne_self_eq_false, Bool.not_false, beq_self_eq_true, t1, t2, Int.reduceAdd, Int.zero_add]; (try ((first | refine ⟨_, hS1, ?_⟩ | refine ⟨_, hS2, ?_⟩); (try simp only [go_sem, Nat.reduceLT, Nat.reduceLeDiff, Nat.reduceEqDiff, reduceIte, Nat.reduceAdd, Nat.reduceMul, Nat.reduceSub, Int.reduceLT, Int.reduceLE, Int.reduceToNat, Int.reduceNeg, reduceCtorEq, hgs, aopG, bne_self_eq_false, Bool.not_false, beq_self_eq_true, t1, t2, Int.reduceAdd, Int.zero_add]))); (try simp (disch := omega) only [wrap_id, getD_map_in, Int.toNat_natCast, aopG, bne_self_eq_false, Bool.not_false, beq_self_eq_true, t1, t2, Int.reduceAdd, Int.zero_add]); (repeat (refine And.intro (by (omega)) ?_)); refine h' _ ?_; clear h' K') | (refine aops_nil (hK _ ?_); clear hK K hgs gs; try simp only [aThen, aBlock]) | ((refine AWp.sreg (id := 59) dd13 rfl (fun gs K hgs hK => ?_)); replace hgs : gs 3 = some 247 := hgs 3) | (refine AWp.sreg  dd13 rfl (fun gs K hgs hK => ?_); replace hgs : Nat.succ 0 = 1 := rfl) | refine AWp.seq ?_ | refine AWp.block ?_ | (refine AWp.ret ?_; try simp only [aThen, aBlock]) | (refine AWp.skip ?_; try simp only [aThen, aBlock]) | (refine AWp.exit ?_; try simp only [aThen, aBlock, Nat.reduceEqDiff, reduceIte]) | (refine AWp.reg  dd13 rfl (fun gs K hgs hK => ?_); replace hgs : Nat.succ 0 = 1 := rfl) | (refine AWp.cond rfl (fun h => ?_) (fun h => ?_) <;> (try simp only [decide_eq_true_eq, decide_eq_false_iff_not, beq_iff_eq, bne_iff_ne, ne_eq, Bool.not_eq_true', Bool.not_eq_false', beq_eq_false_iff_ne, Bool.true_eq_false, Bool.false_eq_true, Int.not_le, Int.not_lt, Bool.and_eq_true, Bool.and_eq_false_iff, Bool.or_eq_true, Bool.or_eq_false_iff, bne_eq_false_iff_eq, reduceCtorEq] at h))))
      all_goals simp only [Out, outA, outL, resA, go_sem, Nat.reduceLT, Nat.reduceLeDiff, Nat.reduceEqDiff, reduceIte, Nat.reduceAdd, Nat.reduceMul, Nat.reduceSub, Int.reduceLT, Int.reduceLE, Int.reduceToNat, Int.reduceNeg, reduceCtorEq]
      all_goals exact AVle.refl _
    · have hS2 := hS2' hlt
      clear hS2'
      repeat (any_goals (first | ((refine aops_cons (fun K' h' => ?_)); simp only [go_sem, Nat.reduceLT, Nat.reduceLeDiff, Nat.reduceEqDiff, reduceIte, Nat.reduceAdd, Nat.reduceMul, Nat.reduceSub, Int.reduceLT, Int.reduceLE, Int.reduceToNat, Int.reduceNeg, reduceCtorEq, hgs, aopG, bne_self_eq_false, Bool.not_false, beq_self_eq_true, t1, t2, Int.reduceAdd, Int.zero_add]; (try ((first | refine ⟨_, hS1, ?_⟩ | refine ⟨_, hS2, ?_⟩); (try simp only [go_sem, Nat.reduceLT, Nat.reduceLeDiff, Nat.reduceEqDiff, reduceIte, Nat.reduceAdd, Nat.reduceMul, Nat.reduceSub, Int.reduceLT, Int.reduceLE, Int.reduceToNat, Int.reduceNeg, reduceCtorEq, hgs, aopG, bne_self_eq_false, Bool.not_false, beq_self_eq_true, t1, t2, Int.reduceAdd, Int.zero_add]))); (try simp (disch := omega) only [wrap_id, getD_map_in, Int.toNat_natCast, aopG, bne_self_eq_false, Bool.not_false, beq_self_eq_true, t1, t2, Int.reduceAdd, Int.zero_add]); (repeat (refine And.intro (by (omega)) ?_)); refine h' _ ?_; clear h' K') | (refine aops_nil (hK _ ?_); clear hK K hgs gs; try simp only [aThen, aBlock]) | ((refine AWp.sreg (id := 59) dd13 rfl (fun gs K hgs hK => ?_)); replace hgs : gs 3 = some 247 := hgs 3) | (refine AWp.sreg  dd13 rfl (fun gs K hgs hK => ?_); replace hgs : Nat.succ 0 = 1 := rfl) | refine AWp.seq ?_ | refine AWp.block ?_ | (refine AWp.ret ?_; try simp only [aThen, aBlock]) | (refine AWp.skip ?_; try simp only [aThen, aBlock]) | (refine AWp.exit ?_; try simp only [aThen, aBlock, Nat.reduceEqDiff, reduceIte]) | (refine AWp.reg  dd13 rfl (fun gs K hgs hK => ?_); replace hgs : Nat.succ 0 = 1 := rfl) | (refine AWp.cond rfl (fun h => ?_) (fun h => ?_) <;> (try simp only [decide_eq_true_eq, decide_eq_false_iff_not, beq_iff_eq, bne_iff_ne, ne_eq, Bool.not_eq_true', Bool.not_eq_false', beq_eq_false_iff_ne, Bool.true_eq_false, Bool.false_eq_true, Int.not_le, Int.not_lt, Bool.and_eq_true, Bool.and_eq_false_iff, Bool.or_eq_true, Bool.or_eq_false_iff, bne_eq_false_iff_eq, reduceCtorEq] at h) <;> (try first | contradiction))))
      all_goals simp only [Out, outA, outL, resA, go_sem, Nat.reduceLT, Nat.reduceLeDiff, Nat.reduceEqDiff, reduceIte, Nat.reduceAdd, Nat.reduceMul, Nat.reduceSub, Int.reduceLT, Int.reduceLE, Int.reduceToNat, Int.reduceNeg, reduceCtorEq]
      all_goals exact AVle.refl _
theorem getDC {l : List Ev} {k : Nat} {y : Ev} (hk : k < l.length) (hy : l.getD k default = y) : y ∈ l := by
  rw [← hy, List.getD_eq_getElem?_getD, List.getElem?_eq_getElem hk]; exact List.getElem_mem _
theorem fend_2 (q : Qry) (l : List Ev) (hl : l.length ≤ 60) (hEvA : ∀ e ∈ l, ACall Tryz.prog 17 [.agg e.cells] (.lit (.int .i64 0))) (p : Int) (hp : p = 1 ∨ p = 2 ∨ p = 3) (ls aa ps : List Rcd) (ha : aa.length ≤ 60) (hpl : ps.length ≤ 60) (hS1 : sameR ps ps) (hS2 : sameR aa (if q.late = 2 then ls else [])) :
    AWp Tryz.prog 252 fRest2 (Out Tryz.prog [.tmp 8] (fun o => AVle o (.lit (.bool true))))
      ⟨[(1, .ro 5 (l.map Ev.cells)), (3, .lit (.int .i64 p)), (4, .bp 0 0), (14, .ro 3 (ls.map Rcd.cells)), (16, .own 1 3 0 aa.length), (17, .own 2 3 0 ps.length), (18, .own 0 1 0 3), (29, .own 3 3 0 ps.length)],
        [q.cells], [some ⟨3, 1, marksP p (raisedG lowM l : Nat)⟩, some ⟨55, 3, aa.map Rcd.cells⟩, some ⟨55, 3, ps.map Rcd.cells⟩, some ⟨55, 3, ps.map Rcd.cells⟩]⟩ := by
  have h3 := fend_3 q p hp (raisedG lowM l : Nat) ls aa ps ha hpl hS1 hS2
  have hr : ∀ k, raisedG lowM (l.take k) ≤ 60 := fun k => Nat.le_trans (raised_le _ _) (by simp; omega)
  clear hS1 hS2 hp
  generalize marksP p (raisedG lowM l : Nat) = mc at *
  obtain ⟨ag, ar, sr, jn, wh, ⟨kd, sz, ev⟩, bk, lt⟩ := q
  unfold Qry.cells nodesV intsV at *
  simp only at *
  refine AWp.seq ?_
  repeat ((first | ((refine aops_cons (fun K' h' => ?_)); simp only [go_sem, Nat.reduceLT, Nat.reduceLeDiff, Nat.reduceEqDiff, reduceIte, Nat.reduceAdd, Nat.reduceMul, Nat.reduceSub, Int.reduceLT, Int.reduceLE, Int.reduceToNat, Int.reduceNeg, reduceCtorEq, hgs, aopG, bne_self_eq_false, Bool.not_false, beq_self_eq_true]; (try simp (disch := omega) only [wrap_id, getD_map_in, Int.toNat_natCast, aopG, bne_self_eq_false, Bool.not_false, beq_self_eq_true]); (repeat (refine And.intro (by (omega)) ?_)); refine h' _ ?_; clear h' K') | (refine aops_nil (hK _ ?_); clear hK K hgs gs; try simp only [aThen, aBlock]) | (refine AWp.sreg  dd13 rfl (fun gs K hgs hK => ?_); replace hgs : Nat.succ 0 = 1 := rfl) | refine AWp.seq ?_ | refine AWp.block ?_ | (refine AWp.reg  dd13 rfl (fun gs K hgs hK => ?_); replace hgs : Nat.succ 0 = 1 := rfl)))
  refine AWp.loopN l.length (fun _ => True) (fun k => ⟨[(1, .ro 5 (l.map Ev.cells)), (3, .lit (.int .i64 p)), (4, .bp 0 0), (14, .ro 3 (ls.map Rcd.cells)), (16, .own 1 3 0 aa.length), (17, .own 2 3 0 ps.length), (18, .own 0 1 0 3), (29, .own 3 3 0 ps.length), (34, .lit (.int .i64 (raisedG lowM (l.take k) : Nat))), (35, .lit (.int .i64 ((l.take k).foldl markU lowM))), (36, .lit (.int .i64 (k : Int)))],
        [[.lit (.int .u8 ag), .ro 5 (ar.map Node.cells), .ro 1 (sr.map fun x : Int => [.lit (.int .i64 x)]), .lit (.bool jn), .ro 5 (wh.map Node.cells), .lit (.int .u8 kd), .lit (.int .i64 sz), .lit (.int .i64 ev), .lit (.bool bk), .lit (.int .u8 lt)]],
        [some ⟨3, 1, mc⟩, some ⟨55, 3, aa.map Rcd.cells⟩, some ⟨55, 3, ps.map Rcd.cells⟩, some ⟨55, 3, ps.map Rcd.cells⟩]⟩) ?_ ?_
  · refine Wk.ofCut 1 4 ?_ ?_ ?_
    · simp [lowBx, ASt.drop, AV.lowB, lowE]
    · simp [ASt.drop]
    · have z4 : raisedG lowM [] = 0 := rfl
      have z5 : lowM = -9223372036854775808 := rfl
      first
      | (simp [subE, eget, ASt.drop, dropE, keepR, lowE, AV.lowB, lowL, Nat.blt, Nat.ble]; done)
      | (simp [subE, eget, ASt.drop, dropE, keepR, lowE, AV.lowB, lowL, Nat.blt, Nat.ble]; omega)
  · intro k hk _
    by_cases hkk : k < l.length
    · obtain ⟨y, hy⟩ : ∃ y, l.getD k default = y := ⟨_, rfl⟩
      have hEv := hEvA y (getDC hkk hy)
      have hst := take_snocE hkk hy
      have e3 : (l.take (k + 1)).foldl markU lowM = markU ((l.take k).foldl markU lowM) y := by rw [hst, List.foldl_append]; rfl
      have e4 : raisedG lowM (l.take (k + 1)) = raisedG lowM (l.take k) + (if y.mark = true ∧ (l.take k).foldl markU lowM < y.time then 1 else 0) := by rw [hst]; exact raisedG_snoc y _ _
      rw [e3, e4]
      have hrk := hr k
      clear hr e3 e4 hst hEvA h3
      generalize raisedG lowM (l.take k) = ra at *
      generalize (l.take k).foldl markU lowM = mk at *
      have hup : y.mark = true → mk < y.time → ra + (if y.mark = true ∧ mk < y.time then 1 else 0) = ra + 1 ∧ markU mk y = y.time := fun h1 h2 => by
        rw [if_pos ⟨h1, h2⟩]; unfold markU; rw [if_pos h1, Int.max_eq_right (by omega)]; exact ⟨rfl, rfl⟩
      have hno : ¬ (y.mark = true ∧ mk < y.time) → ra + (if y.mark = true ∧ mk < y.time then 1 else 0) = ra ∧ markU mk y = mk := fun h => by
        rw [if_neg h]; unfold markU; refine ⟨rfl, ?_⟩; split
        · rename_i h1; exact Int.max_eq_left (Int.not_lt.1 fun g => h ⟨h1, g⟩)
        · rfl
      by_cases hc : y.mark = true ∧ mk < y.time
      · obtain ⟨u1, u2⟩ := hup hc.1 hc.2
        rw [u1, u2]
        clear hup hno u1 u2
        obtain ⟨ym, y2, y3, y4, y5⟩ := y
        obtain ⟨c1, c2⟩ := hc
        simp only at c1 c2
        subst c1
        simp only [Ev.cells] at hEv
        repeat (any_goals (first | ((first | refine aops_cons (fun K' h' => ?_) | refine aopsD_cons (fun K' h' => ?_)); simp only [go_sem, Nat.reduceLT, Nat.reduceLeDiff, Nat.reduceEqDiff, reduceIte, Nat.reduceAdd, Nat.reduceMul, Nat.reduceSub, Int.reduceLT, Int.reduceLE, Int.reduceToNat, Int.reduceNeg, reduceCtorEq, hgs, aopG, bne_self_eq_false, Bool.not_false, beq_self_eq_true, hy, Ev.cells]; (try ((refine ⟨_, hEv, ?_⟩); (try simp only [go_sem, Nat.reduceLT, Nat.reduceLeDiff, Nat.reduceEqDiff, reduceIte, Nat.reduceAdd, Nat.reduceMul, Nat.reduceSub, Int.reduceLT, Int.reduceLE, Int.reduceToNat, Int.reduceNeg, reduceCtorEq, hgs, aopG, bne_self_eq_false, Bool.not_false, beq_self_eq_true, hy, Ev.cells]))); (try simp (disch := omega) only [wrap_id, getD_map_in, Int.toNat_natCast, aopG, bne_self_eq_false, Bool.not_false, beq_self_eq_true, hy, Ev.cells]); (repeat (refine And.intro (by (omega)) ?_)); refine h' _ ?_; clear h' K') | (refine aops_nil (hK _ ?_); clear hK K hgs gs; try simp only [aThen, aBlock]) | ((refine AWp.sreg (id := 48) dd13 rfl (fun gs K hgs hK => ?_)); replace hgs : gs 5 = some 208 := hgs 5) | (refine AWp.sreg  dd13 rfl (fun gs K hgs hK => ?_); replace hgs : Nat.succ 0 = 1 := rfl) | refine AWp.seq ?_ | refine AWp.block ?_ | (refine AWp.skip ?_; try simp only [aThen, aBlock]) | (refine AWp.reg  dd13 rfl (fun gs K hgs hK => ?_); replace hgs : Nat.succ 0 = 1 := rfl) | ((refine AWp.regD  fo13 mo_fact (by kernel_rfl) (fun gs K hgs hK => ?_)); replace hgs : Nat.succ 0 = 1 := rfl) | (refine aopsD_nil (hK _ ?_); clear hK K hgs gs; simp only [fo13]; simp only [ASt.prune, pruneE, keepB, keepR, Bool.or_false, Bool.or_true, Bool.true_or, Bool.false_or, reduceIte, Bool.or_self, Bool.false_eq_true, aThen, aBlock, Nat.reduceEqDiff]) | (refine AWp.cond rfl (fun h => ?_) (fun h => ?_) <;> (try simp only [decide_eq_true_eq, decide_eq_false_iff_not, beq_iff_eq, bne_iff_ne, ne_eq, Bool.not_eq_true', Bool.not_eq_false', beq_eq_false_iff_ne, Bool.true_eq_false, Bool.false_eq_true, Int.not_le, Int.not_lt, Bool.and_eq_true, Bool.and_eq_false_iff, Bool.or_eq_true, Bool.or_eq_false_iff, bne_eq_false_iff_eq, reduceCtorEq] at h) <;> (try first | (exfalso; omega)))))
        all_goals first
          | (exfalso; omega)
          | skip
        refine ⟨by omega, trivial, Wk.ofCut 1 4 ?_ ?_ ?_⟩
        · simp [lowBx, ASt.drop, AV.lowB, lowE]
        · simp [ASt.drop]
        · first
          | (simp [subE, eget, ASt.drop, dropE, keepR, lowE, AV.lowB, lowL, Nat.blt, Nat.ble]; done)
          | (simp [subE, eget, ASt.drop, dropE, keepR, lowE, AV.lowB, lowL, Nat.blt, Nat.ble]; omega)
      · obtain ⟨u1, u2⟩ := hno hc
        rw [u1, u2]
        clear hup hno u1 u2
        obtain ⟨ym, y2, y3, y4, y5⟩ := y
        simp only at hc
        simp only [Ev.cells] at hEv
        cases ym
        all_goals
          repeat (any_goals (first | ((first | refine aops_cons (fun K' h' => ?_) | refine aopsD_cons (fun K' h' => ?_)); simp only [go_sem, Nat.reduceLT, Nat.reduceLeDiff, Nat.reduceEqDiff, reduceIte, Nat.reduceAdd, Nat.reduceMul, Nat.reduceSub, Int.reduceLT, Int.reduceLE, Int.reduceToNat, Int.reduceNeg, reduceCtorEq, hgs, aopG, bne_self_eq_false, Bool.not_false, beq_self_eq_true, hy, Ev.cells]; (try ((refine ⟨_, hEv, ?_⟩); (try simp only [go_sem, Nat.reduceLT, Nat.reduceLeDiff, Nat.reduceEqDiff, reduceIte, Nat.reduceAdd, Nat.reduceMul, Nat.reduceSub, Int.reduceLT, Int.reduceLE, Int.reduceToNat, Int.reduceNeg, reduceCtorEq, hgs, aopG, bne_self_eq_false, Bool.not_false, beq_self_eq_true, hy, Ev.cells]))); (try simp (disch := omega) only [wrap_id, getD_map_in, Int.toNat_natCast, aopG, bne_self_eq_false, Bool.not_false, beq_self_eq_true, hy, Ev.cells]); (repeat (refine And.intro (by (omega)) ?_)); refine h' _ ?_; clear h' K') | (refine aops_nil (hK _ ?_); clear hK K hgs gs; try simp only [aThen, aBlock]) | ((refine AWp.sreg (id := 48) dd13 rfl (fun gs K hgs hK => ?_)); replace hgs : gs 5 = some 208 := hgs 5) | (refine AWp.sreg  dd13 rfl (fun gs K hgs hK => ?_); replace hgs : Nat.succ 0 = 1 := rfl) | refine AWp.seq ?_ | refine AWp.block ?_ | (refine AWp.skip ?_; try simp only [aThen, aBlock]) | (refine AWp.reg  dd13 rfl (fun gs K hgs hK => ?_); replace hgs : Nat.succ 0 = 1 := rfl) | ((refine AWp.regD  fo13 mo_fact (by kernel_rfl) (fun gs K hgs hK => ?_)); replace hgs : Nat.succ 0 = 1 := rfl) | (refine aopsD_nil (hK _ ?_); clear hK K hgs gs; simp only [fo13]; simp only [ASt.prune, pruneE, keepB, keepR, Bool.or_false, Bool.or_true, Bool.true_or, Bool.false_or, reduceIte, Bool.or_self, Bool.false_eq_true, aThen, aBlock, Nat.reduceEqDiff]) | (refine AWp.cond rfl (fun h => ?_) (fun h => ?_) <;> (try simp only [decide_eq_true_eq, decide_eq_false_iff_not, beq_iff_eq, bne_iff_ne, ne_eq, Bool.not_eq_true', Bool.not_eq_false', beq_eq_false_iff_ne, Bool.true_eq_false, Bool.false_eq_true, Int.not_le, Int.not_lt, Bool.and_eq_true, Bool.and_eq_false_iff, Bool.or_eq_true, Bool.or_eq_false_iff, bne_eq_false_iff_eq, reduceCtorEq] at h) <;> (try first | (exfalso; omega)))))
        all_goals first
          | (exfalso; omega)
          | (exfalso; exact hc ⟨rfl, by omega⟩)
          | skip
        all_goals
          refine ⟨by omega, trivial, Wk.ofCut 1 4 ?_ ?_ ?_⟩
          · simp [lowBx, ASt.drop, AV.lowB, lowE]
          · simp [ASt.drop]
          · first
            | (simp [subE, eget, ASt.drop, dropE, keepR, lowE, AV.lowB, lowL, Nat.blt, Nat.ble]; done)
            | (simp [subE, eget, ASt.drop, dropE, keepR, lowE, AV.lowB, lowL, Nat.blt, Nat.ble]; omega)
    · obtain rfl : k = l.length := by omega
      rw [List.take_length]
      clear hEvA hr
      iterate 9 (any_goals (first | ((refine aops_cons (fun K' h' => ?_)); simp only [go_sem, Nat.reduceLT, Nat.reduceLeDiff, Nat.reduceEqDiff, reduceIte, Nat.reduceAdd, Nat.reduceMul, Nat.reduceSub, Int.reduceLT, Int.reduceLE, Int.reduceToNat, Int.reduceNeg, reduceCtorEq, hgs, aopG, bne_self_eq_false, Bool.not_false, beq_self_eq_true]; (try simp (disch := omega) only [wrap_id, getD_map_in, Int.toNat_natCast, aopG, bne_self_eq_false, Bool.not_false, beq_self_eq_true]); (repeat (refine And.intro (by (omega)) ?_)); refine h' _ ?_; clear h' K') | (refine aops_nil (hK _ ?_); clear hK K hgs gs; try simp only [aThen, aBlock]) | (refine AWp.sreg  dd13 rfl (fun gs K hgs hK => ?_); replace hgs : Nat.succ 0 = 1 := rfl) | refine AWp.seq ?_ | (refine AWp.exit ?_; try simp only [aThen, aBlock, Nat.reduceEqDiff, reduceIte]) | (refine AWp.cond rfl (fun h => ?_) (fun h => ?_) <;> (try simp only [decide_eq_true_eq, decide_eq_false_iff_not, beq_iff_eq, bne_iff_ne, ne_eq, Bool.not_eq_true', Bool.not_eq_false', beq_eq_false_iff_ne, Bool.true_eq_false, Bool.false_eq_true, Int.not_le, Int.not_lt, Bool.and_eq_true, Bool.and_eq_false_iff, Bool.or_eq_true, Bool.or_eq_false_iff, bne_eq_false_iff_eq, reduceCtorEq] at h) <;> (try first | (exfalso; omega)))))
      refine AWp.weaken ?_ h3
      refine Wk.ofCut 1 4 ?_ ?_ ?_
      · simp [lowBx, ASt.drop, AV.lowB, lowE]
      · simp [ASt.drop]
      · first
        | (simp [subE, eget, ASt.drop, dropE, keepR, lowE, AV.lowB, lowL, Nat.blt, Nat.ble]; done)
        | (simp [subE, eget, ASt.drop, dropE, keepR, lowE, AV.lowB, lowL, Nat.blt, Nat.ble]; omega)
theorem getDR {l : List Rcd} {k : Nat} {y : Rcd} (hk : k < l.length) (hy : l.getD k default = y) : y ∈ l := by
  rw [← hy, List.getD_eq_getElem?_getD, List.getElem?_eq_getElem hk]; exact List.getElem_mem _
theorem fend_1 (q : Qry) (l : List Ev) (hl : l.length ≤ 60) (hEvA : ∀ e ∈ l, ACall Tryz.prog 17 [.agg e.cells] (.lit (.int .i64 0))) (p : Int) (hp : p = 1 ∨ p = 2 ∨ p = 3) (rs ls aa ps : List Rcd) (pj : Rcd → Rcd) (pb : Rcd → Bool) (WF : List Rcd → List Rcd) (hrl : rs.length ≤ 60) (hw0 : WF (rs.take 0) = [])
    (hwn : ∀ k r, k < rs.length → rs.getD k default = r → WF (rs.take (k + 1)) = WF (rs.take k) ++ (if pb r = true then [pj r] else [])) (hwl : ∀ k, (WF (rs.take k)).length ≤ 60) (hps : ps = WF rs)
    (hPjA : ∀ r ∈ rs, ACall Tryz.prog 35 [.agg q.cells, .agg r.cells] (.tup [.agg (pj r).cells, .lit (.bool (pb r)), .lit (.int .i64 0)])) (ha : aa.length ≤ 60) (hpl : ps.length ≤ 60) (hS1 : sameR ps ps) (hS2 : sameR aa (if q.late = 2 then ls else [])) :
    AWp Tryz.prog 252 fRest1 (Out Tryz.prog [.tmp 8] (fun o => AVle o (.lit (.bool true))))
      ⟨[(1, .ro 5 (l.map Ev.cells)), (3, .lit (.int .i64 p)), (4, .bp 0 0), (13, .ro 3 (rs.map Rcd.cells)), (14, .ro 3 (ls.map Rcd.cells)), (16, .own 1 3 0 aa.length), (17, .own 2 3 0 ps.length), (18, .own 0 1 0 3)],
        [q.cells], [some ⟨3, 1, marksP p (raisedG lowM l : Nat)⟩, some ⟨55, 3, aa.map Rcd.cells⟩, some ⟨55, 3, ps.map Rcd.cells⟩]⟩ := by
  have h2 := fend_2 q l hl hEvA p hp ls aa ps ha hpl hS1 hS2
  clear hS1 hS2 hp hEvA
  generalize marksP p (raisedG lowM l : Nat) = mc at *
  obtain ⟨ag, ar, sr, jn, wh, ⟨kd, sz, ev⟩, bk, lt⟩ := q
  unfold Qry.cells nodesV intsV at *
  simp only at *
  refine AWp.seq ?_
  repeat ((first | ((refine aops_cons (fun K' h' => ?_)); simp only [go_sem, Nat.reduceLT, Nat.reduceLeDiff, Nat.reduceEqDiff, reduceIte, Nat.reduceAdd, Nat.reduceMul, Nat.reduceSub, Int.reduceLT, Int.reduceLE, Int.reduceToNat, Int.reduceNeg, reduceCtorEq, hgs, aopG, bne_self_eq_false, Bool.not_false, beq_self_eq_true]; (try simp (disch := omega) only [wrap_id, getD_map_in, Int.toNat_natCast, aopG, bne_self_eq_false, Bool.not_false, beq_self_eq_true]); (repeat (refine And.intro (by (omega)) ?_)); refine h' _ ?_; clear h' K') | (refine aops_nil (hK _ ?_); clear hK K hgs gs; try simp only [aThen, aBlock]) | (refine AWp.sreg  dd13 rfl (fun gs K hgs hK => ?_); replace hgs : Nat.succ 0 = 1 := rfl) | refine AWp.seq ?_ | refine AWp.block ?_ | (refine AWp.reg  dd13 rfl (fun gs K hgs hK => ?_); replace hgs : Nat.succ 0 = 1 := rfl)))
  refine AWp.weaken (Wk.nilOwn 29 55 3 rfl (by decide)) ?_
  refine AWp.loopN rs.length (fun _ => True) (fun k => ⟨[(1, .ro 5 (l.map Ev.cells)), (3, .lit (.int .i64 p)), (4, .bp 0 0), (13, .ro 3 (rs.map Rcd.cells)), (14, .ro 3 (ls.map Rcd.cells)), (16, .own 1 3 0 aa.length), (17, .own 2 3 0 ps.length), (18, .own 0 1 0 3), (29, .own 3 3 0 (WF (rs.take k)).length), (30, .lit (.int .i64 (k : Int)))],
        [[.lit (.int .u8 ag), .ro 5 (ar.map Node.cells), .ro 1 (sr.map fun x : Int => [.lit (.int .i64 x)]), .lit (.bool jn), .ro 5 (wh.map Node.cells), .lit (.int .u8 kd), .lit (.int .i64 sz), .lit (.int .i64 ev), .lit (.bool bk), .lit (.int .u8 lt)]],
        [some ⟨3, 1, mc⟩, some ⟨55, 3, aa.map Rcd.cells⟩, some ⟨55, 3, ps.map Rcd.cells⟩, some ⟨55, 3, (WF (rs.take k)).map Rcd.cells⟩]⟩) ?_ ?_
  · rw [hw0]
    clear h2
    refine Wk.ofCut 1 4 ?_ ?_ ?_
    · simp [lowBx, ASt.drop, ASt.nilOwn, AV.lowB, lowE]
    · simp [ASt.drop, ASt.nilOwn]
    · simp [ASt.nilOwn, eput, subE, eget, ASt.drop, dropE, keepR, lowE, AV.lowB, lowL, Nat.blt, Nat.ble]
  · intro k hk _
    by_cases hkk : k < rs.length
    · obtain ⟨r, hr⟩ : ∃ r, rs.getD k default = r := ⟨_, rfl⟩
      have hPj := hPjA r (getDR hkk hr)
      have hn := hwn k r hkk hr
      have hk1 := hwl k
      clear hPjA hwn h2 hps
      generalize pb r = b at *
      generalize pj r = pr at *
      generalize WF (rs.take k) = ws at *
      rw [hn]
      clear hn hwl
      obtain ⟨r1, r2, r3⟩ := r
      obtain ⟨w1, w2, w3⟩ := pr
      simp only [Rcd.cells] at hPj
      cases b
      all_goals
        repeat (any_goals (first | ((first | refine aops_cons (fun K' h' => ?_) | refine aopsM_cons (fun K' h' => ?_)); simp only [go_sem, Nat.reduceLT, Nat.reduceLeDiff, Nat.reduceEqDiff, reduceIte, Nat.reduceAdd, Nat.reduceMul, Nat.reduceSub, Int.reduceLT, Int.reduceLE, Int.reduceToNat, Int.reduceNeg, reduceCtorEq, hgs, aopG, bne_self_eq_false, Bool.not_false, beq_self_eq_true, hr, Rcd.cells]; (try ((refine ⟨_, hPj, ?_⟩); (try simp only [go_sem, Nat.reduceLT, Nat.reduceLeDiff, Nat.reduceEqDiff, reduceIte, Nat.reduceAdd, Nat.reduceMul, Nat.reduceSub, Int.reduceLT, Int.reduceLE, Int.reduceToNat, Int.reduceNeg, reduceCtorEq, hgs, aopG, bne_self_eq_false, Bool.not_false, beq_self_eq_true, hr, Rcd.cells]))); (try simp (disch := omega) only [wrap_id, getD_map_in, Int.toNat_natCast, aopG, bne_self_eq_false, Bool.not_false, beq_self_eq_true, hr, Rcd.cells]); (repeat (refine And.intro (by (first | omega | (simp; done))) ?_)); refine h' _ ?_; clear h' K') | (refine aops_nil (hK _ ?_); clear hK K hgs gs; try simp only [aThen, aBlock]) | (refine AWp.sreg  dd13 rfl (fun gs K hgs hK => ?_); replace hgs : Nat.succ 0 = 1 := rfl) | refine AWp.seq ?_ | refine AWp.block ?_ | (refine AWp.skip ?_; try simp only [aThen, aBlock]) | (refine AWp.reg  dd13 rfl (fun gs K hgs hK => ?_); replace hgs : Nat.succ 0 = 1 := rfl) | ((refine AWp.regM (id := 39) fo13 (true, false) mo_fact (by kernel_rfl) (by kernel_rfl) (fun gs K hgs hK => ?_)); replace hgs : Nat.succ 0 = 1 := rfl) | (refine aopsM_nil (hK _ ?_); clear hK K hgs gs; simp only [fo13]; simp only [ASt.prune, pruneE, keepB, keepR, Bool.or_false, Bool.or_true, Bool.true_or, Bool.false_or, reduceIte, Bool.or_self, Bool.false_eq_true, aThen, aBlock, Nat.reduceEqDiff]) | (refine AWp.cond rfl (fun h => ?_) (fun h => ?_) <;> (try simp only [decide_eq_true_eq, decide_eq_false_iff_not, beq_iff_eq, bne_iff_ne, ne_eq, Bool.not_eq_true', Bool.not_eq_false', beq_eq_false_iff_ne, Bool.true_eq_false, Bool.false_eq_true, Int.not_le, Int.not_lt, Bool.and_eq_true, Bool.and_eq_false_iff, Bool.or_eq_true, Bool.or_eq_false_iff, bne_eq_false_iff_eq, reduceCtorEq] at h) <;> (try first | (exfalso; omega)))))
      all_goals first
        | (exfalso; omega)
        | skip
      all_goals
        refine ⟨by omega, trivial, Wk.ofCut 1 4 ?_ ?_ ?_⟩
        · simp [lowBx, ASt.drop, AV.lowB, lowE]
        · simp [ASt.drop, List.take_of_length_le, Rcd.cells]
        · simp only [reduceIte, Bool.false_eq_true, List.append_nil, List.length_append, List.length_cons, List.length_nil, Nat.zero_add]
          first
          | (simp [subE, eget, ASt.drop, dropE, keepR, lowE, AV.lowB, lowL, Nat.blt, Nat.ble]; done)
          | (simp [subE, eget, ASt.drop, dropE, keepR, lowE, AV.lowB, lowL, Nat.blt, Nat.ble]; omega)
    · obtain rfl : k = rs.length := by omega
      rw [List.take_length, ← hps]
      clear hPjA hwn hwl
      iterate 9 (any_goals (first | ((refine aops_cons (fun K' h' => ?_)); simp only [go_sem, Nat.reduceLT, Nat.reduceLeDiff, Nat.reduceEqDiff, reduceIte, Nat.reduceAdd, Nat.reduceMul, Nat.reduceSub, Int.reduceLT, Int.reduceLE, Int.reduceToNat, Int.reduceNeg, reduceCtorEq, hgs, aopG, bne_self_eq_false, Bool.not_false, beq_self_eq_true]; (try simp (disch := omega) only [wrap_id, getD_map_in, Int.toNat_natCast, aopG, bne_self_eq_false, Bool.not_false, beq_self_eq_true]); (repeat (refine And.intro (by (omega)) ?_)); refine h' _ ?_; clear h' K') | (refine aops_nil (hK _ ?_); clear hK K hgs gs; try simp only [aThen, aBlock]) | (refine AWp.sreg  dd13 rfl (fun gs K hgs hK => ?_); replace hgs : Nat.succ 0 = 1 := rfl) | refine AWp.seq ?_ | (refine AWp.exit ?_; try simp only [aThen, aBlock, Nat.reduceEqDiff, reduceIte]) | (refine AWp.cond rfl (fun h => ?_) (fun h => ?_) <;> (try simp only [decide_eq_true_eq, decide_eq_false_iff_not, beq_iff_eq, bne_iff_ne, ne_eq, Bool.not_eq_true', Bool.not_eq_false', beq_eq_false_iff_ne, Bool.true_eq_false, Bool.false_eq_true, Int.not_le, Int.not_lt, Bool.and_eq_true, Bool.and_eq_false_iff, Bool.or_eq_true, Bool.or_eq_false_iff, bne_eq_false_iff_eq, reduceCtorEq] at h) <;> (try first | (exfalso; omega)))))
      refine AWp.weaken ?_ h2
      refine Wk.ofCut 1 4 ?_ ?_ ?_
      · simp [lowBx, ASt.drop, AV.lowB, lowE]
      · simp [ASt.drop]
      · first
        | (simp [subE, eget, ASt.drop, dropE, keepR, lowE, AV.lowB, lowL, Nat.blt, Nat.ble]; done)
        | (simp [subE, eget, ASt.drop, dropE, keepR, lowE, AV.lowB, lowL, Nat.blt, Nat.ble]; omega)
end Go.Proofs.YtjeehkdepoiegaaGreat
