/-
  The chapter's example of sources.
-/
import Derived.Test.YtbciabkniljjgaaStpX
import Derived.Test.YtbciabkniljjgaaNewW2
namespace Go.Proofs.Ytbciabkniljjgaa
open Go.AL Go.RowKit
set_option linter.unusedSimpArgs false
set_option linter.unusedVariables false
set_option maxRecDepth 10000
set_option maxHeartbeats 8000000

def newTk (n : Int) (l : List Ev) : Tsk := if newErr n l = 0 then ⟨1, n, 0, [], [], [], l, [], []⟩ else zeroT
theorem srcV_le (k n : Int) (l : List Ev) : AVle (srcV k n l) (.agg (Tsk.mk k n 0 [] [] [] l [] []).cells) :=
  AVle.agg ⟨AVle.refl _, AVle.refl _, AVle.refl _, AVle.nil 11, AVle.nil 1, AVle.nil 11, AVle.refl _, AVle.nil 5, AVle.nil 3, trivial⟩
theorem new_t (n : Int) (l : List Ev) (hl : l.length ≤ 100) : ACall Try.prog 14 [.lit (.int .i64 n), evsV l] (.tup [.agg (newTk n l).cells, .lit (.int .i64 (newErr n l))]) := by
  refine (new_c n l hl).mono (.refl _) (AVle.tup ⟨?_, AVle.refl _, trivial⟩)
  unfold newV newTk
  split
  · exact srcV_le 1 n l
  · exact srcV_le 0 0 []
def exEvs : List Ev := [⟨false, 0, 3, 0, 0⟩, ⟨true, 5, 0, 0, 0⟩]
def exMsgs : List Msg := [⟨1, 3, 0, 0, 0, 0, 0, 0, 0, 0⟩, ⟨2, 0, 0, 0, 5, 0, 0, 0, 0, 0⟩]
def exSrc : Tsk := ⟨1, 0, 0, [], [], [], exEvs, [], []⟩

def dd17 : Nat → List (List Nat)
  | 0 => [[], [0]]
  | 1 => [[], [], [6], [], [7, 8], [9], [10], [], [5], [], [11], [12]]
  | 2 => [[], [1], [14], [15], [], [13], [16], [17]]
  | 3 => [[], [2], [18], [19], [4], [21], [20, 22], [23], [3], [], [26], [], [27, 28], [25, 29], [24, 30], [31]]
  | _ => []
theorem alive28_c : ACall Try.prog 17 [] (.lit (.bool true)) := by
  have hNw := new_t 0 exEvs (by simp [exEvs])
  have e1 : newErr 0 exEvs = 0 := by decide
  have e2 : newTk 0 exEvs = exSrc := by unfold newTk; rw [if_pos e1]; rfl
  rw [e1, e2] at hNw
  have hSt := sent_c exSrc ⟨by simp [exSrc], by simp [exSrc], by simp [exSrc], by simp [exSrc, exEvs, maxLen], by simp [exSrc], by simp [exSrc]⟩
  have e3 : askE exSrc = 0 := by decide
  have e4 : sentR exSrc = exMsgs := by unfold sentR; rw [if_pos e3]; rfl
  rw [e3, e4] at hSt
  have hL := sameList_c exMsgs exMsgs (by simp [exMsgs, maxLen]) (by simp [exMsgs, maxLen])
  rw [decide_eq_true rfl] at hL
  unfold Tsk.cells sndsV mksV entsV evsV rowsV rcdsV at hSt hNw
  simp only [exSrc, exEvs, exMsgs, List.map_cons, List.map_nil, Msg.cells, Ev.cells] at hNw hSt hL
  refine acall_of (n := 32) (rs := [.tmp 0]) Try.func17 rfl (by kernel_rfl) rfl rfl rfl ?_; simp only [argsE, Nat.reduceAdd]
  repeat (any_goals (first | (refine aops_cons (fun K' h' => ?_); simp only [go_sem, Nat.reduceLT, Nat.reduceLeDiff, Nat.reduceEqDiff, reduceIte, Nat.reduceAdd, Nat.reduceMul, Nat.reduceSub, Int.reduceLT, Int.reduceLE, Int.reduceToNat, Int.reduceNeg, reduceCtorEq, hgs, aopG, beq_self_eq_true, Option.toArray_none, Option.toArray_some, List.toList_toArray]; (try simp (disch := omega) only [wrap_id, getD_map_in, Int.toNat_natCast, aopG, beq_self_eq_true, Option.toArray_none, Option.toArray_some, List.toList_toArray]); (repeat (refine And.intro (by (first | omega | (simp; done) | (simp; omega) | assumption)) ?_)); refine h' _ ?_; clear h' K') | (refine aops_nil (hK _ ?_); clear hK K hgs gs; try simp only [aThen, aBlock]) | ((first | refine aops_cons (fun K' h' => ?_) | refine aopsD_cons (fun K' h' => ?_)); simp only [go_sem, Nat.reduceLT, Nat.reduceLeDiff, Nat.reduceEqDiff, reduceIte, Nat.reduceAdd, Nat.reduceMul, Nat.reduceSub, Int.reduceLT, Int.reduceLE, Int.reduceToNat, Int.reduceNeg, reduceCtorEq, hgs, aopG, beq_self_eq_true, Option.toArray_none, Option.toArray_some, List.toList_toArray]; (first | refine ⟨_, hSt, ?_⟩ | refine ⟨_, fun _ => hSt, ?_⟩ | refine ⟨_, hL, ?_⟩ | refine ⟨_, fun _ => hL, ?_⟩); (try simp only [go_sem, Nat.reduceLT, Nat.reduceLeDiff, Nat.reduceEqDiff, reduceIte, Nat.reduceAdd, Nat.reduceMul, Nat.reduceSub, Int.reduceLT, Int.reduceLE, Int.reduceToNat, Int.reduceNeg, reduceCtorEq, hgs, aopG, beq_self_eq_true, Option.toArray_none, Option.toArray_some, List.toList_toArray]); (repeat (refine And.intro (by (first | omega | (simp; done) | (simp; omega) | assumption)) ?_)); refine h' _ ?_; clear h' K') | (refine aops_consF [] (fun K' h' => ?_); simp only [go_sem, Nat.reduceLT, Nat.reduceLeDiff, Nat.reduceEqDiff, reduceIte, Nat.reduceAdd, Nat.reduceMul, Nat.reduceSub, Int.reduceLT, Int.reduceLE, Int.reduceToNat, Int.reduceNeg, reduceCtorEq, hgs, aopG, beq_self_eq_true, Option.toArray_none, Option.toArray_some, List.toList_toArray]; refine ⟨_, hNw, ?_⟩; (try simp only [go_sem, Nat.reduceLT, Nat.reduceLeDiff, Nat.reduceEqDiff, reduceIte, Nat.reduceAdd, Nat.reduceMul, Nat.reduceSub, Int.reduceLT, Int.reduceLE, Int.reduceToNat, Int.reduceNeg, reduceCtorEq, hgs, aopG, beq_self_eq_true, Option.toArray_none, Option.toArray_some, List.toList_toArray]); (repeat (refine And.intro (by (first | omega | (simp; done) | (simp; omega) | assumption)) ?_)); refine h' _ ?_; clear h' K') | (refine AWp.sreg (id := 3) dd17 rfl (fun gs K hgs hK => ?_); replace hgs : gs 2 = some 20 ∧ gs 6 = some 24 := ⟨hgs 2, hgs 6⟩) | (refine AWp.reg (id := 3) dd17 rfl (fun gs K hgs hK => ?_); replace hgs : gs 2 = some 20 ∧ gs 6 = some 24 := ⟨hgs 2, hgs 6⟩) | (refine AWp.sreg  dd17 rfl (fun gs K hgs hK => ?_); replace hgs : Nat.succ 0 = 1 := rfl) | refine AWp.seq ?_ | refine ARounds.step ?_ | refine AWp.block ?_ | refine AWp.label ?_ | (refine AWp.ret ?_; try simp only [aThen, aBlock]) | (refine AWp.skip ?_; try simp only [aThen, aBlock]) | (refine AWp.exit ?_; try simp only [aThen, aBlock, Nat.reduceEqDiff, reduceIte]) | (refine AWp.reg  dd17 rfl (fun gs K hgs hK => ?_); replace hgs : Nat.succ 0 = 1 := rfl) | (refine aops_consG (fun K' h' => ?_); simp only [go_sem, Nat.reduceLT, Nat.reduceLeDiff, Nat.reduceEqDiff, reduceIte, Nat.reduceAdd, Nat.reduceMul, Nat.reduceSub, Int.reduceLT, Int.reduceLE, Int.reduceToNat, Int.reduceNeg, reduceCtorEq, hgs, aopG, beq_self_eq_true, Option.toArray_none, Option.toArray_some, List.toList_toArray]; (try simp (disch := omega) only [wrap_id, getD_map_in, Int.toNat_natCast, aopG, beq_self_eq_true, Option.toArray_none, Option.toArray_some, List.toList_toArray]); (repeat (refine And.intro (by (first | omega | (simp; done) | (simp; omega) | assumption)) ?_)); refine h' _ ?_; clear h' K') | (refine AWp.cond rfl (fun h => ?_) (fun h => ?_) <;> (try simp only [decide_eq_true_eq, decide_eq_false_iff_not, beq_iff_eq, bne_iff_ne, ne_eq, Bool.not_eq_true', Bool.not_eq_false', beq_eq_false_iff_ne, Bool.true_eq_false, Bool.false_eq_true, Int.not_le, Int.not_lt, Bool.and_eq_true, Bool.and_eq_false_iff, Bool.or_eq_true, Bool.or_eq_false_iff, bne_eq_false_iff_eq, reduceCtorEq] at h) <;> (try first | contradiction | (exfalso; omega) | (exfalso; revert h; simp; done) | (exfalso; revert h; simp; omega)))))
  all_goals simp only [Out, outA, outL, resA, go_sem, Nat.reduceLT, Nat.reduceLeDiff, Nat.reduceEqDiff, reduceIte, Nat.reduceAdd, Nat.reduceMul, Nat.reduceSub, Int.reduceLT, Int.reduceLE, Int.reduceToNat, Int.reduceNeg, reduceCtorEq]
  all_goals exact AVle.refl _
end Go.Proofs.Ytbciabkniljjgaa
