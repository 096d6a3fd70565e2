/-
  The walks over a source's step: of the program and of the reference.
-/
import Derived.Test.YtbciabkniljjgaaSrcW
import Derived.Test.YtbciabkniljjgaaAbsU
namespace Go.Proofs.Ytbciabkniljjgaa
open Go.AL Go.RowKit
set_option linter.unusedSimpArgs false
set_option linter.unusedVariables false
set_option maxRecDepth 10000
set_option maxHeartbeats 8000000

def stepE (t : Tsk) : Int := if askE t ≠ 0 then askE t else if 0 < t.pend.length then 18 else if t.evs.length = 0 then 6 else 0
def stepT (t : Tsk) : Tsk := if stepE t = 0 then { t with pend := [⟨0, told (t.evs.getD 0 default)⟩], evs := t.evs.tail } else zeroT

def dd56 : Nat → List (List Nat)
  | 0 => [[], [0], []]
  | 1 => [[], [1], [4], [], [5]]
  | 3 => [[], [], [17], [18], [], [19, 20]]
  | 4 => [[], [3], [21]]
  | _ => []
def fo56 : Nat → List Nat
  | 2 => [2, 3]
  | _ => []
theorem stepped_c (t : Tsk) (e : Ev) (es : List Ev) (hf : t.few) (hp : t.pend = []) (he : t.evs = e :: es) :
    ACall Try.prog 56 [.agg t.cells] (.agg ({ t with pend := [⟨0, told e⟩], evs := es } : Tsk).cells) := by
  obtain ⟨h1, h2, h3, h4, h5, h6⟩ := hf
  have hTw := twinT_n t h1 h2 h3 h4 h5 h6
  have hTd := told_c e
  obtain ⟨kd, n, tn, pe, mk, st, ev, rw_, lt⟩ := t
  simp only at hp he h1 h2 h3 h4 h5 h6
  subst hp he
  generalize told e = x at *
  obtain ⟨mkd, mkk, mrt, mvv, mtt, p1, p2, p3, p4, p5⟩ := x
  obtain ⟨y1, y2, y3, y4, y5⟩ := e
  simp only [List.length_cons] at h4
  unfold Tsk.cells sndsV mksV entsV evsV rowsV rcdsV at *
  simp only [List.map_cons, List.map_nil, List.length_cons, List.length_nil, Snd.cells, Msg.cells, Ev.cells] at hTw hTd ⊢
  have htk : List.take es.length (es.map Ev.cells) = es.map Ev.cells := List.take_of_length_le (by simp)
  refine acall_of (n := 22) (rs := [.cell 2 31]) Try.func56 rfl (by kernel_rfl) rfl rfl rfl ?_; simp only [argsE, Nat.reduceAdd]
  repeat (any_goals (first | (refine aops_cons (fun K' h' => ?_); simp only [go_sem, Nat.reduceLT, Nat.reduceLeDiff, Nat.reduceEqDiff, reduceIte, Nat.reduceAdd, Nat.reduceMul, Nat.reduceSub, Int.reduceLT, Int.reduceLE, Int.reduceToNat, Int.reduceNeg, reduceCtorEq, Option.toArray_none, Option.toArray_some, List.toList_toArray]; (try simp (disch := omega) only [wrap_id, getD_map_in, Int.toNat_natCast, Option.toArray_none, Option.toArray_some, List.toList_toArray]); (repeat (refine And.intro (by (first | omega | (simp; done) | (simp; omega) | assumption)) ?_)); refine h' _ ?_; clear h' K') | (refine aops_nil (hK _ ?_); clear hK K gs; try simp only [aThen, aBlock]) | ((first | refine aops_cons (fun K' h' => ?_) | refine aopsD_cons (fun K' h' => ?_) | refine aopsM_cons (fun K' h' => ?_) | refine aopsP_cons (fun K' h' => ?_)); simp only [go_sem, Nat.reduceLT, Nat.reduceLeDiff, Nat.reduceEqDiff, reduceIte, Nat.reduceAdd, Nat.reduceMul, Nat.reduceSub, Int.reduceLT, Int.reduceLE, Int.reduceToNat, Int.reduceNeg, reduceCtorEq, Option.toArray_none, Option.toArray_some, List.toList_toArray]; (first | refine ⟨_, hTd, ?_⟩ | refine ⟨_, fun _ => hTd, ?_⟩); (try simp only [go_sem, Nat.reduceLT, Nat.reduceLeDiff, Nat.reduceEqDiff, reduceIte, Nat.reduceAdd, Nat.reduceMul, Nat.reduceSub, Int.reduceLT, Int.reduceLE, Int.reduceToNat, Int.reduceNeg, reduceCtorEq, Option.toArray_none, Option.toArray_some, List.toList_toArray]); (repeat (refine And.intro (by (first | omega | (simp; done) | (simp; omega) | assumption)) ?_)); refine h' _ ?_; clear h' K') | (refine aops_consN  (fun K' h' => ?_); simp only [go_sem, Nat.reduceLT, Nat.reduceLeDiff, Nat.reduceEqDiff, reduceIte, Nat.reduceAdd, Nat.reduceMul, Nat.reduceSub, Int.reduceLT, Int.reduceLE, Int.reduceToNat, Int.reduceNeg, reduceCtorEq, Option.toArray_none, Option.toArray_some, List.toList_toArray]; refine ⟨_, _, hTw, ?_⟩; (try simp only [go_sem, Nat.reduceLT, Nat.reduceLeDiff, Nat.reduceEqDiff, reduceIte, Nat.reduceAdd, Nat.reduceMul, Nat.reduceSub, Int.reduceLT, Int.reduceLE, Int.reduceToNat, Int.reduceNeg, reduceCtorEq, Option.toArray_none, Option.toArray_some, List.toList_toArray]); (repeat (refine And.intro (by (first | omega | (simp; done) | (simp; omega) | assumption)) ?_)); refine h' _ ?_; clear h' K') | (refine AWp.sreg  dd56 rfl (fun gs K hgs hK => ?_); clear hgs) | refine AWp.seq ?_ | refine ARounds.step ?_ | refine AWp.block ?_ | refine AWp.label ?_ | (refine AWp.ret ?_; try simp only [aThen, aBlock]) | (refine AWp.skip ?_; try simp only [aThen, aBlock]) | (refine AWp.exit ?_; try simp only [aThen, aBlock, Nat.reduceEqDiff, reduceIte]) | (refine AWp.reg  dd56 rfl (fun gs K hgs hK => ?_); clear hgs) | (refine AWp.cond rfl (fun h => ?_) (fun h => ?_) <;> (try simp only [decide_eq_true_eq, decide_eq_false_iff_not, beq_iff_eq, bne_iff_ne, ne_eq, Bool.not_eq_true', Bool.not_eq_false', beq_eq_false_iff_ne, Bool.true_eq_false, Bool.false_eq_true, Int.not_le, Int.not_lt, Bool.and_eq_true, Bool.and_eq_false_iff, Bool.or_eq_true, Bool.or_eq_false_iff, bne_eq_false_iff_eq, reduceCtorEq] at h) <;> (try first | contradiction | (exfalso; omega) | (exfalso; revert h; simp; done) | (exfalso; revert h; simp; omega)))))
  refine AWp.weaken (fun _ _ _ _ _ hr => hr.freeze [0]) ?_
  simp only [go_sem, Nat.reduceLT, Nat.reduceLeDiff, Nat.reduceEqDiff, reduceIte, Nat.reduceAdd, Nat.reduceMul, Nat.reduceSub, Int.reduceLT, Int.reduceLE, Int.reduceToNat, Int.reduceNeg, reduceCtorEq, Option.toArray_none, Option.toArray_some, List.toList_toArray, htk, List.drop_zero, List.take_succ_cons, ASt.freeze]
  refine P2.AWp.regP (id := 2) fo56 (false, false) mo_fact (by kernel_rfl) (by kernel_rfl) (fun gs K hgs hK => ?_); clear hgs
  repeat (first | (refine P2.aopsP_cons (fun K' h' => ?_); simp only [go_sem, Nat.reduceLT, Nat.reduceLeDiff, Nat.reduceEqDiff, reduceIte, Nat.reduceAdd, Nat.reduceMul, Nat.reduceSub, Int.reduceLT, Int.reduceLE, Int.reduceToNat, Int.reduceNeg, reduceCtorEq, Option.toArray_none, Option.toArray_some, List.toList_toArray, htk, List.drop_zero, List.take_succ_cons, ASt.freeze]; (try simp (disch := omega) only [wrap_id, getD_map_in, Int.toNat_natCast, Option.toArray_none, Option.toArray_some, List.toList_toArray, htk, List.drop_zero, List.take_succ_cons, ASt.freeze]); (repeat (refine And.intro (by (first | omega | (simp; done) | (simp; omega) | assumption)) ?_)); refine h' _ ?_; clear h' K') | (refine P2.aopsP_cons (fun K' h' => ?_); simp only [go_sem, Nat.reduceLT, Nat.reduceLeDiff, Nat.reduceEqDiff, reduceIte, Nat.reduceAdd, Nat.reduceMul, Nat.reduceSub, Int.reduceLT, Int.reduceLE, Int.reduceToNat, Int.reduceNeg, reduceCtorEq, Option.toArray_none, Option.toArray_some, List.toList_toArray, htk, List.drop_zero, List.take_succ_cons, ASt.freeze]; (first | refine ⟨_, hTd, ?_⟩ | refine ⟨_, fun _ => hTd, ?_⟩); (try simp only [go_sem, Nat.reduceLT, Nat.reduceLeDiff, Nat.reduceEqDiff, reduceIte, Nat.reduceAdd, Nat.reduceMul, Nat.reduceSub, Int.reduceLT, Int.reduceLE, Int.reduceToNat, Int.reduceNeg, reduceCtorEq, Option.toArray_none, Option.toArray_some, List.toList_toArray, htk, List.drop_zero, List.take_succ_cons, ASt.freeze]); (repeat (refine And.intro (by (first | omega | (simp; done) | (simp; omega) | assumption)) ?_)); refine h' _ ?_; clear h' K'))
  refine P2.aopsP_nil (hK _ ?_); clear hK K gs; simp only [fo56]; simp only [ASt.prune, pruneE, keepB, keepR, Bool.or_false, Bool.or_true, Bool.true_or, Bool.false_or, reduceIte, Bool.or_self, Bool.false_eq_true, aThen, aBlock, Nat.reduceEqDiff]; (try simp only [aThen, aBlock])
  repeat (any_goals (first | (refine aops_cons (fun K' h' => ?_); simp only [go_sem, Nat.reduceLT, Nat.reduceLeDiff, Nat.reduceEqDiff, reduceIte, Nat.reduceAdd, Nat.reduceMul, Nat.reduceSub, Int.reduceLT, Int.reduceLE, Int.reduceToNat, Int.reduceNeg, reduceCtorEq, Option.toArray_none, Option.toArray_some, List.toList_toArray, htk, List.drop_zero, List.take_succ_cons, ASt.freeze]; (try simp (disch := omega) only [wrap_id, getD_map_in, Int.toNat_natCast, Option.toArray_none, Option.toArray_some, List.toList_toArray, htk, List.drop_zero, List.take_succ_cons, ASt.freeze]); (repeat (refine And.intro (by (first | omega | (simp; done) | (simp; omega) | assumption)) ?_)); refine h' _ ?_; clear h' K') | (refine aops_nil (hK _ ?_); clear hK K gs; try simp only [aThen, aBlock]) | ((first | refine aops_cons (fun K' h' => ?_) | refine aopsD_cons (fun K' h' => ?_) | refine aopsM_cons (fun K' h' => ?_) | refine aopsP_cons (fun K' h' => ?_)); simp only [go_sem, Nat.reduceLT, Nat.reduceLeDiff, Nat.reduceEqDiff, reduceIte, Nat.reduceAdd, Nat.reduceMul, Nat.reduceSub, Int.reduceLT, Int.reduceLE, Int.reduceToNat, Int.reduceNeg, reduceCtorEq, Option.toArray_none, Option.toArray_some, List.toList_toArray, htk, List.drop_zero, List.take_succ_cons, ASt.freeze]; (first | refine ⟨_, hTd, ?_⟩ | refine ⟨_, fun _ => hTd, ?_⟩); (try simp only [go_sem, Nat.reduceLT, Nat.reduceLeDiff, Nat.reduceEqDiff, reduceIte, Nat.reduceAdd, Nat.reduceMul, Nat.reduceSub, Int.reduceLT, Int.reduceLE, Int.reduceToNat, Int.reduceNeg, reduceCtorEq, Option.toArray_none, Option.toArray_some, List.toList_toArray, htk, List.drop_zero, List.take_succ_cons, ASt.freeze]); (repeat (refine And.intro (by (first | omega | (simp; done) | (simp; omega) | assumption)) ?_)); refine h' _ ?_; clear h' K') | (refine aops_consN  (fun K' h' => ?_); simp only [go_sem, Nat.reduceLT, Nat.reduceLeDiff, Nat.reduceEqDiff, reduceIte, Nat.reduceAdd, Nat.reduceMul, Nat.reduceSub, Int.reduceLT, Int.reduceLE, Int.reduceToNat, Int.reduceNeg, reduceCtorEq, Option.toArray_none, Option.toArray_some, List.toList_toArray, htk, List.drop_zero, List.take_succ_cons, ASt.freeze]; refine ⟨_, _, hTw, ?_⟩; (try simp only [go_sem, Nat.reduceLT, Nat.reduceLeDiff, Nat.reduceEqDiff, reduceIte, Nat.reduceAdd, Nat.reduceMul, Nat.reduceSub, Int.reduceLT, Int.reduceLE, Int.reduceToNat, Int.reduceNeg, reduceCtorEq, Option.toArray_none, Option.toArray_some, List.toList_toArray, htk, List.drop_zero, List.take_succ_cons, ASt.freeze]); (repeat (refine And.intro (by (first | omega | (simp; done) | (simp; omega) | assumption)) ?_)); refine h' _ ?_; clear h' K') | (refine AWp.sreg  dd56 rfl (fun gs K hgs hK => ?_); clear hgs) | refine AWp.seq ?_ | refine ARounds.step ?_ | refine AWp.block ?_ | refine AWp.label ?_ | (refine AWp.ret ?_; try simp only [aThen, aBlock]) | (refine AWp.skip ?_; try simp only [aThen, aBlock]) | (refine AWp.exit ?_; try simp only [aThen, aBlock, Nat.reduceEqDiff, reduceIte]) | (refine AWp.reg  dd56 rfl (fun gs K hgs hK => ?_); clear hgs) | (refine AWp.cond rfl (fun h => ?_) (fun h => ?_) <;> (try simp only [decide_eq_true_eq, decide_eq_false_iff_not, beq_iff_eq, bne_iff_ne, ne_eq, Bool.not_eq_true', Bool.not_eq_false', beq_eq_false_iff_ne, Bool.true_eq_false, Bool.false_eq_true, Int.not_le, Int.not_lt, Bool.and_eq_true, Bool.and_eq_false_iff, Bool.or_eq_true, Bool.or_eq_false_iff, bne_eq_false_iff_eq, reduceCtorEq] at h) <;> (try first | contradiction | (exfalso; omega) | (exfalso; revert h; simp; done) | (exfalso; revert h; simp; omega)))))
  all_goals simp only [Out, outA, outL, resA, go_sem, Nat.reduceLT, Nat.reduceLeDiff, Nat.reduceEqDiff, reduceIte, Nat.reduceAdd, Nat.reduceMul, Nat.reduceSub, Int.reduceLT, Int.reduceLE, Int.reduceToNat, Int.reduceNeg, reduceCtorEq]
  all_goals exact AVle.of_eq (by simp [List.take_of_length_le])

def dd34 : Nat → List (List Nat)
  | 0 => [[], [0], [], [3]]
  | 1 => [[], [], [5], [6]]
  | 2 => [[], [], [7]]
  | 3 => [[1, 8], [], [4], [9], [10]]
  | 4 => [[4, 8], [], [11], [12], [13]]
  | 5 => [[1, 14], [], [15], []]
  | 6 => [[14], [], [16], [17], [18]]
  | 7 => [[1, 19], [], [20], []]
  | 8 => [[19], [1], [21], [22], []]
  | _ => []
theorem step28_c (t : Tsk) (hok : t.ok) : ACall Try.prog 34 [.agg t.cells] (.tup [.agg (stepT t).cells, .lit (.int .i64 (stepE t))]) := by
  have hAk := asked28_c t hok
  by_cases hg : stepE t = 0
  · have hall : askE t = 0 ∧ t.pend = [] ∧ ∃ e es, t.evs = e :: es := by
      unfold stepE at hg
      split at hg
      · omega
      · split at hg
        · omega
        · split at hg
          · omega
          · rename_i g1 g2 g3
            refine ⟨Classical.not_not.1 g1, List.eq_nil_of_length_eq_zero (by omega), ?_⟩
            cases hev : t.evs with
            | nil => rw [hev] at g3; exact absurd rfl g3
            | cons e es => exact ⟨e, es, rfl⟩
    obtain ⟨h1, h2, e, es, h3⟩ := hall
    have hSt := stepped_c t e es (goodT_few (askE_0 h1).1).2.1 h2 h3
    have hT : stepT t = { t with pend := [⟨0, told e⟩], evs := es } := by unfold stepT; rw [if_pos hg, h3]; rfl
    rw [hT, hg]
    rw [h1] at hAk
    clear hT hg h1 hok
    obtain ⟨kd, n, tn, pe, mk, st, ev, rw_, lt⟩ := t
    simp only at h2 h3
    subst h2 h3
    unfold Tsk.cells sndsV mksV entsV evsV rowsV rcdsV at *
    simp only [List.map_cons, List.map_nil] at hAk hSt ⊢
    refine acall_of (n := 23) (rs := [.cell 2 31, .tmp 3]) Try.func34 rfl (by kernel_rfl) rfl rfl rfl ?_; simp only [argsE, Nat.reduceAdd]
    repeat (any_goals (first | (refine aops_cons (fun K' h' => ?_); simp only [go_sem, Nat.reduceLT, Nat.reduceLeDiff, Nat.reduceEqDiff, reduceIte, Nat.reduceAdd, Nat.reduceMul, Nat.reduceSub, Int.reduceLT, Int.reduceLE, Int.reduceToNat, Int.reduceNeg, reduceCtorEq, Option.toArray_none, Option.toArray_some, List.toList_toArray]; (try simp (disch := omega) only [wrap_id, getD_map_in, Int.toNat_natCast, Option.toArray_none, Option.toArray_some, List.toList_toArray]); (repeat (refine And.intro (by (first | omega | (simp; done) | (simp; omega) | assumption)) ?_)); refine h' _ ?_; clear h' K') | (refine aops_nil (hK _ ?_); clear hK K gs; try simp only [aThen, aBlock]) | ((first | refine aops_cons (fun K' h' => ?_) | refine aopsD_cons (fun K' h' => ?_)); simp only [go_sem, Nat.reduceLT, Nat.reduceLeDiff, Nat.reduceEqDiff, reduceIte, Nat.reduceAdd, Nat.reduceMul, Nat.reduceSub, Int.reduceLT, Int.reduceLE, Int.reduceToNat, Int.reduceNeg, reduceCtorEq, Option.toArray_none, Option.toArray_some, List.toList_toArray]; (first | refine ⟨_, hAk, ?_⟩ | refine ⟨_, fun _ => hAk, ?_⟩ | refine ⟨_, hSt, ?_⟩ | refine ⟨_, fun _ => hSt, ?_⟩); (try simp only [go_sem, Nat.reduceLT, Nat.reduceLeDiff, Nat.reduceEqDiff, reduceIte, Nat.reduceAdd, Nat.reduceMul, Nat.reduceSub, Int.reduceLT, Int.reduceLE, Int.reduceToNat, Int.reduceNeg, reduceCtorEq, Option.toArray_none, Option.toArray_some, List.toList_toArray]); (repeat (refine And.intro (by (first | omega | (simp; done) | (simp; omega) | assumption)) ?_)); refine h' _ ?_; clear h' K') | (refine AWp.sreg  dd34 rfl (fun gs K hgs hK => ?_); clear hgs) | refine AWp.seq ?_ | refine ARounds.step ?_ | refine AWp.block ?_ | refine AWp.label ?_ | (refine AWp.ret ?_; try simp only [aThen, aBlock]) | (refine AWp.skip ?_; try simp only [aThen, aBlock]) | (refine AWp.exit ?_; try simp only [aThen, aBlock, Nat.reduceEqDiff, reduceIte]) | (refine AWp.reg  dd34 rfl (fun gs K hgs hK => ?_); clear hgs) | (refine AWp.cond rfl (fun h => ?_) (fun h => ?_) <;> (try simp only [decide_eq_true_eq, decide_eq_false_iff_not, beq_iff_eq, bne_iff_ne, ne_eq, Bool.not_eq_true', Bool.not_eq_false', beq_eq_false_iff_ne, Bool.true_eq_false, Bool.false_eq_true, Int.not_le, Int.not_lt, Bool.and_eq_true, Bool.and_eq_false_iff, Bool.or_eq_true, Bool.or_eq_false_iff, bne_eq_false_iff_eq, reduceCtorEq] at h) <;> (try first | contradiction | (exfalso; omega) | (exfalso; revert h; simp; done) | (exfalso; revert h; simp; omega)))))
    all_goals simp only [Out, outA, outL, resA, go_sem, Nat.reduceLT, Nat.reduceLeDiff, Nat.reduceEqDiff, reduceIte, Nat.reduceAdd, Nat.reduceMul, Nat.reduceSub, Int.reduceLT, Int.reduceLE, Int.reduceToNat, Int.reduceNeg, reduceCtorEq]
    all_goals exact AVle.refl _
  · have hT : stepT t = zeroT := by unfold stepT; rw [if_neg hg]
    rw [hT]
    clear hT
    obtain ⟨R, hR⟩ : ∃ R, R = AV.tup [.agg zeroT.cells, .lit (.int .i64 (stepE t))] := ⟨_, rfl⟩
    have hE : stepE t = if askE t ≠ 0 then askE t else if 0 < t.pend.length then 18 else if t.evs.length = 0 then 6 else 0 := rfl
    rw [← hR]
    generalize stepE t = se at *
    generalize askE t = ae at *
    clear hok
    obtain ⟨kd, n, tn, pe, mk, st, ev, rw_, lt⟩ := t
    unfold Tsk.cells sndsV mksV entsV evsV rowsV rcdsV at hAk ⊢
    simp only at hAk hE ⊢
    refine acall_of (n := 23) (rs := [.cell 2 31, .tmp 3]) Try.func34 rfl (by kernel_rfl) rfl rfl rfl ?_; simp only [argsE, Nat.reduceAdd]
    repeat (any_goals (first | (refine aops_cons (fun K' h' => ?_); simp only [go_sem, Nat.reduceLT, Nat.reduceLeDiff, Nat.reduceEqDiff, reduceIte, Nat.reduceAdd, Nat.reduceMul, Nat.reduceSub, Int.reduceLT, Int.reduceLE, Int.reduceToNat, Int.reduceNeg, reduceCtorEq, Option.toArray_none, Option.toArray_some, List.toList_toArray]; (try simp (disch := omega) only [wrap_id, getD_map_in, Int.toNat_natCast, Option.toArray_none, Option.toArray_some, List.toList_toArray]); (repeat (refine And.intro (by (first | omega | (simp; done) | (simp; omega) | assumption)) ?_)); refine h' _ ?_; clear h' K') | (refine aops_nil (hK _ ?_); clear hK K gs; try simp only [aThen, aBlock]) | ((first | refine aops_cons (fun K' h' => ?_) | refine aopsD_cons (fun K' h' => ?_)); simp only [go_sem, Nat.reduceLT, Nat.reduceLeDiff, Nat.reduceEqDiff, reduceIte, Nat.reduceAdd, Nat.reduceMul, Nat.reduceSub, Int.reduceLT, Int.reduceLE, Int.reduceToNat, Int.reduceNeg, reduceCtorEq, Option.toArray_none, Option.toArray_some, List.toList_toArray]; (first | refine ⟨_, hAk, ?_⟩ | refine ⟨_, fun _ => hAk, ?_⟩ | refine ⟨_, hSt, ?_⟩ | refine ⟨_, fun _ => hSt, ?_⟩); (try simp only [go_sem, Nat.reduceLT, Nat.reduceLeDiff, Nat.reduceEqDiff, reduceIte, Nat.reduceAdd, Nat.reduceMul, Nat.reduceSub, Int.reduceLT, Int.reduceLE, Int.reduceToNat, Int.reduceNeg, reduceCtorEq, Option.toArray_none, Option.toArray_some, List.toList_toArray]); (repeat (refine And.intro (by (first | omega | (simp; done) | (simp; omega) | assumption)) ?_)); refine h' _ ?_; clear h' K') | (refine AWp.sreg  dd34 rfl (fun gs K hgs hK => ?_); clear hgs) | refine AWp.seq ?_ | refine ARounds.step ?_ | refine AWp.block ?_ | refine AWp.label ?_ | (refine AWp.ret ?_; try simp only [aThen, aBlock]) | (refine AWp.skip ?_; try simp only [aThen, aBlock]) | (refine AWp.exit ?_; try simp only [aThen, aBlock, Nat.reduceEqDiff, reduceIte]) | (refine AWp.reg  dd34 rfl (fun gs K hgs hK => ?_); clear hgs) | (refine AWp.cond rfl (fun h => ?_) (fun h => ?_) <;> (try simp only [decide_eq_true_eq, decide_eq_false_iff_not, beq_iff_eq, bne_iff_ne, ne_eq, Bool.not_eq_true', Bool.not_eq_false', beq_eq_false_iff_ne, Bool.true_eq_false, Bool.false_eq_true, Int.not_le, Int.not_lt, Bool.and_eq_true, Bool.and_eq_false_iff, Bool.or_eq_true, Bool.or_eq_false_iff, bne_eq_false_iff_eq, reduceCtorEq] at h) <;> (try first | contradiction | (exfalso; omega) | (exfalso; revert h; simp; done) | (exfalso; revert h; simp; omega)))))
    all_goals simp only [Out, outA, outL, resA, go_sem, Nat.reduceLT, Nat.reduceLeDiff, Nat.reduceEqDiff, reduceIte, Nat.reduceAdd, Nat.reduceMul, Nat.reduceSub, Int.reduceLT, Int.reduceLE, Int.reduceToNat, Int.reduceNeg, reduceCtorEq]
    all_goals rw [hR]
    · rw [if_pos h] at hE
      rw [hE]
      exact AVle.tup ⟨zeroT_le, AVle.refl _, trivial⟩
    · rw [if_neg (by omega), if_pos (by omega)] at hE
      rw [hE]
      exact AVle.tup ⟨zeroT_le, AVle.refl _, trivial⟩
    · rw [if_neg (by omega), if_neg (by omega), if_pos (by omega)] at hE
      rw [hE]
      exact AVle.tup ⟨zeroT_le, AVle.refl _, trivial⟩
end Go.Proofs.Ytbciabkniljjgaa
