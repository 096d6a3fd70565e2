/-
  The law FoldsQueries.
-/
import Derived.Test.YteohklfoggiojaaFdQ
import Derived.Test.YteohklfoggiojaaQRefW
import Derived.Test.YteohklfoggiojaaFShp
namespace Go.Proofs.Yteohklfoggiojaa
open Go.AL Go.RowKit
set_option linter.unusedSimpArgs false
set_option linter.unusedVariables false
set_option maxRecDepth 10000
set_option maxHeartbeats 8000000
theorem greatQ_not {q : Qry} (h : greatQ q = false) : q.arg.length ≤ 70 ∧ q.wh.length ≤ 70 ∧ q.src.length ≤ 10 := by
  unfold greatQ at h
  simp at h; omega
theorem alikeQ_self (q : Qry) : alikeQ q q = true := by
  unfold alikeQ
  simp [sameN]
def dd9 : Nat → List (List Nat)
  | 0 => [[], [0], [2]]
  | 1 => [[], [], [8]]
  | 2 => [[1, 9], []]
  | 3 => [[9], [], [10], [], [11]]
  | 4 => [[], [], [13], [14], [], [12], [], [15], [16]]
  | 5 => [[], [], [18], [19], [], [17], [], [20], [21]]
  | 6 => [[], [4], [6], [22, 23], [24], [5], [7], [26, 27], [25, 28], [29], [3], [1], [31, 32], [30, 33], [34]]
  | _ => []
theorem fdqueries_law (q : Qry) (h1 : q.arg.length ≤ maxLen) (h2 : q.wh.length ≤ maxLen) (h3 : q.src.length ≤ maxLen) (hw : ∀ x ∈ q.src, -9223372036854775808 ≤ x ∧ x ≤ 9223372036854775807) (n1 : nodesB q.arg) (n2 : nodesB q.wh) :
    ACall Try.prog 9 [.agg q.cells] (.lit (.bool true)) := by
  have hGr := greatQ_c q h1 h2 h3
  cases hg : greatQ q with
  | false =>
    obtain ⟨a1, a2, a3⟩ := greatQ_not hg
    have hf : q.fit := ⟨by omega, by omega, by omega, hw, n1, n2⟩
    have hT := twin_c q (by omega) (by omega) (by omega)
    have hQ := query_c q hf
    have hR := rQuery_c q hf
    have hE2 := rEqualQ_c q q (by omega) (by omega) (by omega) (by omega) (by omega) (by omega)
    rw [alikeQ_self q, decide_eq_true (rfl : q.arg = q.arg), decide_eq_true (rfl : q.wh = q.wh)] at hE2
    obtain ⟨b1, b2, b3⟩ := fqR_len q hf
    have hE1 := rEqualQ_c (fqR q) (fqR q) b1 b2 b3 b1 b2 b3
    rw [alikeQ_self, decide_eq_true (rfl : (fqR q).arg = (fqR q).arg), decide_eq_true (rfl : (fqR q).wh = (fqR q).wh)] at hE1
    rw [hg] at hGr
    generalize accE q = ce at *
    generalize fqR q = p at *
    clear hg hw hf n1 n2 a1 a2 a3 b1 b2 b3 h1 h2 h3
    obtain ⟨ag, ar, sr, jn, wh, ⟨kd, sz, ev⟩, bk, lt⟩ := q
    obtain ⟨ag2, ar2, sr2, jn2, wh2, ⟨kd2, sz2, ev2⟩, bk2, lt2⟩ := p
    unfold Qry.cells nodesV intsV at *
    refine acall_of (n := 35) (rs := [.tmp 2]) Try.func9 rfl (by kernel_rfl) rfl rfl rfl ?_; simp only [argsE, Nat.reduceAdd]
    repeat (any_goals (first | (refine aops_cons (fun K' h' => ?_); simp only [go_sem, simprocAttr, hgs, Node.cells, aopG, beq_self_eq_true]; (try ((first | refine ⟨_, hGr, ?_⟩ | refine ⟨_, fun _ => hGr, ?_⟩ | refine ⟨_, hT, ?_⟩ | refine ⟨_, fun _ => hT, ?_⟩ | refine ⟨_, hQ, ?_⟩ | refine ⟨_, fun _ => hQ, ?_⟩ | refine ⟨_, hR, ?_⟩ | refine ⟨_, fun _ => hR, ?_⟩ | refine ⟨_, hE1, ?_⟩ | refine ⟨_, fun _ => hE1, ?_⟩ | refine ⟨_, hE2, ?_⟩ | refine ⟨_, fun _ => hE2, ?_⟩); (try simp only [go_sem, simprocAttr, hgs, Node.cells, aopG, beq_self_eq_true]))); (try simp (disch := omega) only [wrap_id, getD_map_in, Int.toNat_natCast, Node.cells, aopG, beq_self_eq_true]); (repeat (refine And.intro (by (first | omega | (simp; done) | (simp; omega) | assumption)) ?_)); refine h' _ ?_; clear h' K') | (refine aops_nil (hK _ ?_); clear hK K hgs gs; try simp only [aThen, aBlock]) | ((first | refine AWp.sreg (id := 6) dd9 rfl (fun gs K hgs hK => ?_) | refine AWp.reg (id := 6) dd9 rfl (fun gs K hgs hK => ?_)); replace hgs : gs 3 = some 25 ∧ gs 8 = some 30 := ⟨hgs 3, hgs 8⟩) | (refine AWp.sreg  dd9 rfl (fun gs K hgs hK => ?_); replace hgs : Nat.succ 0 = 1 := rfl) | refine AWp.seq ?_ | refine ARounds.step ?_ | refine AWp.block ?_ | refine AWp.label ?_ | (refine AWp.ret ?_; try simp only [aThen, aBlock]) | (refine AWp.skip ?_; try simp only [aThen, aBlock]) | (refine AWp.exit ?_; try simp only [aThen, aBlock, Nat.reduceEqDiff, reduceIte]) | (refine AWp.reg  dd9 rfl (fun gs K hgs hK => ?_); replace hgs : Nat.succ 0 = 1 := rfl) | (refine aops_consG (fun K' h' => ?_); simp only [go_sem, simprocAttr, hgs, Node.cells, aopG, beq_self_eq_true]; (try simp (disch := omega) only [wrap_id, getD_map_in, Int.toNat_natCast, Node.cells, aopG, beq_self_eq_true]); (repeat (refine And.intro (by (first | omega | (simp; done) | (simp; omega) | assumption)) ?_)); refine h' _ ?_; clear h' K') | (refine AWp.cond rfl (fun h => ?_) (fun h => ?_) <;> (try simp only [decide_eq_true_eq, decide_eq_false_iff_not, beq_iff_eq, bne_iff_ne, ne_eq, Bool.not_eq_true', Bool.not_eq_false', beq_eq_false_iff_ne, Bool.true_eq_false, Bool.false_eq_true, Int.not_le, Int.not_lt, Bool.and_eq_true, Bool.and_eq_false_iff, Bool.or_eq_true, Bool.or_eq_false_iff, bne_eq_false_iff_eq, reduceCtorEq] at h) <;> (try first | contradiction | (exfalso; omega) | (exfalso; revert h; simp; done) | (exfalso; revert h; simp; omega)))))
    all_goals simp only [Out, outA, outL, resA, go_sem, simprocAttr]
    all_goals exact AVle.of_eq (by simp)
  | true =>
    rw [hg] at hGr
    clear hg hw n1 n2 h1 h2 h3
    obtain ⟨ag, ar, sr, jn, wh, ⟨kd, sz, ev⟩, bk, lt⟩ := q
    unfold Qry.cells nodesV intsV at *
    refine acall_of (n := 35) (rs := [.tmp 2]) Try.func9 rfl (by kernel_rfl) rfl rfl rfl ?_; simp only [argsE, Nat.reduceAdd]
    repeat (any_goals (first | (refine aops_cons (fun K' h' => ?_); simp only [go_sem, simprocAttr, hgs, Node.cells, aopG, beq_self_eq_true]; (try ((first | refine ⟨_, hGr, ?_⟩ | refine ⟨_, fun _ => hGr, ?_⟩ | refine ⟨_, hT, ?_⟩ | refine ⟨_, fun _ => hT, ?_⟩ | refine ⟨_, hQ, ?_⟩ | refine ⟨_, fun _ => hQ, ?_⟩ | refine ⟨_, hR, ?_⟩ | refine ⟨_, fun _ => hR, ?_⟩ | refine ⟨_, hE1, ?_⟩ | refine ⟨_, fun _ => hE1, ?_⟩ | refine ⟨_, hE2, ?_⟩ | refine ⟨_, fun _ => hE2, ?_⟩); (try simp only [go_sem, simprocAttr, hgs, Node.cells, aopG, beq_self_eq_true]))); (try simp (disch := omega) only [wrap_id, getD_map_in, Int.toNat_natCast, Node.cells, aopG, beq_self_eq_true]); (repeat (refine And.intro (by (first | omega | (simp; done) | (simp; omega) | assumption)) ?_)); refine h' _ ?_; clear h' K') | (refine aops_nil (hK _ ?_); clear hK K hgs gs; try simp only [aThen, aBlock]) | ((first | refine AWp.sreg (id := 6) dd9 rfl (fun gs K hgs hK => ?_) | refine AWp.reg (id := 6) dd9 rfl (fun gs K hgs hK => ?_)); replace hgs : gs 3 = some 25 ∧ gs 8 = some 30 := ⟨hgs 3, hgs 8⟩) | (refine AWp.sreg  dd9 rfl (fun gs K hgs hK => ?_); replace hgs : Nat.succ 0 = 1 := rfl) | refine AWp.seq ?_ | refine ARounds.step ?_ | refine AWp.block ?_ | refine AWp.label ?_ | (refine AWp.ret ?_; try simp only [aThen, aBlock]) | (refine AWp.skip ?_; try simp only [aThen, aBlock]) | (refine AWp.exit ?_; try simp only [aThen, aBlock, Nat.reduceEqDiff, reduceIte]) | (refine AWp.reg  dd9 rfl (fun gs K hgs hK => ?_); replace hgs : Nat.succ 0 = 1 := rfl) | (refine aops_consG (fun K' h' => ?_); simp only [go_sem, simprocAttr, hgs, Node.cells, aopG, beq_self_eq_true]; (try simp (disch := omega) only [wrap_id, getD_map_in, Int.toNat_natCast, Node.cells, aopG, beq_self_eq_true]); (repeat (refine And.intro (by (first | omega | (simp; done) | (simp; omega) | assumption)) ?_)); refine h' _ ?_; clear h' K') | (refine AWp.cond rfl (fun h => ?_) (fun h => ?_) <;> (try simp only [decide_eq_true_eq, decide_eq_false_iff_not, beq_iff_eq, bne_iff_ne, ne_eq, Bool.not_eq_true', Bool.not_eq_false', beq_eq_false_iff_ne, Bool.true_eq_false, Bool.false_eq_true, Int.not_le, Int.not_lt, Bool.and_eq_true, Bool.and_eq_false_iff, Bool.or_eq_true, Bool.or_eq_false_iff, bne_eq_false_iff_eq, reduceCtorEq] at h) <;> (try first | contradiction | (exfalso; omega) | (exfalso; revert h; simp; done) | (exfalso; revert h; simp; omega)))))
    all_goals simp only [Out, outA, outL, resA, go_sem, simprocAttr]
    all_goals exact AVle.refl _
theorem fdqueries_all : ∀ xs, ShpAs Try.prog 8 Try.f9.params.toList xs → ACall Try.prog 9 xs (.lit (.bool true)) := by
  intro xs h
  have hp : Try.f9.params.toList = [63] := by kernel_rfl
  rw [hp] at h
  obtain ⟨a, r, rfl, ha, h⟩ := h
  obtain rfl : r = [] := h
  obtain ⟨q, rfl, h1, h2, h3, h4, h5, h6⟩ := qryB_shape ha
  exact fdqueries_law q h1 h2 h3 h4 h5 h6
end Go.Proofs.Yteohklfoggiojaa
