/-
  The walks over Twin and Same of queries.
-/
import Derived.Test.YteohklfoggiojaaQryW
import Derived.Test.YteohklfoggiojaaPlnM
import Derived.Test.YteohklfoggiojaaEqualW
namespace Go.Proofs.Yteohklfoggiojaa
open Go.AL Go.RowKit
set_option linter.unusedSimpArgs false
set_option linter.unusedVariables false
set_option maxRecDepth 10000
set_option maxHeartbeats 4000000
def alikeQ (p q : Qry) : Bool := (p.agg == q.agg) && (p.join == q.join) && decide (p.win = q.win) && (p.byKey == q.byKey) && (p.late == q.late) && decide (p.src = q.src) && sameN p.arg q.arg && sameN p.wh q.wh
def dd33 : Nat → List (List Nat)
  | 0 => [[], [0], []]
  | 1 => [[], [], [], [4], [3, 5], [], [6, 7]]
  | 2 => [[], [], [], [9], [8, 10], [], [11, 12]]
  | 3 => [[], [], [], [14], [13, 15], [], [16, 17]]
  | 4 => [[], [1], [18]]
  | _ => []
theorem twin_c (q : Qry) (h1 : q.arg.length ≤ 1000) (h2 : q.wh.length ≤ 1000) (h3 : q.src.length ≤ 1000) : ACall Try.prog 33 [.agg q.cells] (.agg q.cells) := by
  obtain ⟨ag, ar, sr, jn, wh, ⟨kd, sz, ev⟩, bk, lt⟩ := q
  simp only at h1 h2 h3
  unfold Qry.cells nodesV intsV
  simp only
  refine acall_of (n := 19) (rs := [.cell 2 63]) Try.func33 rfl (by kernel_rfl) rfl rfl rfl ?_; simp only [argsE, Nat.reduceAdd]
  repeat (any_goals (first | (refine aops_cons (fun K' h' => ?_); simp only [go_sem, simprocAttr, Node.cells]; (try ((first | refine ⟨_, hQ, ?_⟩ | refine ⟨_, fun _ => hQ, ?_⟩ | refine ⟨_, hL1, ?_⟩ | refine ⟨_, fun _ => hL1, ?_⟩ | refine ⟨_, hL2, ?_⟩ | refine ⟨_, fun _ => hL2, ?_⟩); (try simp only [go_sem, simprocAttr, Node.cells]))); (try simp (disch := omega) only [wrap_id, getD_map_in, Int.toNat_natCast, Node.cells]); (repeat (refine And.intro (by (first | omega | (simp; done) | (simp; omega) | assumption)) ?_)); refine h' _ ?_; clear h' K') | (refine aops_nil (hK _ ?_); clear hK K gs; try simp only [aThen, aBlock]) | (refine AWp.sreg  dd33 rfl (fun gs K hgs hK => ?_); clear hgs) | refine AWp.seq ?_ | refine ARounds.step ?_ | refine AWp.block ?_ | refine AWp.label ?_ | (refine AWp.ret ?_; try simp only [aThen, aBlock]) | (refine AWp.skip ?_; try simp only [aThen, aBlock]) | (refine AWp.exit ?_; try simp only [aThen, aBlock, Nat.reduceEqDiff, reduceIte]) | (refine AWp.reg  dd33 rfl (fun gs K hgs hK => ?_); clear hgs) | (refine AWp.cond rfl (fun h => ?_) (fun h => ?_) <;> (try simp only [decide_eq_true_eq, decide_eq_false_iff_not, beq_iff_eq, bne_iff_ne, ne_eq, Bool.not_eq_true', Bool.not_eq_false', beq_eq_false_iff_ne, Bool.true_eq_false, Bool.false_eq_true, Int.not_le, Int.not_lt, Bool.and_eq_true, Bool.and_eq_false_iff, Bool.or_eq_true, Bool.or_eq_false_iff, bne_eq_false_iff_eq, reduceCtorEq] at h) <;> (try first | contradiction | (exfalso; omega) | (exfalso; revert h; simp; done) | (exfalso; revert h; simp; omega)))))
  all_goals simp only [Out, outA, outL, resA, go_sem, simprocAttr]
  all_goals refine AVle.of_eq ?_
  all_goals simp [List.take_of_length_le]
end Go.Proofs.Yteohklfoggiojaa
