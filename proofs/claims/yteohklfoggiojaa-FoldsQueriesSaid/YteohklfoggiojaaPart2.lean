/-
  The walk over Part.
-/
import Derived.Test.YteohklfoggiojaaPartW
import Derived.Test.YteohklfoggiojaaEqualW
namespace Go.Proofs.Yteohklfoggiojaa
open Go.AL Go.RowKit
set_option linter.unusedSimpArgs false
set_option linter.unusedVariables false
set_option maxRecDepth 10000
set_option maxHeartbeats 4000000
theorem moved_ne (L : List Node) (b : Int) (hn : L ≠ []) (hl : L.length ≤ 1000) (hb1 : -2000 ≤ b) (hb2 : b ≤ 2000) (hx : ∀ x ∈ L, -2000 ≤ x.a ∧ x.a ≤ 2000 ∧ -2000 ≤ x.b ∧ x.b ≤ 2000) :
    ACall Try.prog 54 [nodesV L, .lit (.int .i64 b)] (nodesV (L.map (mvN b))) := by
  cases L with
  | nil => exact absurd rfl hn
  | cons x l => exact moved_c x l b (by simp at hl; omega) hb1 hb2 hx
def dd22 : Nat → List (List Nat)
  | 0 => [[], [4], [5]]
  | 1 => [[], [], [], [10, 11], [12], [], [9], [13], [14]]
  | 2 => [[], [], [15]]
  | 3 => [[0, 1, 6, 16], [7], [], [17]]
  | 4 => [[7, 16], [], [18], [6], [19, 20], [21]]
  | 5 => [[], [0], [], [1], [24], [22, 23, 25], [8], [27], [26, 28], [29], []]
  | _ => []
theorem nPart_ok {l : List Node} {e : Ex} (i : Nat) (hl : l.length ≤ 1000) (h : errL l = 0) (ht : treeO l = some e) (hi : i < l.length) (hx : ∀ x ∈ l, -2000 ≤ x.a ∧ x.a ≤ 2000 ∧ -2000 ≤ x.b ∧ x.b ≤ 2000) :
    ACall Try.prog 22 [nodesV l, .lit (.int .i64 (i : Int))] (.tup [nodesV (cutL l (i + 1 - e.szs.getD i default) (e.szs.getD i default)), .lit (.int .i64 0)]) := by
  have hS := nSize_ok i hl h ht
  rw [if_pos (by omega), if_pos (by omega)] at hS
  have hle := (treeO_some ht).len
  have hsz := e.szs_bd i (by omega)
  simp only [Int.toNat_natCast] at hS
  generalize hs : e.szs.getD i default = s at hS ⊢
  have hs2 : e.szs.getD i 0 = s := hs
  rw [hs2] at hsz
  have hM0 := moved_ne ((l.drop (i + 1 - s)).take s) (-((i + 1 - s : Nat) : Int)) (by intro hh; have := congrArg List.length hh; simp at this; omega) (by simp; omega) (by omega) (by omega) (fun x hxm => hx x (List.mem_of_mem_drop (List.mem_of_mem_take hxm)))
  have hM : ACall Try.prog 54 [.ro 5 (((l.map Node.cells).drop ((i : Int) + 1 - (s : Int)).toNat).take (((i : Int) + 1).toNat - ((i : Int) + 1 - (s : Int)).toNat)), .lit (.int .i64 (0 - ((i : Int) + 1 - (s : Int))))] (nodesV (cutL l (i + 1 - s) s)) := by
    have e1 : 0 - ((i : Int) + 1 - (s : Int)) = -((i + 1 - s : Nat) : Int) := by omega
    have e2 : ((i : Int) + 1 - (s : Int)).toNat = i + 1 - s := by omega
    have e3 : ((i : Int) + 1).toNat - (i + 1 - s) = s := by omega
    rw [e1, e2, e3, ← List.map_drop, ← List.map_take]
    exact hM0
  clear hM0
  unfold nodesV at hS hM ⊢
  refine acall_of (n := 30) (rs := [.tmp 4, .tmp 5]) Try.func22 rfl (by kernel_rfl) rfl rfl rfl ?_; simp only [argsE, Nat.reduceAdd]
  repeat (any_goals (first | (refine aops_cons (fun K' h' => ?_); simp only [go_sem, simprocAttr, Node.cells, List.drop_eq_nil_iff]; (try ((first | refine ⟨_, hS, ?_⟩ | refine ⟨_, fun _ => hS, ?_⟩ | refine ⟨_, hM, ?_⟩ | refine ⟨_, fun _ => hM, ?_⟩); (try simp only [go_sem, simprocAttr, Node.cells, List.drop_eq_nil_iff]))); (try simp (disch := omega) only [wrap_id, getD_map_in, Int.toNat_natCast, Node.cells, List.drop_eq_nil_iff]); (repeat (refine And.intro (by (first | omega | (simp; done) | (simp; omega) | assumption)) ?_)); refine h' _ ?_; clear h' K') | (refine aops_nil (hK _ ?_); clear hK K gs; try simp only [aThen, aBlock]) | (refine AWp.sreg  dd22 rfl (fun gs K hgs hK => ?_); clear hgs) | refine AWp.seq ?_ | refine ARounds.step ?_ | refine AWp.block ?_ | refine AWp.label ?_ | (refine AWp.ret ?_; try simp only [aThen, aBlock]) | (refine AWp.skip ?_; try simp only [aThen, aBlock]) | (refine AWp.exit ?_; try simp only [aThen, aBlock, Nat.reduceEqDiff, reduceIte]) | (refine AWp.reg  dd22 rfl (fun gs K hgs hK => ?_); clear hgs) | (refine AWp.cond rfl (fun h => ?_) (fun h => ?_) <;> (try simp only [decide_eq_true_eq, decide_eq_false_iff_not, beq_iff_eq, bne_iff_ne, ne_eq, Bool.not_eq_true', Bool.not_eq_false', beq_eq_false_iff_ne, Bool.true_eq_false, Bool.false_eq_true, Int.not_le, Int.not_lt, Bool.and_eq_true, Bool.and_eq_false_iff, Bool.or_eq_true, Bool.or_eq_false_iff, bne_eq_false_iff_eq, reduceCtorEq] at h) <;> (try first | contradiction | (exfalso; omega) | (exfalso; revert h; simp; done) | (exfalso; revert h; simp; omega)))))
  · simp only [Out, outA, outL, resA, go_sem, simprocAttr]
    exact AVle.refl _
end Go.Proofs.Yteohklfoggiojaa
