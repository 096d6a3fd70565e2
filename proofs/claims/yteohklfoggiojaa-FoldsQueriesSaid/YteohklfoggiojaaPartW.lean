/-
  The walks over parts of expressions: Clone, moved.
-/
import Derived.Test.YteohklfoggiojaaCheckW
import Derived.Test.YteohklfoggiojaaPlnM
namespace Go.Proofs.Yteohklfoggiojaa
open Go.AL Go.RowKit
set_option linter.unusedSimpArgs false
set_option linter.unusedVariables false
set_option maxRecDepth 10000
set_option maxHeartbeats 4000000
def dd70 : Nat → List (List Nat)
  | 0 => [[], [2]]
  | 1 => [[], [], [3]]
  | 2 => [[0, 4], []]
  | 3 => [[4], [], [0], [5, 6], [7]]
  | _ => []
theorem cloneN_n (x : Node) (l : List Node) (hl : l.length ≤ 1000) : ACallN Try.prog 70 [nodesV (x :: l)] (.own 0 5 0 (l.length + 1)) [some ⟨50, 5, (x :: l).map Node.cells⟩] := by
  unfold nodesV
  rw [List.map_cons]
  refine acallN_of (n := 8) (rs := [.tmp 2]) [0] Try.func70 rfl (by kernel_rfl) rfl rfl rfl ?_; simp only [argsE, Nat.reduceAdd]
  repeat (any_goals (first | (refine aops_cons (fun K' h' => ?_); simp only [go_sem, simprocAttr, Node.cells]; (try simp (disch := omega) only [wrap_id, getD_map_in, Int.toNat_natCast, Node.cells]); (repeat (refine And.intro (by (first | omega | (simp; done) | (simp; omega) | assumption)) ?_)); refine h' _ ?_; clear h' K') | (refine aops_nil (hK _ ?_); clear hK K gs; try simp only [aThen, aBlock]) | (refine AWp.sreg  dd70 rfl (fun gs K hgs hK => ?_); clear hgs) | refine AWp.seq ?_ | refine ARounds.step ?_ | refine AWp.block ?_ | refine AWp.label ?_ | (refine AWp.ret ?_; try simp only [aThen, aBlock]) | (refine AWp.skip ?_; try simp only [aThen, aBlock]) | (refine AWp.exit ?_; try simp only [aThen, aBlock, Nat.reduceEqDiff, reduceIte]) | (refine AWp.reg  dd70 rfl (fun gs K hgs hK => ?_); clear hgs) | (refine AWp.cond rfl (fun h => ?_) (fun h => ?_) <;> (try simp only [decide_eq_true_eq, decide_eq_false_iff_not, beq_iff_eq, bne_iff_ne, ne_eq, Bool.not_eq_true', Bool.not_eq_false', beq_eq_false_iff_ne, Bool.true_eq_false, Bool.false_eq_true, Int.not_le, Int.not_lt, Bool.and_eq_true, Bool.and_eq_false_iff, Bool.or_eq_true, Bool.or_eq_false_iff, bne_eq_false_iff_eq, reduceCtorEq] at h) <;> (try first | contradiction | (exfalso; omega) | (exfalso; revert h; simp; done) | (exfalso; revert h; simp; omega)))))
  simp only [OutN, outA, outL, resA, go_sem, simprocAttr]
  refine ⟨AVle.of_eq (by simp [keepR]), ?_, ?_⟩
  · simp [AV.lowB, Nat.blt, Nat.ble]
  · simp [frzRows, keepR, Node.cells]
def dd54 : Nat → List (List Nat)
  | 0 => [[], [4]]
  | 1 => [[], [0], [9], [10]]
  | 2 => [[], [], [11], []]
  | 3 => [[], []]
  | 4 => [[14], [], [15]]
  | 5 => [[], [], [], [17, 18], [19], [20], [21], [22], [], [16], [23], [8, 24]]
  | 6 => [[], [], [25]]
  | 7 => [[26], [], [], [], [29], [30], [], [31, 32], [27, 28], [34], [33, 35]]
  | 8 => [[26], [7], [36]]
  | 9 => [[37], [], [6], [], [40], [41], [], [42, 43], [38, 39], [45], [44, 46]]
  | 10 => [[6, 37], [13], [47]]
  | 11 => [[1, 12, 13, 14], [5], [48]]
  | _ => []
theorem moved_c (x0 : Node) (l0 : List Node) (b : Int) (hl : l0.length ≤ 1000) (hb1 : -2000 ≤ b) (hb2 : b ≤ 2000) (hx : ∀ x ∈ x0 :: l0, -2000 ≤ x.a ∧ x.a ≤ 2000 ∧ -2000 ≤ x.b ∧ x.b ≤ 2000) :
    ACall Try.prog 54 [nodesV (x0 :: l0), .lit (.int .i64 b)] (nodesV ((x0 :: l0).map (mvN b))) := by
  have hN := cloneN_n x0 l0 hl
  generalize hL : x0 :: l0 = L at *
  have hlen : L.length = l0.length + 1 := by rw [← hL]; simp
  rw [← hlen] at hN
  unfold nodesV at *
  refine acall_of (n := 49) (rs := [.tmp 4]) Try.func54 rfl (by kernel_rfl) rfl rfl rfl ?_; simp only [argsE, Nat.reduceAdd]
  repeat (any_goals (first | (refine aops_cons (fun K' h' => ?_); simp only [go_sem, simprocAttr, Node.cells]; (try ((first | refine ⟨_, hP, ?_⟩ | refine ⟨_, fun _ => hP, ?_⟩); (try simp only [go_sem, simprocAttr, Node.cells]))); (try simp (disch := omega) only [wrap_id, getD_map_in, Int.toNat_natCast, Node.cells]); (repeat (refine And.intro (by (first | omega | (simp; done) | (simp; omega) | assumption)) ?_)); refine h' _ ?_; clear h' K') | (refine aops_nil (hK _ ?_); clear hK K gs; try simp only [aThen, aBlock]) | (refine aops_consN  (fun K' h' => ?_); simp only [go_sem, simprocAttr, Node.cells]; refine ⟨_, _, hN, ?_⟩; (try simp only [go_sem, simprocAttr, Node.cells]); (repeat (refine And.intro (by (first | omega | (simp; done) | (simp; omega) | assumption)) ?_)); refine h' _ ?_; clear h' K') | (refine AWp.sreg  dd54 rfl (fun gs K hgs hK => ?_); clear hgs) | refine AWp.seq ?_ | refine ARounds.step ?_ | refine AWp.block ?_ | refine AWp.label ?_ | (refine AWp.ret ?_; try simp only [aThen, aBlock]) | (refine AWp.skip ?_; try simp only [aThen, aBlock]) | (refine AWp.exit ?_; try simp only [aThen, aBlock, Nat.reduceEqDiff, reduceIte]) | (refine AWp.reg  dd54 rfl (fun gs K hgs hK => ?_); clear hgs) | (refine AWp.cond rfl (fun h => ?_) (fun h => ?_) <;> (try simp only [decide_eq_true_eq, decide_eq_false_iff_not, beq_iff_eq, bne_iff_ne, ne_eq, Bool.not_eq_true', Bool.not_eq_false', beq_eq_false_iff_ne, Bool.true_eq_false, Bool.false_eq_true, Int.not_le, Int.not_lt, Bool.and_eq_true, Bool.and_eq_false_iff, Bool.or_eq_true, Bool.or_eq_false_iff, bne_eq_false_iff_eq, reduceCtorEq] at h) <;> (try first | contradiction | (exfalso; omega) | (exfalso; revert h; simp; done) | (exfalso; revert h; simp; omega)))))
  refine AWp.loop (I := fun k : Nat => k ≤ L.length) (fun k => ⟨[(1, .lit (.int .i64 b)), (5, .own 0 5 0 L.length), (12, .lit (.int .i64 (L.length : Int))), (13, .lit (.int .i64 (k : Int)))], [], [some ⟨50, 5, ((L.take k).map (mvN b) ++ L.drop k).map Node.cells⟩]⟩) (fun k => L.length - k) 0 ?_ ?_ ?_
  · exact Nat.zero_le _
  · refine Wk.of rfl (by simp [ASt.drop]) ?_
    simp [subE, eget, ASt.drop, dropE, keepR, lowE, AV.lowB, lowL, Nat.blt, Nat.ble]
  · rintro k hk
    repeat ((first | (refine aops_cons (fun K' h' => ?_); simp only [go_sem, simprocAttr, Node.cells]; (try ((first | refine ⟨_, hP, ?_⟩ | refine ⟨_, fun _ => hP, ?_⟩); (try simp only [go_sem, simprocAttr, Node.cells]))); (try simp (disch := omega) only [wrap_id, getD_map_in, Int.toNat_natCast, Node.cells]); (repeat (refine And.intro (by (first | omega | (simp; done) | (simp; omega) | assumption)) ?_)); refine h' _ ?_; clear h' K') | (refine aops_nil (hK _ ?_); clear hK K gs; try simp only [aThen, aBlock]) | (refine aops_consN  (fun K' h' => ?_); simp only [go_sem, simprocAttr, Node.cells]; refine ⟨_, _, hN, ?_⟩; (try simp only [go_sem, simprocAttr, Node.cells]); (repeat (refine And.intro (by (first | omega | (simp; done) | (simp; omega) | assumption)) ?_)); refine h' _ ?_; clear h' K') | (refine AWp.sreg  dd54 rfl (fun gs K hgs hK => ?_); clear hgs) | refine AWp.seq ?_ | refine ARounds.step ?_ | refine AWp.block ?_ | refine AWp.label ?_ | (refine AWp.ret ?_; try simp only [aThen, aBlock]) | (refine AWp.skip ?_; try simp only [aThen, aBlock]) | (refine AWp.exit ?_; try simp only [aThen, aBlock, Nat.reduceEqDiff, reduceIte]) | (refine AWp.reg  dd54 rfl (fun gs K hgs hK => ?_); clear hgs)))
    (refine AWp.cond rfl (fun h => ?_) (fun h => ?_) <;> (try simp only [decide_eq_true_eq, decide_eq_false_iff_not, beq_iff_eq, bne_iff_ne, ne_eq, Bool.not_eq_true', Bool.not_eq_false', beq_eq_false_iff_ne, Bool.true_eq_false, Bool.false_eq_true, Int.not_le, Int.not_lt, Bool.and_eq_true, Bool.and_eq_false_iff, Bool.or_eq_true, Bool.or_eq_false_iff, bne_eq_false_iff_eq, reduceCtorEq] at h) <;> (try first | contradiction | (exfalso; omega) | (exfalso; revert h; simp; done) | (exfalso; revert h; simp; omega)))
    · obtain ⟨y, hy⟩ : ∃ y, L.getD k default = y := ⟨_, rfl⟩
      have hyb := hx y (by rw [← hy, List.getD_eq_getElem?_getD, List.getElem?_eq_getElem (by omega)]; exact List.getElem_mem _)
      have hg : ((L.take k).map (mvN b) ++ L.drop k).getD k default = y := by
        rw [List.getD_eq_getElem?_getD, List.getElem?_append_right (by simp; omega)]
        simp only [List.length_map, List.length_take, List.getElem?_drop]
        rw [← hy, List.getD_eq_getElem?_getD, show k + (k - min k L.length) = k by omega]
      have hgl : ((L.take k).map (mvN b) ++ L.drop k).length = L.length := by simp; omega
      have hset : ∀ v, (((((L.take k).map (mvN b) ++ L.drop k).map Node.cells).set k v).getD k []) = v := fun v => by
        rw [List.getD_eq_getElem?_getD, List.getElem?_set_self (by rw [List.length_map, hgl]; omega)]; rfl
      obtain ⟨kd, nn, xa, xb, xp⟩ := y
      have hP := parts_c kd
      simp only at hyb
      repeat (any_goals (first | (refine aops_cons (fun K' h' => ?_); simp only [go_sem, simprocAttr, Node.cells, hg, hgl, hset]; (try ((first | refine ⟨_, hP, ?_⟩ | refine ⟨_, fun _ => hP, ?_⟩); (try simp only [go_sem, simprocAttr, Node.cells, hg, hgl, hset]))); (try simp (disch := omega) only [wrap_id, getD_map_in, Int.toNat_natCast, Node.cells, hg, hgl, hset]); (repeat (refine And.intro (by (first | omega | (simp; done) | (simp; omega) | assumption)) ?_)); refine h' _ ?_; clear h' K') | (refine aops_nil (hK _ ?_); clear hK K gs; try simp only [aThen, aBlock]) | (refine aops_consN  (fun K' h' => ?_); simp only [go_sem, simprocAttr, Node.cells, hg, hgl, hset]; refine ⟨_, _, hN, ?_⟩; (try simp only [go_sem, simprocAttr, Node.cells, hg, hgl, hset]); (repeat (refine And.intro (by (first | omega | (simp; done) | (simp; omega) | assumption)) ?_)); refine h' _ ?_; clear h' K') | (refine AWp.sreg  dd54 rfl (fun gs K hgs hK => ?_); clear hgs) | refine AWp.seq ?_ | refine ARounds.step ?_ | refine AWp.block ?_ | refine AWp.label ?_ | (refine AWp.ret ?_; try simp only [aThen, aBlock]) | (refine AWp.skip ?_; try simp only [aThen, aBlock]) | (refine AWp.exit ?_; try simp only [aThen, aBlock, Nat.reduceEqDiff, reduceIte]) | (refine AWp.reg  dd54 rfl (fun gs K hgs hK => ?_); clear hgs) | (refine AWp.cond rfl (fun h => ?_) (fun h => ?_) <;> (try simp only [decide_eq_true_eq, decide_eq_false_iff_not, beq_iff_eq, bne_iff_ne, ne_eq, Bool.not_eq_true', Bool.not_eq_false', beq_eq_false_iff_ne, Bool.true_eq_false, Bool.false_eq_true, Int.not_le, Int.not_lt, Bool.and_eq_true, Bool.and_eq_false_iff, Bool.or_eq_true, Bool.or_eq_false_iff, bne_eq_false_iff_eq, reduceCtorEq] at h) <;> (try first | contradiction | (exfalso; omega) | (exfalso; revert h; simp; done) | (exfalso; revert h; simp; omega)))))
      all_goals refine ⟨k + 1, by omega, Wk.of rfl ?_ ?_, by omega⟩
      all_goals first
        | simp [subE, eget, ASt.drop, dropE, keepR, lowE, AV.lowB, lowL, Nat.blt, Nat.ble]
          done
        | skip
      all_goals simp only [ASt.drop, List.set_set]
      all_goals rw [mv_cells (by omega) hy]
      all_goals first
        | (simp [mvN, Node.cells, show 0 < partsN kd by omega, show 1 < partsN kd by omega]; done)
        | (simp [mvN, Node.cells, show 0 < partsN kd by omega, show ¬ 1 < partsN kd by omega]; done)
        | (rw [← mv_cells (by omega) hy, mv_same (by omega) hy (by simp [mvN, show ¬ 0 < partsN kd by omega, show ¬ 1 < partsN kd by omega])]; done)
    · have ek : k = L.length := by omega
      subst ek
      repeat (any_goals (first | (refine aops_cons (fun K' h' => ?_); simp only [go_sem, simprocAttr, Node.cells, List.take_length, List.drop_length, List.append_nil]; (try ((first | refine ⟨_, hP, ?_⟩ | refine ⟨_, fun _ => hP, ?_⟩); (try simp only [go_sem, simprocAttr, Node.cells, List.take_length, List.drop_length, List.append_nil]))); (try simp (disch := omega) only [wrap_id, getD_map_in, Int.toNat_natCast, Node.cells, List.take_length, List.drop_length, List.append_nil]); (repeat (refine And.intro (by (first | omega | (simp; done) | (simp; omega) | assumption)) ?_)); refine h' _ ?_; clear h' K') | (refine aops_nil (hK _ ?_); clear hK K gs; try simp only [aThen, aBlock]) | (refine aops_consN  (fun K' h' => ?_); simp only [go_sem, simprocAttr, Node.cells, List.take_length, List.drop_length, List.append_nil]; refine ⟨_, _, hN, ?_⟩; (try simp only [go_sem, simprocAttr, Node.cells, List.take_length, List.drop_length, List.append_nil]); (repeat (refine And.intro (by (first | omega | (simp; done) | (simp; omega) | assumption)) ?_)); refine h' _ ?_; clear h' K') | (refine AWp.sreg  dd54 rfl (fun gs K hgs hK => ?_); clear hgs) | refine AWp.seq ?_ | refine ARounds.step ?_ | refine AWp.block ?_ | refine AWp.label ?_ | (refine AWp.ret ?_; try simp only [aThen, aBlock]) | (refine AWp.skip ?_; try simp only [aThen, aBlock]) | (refine AWp.exit ?_; try simp only [aThen, aBlock, Nat.reduceEqDiff, reduceIte]) | (refine AWp.reg  dd54 rfl (fun gs K hgs hK => ?_); clear hgs) | (refine AWp.cond rfl (fun h => ?_) (fun h => ?_) <;> (try simp only [decide_eq_true_eq, decide_eq_false_iff_not, beq_iff_eq, bne_iff_ne, ne_eq, Bool.not_eq_true', Bool.not_eq_false', beq_eq_false_iff_ne, Bool.true_eq_false, Bool.false_eq_true, Int.not_le, Int.not_lt, Bool.and_eq_true, Bool.and_eq_false_iff, Bool.or_eq_true, Bool.or_eq_false_iff, bne_eq_false_iff_eq, reduceCtorEq] at h) <;> (try first | contradiction | (exfalso; omega) | (exfalso; revert h; simp; done) | (exfalso; revert h; simp; omega)))))
      simp only [Out, outA, outL, resA, go_sem, simprocAttr]
      exact AVle.of_eq (by rw [List.take_of_length_le (by simp)])
end Go.Proofs.Yteohklfoggiojaa
