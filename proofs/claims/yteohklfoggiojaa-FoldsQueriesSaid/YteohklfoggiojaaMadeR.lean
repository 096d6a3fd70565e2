/-
  The walk over the reference's Made, for one part and for two.
-/
import Derived.Test.YteohklfoggiojaaCutW
import Derived.Test.YteohklfoggiojaaMadeM
namespace Go.Proofs.Yteohklfoggiojaa
open Go.AL Go.RowKit
set_option linter.unusedSimpArgs false
set_option linter.unusedVariables false
set_option maxRecDepth 10000
set_option maxHeartbeats 4000000
theorem mvs_step {p q : List Node} {d : Int} {k : Nat} {y : Node} (hk : k < p.length) (hy : p.getD k default = y) : q ++ (p.take (k + 1)).map (mvN d) = q ++ (p.take k).map (mvN d) ++ [mvN d y] := by
  rw [List.take_add_one, List.getElem?_eq_getElem hk]
  rw [List.getD_eq_getElem?_getD, List.getElem?_eq_getElem hk] at hy
  rw [show p[k] = y from hy]; simp
theorem mvz0 (l : List Node) : l.map (mvN 0) = l := by
  rw [show mvN 0 = id from funext fun x => by simp [mvN]]; simp
def NodeB (l : List Node) : Prop := ∀ x ∈ l, -2000 ≤ x.a ∧ x.a ≤ 2000 ∧ -2000 ≤ x.b ∧ x.b ≤ 2000 ∧ 1 ≤ x.kind ∧ x.kind ≤ 19
def dd29 : Nat → List (List Nat)
  | 0 => [[], [8]]
  | 1 => [[], []]
  | 2 => [[], [0], [1], [2], [15, 16, 17], [], [18]]
  | 3 => [[], []]
  | 4 => [[], [], [], [20], [19, 21]]
  | 5 => [[], [11], [23], [24]]
  | 6 => [[22], [], [25], [26]]
  | 7 => [[], []]
  | 8 => [[], [], [], [], [28, 29], [30], [31], [27, 32]]
  | 9 => [[], [13], [34], [35]]
  | 10 => [[33], [], [], [36, 37], [38], [], [39, 40], [41], [], [42]]
  | 11 => [[], [], [43], [44], [45]]
  | 12 => [[46], [], [47], [], [48, 49], [], [50, 51]]
  | 13 => [[46], [], [52], [53], [54]]
  | 14 => [[55], [], [56], [], [57, 58], [], [59, 60]]
  | 15 => [[55], [9], [14], [62], [61, 63], [64]]
  | 16 => [[12, 13, 33], [], [65]]
  | 17 => [[66], [], [67], [68], [], [69, 70]]
  | 18 => [[66], [], [71], [72], [], [73, 74]]
  | 19 => [[3, 11, 22], [9], [10], [76], [75, 77], [78]]
  | _ => []
theorem rMade_1 (k0 n p : Int) (a : List Node) (hla : a.length ≤ 100) (hla0 : 0 < a.length) (ha : NodeB a) : ACall Try.prog 29 [.lit (.int .u8 k0), .lit (.int .i64 n), .lit (.int .i64 p), .ro 1 [[nodesV a]]] (nodesV (made1 k0 n p a)) := by
  unfold NodeB at ha
  unfold nodesV
  refine acall_of (n := 79) (rs := [.tmp 8]) Try.func29 rfl (by kernel_rfl) rfl rfl rfl ?_; simp only [argsE, Nat.reduceAdd]
  repeat (any_goals (first | (refine aops_cons (fun K' h' => ?_); simp only [go_sem, simprocAttr, Node.cells]; (try ((first | refine ⟨_, hN, ?_⟩ | refine ⟨_, fun _ => hN, ?_⟩); (try simp only [go_sem, simprocAttr, Node.cells]))); (try simp (disch := omega) only [wrap_id, getD_map_in, Int.toNat_natCast, Node.cells]); (repeat (refine And.intro (by (first | omega | (simp; done) | (simp; omega) | assumption)) ?_)); refine h' _ ?_; clear h' K') | (refine aops_nil (hK _ ?_); clear hK K gs; try simp only [aThen, aBlock]) | (refine AWp.sreg  dd29 rfl (fun gs K hgs hK => ?_); clear hgs) | refine AWp.seq ?_ | refine ARounds.step ?_ | refine AWp.block ?_ | refine AWp.label ?_ | (refine AWp.ret ?_; try simp only [aThen, aBlock]) | (refine AWp.skip ?_; try simp only [aThen, aBlock]) | (refine AWp.exit ?_; try simp only [aThen, aBlock, Nat.reduceEqDiff, reduceIte]) | (refine AWp.reg  dd29 rfl (fun gs K hgs hK => ?_); clear hgs) | (refine AWp.cond rfl (fun h => ?_) (fun h => ?_) <;> (try simp only [decide_eq_true_eq, decide_eq_false_iff_not, beq_iff_eq, bne_iff_ne, ne_eq, Bool.not_eq_true', Bool.not_eq_false', beq_eq_false_iff_ne, Bool.true_eq_false, Bool.false_eq_true, Int.not_le, Int.not_lt, Bool.and_eq_true, Bool.and_eq_false_iff, Bool.or_eq_true, Bool.or_eq_false_iff, bne_eq_false_iff_eq, reduceCtorEq] at h) <;> (try first | contradiction | (exfalso; omega) | (exfalso; revert h; simp; done) | (exfalso; revert h; simp; omega)))))
  refine AWp.loopR 2 ?_
  repeat (any_goals (first | (refine aops_cons (fun K' h' => ?_); simp only [go_sem, simprocAttr, Node.cells]; (try ((first | refine ⟨_, hN, ?_⟩ | refine ⟨_, fun _ => hN, ?_⟩); (try simp only [go_sem, simprocAttr, Node.cells]))); (try simp (disch := omega) only [wrap_id, getD_map_in, Int.toNat_natCast, Node.cells]); (repeat (refine And.intro (by (first | omega | (simp; done) | (simp; omega) | assumption)) ?_)); refine h' _ ?_; clear h' K') | (refine aops_nil (hK _ ?_); clear hK K gs; try simp only [aThen, aBlock]) | (refine AWp.sreg  dd29 rfl (fun gs K hgs hK => ?_); clear hgs) | refine AWp.seq ?_ | refine ARounds.step ?_ | refine AWp.block ?_ | refine AWp.label ?_ | (refine AWp.ret ?_; try simp only [aThen, aBlock]) | (refine AWp.skip ?_; try simp only [aThen, aBlock]) | (refine AWp.exit ?_; try simp only [aThen, aBlock, Nat.reduceEqDiff, reduceIte]) | (refine AWp.reg  dd29 rfl (fun gs K hgs hK => ?_); clear hgs) | (refine AWp.cond rfl (fun h => ?_) (fun h => ?_) <;> (try simp only [decide_eq_true_eq, decide_eq_false_iff_not, beq_iff_eq, bne_iff_ne, ne_eq, Bool.not_eq_true', Bool.not_eq_false', beq_eq_false_iff_ne, Bool.true_eq_false, Bool.false_eq_true, Int.not_le, Int.not_lt, Bool.and_eq_true, Bool.and_eq_false_iff, Bool.or_eq_true, Bool.or_eq_false_iff, bne_eq_false_iff_eq, reduceCtorEq] at h) <;> (try first | contradiction | (exfalso; omega) | (exfalso; revert h; simp; done) | (exfalso; revert h; simp; omega)))))
  refine AWp.loop (I := fun k : Nat => k ≤ a.length) (fun k => ⟨[(3, .ro 1 [[.ro 5 (a.map Node.cells)]]), (9, .own 0 5 0 k), (10, .bp 0 0), (11, .lit (.int .i64 (0))), (12, .lit (.int .i64 0)), (13, .lit (.int .i64 (k : Int)))], [[.lit (.int .u8 k0), .lit (.int .i64 n), .lit (.int .i64 0), .lit (.int .i64 0), .lit (.int .i64 p)]], [some ⟨50, 5, (a.take k).map Node.cells⟩]⟩) (fun k => a.length - k) 0 ?_ ?_ ?_
  · exact Nat.zero_le _
  · refine (Wk.nilOwn 9 50 5 rfl (by simp)).trans (Wk.of rfl ?_ ?_)
    · simp [ASt.nilOwn, ASt.drop]
    · simp [ASt.nilOwn, eput, subE, eget, ASt.drop, dropE, keepR, lowE, AV.lowB, Nat.blt, Nat.ble]
  · rintro k hk
    repeat ((first | (refine aops_cons (fun K' h' => ?_); simp only [go_sem, simprocAttr, Node.cells]; (try ((first | refine ⟨_, hN, ?_⟩ | refine ⟨_, fun _ => hN, ?_⟩); (try simp only [go_sem, simprocAttr, Node.cells]))); (try simp (disch := omega) only [wrap_id, getD_map_in, Int.toNat_natCast, Node.cells]); (repeat (refine And.intro (by (first | omega | (simp; done) | (simp; omega) | assumption)) ?_)); refine h' _ ?_; clear h' K') | (refine aops_nil (hK _ ?_); clear hK K gs; try simp only [aThen, aBlock]) | (refine AWp.sreg  dd29 rfl (fun gs K hgs hK => ?_); clear hgs) | refine AWp.seq ?_ | refine ARounds.step ?_ | refine AWp.block ?_ | refine AWp.label ?_ | (refine AWp.ret ?_; try simp only [aThen, aBlock]) | (refine AWp.skip ?_; try simp only [aThen, aBlock]) | (refine AWp.exit ?_; try simp only [aThen, aBlock, Nat.reduceEqDiff, reduceIte]) | (refine AWp.reg  dd29 rfl (fun gs K hgs hK => ?_); clear hgs)))
    (refine AWp.cond rfl (fun h => ?_) (fun h => ?_) <;> (try simp only [decide_eq_true_eq, decide_eq_false_iff_not, beq_iff_eq, bne_iff_ne, ne_eq, Bool.not_eq_true', Bool.not_eq_false', beq_eq_false_iff_ne, Bool.true_eq_false, Bool.false_eq_true, Int.not_le, Int.not_lt, Bool.and_eq_true, Bool.and_eq_false_iff, Bool.or_eq_true, Bool.or_eq_false_iff, bne_eq_false_iff_eq, reduceCtorEq] at h) <;> (try first | contradiction | (exfalso; omega) | (exfalso; revert h; simp; done) | (exfalso; revert h; simp; omega)))
    · obtain ⟨y, hy⟩ : ∃ y, a.getD k default = y := ⟨_, rfl⟩
      have hyb := ha y (by rw [← hy, List.getD_eq_getElem?_getD, List.getElem?_eq_getElem (by omega)]; exact List.getElem_mem _)
      have hst := mvs_step (d := 0) (q := []) (show k < a.length by omega) hy
      rw [mvz0, mvz0, List.nil_append, List.nil_append] at hst
      have hcl : (a.take k).length = k := by simp; omega
      obtain ⟨T, hT⟩ : ∃ T, a.take k = T := ⟨_, rfl⟩
      rw [hT] at hst hcl
      rw [hT]
      obtain ⟨kd, nn, xa, xb, xp⟩ := y
      simp only at hyb
      have hN := count_c kd
      rw [count_parts (by omega) (by omega)] at hN
      repeat (any_goals (first | (refine aops_cons (fun K' h' => ?_); simp only [go_sem, simprocAttr, Node.cells, hy, hcl]; (try ((first | refine ⟨_, hN, ?_⟩ | refine ⟨_, fun _ => hN, ?_⟩); (try simp only [go_sem, simprocAttr, Node.cells, hy, hcl]))); (try simp (disch := omega) only [wrap_id, getD_map_in, Int.toNat_natCast, Node.cells, hy, hcl]); (repeat (refine And.intro (by (first | omega | (simp; done) | (simp; omega) | assumption)) ?_)); refine h' _ ?_; clear h' K') | (refine aops_nil (hK _ ?_); clear hK K gs; try simp only [aThen, aBlock]) | (refine AWp.sreg  dd29 rfl (fun gs K hgs hK => ?_); clear hgs) | refine AWp.seq ?_ | refine ARounds.step ?_ | refine AWp.block ?_ | refine AWp.label ?_ | (refine AWp.ret ?_; try simp only [aThen, aBlock]) | (refine AWp.skip ?_; try simp only [aThen, aBlock]) | (refine AWp.exit ?_; try simp only [aThen, aBlock, Nat.reduceEqDiff, reduceIte]) | (refine AWp.reg  dd29 rfl (fun gs K hgs hK => ?_); clear hgs) | (refine AWp.cond rfl (fun h => ?_) (fun h => ?_) <;> (try simp only [decide_eq_true_eq, decide_eq_false_iff_not, beq_iff_eq, bne_iff_ne, ne_eq, Bool.not_eq_true', Bool.not_eq_false', beq_eq_false_iff_ne, Bool.true_eq_false, Bool.false_eq_true, Int.not_le, Int.not_lt, Bool.and_eq_true, Bool.and_eq_false_iff, Bool.or_eq_true, Bool.or_eq_false_iff, bne_eq_false_iff_eq, reduceCtorEq] at h) <;> (try first | contradiction | (exfalso; omega) | (exfalso; revert h; simp; done) | (exfalso; revert h; simp; omega)))))
      all_goals refine ⟨k + 1, by omega, Wk.ofCut 1 1 rfl ?_ ?_, by omega⟩
      all_goals first
        | (rw [hst]; simp [hcl, mvN, Node.cells, List.take_of_length_le, ASt.drop]; done)
        | (simp [subE, eget, ASt.drop, dropE, keepR, lowE, AV.lowB, lowL, Nat.blt, Nat.ble]; done)
        | (simp [subE, eget, ASt.drop, dropE, keepR, lowE, AV.lowB, lowL, Nat.blt, Nat.ble]; omega)
    · have hkl : k = a.length := by omega
      subst hkl
      have htk1 : (a.take a.length).map Node.cells = a.map Node.cells := by rw [List.take_length]
      have htk : ∀ v : List AV, (a.map Node.cells ++ [v]).take (a.length + 1) = a.map Node.cells ++ [v] := fun v => List.take_of_length_le (by simp)
      have htk0 : (a.map Node.cells).take a.length = a.map Node.cells := List.take_of_length_le (by simp)
      repeat (any_goals (first | (refine aops_cons (fun K' h' => ?_); simp only [go_sem, simprocAttr, Node.cells, htk1, Int.zero_add, Nat.zero_add, Int.reduceAdd, htk0, htk]; (try ((first | refine ⟨_, hN, ?_⟩ | refine ⟨_, fun _ => hN, ?_⟩); (try simp only [go_sem, simprocAttr, Node.cells, htk1, Int.zero_add, Nat.zero_add, Int.reduceAdd, htk0, htk]))); (try simp (disch := omega) only [wrap_id, getD_map_in, Int.toNat_natCast, Node.cells, htk1, Int.zero_add, Nat.zero_add, Int.reduceAdd, htk0, htk]); (repeat (refine And.intro (by (first | omega | (simp; done) | (simp; omega) | assumption)) ?_)); refine h' _ ?_; clear h' K') | (refine aops_nil (hK _ ?_); clear hK K gs; try simp only [aThen, aBlock]) | (refine AWp.sreg  dd29 rfl (fun gs K hgs hK => ?_); clear hgs) | refine AWp.seq ?_ | refine ARounds.step ?_ | refine AWp.block ?_ | refine AWp.label ?_ | (refine AWp.ret ?_; try simp only [aThen, aBlock]) | (refine AWp.skip ?_; try simp only [aThen, aBlock]) | (refine AWp.exit ?_; try simp only [aThen, aBlock, Nat.reduceEqDiff, reduceIte]) | (refine AWp.reg  dd29 rfl (fun gs K hgs hK => ?_); clear hgs) | (refine AWp.cond rfl (fun h => ?_) (fun h => ?_) <;> (try simp only [decide_eq_true_eq, decide_eq_false_iff_not, beq_iff_eq, bne_iff_ne, ne_eq, Bool.not_eq_true', Bool.not_eq_false', beq_eq_false_iff_ne, Bool.true_eq_false, Bool.false_eq_true, Int.not_le, Int.not_lt, Bool.and_eq_true, Bool.and_eq_false_iff, Bool.or_eq_true, Bool.or_eq_false_iff, bne_eq_false_iff_eq, reduceCtorEq] at h) <;> (try first | contradiction | (exfalso; omega) | (exfalso; revert h; simp; done) | (exfalso; revert h; simp; omega)))))
      all_goals simp only [Out, outA, outL, resA, go_sem, simprocAttr]
      all_goals first
        | (refine AVle.of_eq ?_
           rw [htk]
           simp [made1, Node.cells])
        | trace_state
theorem rMade_2 (k0 n p : Int) (a b : List Node) (hla : a.length ≤ 100) (hla0 : 0 < a.length) (ha : NodeB a) (hlb : b.length ≤ 100) (hlb0 : 0 < b.length) (hb : NodeB b) : ACall Try.prog 29 [.lit (.int .u8 k0), .lit (.int .i64 n), .lit (.int .i64 p), .ro 1 [[nodesV a], [nodesV b]]] (nodesV (made2 k0 n p a b)) := by
  unfold NodeB at ha hb
  unfold nodesV
  refine acall_of (n := 79) (rs := [.tmp 8]) Try.func29 rfl (by kernel_rfl) rfl rfl rfl ?_; simp only [argsE, Nat.reduceAdd]
  repeat (any_goals (first | (refine aops_cons (fun K' h' => ?_); simp only [go_sem, simprocAttr, Node.cells]; (try ((first | refine ⟨_, hN, ?_⟩ | refine ⟨_, fun _ => hN, ?_⟩); (try simp only [go_sem, simprocAttr, Node.cells]))); (try simp (disch := omega) only [wrap_id, getD_map_in, Int.toNat_natCast, Node.cells]); (repeat (refine And.intro (by (first | omega | (simp; done) | (simp; omega) | assumption)) ?_)); refine h' _ ?_; clear h' K') | (refine aops_nil (hK _ ?_); clear hK K gs; try simp only [aThen, aBlock]) | (refine AWp.sreg  dd29 rfl (fun gs K hgs hK => ?_); clear hgs) | refine AWp.seq ?_ | refine ARounds.step ?_ | refine AWp.block ?_ | refine AWp.label ?_ | (refine AWp.ret ?_; try simp only [aThen, aBlock]) | (refine AWp.skip ?_; try simp only [aThen, aBlock]) | (refine AWp.exit ?_; try simp only [aThen, aBlock, Nat.reduceEqDiff, reduceIte]) | (refine AWp.reg  dd29 rfl (fun gs K hgs hK => ?_); clear hgs) | (refine AWp.cond rfl (fun h => ?_) (fun h => ?_) <;> (try simp only [decide_eq_true_eq, decide_eq_false_iff_not, beq_iff_eq, bne_iff_ne, ne_eq, Bool.not_eq_true', Bool.not_eq_false', beq_eq_false_iff_ne, Bool.true_eq_false, Bool.false_eq_true, Int.not_le, Int.not_lt, Bool.and_eq_true, Bool.and_eq_false_iff, Bool.or_eq_true, Bool.or_eq_false_iff, bne_eq_false_iff_eq, reduceCtorEq] at h) <;> (try first | contradiction | (exfalso; omega) | (exfalso; revert h; simp; done) | (exfalso; revert h; simp; omega)))))
  refine AWp.loopR 3 ?_
  repeat (any_goals (first | (refine aops_cons (fun K' h' => ?_); simp only [go_sem, simprocAttr, Node.cells]; (try ((first | refine ⟨_, hN, ?_⟩ | refine ⟨_, fun _ => hN, ?_⟩); (try simp only [go_sem, simprocAttr, Node.cells]))); (try simp (disch := omega) only [wrap_id, getD_map_in, Int.toNat_natCast, Node.cells]); (repeat (refine And.intro (by (first | omega | (simp; done) | (simp; omega) | assumption)) ?_)); refine h' _ ?_; clear h' K') | (refine aops_nil (hK _ ?_); clear hK K gs; try simp only [aThen, aBlock]) | (refine AWp.sreg  dd29 rfl (fun gs K hgs hK => ?_); clear hgs) | refine AWp.seq ?_ | refine ARounds.step ?_ | refine AWp.block ?_ | refine AWp.label ?_ | (refine AWp.ret ?_; try simp only [aThen, aBlock]) | (refine AWp.skip ?_; try simp only [aThen, aBlock]) | (refine AWp.exit ?_; try simp only [aThen, aBlock, Nat.reduceEqDiff, reduceIte]) | (refine AWp.reg  dd29 rfl (fun gs K hgs hK => ?_); clear hgs) | (refine AWp.cond rfl (fun h => ?_) (fun h => ?_) <;> (try simp only [decide_eq_true_eq, decide_eq_false_iff_not, beq_iff_eq, bne_iff_ne, ne_eq, Bool.not_eq_true', Bool.not_eq_false', beq_eq_false_iff_ne, Bool.true_eq_false, Bool.false_eq_true, Int.not_le, Int.not_lt, Bool.and_eq_true, Bool.and_eq_false_iff, Bool.or_eq_true, Bool.or_eq_false_iff, bne_eq_false_iff_eq, reduceCtorEq] at h) <;> (try first | contradiction | (exfalso; omega) | (exfalso; revert h; simp; done) | (exfalso; revert h; simp; omega)))))
  refine AWp.loop (I := fun k : Nat => k ≤ a.length) (fun k => ⟨[(3, .ro 1 [[.ro 5 (a.map Node.cells)], [.ro 5 (b.map Node.cells)]]), (9, .own 0 5 0 k), (10, .bp 0 0), (11, .lit (.int .i64 (0))), (12, .lit (.int .i64 0)), (13, .lit (.int .i64 (k : Int)))], [[.lit (.int .u8 k0), .lit (.int .i64 n), .lit (.int .i64 0), .lit (.int .i64 0), .lit (.int .i64 p)]], [some ⟨50, 5, (a.take k).map Node.cells⟩]⟩) (fun k => a.length - k) 0 ?_ ?_ ?_
  · exact Nat.zero_le _
  · refine (Wk.nilOwn 9 50 5 rfl (by simp)).trans (Wk.of rfl ?_ ?_)
    · simp [ASt.nilOwn, ASt.drop]
    · simp [ASt.nilOwn, eput, subE, eget, ASt.drop, dropE, keepR, lowE, AV.lowB, Nat.blt, Nat.ble]
  · rintro k hk
    repeat ((first | (refine aops_cons (fun K' h' => ?_); simp only [go_sem, simprocAttr, Node.cells]; (try ((first | refine ⟨_, hN, ?_⟩ | refine ⟨_, fun _ => hN, ?_⟩); (try simp only [go_sem, simprocAttr, Node.cells]))); (try simp (disch := omega) only [wrap_id, getD_map_in, Int.toNat_natCast, Node.cells]); (repeat (refine And.intro (by (first | omega | (simp; done) | (simp; omega) | assumption)) ?_)); refine h' _ ?_; clear h' K') | (refine aops_nil (hK _ ?_); clear hK K gs; try simp only [aThen, aBlock]) | (refine AWp.sreg  dd29 rfl (fun gs K hgs hK => ?_); clear hgs) | refine AWp.seq ?_ | refine ARounds.step ?_ | refine AWp.block ?_ | refine AWp.label ?_ | (refine AWp.ret ?_; try simp only [aThen, aBlock]) | (refine AWp.skip ?_; try simp only [aThen, aBlock]) | (refine AWp.exit ?_; try simp only [aThen, aBlock, Nat.reduceEqDiff, reduceIte]) | (refine AWp.reg  dd29 rfl (fun gs K hgs hK => ?_); clear hgs)))
    (refine AWp.cond rfl (fun h => ?_) (fun h => ?_) <;> (try simp only [decide_eq_true_eq, decide_eq_false_iff_not, beq_iff_eq, bne_iff_ne, ne_eq, Bool.not_eq_true', Bool.not_eq_false', beq_eq_false_iff_ne, Bool.true_eq_false, Bool.false_eq_true, Int.not_le, Int.not_lt, Bool.and_eq_true, Bool.and_eq_false_iff, Bool.or_eq_true, Bool.or_eq_false_iff, bne_eq_false_iff_eq, reduceCtorEq] at h) <;> (try first | contradiction | (exfalso; omega) | (exfalso; revert h; simp; done) | (exfalso; revert h; simp; omega)))
    · obtain ⟨y, hy⟩ : ∃ y, a.getD k default = y := ⟨_, rfl⟩
      have hyb := ha y (by rw [← hy, List.getD_eq_getElem?_getD, List.getElem?_eq_getElem (by omega)]; exact List.getElem_mem _)
      have hst := mvs_step (d := 0) (q := []) (show k < a.length by omega) hy
      rw [mvz0, mvz0, List.nil_append, List.nil_append] at hst
      have hcl : (a.take k).length = k := by simp; omega
      obtain ⟨T, hT⟩ : ∃ T, a.take k = T := ⟨_, rfl⟩
      rw [hT] at hst hcl
      rw [hT]
      obtain ⟨kd, nn, xa, xb, xp⟩ := y
      simp only at hyb
      have hN := count_c kd
      rw [count_parts (by omega) (by omega)] at hN
      repeat (any_goals (first | (refine aops_cons (fun K' h' => ?_); simp only [go_sem, simprocAttr, Node.cells, hy, hcl]; (try ((first | refine ⟨_, hN, ?_⟩ | refine ⟨_, fun _ => hN, ?_⟩); (try simp only [go_sem, simprocAttr, Node.cells, hy, hcl]))); (try simp (disch := omega) only [wrap_id, getD_map_in, Int.toNat_natCast, Node.cells, hy, hcl]); (repeat (refine And.intro (by (first | omega | (simp; done) | (simp; omega) | assumption)) ?_)); refine h' _ ?_; clear h' K') | (refine aops_nil (hK _ ?_); clear hK K gs; try simp only [aThen, aBlock]) | (refine AWp.sreg  dd29 rfl (fun gs K hgs hK => ?_); clear hgs) | refine AWp.seq ?_ | refine ARounds.step ?_ | refine AWp.block ?_ | refine AWp.label ?_ | (refine AWp.ret ?_; try simp only [aThen, aBlock]) | (refine AWp.skip ?_; try simp only [aThen, aBlock]) | (refine AWp.exit ?_; try simp only [aThen, aBlock, Nat.reduceEqDiff, reduceIte]) | (refine AWp.reg  dd29 rfl (fun gs K hgs hK => ?_); clear hgs) | (refine AWp.cond rfl (fun h => ?_) (fun h => ?_) <;> (try simp only [decide_eq_true_eq, decide_eq_false_iff_not, beq_iff_eq, bne_iff_ne, ne_eq, Bool.not_eq_true', Bool.not_eq_false', beq_eq_false_iff_ne, Bool.true_eq_false, Bool.false_eq_true, Int.not_le, Int.not_lt, Bool.and_eq_true, Bool.and_eq_false_iff, Bool.or_eq_true, Bool.or_eq_false_iff, bne_eq_false_iff_eq, reduceCtorEq] at h) <;> (try first | contradiction | (exfalso; omega) | (exfalso; revert h; simp; done) | (exfalso; revert h; simp; omega)))))
      all_goals refine ⟨k + 1, by omega, Wk.ofCut 1 1 rfl ?_ ?_, by omega⟩
      all_goals first
        | (rw [hst]; simp [hcl, mvN, Node.cells, List.take_of_length_le, ASt.drop]; done)
        | (simp [subE, eget, ASt.drop, dropE, keepR, lowE, AV.lowB, lowL, Nat.blt, Nat.ble]; done)
        | (simp [subE, eget, ASt.drop, dropE, keepR, lowE, AV.lowB, lowL, Nat.blt, Nat.ble]; omega)
    · have hkl : k = a.length := by omega
      subst hkl
      have htk1 : (a.take a.length).map Node.cells = a.map Node.cells := by rw [List.take_length]
      have htk0 : (a.map Node.cells).take a.length = a.map Node.cells := List.take_of_length_le (by simp)
      repeat (any_goals (first | (refine aops_cons (fun K' h' => ?_); simp only [go_sem, simprocAttr, Node.cells, htk1, Int.zero_add, Nat.zero_add, Int.reduceAdd, htk0]; (try ((first | refine ⟨_, hN, ?_⟩ | refine ⟨_, fun _ => hN, ?_⟩); (try simp only [go_sem, simprocAttr, Node.cells, htk1, Int.zero_add, Nat.zero_add, Int.reduceAdd, htk0]))); (try simp (disch := omega) only [wrap_id, getD_map_in, Int.toNat_natCast, Node.cells, htk1, Int.zero_add, Nat.zero_add, Int.reduceAdd, htk0]); (repeat (refine And.intro (by (first | omega | (simp; done) | (simp; omega) | assumption)) ?_)); refine h' _ ?_; clear h' K') | (refine aops_nil (hK _ ?_); clear hK K gs; try simp only [aThen, aBlock]) | (refine AWp.sreg  dd29 rfl (fun gs K hgs hK => ?_); clear hgs) | refine AWp.seq ?_ | refine ARounds.step ?_ | refine AWp.block ?_ | refine AWp.label ?_ | (refine AWp.ret ?_; try simp only [aThen, aBlock]) | (refine AWp.skip ?_; try simp only [aThen, aBlock]) | (refine AWp.exit ?_; try simp only [aThen, aBlock, Nat.reduceEqDiff, reduceIte]) | (refine AWp.reg  dd29 rfl (fun gs K hgs hK => ?_); clear hgs) | (refine AWp.cond rfl (fun h => ?_) (fun h => ?_) <;> (try simp only [decide_eq_true_eq, decide_eq_false_iff_not, beq_iff_eq, bne_iff_ne, ne_eq, Bool.not_eq_true', Bool.not_eq_false', beq_eq_false_iff_ne, Bool.true_eq_false, Bool.false_eq_true, Int.not_le, Int.not_lt, Bool.and_eq_true, Bool.and_eq_false_iff, Bool.or_eq_true, Bool.or_eq_false_iff, bne_eq_false_iff_eq, reduceCtorEq] at h) <;> (try first | contradiction | (exfalso; omega) | (exfalso; revert h; simp; done) | (exfalso; revert h; simp; omega)))))
      refine AWp.loop (I := fun k : Nat => k ≤ b.length) (fun k => ⟨[(3, .ro 1 [[.ro 5 (a.map Node.cells)], [.ro 5 (b.map Node.cells)]]), (9, .own 0 5 0 (a.length + k)), (10, .bp 0 0), (11, .lit (.int .i64 (1))), (12, .lit (.int .i64 ((a.length : Nat) : Int))), (13, .lit (.int .i64 (k : Int)))], [[.lit (.int .u8 k0), .lit (.int .i64 n), .lit (.int .i64 ((a.length : Int) - 1)), .lit (.int .i64 0), .lit (.int .i64 p)]], [some ⟨50, 5, (a ++ (b.take k).map (mvN ((a.length : Nat) : Int))).map Node.cells⟩]⟩) (fun k => b.length - k) 0 ?_ ?_ ?_
      · exact Nat.zero_le _
      · refine Wk.of rfl ?_ ?_
        · simp [ASt.drop]
        · first
          | (simp [subE, eget, ASt.drop, dropE, keepR, lowE, AV.lowB, lowL, Nat.blt, Nat.ble]; done)
          | (simp [subE, eget, ASt.drop, dropE, keepR, lowE, AV.lowB, lowL, Nat.blt, Nat.ble]; omega)
      · rintro k hk
        repeat ((first | (refine aops_cons (fun K' h' => ?_); simp only [go_sem, simprocAttr, Node.cells]; (try ((first | refine ⟨_, hN, ?_⟩ | refine ⟨_, fun _ => hN, ?_⟩); (try simp only [go_sem, simprocAttr, Node.cells]))); (try simp (disch := omega) only [wrap_id, getD_map_in, Int.toNat_natCast, Node.cells]); (repeat (refine And.intro (by (first | omega | (simp; done) | (simp; omega) | assumption)) ?_)); refine h' _ ?_; clear h' K') | (refine aops_nil (hK _ ?_); clear hK K gs; try simp only [aThen, aBlock]) | (refine AWp.sreg  dd29 rfl (fun gs K hgs hK => ?_); clear hgs) | refine AWp.seq ?_ | refine ARounds.step ?_ | refine AWp.block ?_ | refine AWp.label ?_ | (refine AWp.ret ?_; try simp only [aThen, aBlock]) | (refine AWp.skip ?_; try simp only [aThen, aBlock]) | (refine AWp.exit ?_; try simp only [aThen, aBlock, Nat.reduceEqDiff, reduceIte]) | (refine AWp.reg  dd29 rfl (fun gs K hgs hK => ?_); clear hgs)))
        (refine AWp.cond rfl (fun h => ?_) (fun h => ?_) <;> (try simp only [decide_eq_true_eq, decide_eq_false_iff_not, beq_iff_eq, bne_iff_ne, ne_eq, Bool.not_eq_true', Bool.not_eq_false', beq_eq_false_iff_ne, Bool.true_eq_false, Bool.false_eq_true, Int.not_le, Int.not_lt, Bool.and_eq_true, Bool.and_eq_false_iff, Bool.or_eq_true, Bool.or_eq_false_iff, bne_eq_false_iff_eq, reduceCtorEq] at h) <;> (try first | contradiction | (exfalso; omega) | (exfalso; revert h; simp; done) | (exfalso; revert h; simp; omega)))
        · obtain ⟨y, hy⟩ : ∃ y, b.getD k default = y := ⟨_, rfl⟩
          have hyb := hb y (by rw [← hy, List.getD_eq_getElem?_getD, List.getElem?_eq_getElem (by omega)]; exact List.getElem_mem _)
          have hst := mvs_step (d := ((a.length : Nat) : Int)) (q := a) (show k < b.length by omega) hy
          have hcl : (a ++ (b.take k).map (mvN ((a.length : Nat) : Int))).length = a.length + k := by simp; omega
          obtain ⟨T, hT⟩ : ∃ T, a ++ (b.take k).map (mvN ((a.length : Nat) : Int)) = T := ⟨_, rfl⟩
          rw [hT] at hst hcl
          rw [hT]
          obtain ⟨kd, nn, xa, xb, xp⟩ := y
          simp only at hyb
          have hN := count_c kd
          rw [count_parts (by omega) (by omega)] at hN
          repeat (any_goals (first | (refine aops_cons (fun K' h' => ?_); simp only [go_sem, simprocAttr, Node.cells, hy, hcl, Int.zero_add, Nat.zero_add]; (try ((first | refine ⟨_, hN, ?_⟩ | refine ⟨_, fun _ => hN, ?_⟩); (try simp only [go_sem, simprocAttr, Node.cells, hy, hcl, Int.zero_add, Nat.zero_add]))); (try simp (disch := omega) only [wrap_id, getD_map_in, Int.toNat_natCast, Node.cells, hy, hcl, Int.zero_add, Nat.zero_add]); (repeat (refine And.intro (by (first | omega | (simp; done) | (simp; omega) | assumption)) ?_)); refine h' _ ?_; clear h' K') | (refine aops_nil (hK _ ?_); clear hK K gs; try simp only [aThen, aBlock]) | (refine AWp.sreg  dd29 rfl (fun gs K hgs hK => ?_); clear hgs) | refine AWp.seq ?_ | refine ARounds.step ?_ | refine AWp.block ?_ | refine AWp.label ?_ | (refine AWp.ret ?_; try simp only [aThen, aBlock]) | (refine AWp.skip ?_; try simp only [aThen, aBlock]) | (refine AWp.exit ?_; try simp only [aThen, aBlock, Nat.reduceEqDiff, reduceIte]) | (refine AWp.reg  dd29 rfl (fun gs K hgs hK => ?_); clear hgs) | (refine AWp.cond rfl (fun h => ?_) (fun h => ?_) <;> (try simp only [decide_eq_true_eq, decide_eq_false_iff_not, beq_iff_eq, bne_iff_ne, ne_eq, Bool.not_eq_true', Bool.not_eq_false', beq_eq_false_iff_ne, Bool.true_eq_false, Bool.false_eq_true, Int.not_le, Int.not_lt, Bool.and_eq_true, Bool.and_eq_false_iff, Bool.or_eq_true, Bool.or_eq_false_iff, bne_eq_false_iff_eq, reduceCtorEq] at h) <;> (try first | contradiction | (exfalso; omega) | (exfalso; revert h; simp; done) | (exfalso; revert h; simp; omega)))))
          all_goals refine ⟨k + 1, by omega, Wk.ofCut 1 1 rfl ?_ ?_, by omega⟩
          all_goals first
            | (rw [hst]; simp [hcl, mvN, Node.cells, List.take_of_length_le, ASt.drop, show 0 < partsN kd by omega, show 1 < partsN kd by omega]; done)
            | (rw [hst]; simp [hcl, mvN, Node.cells, List.take_of_length_le, ASt.drop, show 0 < partsN kd by omega, show ¬ 1 < partsN kd by omega]; done)
            | (rw [hst]; simp [hcl, mvN, Node.cells, List.take_of_length_le, ASt.drop, show ¬ 0 < partsN kd by omega, show ¬ 1 < partsN kd by omega]; done)
            | (simp [subE, eget, ASt.drop, dropE, keepR, lowE, AV.lowB, lowL, Nat.blt, Nat.ble]; done)
            | (simp [subE, eget, ASt.drop, dropE, keepR, lowE, AV.lowB, lowL, Nat.blt, Nat.ble]; omega)
        · have hkl : k = b.length := by omega
          subst hkl
          have htk2 : ∀ v : List AV, (a.map Node.cells ++ (b.map (mvN (a.length : Int))).map Node.cells ++ [v]).take (a.length + b.length + 1) = a.map Node.cells ++ (b.map (mvN (a.length : Int))).map Node.cells ++ [v] := fun v => List.take_of_length_le (by simp; omega)
          have htk3 : (a ++ (b.take b.length).map (mvN ((a.length : Nat) : Int))).map Node.cells = a.map Node.cells ++ (b.map (mvN (a.length : Int))).map Node.cells := by rw [List.take_length, List.map_append]
          have htk4 : (a.map Node.cells ++ (b.map (mvN (a.length : Int))).map Node.cells).take (a.length + b.length) = a.map Node.cells ++ (b.map (mvN (a.length : Int))).map Node.cells := List.take_of_length_le (by simp)
          repeat (any_goals (first | (refine aops_cons (fun K' h' => ?_); simp only [go_sem, simprocAttr, Node.cells, htk3, Int.zero_add, Nat.zero_add, Int.reduceAdd, htk4, htk2]; (try ((first | refine ⟨_, hN, ?_⟩ | refine ⟨_, fun _ => hN, ?_⟩); (try simp only [go_sem, simprocAttr, Node.cells, htk3, Int.zero_add, Nat.zero_add, Int.reduceAdd, htk4, htk2]))); (try simp (disch := omega) only [wrap_id, getD_map_in, Int.toNat_natCast, Node.cells, htk3, Int.zero_add, Nat.zero_add, Int.reduceAdd, htk4, htk2]); (repeat (refine And.intro (by (first | omega | (simp; done) | (simp; omega) | assumption)) ?_)); refine h' _ ?_; clear h' K') | (refine aops_nil (hK _ ?_); clear hK K gs; try simp only [aThen, aBlock]) | (refine AWp.sreg  dd29 rfl (fun gs K hgs hK => ?_); clear hgs) | refine AWp.seq ?_ | refine ARounds.step ?_ | refine AWp.block ?_ | refine AWp.label ?_ | (refine AWp.ret ?_; try simp only [aThen, aBlock]) | (refine AWp.skip ?_; try simp only [aThen, aBlock]) | (refine AWp.exit ?_; try simp only [aThen, aBlock, Nat.reduceEqDiff, reduceIte]) | (refine AWp.reg  dd29 rfl (fun gs K hgs hK => ?_); clear hgs) | (refine AWp.cond rfl (fun h => ?_) (fun h => ?_) <;> (try simp only [decide_eq_true_eq, decide_eq_false_iff_not, beq_iff_eq, bne_iff_ne, ne_eq, Bool.not_eq_true', Bool.not_eq_false', beq_eq_false_iff_ne, Bool.true_eq_false, Bool.false_eq_true, Int.not_le, Int.not_lt, Bool.and_eq_true, Bool.and_eq_false_iff, Bool.or_eq_true, Bool.or_eq_false_iff, bne_eq_false_iff_eq, reduceCtorEq] at h) <;> (try first | contradiction | (exfalso; omega) | (exfalso; revert h; simp; done) | (exfalso; revert h; simp; omega)))))
          all_goals simp only [Out, outA, outL, resA, go_sem, simprocAttr]
          all_goals first
            | (refine AVle.of_eq ?_
               rw [htk2]
               simp [made2, Node.cells])
            | trace_state
end Go.Proofs.Yteohklfoggiojaa
