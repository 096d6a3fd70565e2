/-
  The law EvalsNames.
-/
import Derived.Test.YtmdnhmcmnojlkaaVShp
namespace Go.Proofs.Ytmdnhmcmnojlkaa
open Go.AL Go.RowKit
set_option linter.unusedSimpArgs false
set_option linter.unusedVariables false
set_option maxRecDepth 10000
set_option maxHeartbeats 8000000

def bigN : Int := 9223372036854775807
def zR : Rcd := ⟨0, 0, 0⟩
theorem zR_B : zR.B := ⟨⟨by decide, by decide⟩, ⟨by decide, by decide⟩, ⟨by decide, by decide⟩⟩
def n1 : List Node := [nd 2 0 0 0, nd 2 0 0 0, nd 18 0 0 1]
def n2 : List Node := [nd 1 bigN 0 0, nd 5 0 0 0]
def n3 : List Node := [nd 1 bigN 0 0, nd 5 0 0 0, nd 1 2 0 0, nd 9 0 1 2]
def n4 : List Node := [nd 2 0 0 0, nd 3 0 0 0, nd 7 0 0 1]
def big61 : List Node := List.replicate 61 (nd 0 0 0 0)
theorem ofE_nil : ofE [] = 8 := by
  have h : errL [] = 8 := by
    unfold errL
    rw [if_neg (by simp)]
    cases ht : treeO [] with
    | none => rfl
    | some e =>
      have := (treeO_some ht).len
      have := e.sz_pos
      simp at *
      omega
  unfold ofE
  rw [h]; simp
theorem ofE_zero : ofE [nd 0 0 0 0] = 8 := by
  have h : errL [nd 0 0 0 0] = 8 := by
    unfold errL
    rw [if_neg (by simp)]
    cases ht : treeO [nd 0 0 0 0] with
    | none => rfl
    | some e =>
      have hx := treeO_some ht
      have := (hx.at (i := 0) (by simp)).k1
      simp [nd] at this
  unfold ofE
  rw [h]; simp
theorem ofE_big : ofE big61 = 4 := by
  have h : errL big61 = 4 := by unfold errL; rw [if_pos (by decide)]
  unfold ofE
  rw [h]; simp
theorem ofE_n1 : ofE n1 = 42 := by
  have hx : IsEx n1 (bi 18 (lf 2 0) (lf 2 0)) := ⟨okEx_wf (by decide), by decide⟩
  unfold ofE
  rw [errL_of hx (by decide) (by decide)]
  rw [if_neg (by simp), if_pos (by decide)]
theorem ofE_n3 : ofE n3 = 0 := exE (bi 9 (.un ⟨5, 0, 0⟩ (lf 1 bigN)) (lf 1 2)) (by decide) (by decide) (by decide) (by decide) (by decide)
theorem ofE_n4 : ofE n4 = 0 := exE (bi 7 (lf 2 0) (lf 3 0)) (by decide) (by decide) (by decide) (by decide) (by decide)
theorem ofE_l (k n : Int) (h : okEx (lf k n) = true) (h2 : fitsAt [nd k n 0 0] 0 = true) : ofE [nd k n 0 0] = 0 := exE (lf k n) h rfl (by decide : 1 ≤ 60) (by decide : 1 ≤ 20) (wrongL_all fun j hj => by
  have : j = 0 := by simp at hj; exact hj
  rw [this]; exact h2)
theorem bigs_B {l : List Node} (h : l.all (fun x => decide (-9223372036854775808 ≤ x.n) && decide (x.n ≤ 9223372036854775807)) = true) : nodesB l := fun x hx => by
  have := List.all_eq_true.1 h x hx
  simp only [Bool.and_eq_true, decide_eq_true_eq] at this
  exact this

def dd4 : Nat → List (List Nat)
  | 0 => [[], [0]]
  | 1 => [[], [], [26], [27], [], [25], [1, 28], [29]]
  | 2 => [[], [], [31], [], [32, 33], [34], [], [30], [3, 35], [36]]
  | 3 => [[], [], [38], [39], [], [], [], [37], [5, 40], [6, 41], [7, 42], [43]]
  | 4 => [[], [], [], [44, 45], [46]]
  | 5 => [[], [], [], [48, 49], [50], [], [47], [10, 51], [52]]
  | 6 => [[], [], [], [54, 55], [56], [], [53], [12, 57], [58]]
  | 7 => [[], [9], [60], [61], [], [], [], [59], [14, 62], [15, 63], [16, 64], [65]]
  | 8 => [[], [], [66], [67], [68]]
  | 9 => [[], [18], [], [70, 71], [], [72, 73], [74], [], [69], [75], [76]]
  | 10 => [[], [], [], [78, 79], [80], [81], [], [], [], [77], [82], [83], [84], [85]]
  | 11 => [[], [], [86], [87], [], [89], [88, 90], [91], [], [93], [92, 94], [95], [], [97], [96, 98], [99], [2], [101], [100, 102], [103], [4], [105], [104, 106], [107], [8], [109], [108, 110], [111], [11], [113], [112, 114], [115], [13], [117], [116, 118], [119], [17], [121], [120, 122], [123], [20], [125], [124, 126], [127], [19], [], [129, 130], [128, 131], [132], [24], [134], [133, 135], [136], [21], [137, 138], [139], [22], [140, 141], [142], [23], [144], [143, 145], [146], [], [147, 148], [149]]
  | _ => []
theorem enames_law : ACall Try.prog 4 [] (.lit (.bool true)) := by
  have nb : ∀ {l : List Node}, (l.all fun x => decide (-2000 ≤ x.a) && decide (x.a ≤ 2000) && decide (-2000 ≤ x.b) && decide (x.b ≤ 2000) && decide (1 ≤ x.kind) && decide (x.kind ≤ 19)) = true → NodeB l := fun {l} h x hx => by
    have := List.all_eq_true.1 h x hx
    simp only [Bool.and_eq_true, decide_eq_true_eq] at this
    omega
  have hO1 := (eOf_c [] zR (by decide) zR_B (bigs_B (by decide))).mono (args' := [.lit (.slice none 0 0), .agg zR.cells]) (.cons (AVle.nil 5) (.refl _)) (AVle.refl _)
  have hA1 := eAll_c [nd 0 0 0 0] zR (by decide) zR_B (bigs_B (by decide))
  have hU1 := eUses_c big61 (by decide)
  have hT1 := two_c 18 [nd 2 0 0 0] [nd 2 0 0 0] (by decide) (by decide) (nb (by decide)) (by decide) (by decide) (nb (by decide))
  have hO2 := eOf_c n1 zR (by decide) zR_B (bigs_B (by decide))
  have hA2 := eAll_c n1 zR (by decide) zR_B (bigs_B (by decide))
  have hU2 := eUses_c n1 (by decide)
  have hM := rMade_1 5 0 0 [nd 1 bigN 0 0] (by decide) (by decide) (nb (by decide))
  have hT2 := two_c 9 n2 [nd 1 2 0 0] (by decide) (by decide) (nb (by decide)) (by decide) (by decide) (nb (by decide))
  have hA3 := eAll_c n3 zR (by decide) zR_B (bigs_B (by decide))
  have hT3 := two_c 7 [nd 2 0 0 0] [nd 3 0 0 0] (by decide) (by decide) (nb (by decide)) (by decide) (by decide) (nb (by decide))
  have hU3 := eUses_c n4 (by decide)
  have hI1 := isT (l := [nd 1 7 0 0]) (w := 7) (by decide) (small_B (by decide)) (ofE_l 1 7 (by decide) (by decide)) (by decide)
  have hI2 := isT (l := [nd 2 0 0 0]) (w := 3) (by decide) (small_B (by decide)) (ofE_l 2 0 (by decide) (by decide)) (by decide)
  have hI3 := isT (l := [nd 3 0 0 0]) (w := 10) (by decide) (small_B (by decide)) (ofE_l 3 0 (by decide) (by decide)) (by decide)
  have hI4 := isT (l := [nd 4 0 0 0]) (w := -4) (by decide) (small_B (by decide)) (ofE_l 4 0 (by decide) (by decide)) (by decide)
  have hS := same7_c [bigN, -bigN, 2, bigN] [bigN, -bigN, 2, bigN] (by decide) (by decide)
  rw [decide_eq_true rfl] at hS
  have q1 : ∀ (l : List Node) (x : Int), x ≠ 0 → ofE l = x → ofV zR l = 0 ∧ valR zR l = [] ∧ usesB 2 l = false ∧ usesB 3 l = false ∧ usesB 4 l = false := fun l x h0 h => by
    have hz : ofE l ≠ 0 := by omega
    exact ⟨if_neg hz, if_neg hz, if_neg hz, if_neg hz, if_neg hz⟩
  rw [(q1 [] 8 (by decide) ofE_nil).1, ofE_nil] at hO1
  rw [(q1 _ 8 (by decide) ofE_zero).2.1, ofE_zero] at hA1
  obtain ⟨b1, b2, b3, b4, b5⟩ := q1 _ 4 (by decide) ofE_big
  rw [b3, b4, b5, ofE_big] at hU1
  obtain ⟨c1, c2, c3, c4, c5⟩ := q1 _ 42 (by decide) ofE_n1
  rw [c1, ofE_n1] at hO2
  rw [c2, ofE_n1] at hA2
  rw [c3, c4, c5, ofE_n1] at hU2
  rw [show valR zR n3 = valsL zR n3 from if_pos ofE_n3, show valsL zR n3 = [bigN, -bigN, 2, bigN] by decide, ofE_n3] at hA3
  have d2 : usesB 2 n4 = true := (if_pos ofE_n4).trans (by decide)
  have d3 : usesB 3 n4 = true := (if_pos ofE_n4).trans (by decide)
  have d4 : usesB 4 n4 = false := (if_pos ofE_n4).trans (by decide)
  rw [d2, d3, d4, ofE_n4] at hU3
  rw [show made2 18 0 0 [nd 2 0 0 0] [nd 2 0 0 0] = n1 by decide] at hT1
  rw [show made1 5 0 0 [nd 1 bigN 0 0] = n2 by decide] at hM
  rw [show made2 9 0 0 n2 [nd 1 2 0 0] = n3 by decide] at hT2
  rw [show made2 7 0 0 [nd 2 0 0 0] [nd 3 0 0 0] = n4 by decide] at hT3
  have hbig : nodesV big61 = .ro 5 (List.replicate 61 [.lit (.int .u8 0), .lit (.int .i64 0), .lit (.int .i64 0), .lit (.int .i64 0), .lit (.int .i64 0)]) := by
    unfold nodesV big61; rw [List.map_replicate]; rfl
  rw [hbig] at hU1
  clear nb q1 b1 b2 b3 b4 b5 c1 c2 c3 c4 c5 d2 d3 d4 hbig
  simp only [nodesV, n1, n2, n3, n4, nd, bigN, zR, Rcd.cells, List.map_cons, List.map_nil, Node.cells, intC, Int.reduceNeg] at *
  refine acall_of (n := 150) (rs := [.tmp 0]) Try.func4 rfl (by kernel_rfl) rfl rfl rfl ?_; simp only [argsE, Nat.reduceAdd]
  repeat (any_goals (first | (refine aops_cons (fun K' h' => ?_); simp only [go_sem, Nat.reduceLT, Nat.reduceLeDiff, Nat.reduceEqDiff, reduceIte, Nat.reduceAdd, Nat.reduceMul, Nat.reduceSub, Int.reduceLT, Int.reduceLE, Int.reduceToNat, Int.reduceNeg, reduceCtorEq, hgs, Node.cells, intC, aopG, bne_self_eq_false, Bool.not_false, beq_self_eq_true, Option.toArray_none, Option.toArray_some, List.toList_toArray]; (try simp (disch := omega) only [wrap_id, getD_map_in, Int.toNat_natCast, Node.cells, intC, aopG, bne_self_eq_false, Bool.not_false, beq_self_eq_true, Option.toArray_none, Option.toArray_some, List.toList_toArray]); (repeat (refine And.intro (by (first | omega | (simp; done) | (simp; omega) | assumption)) ?_)); refine h' _ ?_; clear h' K') | (refine aops_nil (hK _ ?_); clear hK K hgs gs; try simp only [aThen, aBlock]) | ((first | refine aops_cons (fun K' h' => ?_) | refine aopsD_cons (fun K' h' => ?_)); simp only [go_sem, Nat.reduceLT, Nat.reduceLeDiff, Nat.reduceEqDiff, reduceIte, Nat.reduceAdd, Nat.reduceMul, Nat.reduceSub, Int.reduceLT, Int.reduceLE, Int.reduceToNat, Int.reduceNeg, reduceCtorEq, hgs, Node.cells, intC, aopG, bne_self_eq_false, Bool.not_false, beq_self_eq_true, Option.toArray_none, Option.toArray_some, List.toList_toArray]; (first | refine ⟨_, hO1, ?_⟩ | refine ⟨_, fun _ => hO1, ?_⟩ | refine ⟨_, hO2, ?_⟩ | refine ⟨_, fun _ => hO2, ?_⟩ | refine ⟨_, hA2, ?_⟩ | refine ⟨_, fun _ => hA2, ?_⟩ | refine ⟨_, hA3, ?_⟩ | refine ⟨_, fun _ => hA3, ?_⟩ | refine ⟨_, hU1, ?_⟩ | refine ⟨_, fun _ => hU1, ?_⟩ | refine ⟨_, hU2, ?_⟩ | refine ⟨_, fun _ => hU2, ?_⟩ | refine ⟨_, hU3, ?_⟩ | refine ⟨_, fun _ => hU3, ?_⟩ | refine ⟨_, leaf_c _ _, ?_⟩ | refine ⟨_, fun _ => leaf_c _ _, ?_⟩ | refine ⟨_, hT1, ?_⟩ | refine ⟨_, fun _ => hT1, ?_⟩ | refine ⟨_, hT2, ?_⟩ | refine ⟨_, fun _ => hT2, ?_⟩ | refine ⟨_, hT3, ?_⟩ | refine ⟨_, fun _ => hT3, ?_⟩ | refine ⟨_, hM, ?_⟩ | refine ⟨_, fun _ => hM, ?_⟩ | refine ⟨_, hI1, ?_⟩ | refine ⟨_, fun _ => hI1, ?_⟩ | refine ⟨_, hI2, ?_⟩ | refine ⟨_, fun _ => hI2, ?_⟩ | refine ⟨_, hI3, ?_⟩ | refine ⟨_, fun _ => hI3, ?_⟩ | refine ⟨_, hI4, ?_⟩ | refine ⟨_, fun _ => hI4, ?_⟩ | refine ⟨_, hS, ?_⟩ | refine ⟨_, fun _ => hS, ?_⟩ | refine ⟨_, alive7_c, ?_⟩ | refine ⟨_, fun _ => alive7_c, ?_⟩); (try simp only [go_sem, Nat.reduceLT, Nat.reduceLeDiff, Nat.reduceEqDiff, reduceIte, Nat.reduceAdd, Nat.reduceMul, Nat.reduceSub, Int.reduceLT, Int.reduceLE, Int.reduceToNat, Int.reduceNeg, reduceCtorEq, hgs, Node.cells, intC, aopG, bne_self_eq_false, Bool.not_false, beq_self_eq_true, Option.toArray_none, Option.toArray_some, List.toList_toArray]); (repeat (refine And.intro (by (first | omega | (simp; done) | (simp; omega) | assumption)) ?_)); refine h' _ ?_; clear h' K') | (refine aops_consF [] (fun K' h' => ?_); simp only [go_sem, Nat.reduceLT, Nat.reduceLeDiff, Nat.reduceEqDiff, reduceIte, Nat.reduceAdd, Nat.reduceMul, Nat.reduceSub, Int.reduceLT, Int.reduceLE, Int.reduceToNat, Int.reduceNeg, reduceCtorEq, hgs, Node.cells, intC, aopG, bne_self_eq_false, Bool.not_false, beq_self_eq_true, Option.toArray_none, Option.toArray_some, List.toList_toArray]; refine ⟨_, hA1, ?_⟩; (try simp only [go_sem, Nat.reduceLT, Nat.reduceLeDiff, Nat.reduceEqDiff, reduceIte, Nat.reduceAdd, Nat.reduceMul, Nat.reduceSub, Int.reduceLT, Int.reduceLE, Int.reduceToNat, Int.reduceNeg, reduceCtorEq, hgs, Node.cells, intC, aopG, bne_self_eq_false, Bool.not_false, beq_self_eq_true, Option.toArray_none, Option.toArray_some, List.toList_toArray]); (repeat (refine And.intro (by (first | omega | (simp; done) | (simp; omega) | assumption)) ?_)); refine h' _ ?_; clear h' K') | (refine aops_consF [] (fun K' h' => ?_); simp only [go_sem, Nat.reduceLT, Nat.reduceLeDiff, Nat.reduceEqDiff, reduceIte, Nat.reduceAdd, Nat.reduceMul, Nat.reduceSub, Int.reduceLT, Int.reduceLE, Int.reduceToNat, Int.reduceNeg, reduceCtorEq, hgs, Node.cells, intC, aopG, bne_self_eq_false, Bool.not_false, beq_self_eq_true, Option.toArray_none, Option.toArray_some, List.toList_toArray]; refine ⟨_, hU1, ?_⟩; (try simp only [go_sem, Nat.reduceLT, Nat.reduceLeDiff, Nat.reduceEqDiff, reduceIte, Nat.reduceAdd, Nat.reduceMul, Nat.reduceSub, Int.reduceLT, Int.reduceLE, Int.reduceToNat, Int.reduceNeg, reduceCtorEq, hgs, Node.cells, intC, aopG, bne_self_eq_false, Bool.not_false, beq_self_eq_true, Option.toArray_none, Option.toArray_some, List.toList_toArray]); (repeat (refine And.intro (by (first | omega | (simp; done) | (simp; omega) | assumption)) ?_)); refine h' _ ?_; clear h' K') | (refine aops_consF [] (fun K' h' => ?_); simp only [go_sem, Nat.reduceLT, Nat.reduceLeDiff, Nat.reduceEqDiff, reduceIte, Nat.reduceAdd, Nat.reduceMul, Nat.reduceSub, Int.reduceLT, Int.reduceLE, Int.reduceToNat, Int.reduceNeg, reduceCtorEq, hgs, Node.cells, intC, aopG, bne_self_eq_false, Bool.not_false, beq_self_eq_true, Option.toArray_none, Option.toArray_some, List.toList_toArray]; refine ⟨_, hM, ?_⟩; (try simp only [go_sem, Nat.reduceLT, Nat.reduceLeDiff, Nat.reduceEqDiff, reduceIte, Nat.reduceAdd, Nat.reduceMul, Nat.reduceSub, Int.reduceLT, Int.reduceLE, Int.reduceToNat, Int.reduceNeg, reduceCtorEq, hgs, Node.cells, intC, aopG, bne_self_eq_false, Bool.not_false, beq_self_eq_true, Option.toArray_none, Option.toArray_some, List.toList_toArray]); (repeat (refine And.intro (by (first | omega | (simp; done) | (simp; omega) | assumption)) ?_)); refine h' _ ?_; clear h' K') | (refine AWp.sreg (id := 11) dd4 rfl (fun gs K hgs hK => ?_); replace hgs : gs 2 = some 88 ∧ gs 6 = some 92 ∧ gs 10 = some 96 ∧ gs 14 = some 100 ∧ gs 18 = some 104 ∧ gs 22 = some 108 ∧ gs 26 = some 112 ∧ gs 30 = some 116 ∧ gs 34 = some 120 ∧ gs 38 = some 124 ∧ gs 42 = some 128 ∧ gs 47 = some 133 ∧ gs 51 = some 137 ∧ gs 54 = some 140 ∧ gs 57 = some 143 ∧ gs 61 = some 147 := ⟨hgs 2, hgs 6, hgs 10, hgs 14, hgs 18, hgs 22, hgs 26, hgs 30, hgs 34, hgs 38, hgs 42, hgs 47, hgs 51, hgs 54, hgs 57, hgs 61⟩) | (refine AWp.reg (id := 11) dd4 rfl (fun gs K hgs hK => ?_); replace hgs : gs 2 = some 88 ∧ gs 6 = some 92 ∧ gs 10 = some 96 ∧ gs 14 = some 100 ∧ gs 18 = some 104 ∧ gs 22 = some 108 ∧ gs 26 = some 112 ∧ gs 30 = some 116 ∧ gs 34 = some 120 ∧ gs 38 = some 124 ∧ gs 42 = some 128 ∧ gs 47 = some 133 ∧ gs 51 = some 137 ∧ gs 54 = some 140 ∧ gs 57 = some 143 ∧ gs 61 = some 147 := ⟨hgs 2, hgs 6, hgs 10, hgs 14, hgs 18, hgs 22, hgs 26, hgs 30, hgs 34, hgs 38, hgs 42, hgs 47, hgs 51, hgs 54, hgs 57, hgs 61⟩) | (refine AWp.sreg  dd4 rfl (fun gs K hgs hK => ?_); replace hgs : Nat.succ 0 = 1 := rfl) | refine AWp.seq ?_ | refine ARounds.step ?_ | refine AWp.block ?_ | refine AWp.label ?_ | (refine AWp.ret ?_; try simp only [aThen, aBlock]) | (refine AWp.skip ?_; try simp only [aThen, aBlock]) | (refine AWp.exit ?_; try simp only [aThen, aBlock, Nat.reduceEqDiff, reduceIte]) | (refine AWp.reg  dd4 rfl (fun gs K hgs hK => ?_); replace hgs : Nat.succ 0 = 1 := rfl) | (refine aops_consG (fun K' h' => ?_); simp only [go_sem, Nat.reduceLT, Nat.reduceLeDiff, Nat.reduceEqDiff, reduceIte, Nat.reduceAdd, Nat.reduceMul, Nat.reduceSub, Int.reduceLT, Int.reduceLE, Int.reduceToNat, Int.reduceNeg, reduceCtorEq, hgs, Node.cells, intC, aopG, bne_self_eq_false, Bool.not_false, beq_self_eq_true, Option.toArray_none, Option.toArray_some, List.toList_toArray]; (try simp (disch := omega) only [wrap_id, getD_map_in, Int.toNat_natCast, Node.cells, intC, aopG, bne_self_eq_false, Bool.not_false, beq_self_eq_true, Option.toArray_none, Option.toArray_some, List.toList_toArray]); (repeat (refine And.intro (by (first | omega | (simp; done) | (simp; omega) | assumption)) ?_)); refine h' _ ?_; clear h' K') | (refine AWp.cond rfl (fun h => ?_) (fun h => ?_) <;> (try simp only [decide_eq_true_eq, decide_eq_false_iff_not, beq_iff_eq, bne_iff_ne, ne_eq, Bool.not_eq_true', Bool.not_eq_false', beq_eq_false_iff_ne, Bool.true_eq_false, Bool.false_eq_true, Int.not_le, Int.not_lt, Bool.and_eq_true, Bool.and_eq_false_iff, Bool.or_eq_true, Bool.or_eq_false_iff, bne_eq_false_iff_eq, reduceCtorEq] at h) <;> (try first | contradiction | (exfalso; omega) | (exfalso; revert h; simp; done) | (exfalso; revert h; simp; omega)))))
  simp only [Out, outA, outL, resA, go_sem, Nat.reduceLT, Nat.reduceLeDiff, Nat.reduceEqDiff, reduceIte, Nat.reduceAdd, Nat.reduceMul, Nat.reduceSub, Int.reduceLT, Int.reduceLE, Int.reduceToNat, Int.reduceNeg, reduceCtorEq]
  exact AVle.refl _
theorem enames_all : ∀ xs, ShpAs Try.prog 8 Try.f4.params.toList xs → ACall Try.prog 4 xs (.lit (.bool true)) := by
  intro xs h
  have hp : Try.f4.params.toList = [] := by kernel_rfl
  rw [hp] at h
  obtain rfl : xs = [] := h
  exact enames_law
end Go.Proofs.Ytmdnhmcmnojlkaa
