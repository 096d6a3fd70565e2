/-
  The law FoldsForms.
-/
import Derived.Test.YteohklfoggiojaaFdH
namespace Go.Proofs.Yteohklfoggiojaa
open Go.AL Go.RowKit
set_option linter.unusedSimpArgs false
set_option linter.unusedVariables false
set_option maxRecDepth 10000
set_option maxHeartbeats 8000000
def formL : List Node → Bool
  | [a] => a.kind == 1
  | [a, b] => a.kind == 1 && decide (0 < a.n) && b.kind == 5
  | [a, b, c] => a.kind == 1 && b.kind == 1 && a.n == 0 && b.n == 0 && (c.kind == 16 || c.kind == 17)
  | _ => false
def dd24 : Nat → List (List Nat)
  | 0 => [[], [2]]
  | 1 => [[], [], [3]]
  | 2 => [[], [], [6]]
  | 3 => [[4, 5], [0], [7], [8], [9], [10], [11]]
  | 4 => [[5], [], [13]]
  | 5 => [[4, 12], [], [14], [15], [16], [17], [18], [], [20], [21], [22], [23], [19, 24], [25], [0], [27], [28], [29], [30], [26, 31], [32]]
  | 6 => [[12], [4], [34]]
  | 7 => [[33], [], [35], [36], [37], [38], [39], [], [41], [42], [43], [44], [40, 45], [46], [], [48], [49], [50], [51], [47, 52], [53], [], [55], [56], [57], [58], [54, 59], [60], [], [62], [63], [64], [65], [66], [0], [68], [69], [70], [71], [67, 72], [61, 73], [74]]
  | 8 => [[0, 33], []]
  | _ => []
theorem form12_c (l : List Node) (hl : l.length ≤ 1000) : ACall Try.prog 24 [nodesV l] (.lit (.bool (formL l))) := by
  unfold nodesV
  match l, hl with
  | [], _ =>
    refine acall_of (n := 75) (rs := [.tmp 2]) Try.func24 rfl (by kernel_rfl) rfl rfl rfl ?_; simp only [argsE, Nat.reduceAdd]
    repeat (any_goals (first | (refine aops_cons (fun K' h' => ?_); simp only [go_sem, simprocAttr, hgs, Node.cells, aopG, beq_self_eq_true]; (try simp (disch := omega) only [wrap_id, getD_map_in, Int.toNat_natCast, Node.cells, aopG, beq_self_eq_true]); (repeat (refine And.intro (by (first | omega | (simp; done) | (simp; omega) | assumption)) ?_)); refine h' _ ?_; clear h' K') | (refine aops_nil (hK _ ?_); clear hK K hgs gs; try simp only [aThen, aBlock]) | ((first | refine AWp.sreg (id := 5) dd24 rfl (fun gs K hgs hK => ?_) | refine AWp.reg (id := 5) dd24 rfl (fun gs K hgs hK => ?_)); replace hgs : gs 5 = some 19 ∧ gs 12 = some 26 := ⟨hgs 5, hgs 12⟩) | ((first | refine AWp.sreg (id := 7) dd24 rfl (fun gs K hgs hK => ?_) | refine AWp.reg (id := 7) dd24 rfl (fun gs K hgs hK => ?_)); replace hgs : gs 5 = some 40 ∧ gs 12 = some 47 ∧ gs 19 = some 54 ∧ gs 26 = some 61 ∧ gs 32 = some 67 := ⟨hgs 5, hgs 12, hgs 19, hgs 26, hgs 32⟩) | (refine AWp.sreg  dd24 rfl (fun gs K hgs hK => ?_); replace hgs : Nat.succ 0 = 1 := rfl) | refine AWp.seq ?_ | refine ARounds.step ?_ | refine AWp.block ?_ | refine AWp.label ?_ | (refine AWp.ret ?_; try simp only [aThen, aBlock]) | (refine AWp.skip ?_; try simp only [aThen, aBlock]) | (refine AWp.exit ?_; try simp only [aThen, aBlock, Nat.reduceEqDiff, reduceIte]) | (refine AWp.reg  dd24 rfl (fun gs K hgs hK => ?_); replace hgs : Nat.succ 0 = 1 := rfl) | (refine AWp.cond rfl (fun h => ?_) (fun h => ?_) <;> (try simp only [decide_eq_true_eq, decide_eq_false_iff_not, beq_iff_eq, bne_iff_ne, ne_eq, Bool.not_eq_true', Bool.not_eq_false', beq_eq_false_iff_ne, Bool.true_eq_false, Bool.false_eq_true, Int.not_le, Int.not_lt, Bool.and_eq_true, Bool.and_eq_false_iff, Bool.or_eq_true, Bool.or_eq_false_iff, bne_eq_false_iff_eq, reduceCtorEq] at h) <;> (try first | contradiction | (exfalso; omega) | (exfalso; revert h; simp; done) | (exfalso; revert h; simp; omega)))))
    all_goals simp only [Out, outA, outL, resA, go_sem, simprocAttr]
    all_goals exact AVle.refl _
  | [a], _ =>
    obtain ⟨k1, n1, a1, b1, p1⟩ := a
    refine acall_of (n := 75) (rs := [.tmp 2]) Try.func24 rfl (by kernel_rfl) rfl rfl rfl ?_; simp only [argsE, Nat.reduceAdd]
    repeat (any_goals (first | (refine aops_cons (fun K' h' => ?_); simp only [go_sem, simprocAttr, hgs, Node.cells, aopG, beq_self_eq_true]; (try simp (disch := omega) only [wrap_id, getD_map_in, Int.toNat_natCast, Node.cells, aopG, beq_self_eq_true]); (repeat (refine And.intro (by (first | omega | (simp; done) | (simp; omega) | assumption)) ?_)); refine h' _ ?_; clear h' K') | (refine aops_nil (hK _ ?_); clear hK K hgs gs; try simp only [aThen, aBlock]) | ((first | refine AWp.sreg (id := 5) dd24 rfl (fun gs K hgs hK => ?_) | refine AWp.reg (id := 5) dd24 rfl (fun gs K hgs hK => ?_)); replace hgs : gs 5 = some 19 ∧ gs 12 = some 26 := ⟨hgs 5, hgs 12⟩) | ((first | refine AWp.sreg (id := 7) dd24 rfl (fun gs K hgs hK => ?_) | refine AWp.reg (id := 7) dd24 rfl (fun gs K hgs hK => ?_)); replace hgs : gs 5 = some 40 ∧ gs 12 = some 47 ∧ gs 19 = some 54 ∧ gs 26 = some 61 ∧ gs 32 = some 67 := ⟨hgs 5, hgs 12, hgs 19, hgs 26, hgs 32⟩) | (refine AWp.sreg  dd24 rfl (fun gs K hgs hK => ?_); replace hgs : Nat.succ 0 = 1 := rfl) | refine AWp.seq ?_ | refine ARounds.step ?_ | refine AWp.block ?_ | refine AWp.label ?_ | (refine AWp.ret ?_; try simp only [aThen, aBlock]) | (refine AWp.skip ?_; try simp only [aThen, aBlock]) | (refine AWp.exit ?_; try simp only [aThen, aBlock, Nat.reduceEqDiff, reduceIte]) | (refine AWp.reg  dd24 rfl (fun gs K hgs hK => ?_); replace hgs : Nat.succ 0 = 1 := rfl) | (refine AWp.cond rfl (fun h => ?_) (fun h => ?_) <;> (try simp only [decide_eq_true_eq, decide_eq_false_iff_not, beq_iff_eq, bne_iff_ne, ne_eq, Bool.not_eq_true', Bool.not_eq_false', beq_eq_false_iff_ne, Bool.true_eq_false, Bool.false_eq_true, Int.not_le, Int.not_lt, Bool.and_eq_true, Bool.and_eq_false_iff, Bool.or_eq_true, Bool.or_eq_false_iff, bne_eq_false_iff_eq, reduceCtorEq] at h) <;> (try first | contradiction | (exfalso; omega) | (exfalso; revert h; simp; done) | (exfalso; revert h; simp; omega)))))
    all_goals simp only [Out, outA, outL, resA, go_sem, simprocAttr]
    all_goals exact AVle.refl _
  | [a, b], _ =>
    obtain ⟨k1, n1, a1, b1, p1⟩ := a
    obtain ⟨k2, n2, a2, b2, p2⟩ := b
    refine acall_of (n := 75) (rs := [.tmp 2]) Try.func24 rfl (by kernel_rfl) rfl rfl rfl ?_; simp only [argsE, Nat.reduceAdd]
    repeat (any_goals (first | (refine aops_cons (fun K' h' => ?_); simp only [go_sem, simprocAttr, hgs, Node.cells, aopG, beq_self_eq_true]; (try simp (disch := omega) only [wrap_id, getD_map_in, Int.toNat_natCast, Node.cells, aopG, beq_self_eq_true]); (repeat (refine And.intro (by (first | omega | (simp; done) | (simp; omega) | assumption)) ?_)); refine h' _ ?_; clear h' K') | (refine aops_nil (hK _ ?_); clear hK K hgs gs; try simp only [aThen, aBlock]) | ((first | refine AWp.sreg (id := 5) dd24 rfl (fun gs K hgs hK => ?_) | refine AWp.reg (id := 5) dd24 rfl (fun gs K hgs hK => ?_)); replace hgs : gs 5 = some 19 ∧ gs 12 = some 26 := ⟨hgs 5, hgs 12⟩) | ((first | refine AWp.sreg (id := 7) dd24 rfl (fun gs K hgs hK => ?_) | refine AWp.reg (id := 7) dd24 rfl (fun gs K hgs hK => ?_)); replace hgs : gs 5 = some 40 ∧ gs 12 = some 47 ∧ gs 19 = some 54 ∧ gs 26 = some 61 ∧ gs 32 = some 67 := ⟨hgs 5, hgs 12, hgs 19, hgs 26, hgs 32⟩) | (refine AWp.sreg  dd24 rfl (fun gs K hgs hK => ?_); replace hgs : Nat.succ 0 = 1 := rfl) | refine AWp.seq ?_ | refine ARounds.step ?_ | refine AWp.block ?_ | refine AWp.label ?_ | (refine AWp.ret ?_; try simp only [aThen, aBlock]) | (refine AWp.skip ?_; try simp only [aThen, aBlock]) | (refine AWp.exit ?_; try simp only [aThen, aBlock, Nat.reduceEqDiff, reduceIte]) | (refine AWp.reg  dd24 rfl (fun gs K hgs hK => ?_); replace hgs : Nat.succ 0 = 1 := rfl) | (refine AWp.cond rfl (fun h => ?_) (fun h => ?_) <;> (try simp only [decide_eq_true_eq, decide_eq_false_iff_not, beq_iff_eq, bne_iff_ne, ne_eq, Bool.not_eq_true', Bool.not_eq_false', beq_eq_false_iff_ne, Bool.true_eq_false, Bool.false_eq_true, Int.not_le, Int.not_lt, Bool.and_eq_true, Bool.and_eq_false_iff, Bool.or_eq_true, Bool.or_eq_false_iff, bne_eq_false_iff_eq, reduceCtorEq] at h) <;> (try first | contradiction | (exfalso; omega) | (exfalso; revert h; simp; done) | (exfalso; revert h; simp; omega)))))
    all_goals simp only [Out, outA, outL, resA, go_sem, simprocAttr]
    all_goals exact AVle.of_eq (by simp [formL, Bool.and_assoc])
  | [a, b, c], _ =>
    obtain ⟨k1, n1, a1, b1, p1⟩ := a
    obtain ⟨k2, n2, a2, b2, p2⟩ := b
    obtain ⟨k3, n3, a3, b3, p3⟩ := c
    refine acall_of (n := 75) (rs := [.tmp 2]) Try.func24 rfl (by kernel_rfl) rfl rfl rfl ?_; simp only [argsE, Nat.reduceAdd]
    repeat (any_goals (first | (refine aops_cons (fun K' h' => ?_); simp only [go_sem, simprocAttr, hgs, Node.cells, aopG, beq_self_eq_true]; (try simp (disch := omega) only [wrap_id, getD_map_in, Int.toNat_natCast, Node.cells, aopG, beq_self_eq_true]); (repeat (refine And.intro (by (first | omega | (simp; done) | (simp; omega) | assumption)) ?_)); refine h' _ ?_; clear h' K') | (refine aops_nil (hK _ ?_); clear hK K hgs gs; try simp only [aThen, aBlock]) | ((first | refine AWp.sreg (id := 5) dd24 rfl (fun gs K hgs hK => ?_) | refine AWp.reg (id := 5) dd24 rfl (fun gs K hgs hK => ?_)); replace hgs : gs 5 = some 19 ∧ gs 12 = some 26 := ⟨hgs 5, hgs 12⟩) | ((first | refine AWp.sreg (id := 7) dd24 rfl (fun gs K hgs hK => ?_) | refine AWp.reg (id := 7) dd24 rfl (fun gs K hgs hK => ?_)); replace hgs : gs 5 = some 40 ∧ gs 12 = some 47 ∧ gs 19 = some 54 ∧ gs 26 = some 61 ∧ gs 32 = some 67 := ⟨hgs 5, hgs 12, hgs 19, hgs 26, hgs 32⟩) | (refine AWp.sreg  dd24 rfl (fun gs K hgs hK => ?_); replace hgs : Nat.succ 0 = 1 := rfl) | refine AWp.seq ?_ | refine ARounds.step ?_ | refine AWp.block ?_ | refine AWp.label ?_ | (refine AWp.ret ?_; try simp only [aThen, aBlock]) | (refine AWp.skip ?_; try simp only [aThen, aBlock]) | (refine AWp.exit ?_; try simp only [aThen, aBlock, Nat.reduceEqDiff, reduceIte]) | (refine AWp.reg  dd24 rfl (fun gs K hgs hK => ?_); replace hgs : Nat.succ 0 = 1 := rfl) | (refine AWp.cond rfl (fun h => ?_) (fun h => ?_) <;> (try simp only [decide_eq_true_eq, decide_eq_false_iff_not, beq_iff_eq, bne_iff_ne, ne_eq, Bool.not_eq_true', Bool.not_eq_false', beq_eq_false_iff_ne, Bool.true_eq_false, Bool.false_eq_true, Int.not_le, Int.not_lt, Bool.and_eq_true, Bool.and_eq_false_iff, Bool.or_eq_true, Bool.or_eq_false_iff, bne_eq_false_iff_eq, reduceCtorEq] at h) <;> (try first | contradiction | (exfalso; omega) | (exfalso; revert h; simp; done) | (exfalso; revert h; simp; omega)))))
    all_goals simp only [Out, outA, outL, resA, go_sem, simprocAttr]
    all_goals exact AVle.of_eq (by simp [formL, Bool.and_assoc])
  | a :: b :: c :: d :: t, hl =>
    have h1 : ((t.length + 1 + 1 + 1 + 1 : Nat) : Int) ≠ 1 := by omega
    have h2 : ((t.length + 1 + 1 + 1 + 1 : Nat) : Int) ≠ 2 := by omega
    have h3 : ((t.length + 1 + 1 + 1 + 1 : Nat) : Int) ≠ 3 := by omega
    simp only [List.length_cons] at hl
    refine acall_of (n := 75) (rs := [.tmp 2]) Try.func24 rfl (by kernel_rfl) rfl rfl rfl ?_; simp only [argsE, Nat.reduceAdd]
    repeat (any_goals (first | (refine aops_cons (fun K' h' => ?_); simp only [go_sem, simprocAttr, hgs, Node.cells, aopG, beq_self_eq_true]; (try simp (disch := omega) only [wrap_id, getD_map_in, Int.toNat_natCast, Node.cells, aopG, beq_self_eq_true]); (repeat (refine And.intro (by (first | omega | (simp; done) | (simp; omega) | assumption)) ?_)); refine h' _ ?_; clear h' K') | (refine aops_nil (hK _ ?_); clear hK K hgs gs; try simp only [aThen, aBlock]) | ((first | refine AWp.sreg (id := 5) dd24 rfl (fun gs K hgs hK => ?_) | refine AWp.reg (id := 5) dd24 rfl (fun gs K hgs hK => ?_)); replace hgs : gs 5 = some 19 ∧ gs 12 = some 26 := ⟨hgs 5, hgs 12⟩) | ((first | refine AWp.sreg (id := 7) dd24 rfl (fun gs K hgs hK => ?_) | refine AWp.reg (id := 7) dd24 rfl (fun gs K hgs hK => ?_)); replace hgs : gs 5 = some 40 ∧ gs 12 = some 47 ∧ gs 19 = some 54 ∧ gs 26 = some 61 ∧ gs 32 = some 67 := ⟨hgs 5, hgs 12, hgs 19, hgs 26, hgs 32⟩) | (refine AWp.sreg  dd24 rfl (fun gs K hgs hK => ?_); replace hgs : Nat.succ 0 = 1 := rfl) | refine AWp.seq ?_ | refine ARounds.step ?_ | refine AWp.block ?_ | refine AWp.label ?_ | (refine AWp.ret ?_; try simp only [aThen, aBlock]) | (refine AWp.skip ?_; try simp only [aThen, aBlock]) | (refine AWp.exit ?_; try simp only [aThen, aBlock, Nat.reduceEqDiff, reduceIte]) | (refine AWp.reg  dd24 rfl (fun gs K hgs hK => ?_); replace hgs : Nat.succ 0 = 1 := rfl) | (refine AWp.cond rfl (fun h => ?_) (fun h => ?_) <;> (try simp only [decide_eq_true_eq, decide_eq_false_iff_not, beq_iff_eq, bne_iff_ne, ne_eq, Bool.not_eq_true', Bool.not_eq_false', beq_eq_false_iff_ne, Bool.true_eq_false, Bool.false_eq_true, Int.not_le, Int.not_lt, Bool.and_eq_true, Bool.and_eq_false_iff, Bool.or_eq_true, Bool.or_eq_false_iff, bne_eq_false_iff_eq, reduceCtorEq] at h) <;> (try first | contradiction | (exfalso; omega) | (exfalso; revert h; simp; done) | (exfalso; revert h; simp; omega)))))
    all_goals first
      | (exfalso; omega)
      | skip
    all_goals simp only [Out, outA, outL, resA, go_sem, simprocAttr]
    all_goals exact AVle.refl _
theorem formL_frm {p : Ex} (hw : p.wf) (h : frm p = some p) : formL (p.fl 0) = true := by
  obtain ⟨hf, hs⟩ := frm_fixed h
  generalize p.val rc0 = v at *
  unfold formE at hs
  split at hs
  · rw [← Option.some.inj hs]
    simp only [Ex.fl, numE, Hd.node, List.cons_append, List.nil_append, formL]
    by_cases hv : v = 0 <;> simp [hv]
  · split at hs
    · rw [← Option.some.inj hs]; rfl
    · split at hs
      · rw [← Option.some.inj hs]
        simp only [Ex.fl, numE, Hd.node, List.cons_append, List.nil_append, formL]
        simp; omega
      · cases hs
theorem low_frm {p : Ex} (hf : p.fixed = true) (hB : i64B (p.val rc0)) (h : frm p = none) : p.val rc0 = -9223372036854775808 := by
  unfold frm at h
  rw [if_pos hf] at h
  unfold formE at h
  unfold i64B at hB
  split at h
  · cases h
  · split at h
    · cases h
    · split at h
      · cases h
      · omega
def dd5 : Nat → List (List Nat)
  | 0 => [[], [4]]
  | 1 => [[], [], [17]]
  | 2 => [[0, 1, 18], [], [19]]
  | 3 => [[18], [], [21], [22], [], [], [20], [5, 23], [6, 24], [25]]
  | 4 => [[], [7], [26]]
  | 5 => [[0, 1, 27], [], [28]]
  | 6 => [[27], [0], [30], [31], [], [29], [32], [33]]
  | 7 => [[], [], [34], [35], [], [37], [38], [36, 39], [40], [], [42], [41, 43], [44], [], [], [47], [46, 48], [45, 49]]
  | 8 => [[1, 50], [9], [51], [52], [8], [54], [55], [53, 56], [57], [], [58, 59], [60]]
  | 9 => [[9, 50], [8], [1], [62, 63], [64], [], [61], [65], [66]]
  | 10 => [[], [], [68], [69], [], [67], [70], [71]]
  | 11 => [[], [11], [72], [73], [13], [75], [74, 76]]
  | 12 => [[10, 12, 77], []]
  | 13 => [[77], [12], [78], [79], [], [81], [80, 82]]
  | 14 => [[10, 83], [], [84]]
  | 15 => [[83], [10], [86], [87], [], [], [85], [88], [89], [90]]
  | 16 => [[], [16], [91], [92], [15], [93, 94], [95], [14], [97], [96, 98], [99], [], [100, 101], [102]]
  | _ => []
theorem fdforms_law (l : List Node) (i : Int) (hl : l.length ≤ maxLen) (hn : nodesB l) : ACall Try.prog 5 [nodesV l, .lit (.int .i64 i)] (.lit (.bool true)) := by
  have hGr := great_c l
  unfold maxLen at hl
  by_cases hg : l.length ≤ 70
  · rw [decide_eq_false (by omega)] at hGr
    have hO6 := rOf_c l (by omega)
    by_cases h0 : ofE l = 0
    · obtain ⟨e, H⟩ := fld_of h0 hn
      have hF := fold_c l (by omega) hn
      have hxl : (fldR l).length ≤ 60 := by rw [H.out_len]; have := H.same.sz; have := H.sz; omega
      have hC := nCheck_c (fldR l) (by omega)
      have he0 := (ofE_0 H.out_ty).1
      rw [he0] at hC
      rw [h0] at hF hO6
      have hpos : 0 < (fldR l).length := by rw [H.out_len]; exact Ex.sz_pos _
      by_cases hi : 0 ≤ i ∧ i < (fldR l).length
      · obtain ⟨j, rfl⟩ : ∃ j : Nat, i = j := ⟨i.toNat, by omega⟩
        have hj : j < (fldR l).length := by omega
        have hxx : IsEx (fldR l) (foldE e) := ⟨H.same.wf, H.out⟩
        have P := hxx.partAt H.same.typ H.out_B hj
        have htr : treeO (fldR l) = some (foldE e) := by rw [H.out]; exact treeO_fl H.same.wf
        have hab : ∀ x ∈ fldR l, -2000 ≤ x.a ∧ x.a ≤ 2000 ∧ -2000 ≤ x.b ∧ x.b ≤ 2000 := fun x hxm => by
          have := (foldE e).ab_bd 0 x (H.out ▸ hxm)
          have := H.same.sz
          have := H.sz
          omega
        have hP := nPart_ok j (by omega) he0 htr hj hab
        rw [P.cut] at hP
        have hps : ((foldE e).subE j).sz ≤ 60 := by have := P.sz; omega
        have hpd : ((foldE e).subE j).dp ≤ 20 := by have := P.dp; have := H.same.dp; have := H.dp; omega
        have hor := foldE_forms H.ex.1 H.typ H.nB j
        have hpw := P.wf
        have hpt := P.typ
        have hpB := P.nB
        clear P hxx
        generalize (foldE e).subE j = p at *
        have hCo := constant_c (p.fl 0) (by rw [Ex.fl_length]; omega)
        have hpe : errL (p.fl 0) = 0 := errL_of ⟨hpw, rfl⟩ hps hpd
        unfold conB at hCo
        rw [hpe, if_pos rfl, Ex.fixL_fl p 0 hpw] at hCo
        have hFm := form12_c (p.fl 0) (by rw [Ex.fl_length]; omega)
        have hV := value_c (p.fl 0) (by rw [Ex.fl_length]; omega) (Ex.nB_fl p 0 hpw hpB)
        have hoe := ofE_ty hpw hps hpd hpt
        have hvB : vB (p.fl 0) = p.fixed := by
          unfold vB
          rw [hoe, Ex.fixL_fl p 0 hpw]; simp
        have hvI : vI (p.fl 0) = if p.fixed = true then p.val rc0 else 0 := by
          unfold vI
          have := p.sz_pos
          rw [hvB, Ex.fl_length, Ex.val_at rc0 hpw _ (by omega), Ex.subE_end]
        rw [hvB, hvI, hoe] at hV
        have hlow := fun h1 => low_frm (p := p) h1 (Ex.val_B rc0_B hpB)
        have hfr := fun h1 => formL_frm (p := p) hpw h1
        cases hfx : p.fixed with
        | false =>
          rw [hfx] at hCo
          clear hV hvB hvI htr hab hor hlow hfr H
          generalize fldR l = x at *
          generalize formL (p.fl 0) = fm at *
          generalize p.fl 0 = pl at *
          generalize ofN l = n at *
          generalize ofB l = b at *
          have hd1 : decide ((j : Int) < 0) = false := decide_eq_false (by omega)
          have hd2 : decide ((x.length : Int) ≤ (j : Int)) = false := decide_eq_false (by omega)
          unfold nodesV at *
          refine acall_of (n := 103) (rs := [.tmp 4]) Try.func5 rfl (by kernel_rfl) rfl rfl rfl ?_; simp only [argsE, Nat.reduceAdd]
          repeat (any_goals (first | (refine aops_cons (fun K' h' => ?_); simp only [go_sem, simprocAttr, hgs, Node.cells, aopG, beq_self_eq_true, hd1, hd2]; (try ((first | refine ⟨_, hGr, ?_⟩ | refine ⟨_, fun _ => hGr, ?_⟩ | refine ⟨_, hO6, ?_⟩ | refine ⟨_, fun _ => hO6, ?_⟩ | refine ⟨_, hF, ?_⟩ | refine ⟨_, fun _ => hF, ?_⟩ | refine ⟨_, hV, ?_⟩ | refine ⟨_, fun _ => hV, ?_⟩ | refine ⟨_, hC, ?_⟩ | refine ⟨_, fun _ => hC, ?_⟩ | refine ⟨_, hP, ?_⟩ | refine ⟨_, fun _ => hP, ?_⟩ | refine ⟨_, hCo, ?_⟩ | refine ⟨_, fun _ => hCo, ?_⟩ | refine ⟨_, hFm, ?_⟩ | refine ⟨_, fun _ => hFm, ?_⟩ | refine ⟨_, alive12_c, ?_⟩ | refine ⟨_, fun _ => alive12_c, ?_⟩); (try simp only [go_sem, simprocAttr, hgs, Node.cells, aopG, beq_self_eq_true, hd1, hd2]))); (try simp (disch := omega) only [wrap_id, getD_map_in, Int.toNat_natCast, Node.cells, aopG, beq_self_eq_true, hd1, hd2]); (repeat (refine And.intro (by (first | omega | (simp; done) | (simp; omega) | assumption)) ?_)); refine h' _ ?_; clear h' K') | (refine aops_nil (hK _ ?_); clear hK K hgs gs; try simp only [aThen, aBlock]) | ((first | refine AWp.sreg (id := 7) dd5 rfl (fun gs K hgs hK => ?_) | refine AWp.reg (id := 7) dd5 rfl (fun gs K hgs hK => ?_)); replace hgs : gs 2 = some 36 ∧ gs 7 = some 41 ∧ gs 11 = some 45 := ⟨hgs 2, hgs 7, hgs 11⟩) | ((first | refine AWp.sreg (id := 8) dd5 rfl (fun gs K hgs hK => ?_) | refine AWp.reg (id := 8) dd5 rfl (fun gs K hgs hK => ?_)); replace hgs : gs 2 = some 53 ∧ gs 7 = some 58 := ⟨hgs 2, hgs 7⟩) | ((first | refine AWp.sreg (id := 11) dd5 rfl (fun gs K hgs hK => ?_) | refine AWp.reg (id := 11) dd5 rfl (fun gs K hgs hK => ?_)); replace hgs : gs 2 = some 74 := hgs 2) | ((first | refine AWp.sreg (id := 13) dd5 rfl (fun gs K hgs hK => ?_) | refine AWp.reg (id := 13) dd5 rfl (fun gs K hgs hK => ?_)); replace hgs : gs 2 = some 80 := hgs 2) | ((first | refine AWp.sreg (id := 16) dd5 rfl (fun gs K hgs hK => ?_) | refine AWp.reg (id := 16) dd5 rfl (fun gs K hgs hK => ?_)); replace hgs : gs 2 = some 93 ∧ gs 5 = some 96 ∧ gs 9 = some 100 := ⟨hgs 2, hgs 5, hgs 9⟩) | (refine AWp.sreg  dd5 rfl (fun gs K hgs hK => ?_); replace hgs : Nat.succ 0 = 1 := rfl) | refine AWp.seq ?_ | refine ARounds.step ?_ | refine AWp.block ?_ | refine AWp.label ?_ | (refine AWp.ret ?_; try simp only [aThen, aBlock]) | (refine AWp.skip ?_; try simp only [aThen, aBlock]) | (refine AWp.exit ?_; try simp only [aThen, aBlock, Nat.reduceEqDiff, reduceIte]) | (refine AWp.reg  dd5 rfl (fun gs K hgs hK => ?_); replace hgs : Nat.succ 0 = 1 := rfl) | (refine AWp.cond rfl (fun h => ?_) (fun h => ?_) <;> (try simp only [decide_eq_true_eq, decide_eq_false_iff_not, beq_iff_eq, bne_iff_ne, ne_eq, Bool.not_eq_true', Bool.not_eq_false', beq_eq_false_iff_ne, Bool.true_eq_false, Bool.false_eq_true, Int.not_le, Int.not_lt, Bool.and_eq_true, Bool.and_eq_false_iff, Bool.or_eq_true, Bool.or_eq_false_iff, bne_eq_false_iff_eq, reduceCtorEq] at h) <;> (try first | contradiction | (exfalso; omega) | (exfalso; revert h; simp; done) | (exfalso; revert h; simp; omega)))))
          all_goals simp only [Out, outA, outL, resA, go_sem, simprocAttr]
          all_goals exact AVle.refl _
        | true =>
          rw [hfx, if_pos rfl] at hV
          rw [hfx] at hCo
          have hlow := hlow hfx
          obtain ⟨fl, hfl⟩ : ∃ b, formL (p.fl 0) = b := ⟨_, rfl⟩
          rw [hfl] at hFm hfr
          have hval : fl = false → p.val rc0 = -9223372036854775808 := fun h => by
            rcases hor with h1 | h1
            · have := hfr h1; rw [h] at this; cases this
            · exact hlow h1
          clear hvB hvI htr hab hor hlow hfr H hfl
          generalize fldR l = x at *
          generalize p.fl 0 = pl at *
          generalize p.val rc0 = v at *
          generalize ofN l = n at *
          generalize ofB l = b at *
          have hd1 : decide ((j : Int) < 0) = false := decide_eq_false (by omega)
          have hd2 : decide ((x.length : Int) ≤ (j : Int)) = false := decide_eq_false (by omega)
          unfold nodesV at *
          cases fl
          all_goals
            (try (have hval := hval rfl; subst hval))
            refine acall_of (n := 103) (rs := [.tmp 4]) Try.func5 rfl (by kernel_rfl) rfl rfl rfl ?_; simp only [argsE, Nat.reduceAdd]
            repeat (any_goals (first | (refine aops_cons (fun K' h' => ?_); simp only [go_sem, simprocAttr, hgs, Node.cells, aopG, beq_self_eq_true, hd1, hd2]; (try ((first | refine ⟨_, hGr, ?_⟩ | refine ⟨_, fun _ => hGr, ?_⟩ | refine ⟨_, hO6, ?_⟩ | refine ⟨_, fun _ => hO6, ?_⟩ | refine ⟨_, hF, ?_⟩ | refine ⟨_, fun _ => hF, ?_⟩ | refine ⟨_, hV, ?_⟩ | refine ⟨_, fun _ => hV, ?_⟩ | refine ⟨_, hC, ?_⟩ | refine ⟨_, fun _ => hC, ?_⟩ | refine ⟨_, hP, ?_⟩ | refine ⟨_, fun _ => hP, ?_⟩ | refine ⟨_, hCo, ?_⟩ | refine ⟨_, fun _ => hCo, ?_⟩ | refine ⟨_, hFm, ?_⟩ | refine ⟨_, fun _ => hFm, ?_⟩ | refine ⟨_, alive12_c, ?_⟩ | refine ⟨_, fun _ => alive12_c, ?_⟩); (try simp only [go_sem, simprocAttr, hgs, Node.cells, aopG, beq_self_eq_true, hd1, hd2]))); (try simp (disch := omega) only [wrap_id, getD_map_in, Int.toNat_natCast, Node.cells, aopG, beq_self_eq_true, hd1, hd2]); (repeat (refine And.intro (by (first | omega | (simp; done) | (simp; omega) | assumption)) ?_)); refine h' _ ?_; clear h' K') | (refine aops_nil (hK _ ?_); clear hK K hgs gs; try simp only [aThen, aBlock]) | ((first | refine AWp.sreg (id := 7) dd5 rfl (fun gs K hgs hK => ?_) | refine AWp.reg (id := 7) dd5 rfl (fun gs K hgs hK => ?_)); replace hgs : gs 2 = some 36 ∧ gs 7 = some 41 ∧ gs 11 = some 45 := ⟨hgs 2, hgs 7, hgs 11⟩) | ((first | refine AWp.sreg (id := 8) dd5 rfl (fun gs K hgs hK => ?_) | refine AWp.reg (id := 8) dd5 rfl (fun gs K hgs hK => ?_)); replace hgs : gs 2 = some 53 ∧ gs 7 = some 58 := ⟨hgs 2, hgs 7⟩) | ((first | refine AWp.sreg (id := 11) dd5 rfl (fun gs K hgs hK => ?_) | refine AWp.reg (id := 11) dd5 rfl (fun gs K hgs hK => ?_)); replace hgs : gs 2 = some 74 := hgs 2) | ((first | refine AWp.sreg (id := 13) dd5 rfl (fun gs K hgs hK => ?_) | refine AWp.reg (id := 13) dd5 rfl (fun gs K hgs hK => ?_)); replace hgs : gs 2 = some 80 := hgs 2) | ((first | refine AWp.sreg (id := 16) dd5 rfl (fun gs K hgs hK => ?_) | refine AWp.reg (id := 16) dd5 rfl (fun gs K hgs hK => ?_)); replace hgs : gs 2 = some 93 ∧ gs 5 = some 96 ∧ gs 9 = some 100 := ⟨hgs 2, hgs 5, hgs 9⟩) | (refine AWp.sreg  dd5 rfl (fun gs K hgs hK => ?_); replace hgs : Nat.succ 0 = 1 := rfl) | refine AWp.seq ?_ | refine ARounds.step ?_ | refine AWp.block ?_ | refine AWp.label ?_ | (refine AWp.ret ?_; try simp only [aThen, aBlock]) | (refine AWp.skip ?_; try simp only [aThen, aBlock]) | (refine AWp.exit ?_; try simp only [aThen, aBlock, Nat.reduceEqDiff, reduceIte]) | (refine AWp.reg  dd5 rfl (fun gs K hgs hK => ?_); replace hgs : Nat.succ 0 = 1 := rfl) | (refine AWp.cond rfl (fun h => ?_) (fun h => ?_) <;> (try simp only [decide_eq_true_eq, decide_eq_false_iff_not, beq_iff_eq, bne_iff_ne, ne_eq, Bool.not_eq_true', Bool.not_eq_false', beq_eq_false_iff_ne, Bool.true_eq_false, Bool.false_eq_true, Int.not_le, Int.not_lt, Bool.and_eq_true, Bool.and_eq_false_iff, Bool.or_eq_true, Bool.or_eq_false_iff, bne_eq_false_iff_eq, reduceCtorEq] at h) <;> (try first | contradiction | (exfalso; omega) | (exfalso; revert h; simp; done) | (exfalso; revert h; simp; omega)))))
            all_goals simp only [Out, outA, outL, resA, go_sem, simprocAttr]
            all_goals exact AVle.of_eq (by simp)
      · clear H hn
        generalize fldR l = x at *
        generalize ofN l = n at *
        generalize ofB l = b at *
        unfold nodesV at *
        by_cases h1 : i < 0
        · have hd1 : decide (i < 0) = true := decide_eq_true h1
          refine acall_of (n := 103) (rs := [.tmp 4]) Try.func5 rfl (by kernel_rfl) rfl rfl rfl ?_; simp only [argsE, Nat.reduceAdd]
          repeat (any_goals (first | (refine aops_cons (fun K' h' => ?_); simp only [go_sem, simprocAttr, hgs, Node.cells, aopG, beq_self_eq_true, hd1]; (try ((first | refine ⟨_, hGr, ?_⟩ | refine ⟨_, fun _ => hGr, ?_⟩ | refine ⟨_, hO6, ?_⟩ | refine ⟨_, fun _ => hO6, ?_⟩ | refine ⟨_, hF, ?_⟩ | refine ⟨_, fun _ => hF, ?_⟩ | refine ⟨_, hV, ?_⟩ | refine ⟨_, fun _ => hV, ?_⟩ | refine ⟨_, hC, ?_⟩ | refine ⟨_, fun _ => hC, ?_⟩ | refine ⟨_, hP, ?_⟩ | refine ⟨_, fun _ => hP, ?_⟩ | refine ⟨_, hCo, ?_⟩ | refine ⟨_, fun _ => hCo, ?_⟩ | refine ⟨_, hFm, ?_⟩ | refine ⟨_, fun _ => hFm, ?_⟩ | refine ⟨_, alive12_c, ?_⟩ | refine ⟨_, fun _ => alive12_c, ?_⟩); (try simp only [go_sem, simprocAttr, hgs, Node.cells, aopG, beq_self_eq_true, hd1]))); (try simp (disch := omega) only [wrap_id, getD_map_in, Int.toNat_natCast, Node.cells, aopG, beq_self_eq_true, hd1]); (repeat (refine And.intro (by (first | omega | (simp; done) | (simp; omega) | assumption)) ?_)); refine h' _ ?_; clear h' K') | (refine aops_nil (hK _ ?_); clear hK K hgs gs; try simp only [aThen, aBlock]) | ((first | refine AWp.sreg (id := 7) dd5 rfl (fun gs K hgs hK => ?_) | refine AWp.reg (id := 7) dd5 rfl (fun gs K hgs hK => ?_)); replace hgs : gs 2 = some 36 ∧ gs 7 = some 41 ∧ gs 11 = some 45 := ⟨hgs 2, hgs 7, hgs 11⟩) | ((first | refine AWp.sreg (id := 8) dd5 rfl (fun gs K hgs hK => ?_) | refine AWp.reg (id := 8) dd5 rfl (fun gs K hgs hK => ?_)); replace hgs : gs 2 = some 53 ∧ gs 7 = some 58 := ⟨hgs 2, hgs 7⟩) | ((first | refine AWp.sreg (id := 11) dd5 rfl (fun gs K hgs hK => ?_) | refine AWp.reg (id := 11) dd5 rfl (fun gs K hgs hK => ?_)); replace hgs : gs 2 = some 74 := hgs 2) | ((first | refine AWp.sreg (id := 13) dd5 rfl (fun gs K hgs hK => ?_) | refine AWp.reg (id := 13) dd5 rfl (fun gs K hgs hK => ?_)); replace hgs : gs 2 = some 80 := hgs 2) | ((first | refine AWp.sreg (id := 16) dd5 rfl (fun gs K hgs hK => ?_) | refine AWp.reg (id := 16) dd5 rfl (fun gs K hgs hK => ?_)); replace hgs : gs 2 = some 93 ∧ gs 5 = some 96 ∧ gs 9 = some 100 := ⟨hgs 2, hgs 5, hgs 9⟩) | (refine AWp.sreg  dd5 rfl (fun gs K hgs hK => ?_); replace hgs : Nat.succ 0 = 1 := rfl) | refine AWp.seq ?_ | refine ARounds.step ?_ | refine AWp.block ?_ | refine AWp.label ?_ | (refine AWp.ret ?_; try simp only [aThen, aBlock]) | (refine AWp.skip ?_; try simp only [aThen, aBlock]) | (refine AWp.exit ?_; try simp only [aThen, aBlock, Nat.reduceEqDiff, reduceIte]) | (refine AWp.reg  dd5 rfl (fun gs K hgs hK => ?_); replace hgs : Nat.succ 0 = 1 := rfl) | (refine AWp.cond rfl (fun h => ?_) (fun h => ?_) <;> (try simp only [decide_eq_true_eq, decide_eq_false_iff_not, beq_iff_eq, bne_iff_ne, ne_eq, Bool.not_eq_true', Bool.not_eq_false', beq_eq_false_iff_ne, Bool.true_eq_false, Bool.false_eq_true, Int.not_le, Int.not_lt, Bool.and_eq_true, Bool.and_eq_false_iff, Bool.or_eq_true, Bool.or_eq_false_iff, bne_eq_false_iff_eq, reduceCtorEq] at h) <;> (try first | contradiction | (exfalso; omega) | (exfalso; revert h; simp; done) | (exfalso; revert h; simp; omega)))))
          all_goals simp only [Out, outA, outL, resA, go_sem, simprocAttr]
          all_goals exact AVle.refl _
        · have hd1 : decide (i < 0) = false := decide_eq_false h1
          have hd2 : decide ((x.length : Int) ≤ i) = true := decide_eq_true (by omega)
          refine acall_of (n := 103) (rs := [.tmp 4]) Try.func5 rfl (by kernel_rfl) rfl rfl rfl ?_; simp only [argsE, Nat.reduceAdd]
          repeat (any_goals (first | (refine aops_cons (fun K' h' => ?_); simp only [go_sem, simprocAttr, hgs, Node.cells, aopG, beq_self_eq_true, hd1, hd2]; (try ((first | refine ⟨_, hGr, ?_⟩ | refine ⟨_, fun _ => hGr, ?_⟩ | refine ⟨_, hO6, ?_⟩ | refine ⟨_, fun _ => hO6, ?_⟩ | refine ⟨_, hF, ?_⟩ | refine ⟨_, fun _ => hF, ?_⟩ | refine ⟨_, hV, ?_⟩ | refine ⟨_, fun _ => hV, ?_⟩ | refine ⟨_, hC, ?_⟩ | refine ⟨_, fun _ => hC, ?_⟩ | refine ⟨_, hP, ?_⟩ | refine ⟨_, fun _ => hP, ?_⟩ | refine ⟨_, hCo, ?_⟩ | refine ⟨_, fun _ => hCo, ?_⟩ | refine ⟨_, hFm, ?_⟩ | refine ⟨_, fun _ => hFm, ?_⟩ | refine ⟨_, alive12_c, ?_⟩ | refine ⟨_, fun _ => alive12_c, ?_⟩); (try simp only [go_sem, simprocAttr, hgs, Node.cells, aopG, beq_self_eq_true, hd1, hd2]))); (try simp (disch := omega) only [wrap_id, getD_map_in, Int.toNat_natCast, Node.cells, aopG, beq_self_eq_true, hd1, hd2]); (repeat (refine And.intro (by (first | omega | (simp; done) | (simp; omega) | assumption)) ?_)); refine h' _ ?_; clear h' K') | (refine aops_nil (hK _ ?_); clear hK K hgs gs; try simp only [aThen, aBlock]) | ((first | refine AWp.sreg (id := 7) dd5 rfl (fun gs K hgs hK => ?_) | refine AWp.reg (id := 7) dd5 rfl (fun gs K hgs hK => ?_)); replace hgs : gs 2 = some 36 ∧ gs 7 = some 41 ∧ gs 11 = some 45 := ⟨hgs 2, hgs 7, hgs 11⟩) | ((first | refine AWp.sreg (id := 8) dd5 rfl (fun gs K hgs hK => ?_) | refine AWp.reg (id := 8) dd5 rfl (fun gs K hgs hK => ?_)); replace hgs : gs 2 = some 53 ∧ gs 7 = some 58 := ⟨hgs 2, hgs 7⟩) | ((first | refine AWp.sreg (id := 11) dd5 rfl (fun gs K hgs hK => ?_) | refine AWp.reg (id := 11) dd5 rfl (fun gs K hgs hK => ?_)); replace hgs : gs 2 = some 74 := hgs 2) | ((first | refine AWp.sreg (id := 13) dd5 rfl (fun gs K hgs hK => ?_) | refine AWp.reg (id := 13) dd5 rfl (fun gs K hgs hK => ?_)); replace hgs : gs 2 = some 80 := hgs 2) | ((first | refine AWp.sreg (id := 16) dd5 rfl (fun gs K hgs hK => ?_) | refine AWp.reg (id := 16) dd5 rfl (fun gs K hgs hK => ?_)); replace hgs : gs 2 = some 93 ∧ gs 5 = some 96 ∧ gs 9 = some 100 := ⟨hgs 2, hgs 5, hgs 9⟩) | (refine AWp.sreg  dd5 rfl (fun gs K hgs hK => ?_); replace hgs : Nat.succ 0 = 1 := rfl) | refine AWp.seq ?_ | refine ARounds.step ?_ | refine AWp.block ?_ | refine AWp.label ?_ | (refine AWp.ret ?_; try simp only [aThen, aBlock]) | (refine AWp.skip ?_; try simp only [aThen, aBlock]) | (refine AWp.exit ?_; try simp only [aThen, aBlock, Nat.reduceEqDiff, reduceIte]) | (refine AWp.reg  dd5 rfl (fun gs K hgs hK => ?_); replace hgs : Nat.succ 0 = 1 := rfl) | (refine AWp.cond rfl (fun h => ?_) (fun h => ?_) <;> (try simp only [decide_eq_true_eq, decide_eq_false_iff_not, beq_iff_eq, bne_iff_ne, ne_eq, Bool.not_eq_true', Bool.not_eq_false', beq_eq_false_iff_ne, Bool.true_eq_false, Bool.false_eq_true, Int.not_le, Int.not_lt, Bool.and_eq_true, Bool.and_eq_false_iff, Bool.or_eq_true, Bool.or_eq_false_iff, bne_eq_false_iff_eq, reduceCtorEq] at h) <;> (try first | contradiction | (exfalso; omega) | (exfalso; revert h; simp; done) | (exfalso; revert h; simp; omega)))))
          all_goals simp only [Out, outA, outL, resA, go_sem, simprocAttr]
          all_goals exact AVle.refl _
    · clear hn
      generalize ofE l = oe at *
      generalize ofB l = b at *
      generalize ofN l = n at *
      unfold nodesV at *
      refine acall_of (n := 103) (rs := [.tmp 4]) Try.func5 rfl (by kernel_rfl) rfl rfl rfl ?_; simp only [argsE, Nat.reduceAdd]
      repeat (any_goals (first | (refine aops_cons (fun K' h' => ?_); simp only [go_sem, simprocAttr, hgs, Node.cells, aopG, beq_self_eq_true]; (try ((first | refine ⟨_, hGr, ?_⟩ | refine ⟨_, fun _ => hGr, ?_⟩ | refine ⟨_, hO6, ?_⟩ | refine ⟨_, fun _ => hO6, ?_⟩ | refine ⟨_, hF, ?_⟩ | refine ⟨_, fun _ => hF, ?_⟩ | refine ⟨_, hV, ?_⟩ | refine ⟨_, fun _ => hV, ?_⟩ | refine ⟨_, hC, ?_⟩ | refine ⟨_, fun _ => hC, ?_⟩ | refine ⟨_, hP, ?_⟩ | refine ⟨_, fun _ => hP, ?_⟩ | refine ⟨_, hCo, ?_⟩ | refine ⟨_, fun _ => hCo, ?_⟩ | refine ⟨_, hFm, ?_⟩ | refine ⟨_, fun _ => hFm, ?_⟩ | refine ⟨_, alive12_c, ?_⟩ | refine ⟨_, fun _ => alive12_c, ?_⟩); (try simp only [go_sem, simprocAttr, hgs, Node.cells, aopG, beq_self_eq_true]))); (try simp (disch := omega) only [wrap_id, getD_map_in, Int.toNat_natCast, Node.cells, aopG, beq_self_eq_true]); (repeat (refine And.intro (by (first | omega | (simp; done) | (simp; omega) | assumption)) ?_)); refine h' _ ?_; clear h' K') | (refine aops_nil (hK _ ?_); clear hK K hgs gs; try simp only [aThen, aBlock]) | ((first | refine AWp.sreg (id := 7) dd5 rfl (fun gs K hgs hK => ?_) | refine AWp.reg (id := 7) dd5 rfl (fun gs K hgs hK => ?_)); replace hgs : gs 2 = some 36 ∧ gs 7 = some 41 ∧ gs 11 = some 45 := ⟨hgs 2, hgs 7, hgs 11⟩) | ((first | refine AWp.sreg (id := 8) dd5 rfl (fun gs K hgs hK => ?_) | refine AWp.reg (id := 8) dd5 rfl (fun gs K hgs hK => ?_)); replace hgs : gs 2 = some 53 ∧ gs 7 = some 58 := ⟨hgs 2, hgs 7⟩) | ((first | refine AWp.sreg (id := 11) dd5 rfl (fun gs K hgs hK => ?_) | refine AWp.reg (id := 11) dd5 rfl (fun gs K hgs hK => ?_)); replace hgs : gs 2 = some 74 := hgs 2) | ((first | refine AWp.sreg (id := 13) dd5 rfl (fun gs K hgs hK => ?_) | refine AWp.reg (id := 13) dd5 rfl (fun gs K hgs hK => ?_)); replace hgs : gs 2 = some 80 := hgs 2) | ((first | refine AWp.sreg (id := 16) dd5 rfl (fun gs K hgs hK => ?_) | refine AWp.reg (id := 16) dd5 rfl (fun gs K hgs hK => ?_)); replace hgs : gs 2 = some 93 ∧ gs 5 = some 96 ∧ gs 9 = some 100 := ⟨hgs 2, hgs 5, hgs 9⟩) | (refine AWp.sreg  dd5 rfl (fun gs K hgs hK => ?_); replace hgs : Nat.succ 0 = 1 := rfl) | refine AWp.seq ?_ | refine ARounds.step ?_ | refine AWp.block ?_ | refine AWp.label ?_ | (refine AWp.ret ?_; try simp only [aThen, aBlock]) | (refine AWp.skip ?_; try simp only [aThen, aBlock]) | (refine AWp.exit ?_; try simp only [aThen, aBlock, Nat.reduceEqDiff, reduceIte]) | (refine AWp.reg  dd5 rfl (fun gs K hgs hK => ?_); replace hgs : Nat.succ 0 = 1 := rfl) | (refine AWp.cond rfl (fun h => ?_) (fun h => ?_) <;> (try simp only [decide_eq_true_eq, decide_eq_false_iff_not, beq_iff_eq, bne_iff_ne, ne_eq, Bool.not_eq_true', Bool.not_eq_false', beq_eq_false_iff_ne, Bool.true_eq_false, Bool.false_eq_true, Int.not_le, Int.not_lt, Bool.and_eq_true, Bool.and_eq_false_iff, Bool.or_eq_true, Bool.or_eq_false_iff, bne_eq_false_iff_eq, reduceCtorEq] at h) <;> (try first | contradiction | (exfalso; omega) | (exfalso; revert h; simp; done) | (exfalso; revert h; simp; omega)))))
      all_goals simp only [Out, outA, outL, resA, go_sem, simprocAttr]
      all_goals exact AVle.refl _
  · rw [decide_eq_true (by omega)] at hGr
    clear hn
    unfold nodesV at *
    refine acall_of (n := 103) (rs := [.tmp 4]) Try.func5 rfl (by kernel_rfl) rfl rfl rfl ?_; simp only [argsE, Nat.reduceAdd]
    repeat (any_goals (first | (refine aops_cons (fun K' h' => ?_); simp only [go_sem, simprocAttr, hgs, Node.cells, aopG, beq_self_eq_true]; (try ((first | refine ⟨_, hGr, ?_⟩ | refine ⟨_, fun _ => hGr, ?_⟩ | refine ⟨_, hO6, ?_⟩ | refine ⟨_, fun _ => hO6, ?_⟩ | refine ⟨_, hF, ?_⟩ | refine ⟨_, fun _ => hF, ?_⟩ | refine ⟨_, hV, ?_⟩ | refine ⟨_, fun _ => hV, ?_⟩ | refine ⟨_, hC, ?_⟩ | refine ⟨_, fun _ => hC, ?_⟩ | refine ⟨_, hP, ?_⟩ | refine ⟨_, fun _ => hP, ?_⟩ | refine ⟨_, hCo, ?_⟩ | refine ⟨_, fun _ => hCo, ?_⟩ | refine ⟨_, hFm, ?_⟩ | refine ⟨_, fun _ => hFm, ?_⟩ | refine ⟨_, alive12_c, ?_⟩ | refine ⟨_, fun _ => alive12_c, ?_⟩); (try simp only [go_sem, simprocAttr, hgs, Node.cells, aopG, beq_self_eq_true]))); (try simp (disch := omega) only [wrap_id, getD_map_in, Int.toNat_natCast, Node.cells, aopG, beq_self_eq_true]); (repeat (refine And.intro (by (first | omega | (simp; done) | (simp; omega) | assumption)) ?_)); refine h' _ ?_; clear h' K') | (refine aops_nil (hK _ ?_); clear hK K hgs gs; try simp only [aThen, aBlock]) | ((first | refine AWp.sreg (id := 7) dd5 rfl (fun gs K hgs hK => ?_) | refine AWp.reg (id := 7) dd5 rfl (fun gs K hgs hK => ?_)); replace hgs : gs 2 = some 36 ∧ gs 7 = some 41 ∧ gs 11 = some 45 := ⟨hgs 2, hgs 7, hgs 11⟩) | ((first | refine AWp.sreg (id := 8) dd5 rfl (fun gs K hgs hK => ?_) | refine AWp.reg (id := 8) dd5 rfl (fun gs K hgs hK => ?_)); replace hgs : gs 2 = some 53 ∧ gs 7 = some 58 := ⟨hgs 2, hgs 7⟩) | ((first | refine AWp.sreg (id := 11) dd5 rfl (fun gs K hgs hK => ?_) | refine AWp.reg (id := 11) dd5 rfl (fun gs K hgs hK => ?_)); replace hgs : gs 2 = some 74 := hgs 2) | ((first | refine AWp.sreg (id := 13) dd5 rfl (fun gs K hgs hK => ?_) | refine AWp.reg (id := 13) dd5 rfl (fun gs K hgs hK => ?_)); replace hgs : gs 2 = some 80 := hgs 2) | ((first | refine AWp.sreg (id := 16) dd5 rfl (fun gs K hgs hK => ?_) | refine AWp.reg (id := 16) dd5 rfl (fun gs K hgs hK => ?_)); replace hgs : gs 2 = some 93 ∧ gs 5 = some 96 ∧ gs 9 = some 100 := ⟨hgs 2, hgs 5, hgs 9⟩) | (refine AWp.sreg  dd5 rfl (fun gs K hgs hK => ?_); replace hgs : Nat.succ 0 = 1 := rfl) | refine AWp.seq ?_ | refine ARounds.step ?_ | refine AWp.block ?_ | refine AWp.label ?_ | (refine AWp.ret ?_; try simp only [aThen, aBlock]) | (refine AWp.skip ?_; try simp only [aThen, aBlock]) | (refine AWp.exit ?_; try simp only [aThen, aBlock, Nat.reduceEqDiff, reduceIte]) | (refine AWp.reg  dd5 rfl (fun gs K hgs hK => ?_); replace hgs : Nat.succ 0 = 1 := rfl) | (refine AWp.cond rfl (fun h => ?_) (fun h => ?_) <;> (try simp only [decide_eq_true_eq, decide_eq_false_iff_not, beq_iff_eq, bne_iff_ne, ne_eq, Bool.not_eq_true', Bool.not_eq_false', beq_eq_false_iff_ne, Bool.true_eq_false, Bool.false_eq_true, Int.not_le, Int.not_lt, Bool.and_eq_true, Bool.and_eq_false_iff, Bool.or_eq_true, Bool.or_eq_false_iff, bne_eq_false_iff_eq, reduceCtorEq] at h) <;> (try first | contradiction | (exfalso; omega) | (exfalso; revert h; simp; done) | (exfalso; revert h; simp; omega)))))
    all_goals simp only [Out, outA, outL, resA, go_sem, simprocAttr]
    all_goals exact AVle.refl _
theorem fdforms_all : ∀ xs, ShpAs Try.prog 8 Try.f5.params.toList xs → ACall Try.prog 5 xs (.lit (.bool true)) := by
  intro xs h
  have hp : Try.f5.params.toList = [22, 3] := by kernel_rfl
  rw [hp] at h
  obtain ⟨a, r, rfl, ha, h⟩ := h
  obtain ⟨b, r, rfl, hb, h⟩ := h
  obtain rfl : r = [] := h
  obtain ⟨l, rfl, hl, hn⟩ := nodesB_shape ha
  obtain ⟨i, e, hw⟩ := shp_in (k := .i64) (by kernel_rfl) (shpA_one (by kernel_rfl) hb)
  obtain rfl : b = .lit (.int .i64 i) := by simpa using e
  exact fdforms_law l i hl hn
end Go.Proofs.Yteohklfoggiojaa
