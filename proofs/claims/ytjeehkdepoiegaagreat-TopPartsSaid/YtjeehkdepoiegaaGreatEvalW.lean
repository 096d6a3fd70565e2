/-
  The walks over values: of the program and of the reference.
-/
import Derived.Test.YtjeehkdepoiegaaGreatDoW
import Derived.Test.YtjeehkdepoiegaaGreatKindX
namespace Go.Proofs.YtjeehkdepoiegaaGreat
open Go.AL Go.RowKit
set_option linter.unusedSimpArgs false
set_option linter.unusedVariables false
set_option maxRecDepth 10000
set_option maxHeartbeats 4000000
noncomputable def valR (r : Rcd) (l : List Node) : List Int := if ofE l = 0 then valsL r l else []
noncomputable def ofV (r : Rcd) (l : List Node) : Int := if ofE l = 0 then valAt r l (l.length - 1) else 0
theorem ofE_ex {l : List Node} (h : ofE l = 0) : ∃ e, IsEx l e ∧ l.length = e.sz ∧ 0 < l.length := by
  obtain ⟨h0, _⟩ := ofE_0 h
  obtain ⟨e, _, hx, _, _⟩ := errL_ok h0
  exact ⟨e, hx, hx.len, by rw [hx.len]; exact e.sz_pos⟩
def nodesB (l : List Node) : Prop := ∀ x ∈ l, i64B x.n
def dd77 : Nat → List (List Nat)
  | 0 => [[], [2]]
  | 1 => [[], [0], [7], [8], [], [], [6], [3, 9], [4, 10], [11]]
  | 2 => [[], [5], [12]]
  | _ => []
theorem eCheck_c (l : List Node) (hl : l.length ≤ 1000) : ACall Tryz.prog 77 [nodesV l] (.lit (.int .i64 (ofE l))) := by
  have hO := kOf_c l hl
  generalize ofE l = e at *
  generalize ofN l = n at *
  generalize ofB l = b at *
  unfold nodesV at *
  refine acall_of (n := 13) (rs := [.tmp 2]) Tryz.func77 rfl (by kernel_rfl) rfl rfl rfl ?_; simp only [argsE, Nat.reduceAdd]
  repeat (any_goals (first | (refine aops_cons (fun K' h' => ?_); simp only [go_sem, Nat.reduceLT, Nat.reduceLeDiff, Nat.reduceEqDiff, reduceIte, Nat.reduceAdd, Nat.reduceMul, Nat.reduceSub, Int.reduceLT, Int.reduceLE, Int.reduceToNat, Int.reduceNeg, reduceCtorEq, Node.cells, intC, List.length_map]; (try ((refine ⟨_, hO, ?_⟩); (try simp only [go_sem, Nat.reduceLT, Nat.reduceLeDiff, Nat.reduceEqDiff, reduceIte, Nat.reduceAdd, Nat.reduceMul, Nat.reduceSub, Int.reduceLT, Int.reduceLE, Int.reduceToNat, Int.reduceNeg, reduceCtorEq, Node.cells, intC, List.length_map]))); (try simp (disch := omega) only [wrap_id, getD_map_in, Int.toNat_natCast, Node.cells, intC, List.length_map]); (repeat (refine And.intro (by (omega)) ?_)); refine h' _ ?_; clear h' K') | (refine aops_nil (hK _ ?_); clear hK K gs; try simp only [aThen, aBlock]) | (refine AWp.sreg  dd77 rfl (fun gs K hgs hK => ?_); clear hgs) | (refine AWp.ret ?_; try simp only [aThen, aBlock])))
  simp only [Out, outA, outL, resA, go_sem, Nat.reduceLT, Nat.reduceLeDiff, Nat.reduceEqDiff, reduceIte, Nat.reduceAdd, Nat.reduceMul, Nat.reduceSub, Int.reduceLT, Int.reduceLE, Int.reduceToNat, Int.reduceNeg, reduceCtorEq]
  exact AVle.refl _
def padL (r : Rcd) (l : List Node) (k : Nat) : List Int := valsL r (l.take k) ++ List.replicate (l.length - k) 0
theorem padL_len {r : Rcd} {l : List Node} {k : Nat} (h : k ≤ l.length) : (padL r l k).length = l.length := by
  unfold padL; rw [List.length_append, valsL_length]; simp; omega
theorem padL_0 (r : Rcd) (l : List Node) : padL r l 0 = List.replicate l.length 0 := by simp [padL, valsL]
theorem padL_all (r : Rcd) (l : List Node) : padL r l l.length = valsL r l := by simp [padL]
theorem padL_get {r : Rcd} {l : List Node} {k j : Nat} (hk : k ≤ l.length) (hj : j < k) : (padL r l k).getD j default = valAt r l j := by
  rw [← valAt_take hk hj]
  unfold padL
  simp only [List.getD_eq_getElem?_getD]
  rw [List.getElem?_append_left (by rw [valsL_length]; simp; omega)]
theorem padL_set {r : Rcd} {l : List Node} {k : Nat} (hk : k < l.length) : (padL r l k).set k (valAt r l k) = padL r l (k + 1) := by
  unfold padL
  rw [valsL_next hk, ← valAt_node hk]
  have hl : (valsL r (l.take k)).length = k := by rw [valsL_length]; simp; omega
  rw [List.set_append_right _ _ (by omega), hl, Nat.sub_self]
  obtain ⟨m, hm⟩ : ∃ m, l.length - k = m + 1 := ⟨l.length - k - 1, by omega⟩
  rw [hm, show l.length - (k + 1) = m by omega]
  simp [List.replicate_succ]
def dd68 : Nat → List (List Nat)
  | 0 => [[], [1], [4], [5]]
  | 1 => [[], [], [13], [14]]
  | 2 => [[], [], [15]]
  | 3 => [[0, 3, 16], [6], [], [17]]
  | 4 => [[6, 16], [], [18], [], [20], [3], [22], [19, 21, 23], [], [24]]
  | 5 => [[], [], [25], [26], [27]]
  | 6 => [[], [0], [], []]
  | 7 => [[], []]
  | 8 => [[31], [], [], [33], [], [32], [34]]
  | 10 => [[], [], [51]]
  | 11 => [[7, 8, 9, 11, 28, 29, 30, 52], [12], [], [53]]
  | 12 => [[12, 52], [], [9], [11], [54, 55], [56, 57]]
  | 13 => [[], [], [59], [60], [61]]
  | 14 => [[58], [], [9], [10], [64], [62, 63], [65, 66]]
  | 15 => [[58], [], [68], [69], [70]]
  | 16 => [[67], [], [9], [10], [73], [74], [75], [71, 72], [76, 77]]
  | 17 => [[], [30], [78]]
  | 18 => [[7, 28, 29, 30, 31], [8], [79], []]
  | _ => []
def fo68 : Nat → List Nat
  | 9 => [7, 8, 9, 11, 12, 28, 29, 30]
  | _ => []
theorem eAll_c (l : List Node) (r : Rcd) (hl : l.length ≤ 1000) (hr : r.B) (hn : nodesB l) : ACall Tryz.prog 68 [nodesV l, .agg r.cells] (.tup [.ro 1 ((valR r l).map intC), .lit (.int .i64 (ofE l))]) := by
  have hC := eCheck_c l hl
  by_cases h0 : ofE l = 0
  · obtain ⟨e, hx, hlen, hp⟩ := ofE_ex h0
    have hR : valR r l = valsL r l := if_pos h0
    rw [hR, h0]
    rw [h0] at hC
    clear hR
    have hB := valAt_B (l := l) hr hn
    have hp0 := padL_0 r l
    have hpa := padL_all r l
    obtain ⟨hr1, hr2, hr3⟩ := hr
    unfold nodesV at *
    have hrc : r.cells = [.lit (.int .i64 r.key), .lit (.int .i64 r.t), .lit (.int .i64 r.v)] := rfl
    rw [hrc]
    clear hrc
    refine acall_of (n := 80) (rs := [.tmp 4, .tmp 5]) Tryz.func68 rfl (by kernel_rfl) rfl rfl rfl ?_; simp only [argsE, Nat.reduceAdd]
    repeat (any_goals (first | ((refine aops_cons (fun K' h' => ?_)); simp only [go_sem, Nat.reduceLT, Nat.reduceLeDiff, Nat.reduceEqDiff, reduceIte, Nat.reduceAdd, Nat.reduceMul, Nat.reduceSub, Int.reduceLT, Int.reduceLE, Int.reduceToNat, Int.reduceNeg, reduceCtorEq, Node.cells, intC, List.length_map]; (try ((refine ⟨_, hC, ?_⟩); (try simp only [go_sem, Nat.reduceLT, Nat.reduceLeDiff, Nat.reduceEqDiff, reduceIte, Nat.reduceAdd, Nat.reduceMul, Nat.reduceSub, Int.reduceLT, Int.reduceLE, Int.reduceToNat, Int.reduceNeg, reduceCtorEq, Node.cells, intC, List.length_map]))); (try simp (disch := omega) only [wrap_id, getD_map_in, Int.toNat_natCast, Node.cells, intC, List.length_map]); (repeat (refine And.intro (by (omega)) ?_)); refine h' _ ?_; clear h' K') | (refine aops_nil (hK _ ?_); clear hK K gs; try simp only [aThen, aBlock]) | (refine AWp.sreg  dd68 rfl (fun gs K hgs hK => ?_); clear hgs) | refine AWp.seq ?_ | refine AWp.block ?_ | (refine AWp.skip ?_; try simp only [aThen, aBlock]) | (refine AWp.cond rfl (fun h => ?_) (fun h => ?_) <;> (try simp only [decide_eq_true_eq, decide_eq_false_iff_not, beq_iff_eq, bne_iff_ne, ne_eq, Bool.not_eq_true', Bool.not_eq_false', beq_eq_false_iff_ne, Bool.true_eq_false, Bool.false_eq_true, Int.not_le, Int.not_lt, Bool.and_eq_true, Bool.and_eq_false_iff, Bool.or_eq_true, Bool.or_eq_false_iff, bne_eq_false_iff_eq, reduceCtorEq] at h) <;> (try first | contradiction))))
    refine AWp.loopN l.length (fun _ => True) (fun k => ⟨[(7, .bp 1 0), (8, .own 0 1 0 l.length), (28, .ro 5 (l.map Node.cells)), (29, .lit (.int .i64 (l.length : Int))), (30, .lit (.int .i64 (k : Int)))], [[.lit (.int .i64 r.key), .lit (.int .i64 r.t), .lit (.int .i64 r.v)], [.lit (.int .i64 0), .lit (.int .i64 0), .lit (.int .i64 r.key), .lit (.int .i64 r.t), .lit (.int .i64 r.v)]], [some ⟨2, 1, (padL r l k).map intC⟩]⟩) ?_ ?_
    · refine Wk.ofCut 2 1 rfl ?_ ?_
      · rw [hp0]; simp [ASt.drop, intC]
      · simp [subE, eget, ASt.drop, dropE, keepR, lowE, AV.lowB, lowL, Nat.blt, Nat.ble]
    · intro k hk _
      repeat ((first | ((refine aops_cons (fun K' h' => ?_)); simp only [go_sem, Nat.reduceLT, Nat.reduceLeDiff, Nat.reduceEqDiff, reduceIte, Nat.reduceAdd, Nat.reduceMul, Nat.reduceSub, Int.reduceLT, Int.reduceLE, Int.reduceToNat, Int.reduceNeg, reduceCtorEq, Node.cells, intC, List.length_map]; (try simp (disch := omega) only [wrap_id, getD_map_in, Int.toNat_natCast, Node.cells, intC, List.length_map]); (repeat (refine And.intro (by (omega)) ?_)); refine h' _ ?_; clear h' K') | (refine aops_nil (hK _ ?_); clear hK K gs; try simp only [aThen, aBlock]) | (refine AWp.sreg  dd68 rfl (fun gs K hgs hK => ?_); clear hgs) | refine AWp.seq ?_))
      (refine AWp.cond rfl (fun h => ?_) (fun h => ?_) <;> (try simp only [decide_eq_true_eq, decide_eq_false_iff_not, beq_iff_eq, bne_iff_ne, ne_eq, Bool.not_eq_true', Bool.not_eq_false', beq_eq_false_iff_ne, Bool.true_eq_false, Bool.false_eq_true, Int.not_le, Int.not_lt, Bool.and_eq_true, Bool.and_eq_false_iff, Bool.or_eq_true, Bool.or_eq_false_iff, bne_eq_false_iff_eq, reduceCtorEq] at h))
      · obtain ⟨y, hy⟩ : ∃ y, l.getD k default = y := ⟨_, rfl⟩
        have hkk : k < l.length := by omega
        obtain ⟨k1, k2, ha, hb, za, zb⟩ := hx.at hkk
        have hst := padL_set (r := r) hkk
        have hpl := padL_len (r := r) hk
        have hga := fun j (hj : j < k) => padL_get (r := r) hk hj
        have hlf := valAt_leaf (r := r) hkk
        have hbn := valAt_bin (r := r) hkk
        rw [hy] at k1 k2 ha hb za zb hlf hbn
        generalize padL r l k = pl at *
        generalize padL r l (k + 1) = pn at *
        obtain ⟨w, hw⟩ : ∃ w, valAt r l k = w := ⟨_, rfl⟩
        rw [hw] at hst hlf hbn
        obtain ⟨kd, nn, xa, xb, xp⟩ := y
        simp only at k1 k2 ha hb za zb hlf hbn
        have hst2 : (pl.map intC).set k (intC w) = pn.map intC := by rw [← hst, List.map_set]
        by_cases h4 : kd ≤ 4
        · have hlf := hlf h4
          unfold leafV at hlf
          have hcs : kd = 1 ∨ kd = 2 ∨ kd = 3 ∨ kd = 4 := by omega
          clear hga hbn ha hb
          rcases hcs with rfl | rfl | rfl | rfl
          all_goals
            simp only [Int.reduceEq, reduceIte] at hlf
            repeat (any_goals (first | ((refine aops_cons (fun K' h' => ?_)); simp only [go_sem, Nat.reduceLT, Nat.reduceLeDiff, Nat.reduceEqDiff, reduceIte, Nat.reduceAdd, Nat.reduceMul, Nat.reduceSub, Int.reduceLT, Int.reduceLE, Int.reduceToNat, Int.reduceNeg, reduceCtorEq, Node.cells, intC, List.length_map, hy]; (try simp (disch := omega) only [wrap_id, getD_map_in, Int.toNat_natCast, Node.cells, intC, List.length_map, hy]); (repeat (refine And.intro (by (omega)) ?_)); refine h' _ ?_; clear h' K') | (refine aops_nil (hK _ ?_); clear hK K gs; try simp only [aThen, aBlock]) | (refine AWp.sreg  dd68 rfl (fun gs K hgs hK => ?_); clear hgs) | refine AWp.seq ?_ | refine AWp.block ?_ | (refine AWp.skip ?_; try simp only [aThen, aBlock]) | (refine AWp.reg  dd68 rfl (fun gs K hgs hK => ?_); clear hgs) | (refine AWp.cond rfl (fun h => ?_) (fun h => ?_) <;> (try simp only [decide_eq_true_eq, decide_eq_false_iff_not, beq_iff_eq, bne_iff_ne, ne_eq, Bool.not_eq_true', Bool.not_eq_false', beq_eq_false_iff_ne, Bool.true_eq_false, Bool.false_eq_true, Int.not_le, Int.not_lt, Bool.and_eq_true, Bool.and_eq_false_iff, Bool.or_eq_true, Bool.or_eq_false_iff, bne_eq_false_iff_eq, reduceCtorEq] at h) <;> (try first | contradiction))))
            refine ⟨by omega, trivial, Wk.ofCut 2 1 rfl ?_ ?_⟩
            · subst hlf
              simpa [ASt.drop, splice, intC] using hst2
            · simp [subE, eget, ASt.drop, dropE, keepR, lowE, AV.lowB, lowL, Nat.blt, Nat.ble]
        · have hA := ha (by omega)
          have hB2 : 0 ≤ xb ∧ xb < k := by
            by_cases h6 : kd ≤ 6
            · have := zb h6; omega
            · have := hb (by omega); omega
          have hbn := hbn (by omega) (by omega) (by omega) (by omega) (by omega)
          have hg1 := hga xa.toNat (by omega)
          have hg2 := hga xb.toNat (by omega)
          have hD := do_c kd (valAt r l xa.toNat) (valAt r l xb.toNat) (hB _) (hB _) (by omega) (by omega)
          rw [← hbn] at hD
          clear hga
          generalize valAt r l xa.toNat = va at *
          generalize valAt r l xb.toNat = vb at *
          repeat (any_goals (first | ((first | refine aops_cons (fun K' h' => ?_) | refine aopsD_cons (fun K' h' => ?_)); simp only [go_sem, Nat.reduceLT, Nat.reduceLeDiff, Nat.reduceEqDiff, reduceIte, Nat.reduceAdd, Nat.reduceMul, Nat.reduceSub, Int.reduceLT, Int.reduceLE, Int.reduceToNat, Int.reduceNeg, reduceCtorEq, Node.cells, intC, List.length_map, hy, hg1, hg2, hpl]; (try ((refine ⟨_, hD, ?_⟩); (try simp only [go_sem, Nat.reduceLT, Nat.reduceLeDiff, Nat.reduceEqDiff, reduceIte, Nat.reduceAdd, Nat.reduceMul, Nat.reduceSub, Int.reduceLT, Int.reduceLE, Int.reduceToNat, Int.reduceNeg, reduceCtorEq, Node.cells, intC, List.length_map, hy, hg1, hg2, hpl]))); (try simp (disch := omega) only [wrap_id, getD_map_in, Int.toNat_natCast, Node.cells, intC, List.length_map, hy, hg1, hg2, hpl]); (repeat (refine And.intro (by (first | omega | (simp; done))) ?_)); refine h' _ ?_; clear h' K') | (refine aops_nil (hK _ ?_); clear hK K gs; try simp only [aThen, aBlock]) | (refine AWp.sreg  dd68 rfl (fun gs K hgs hK => ?_); clear hgs) | refine AWp.seq ?_ | refine AWp.block ?_ | (refine AWp.skip ?_; try simp only [aThen, aBlock]) | (refine AWp.reg  dd68 rfl (fun gs K hgs hK => ?_); clear hgs) | ((refine AWp.regD  fo68 mo_fact (by kernel_rfl) (fun gs K hgs hK => ?_)); clear hgs) | (refine aopsD_nil (hK _ ?_); clear hK K gs; simp only [fo68]; simp only [ASt.prune, pruneE, keepB, keepR, Bool.or_false, Bool.or_true, Bool.true_or, Bool.false_or, reduceIte, Bool.or_self, Bool.false_eq_true, aThen, aBlock, Nat.reduceEqDiff]) | (refine AWp.cond rfl (fun h => ?_) (fun h => ?_) <;> (try simp only [decide_eq_true_eq, decide_eq_false_iff_not, beq_iff_eq, bne_iff_ne, ne_eq, Bool.not_eq_true', Bool.not_eq_false', beq_eq_false_iff_ne, Bool.true_eq_false, Bool.false_eq_true, Int.not_le, Int.not_lt, Bool.and_eq_true, Bool.and_eq_false_iff, Bool.or_eq_true, Bool.or_eq_false_iff, bne_eq_false_iff_eq, reduceCtorEq] at h) <;> (try first | contradiction | (exfalso; omega)))))
          refine ⟨by omega, trivial, Wk.ofCut 2 1 rfl ?_ ?_⟩
          · simpa [ASt.drop, splice, intC] using hst2
          · simp [subE, eget, ASt.drop, dropE, keepR, lowE, AV.lowB, lowL, Nat.blt, Nat.ble]
      · obtain rfl : k = l.length := by omega
        rw [hpa]
        repeat (any_goals (first | ((refine aops_cons (fun K' h' => ?_)); simp only [go_sem, Nat.reduceLT, Nat.reduceLeDiff, Nat.reduceEqDiff, reduceIte, Nat.reduceAdd, Nat.reduceMul, Nat.reduceSub, Int.reduceLT, Int.reduceLE, Int.reduceToNat, Int.reduceNeg, reduceCtorEq, Node.cells, intC, List.length_map]; (try simp (disch := omega) only [wrap_id, getD_map_in, Int.toNat_natCast, Node.cells, intC, List.length_map]); (repeat (refine And.intro (by (omega)) ?_)); refine h' _ ?_; clear h' K') | (refine aops_nil (hK _ ?_); clear hK K gs; try simp only [aThen, aBlock]) | (refine AWp.sreg  dd68 rfl (fun gs K hgs hK => ?_); clear hgs) | (refine AWp.ret ?_; try simp only [aThen, aBlock]) | (refine AWp.exit ?_; try simp only [aThen, aBlock, Nat.reduceEqDiff, reduceIte])))
        simp only [Out, outA, outL, resA, go_sem, Nat.reduceLT, Nat.reduceLeDiff, Nat.reduceEqDiff, reduceIte, Nat.reduceAdd, Nat.reduceMul, Nat.reduceSub, Int.reduceLT, Int.reduceLE, Int.reduceToNat, Int.reduceNeg, reduceCtorEq]
        exact AVle.of_eq (by rw [List.take_of_length_le (by simp [valsL_length])])
  · have hR : valR r l = [] := if_neg h0
    rw [hR]
    have hrc : r.cells = [.lit (.int .i64 r.key), .lit (.int .i64 r.t), .lit (.int .i64 r.v)] := rfl
    rw [hrc]
    clear hrc hR
    unfold nodesV at *
    generalize ofE l = e at *
    refine acall_of (n := 80) (rs := [.tmp 4, .tmp 5]) Tryz.func68 rfl (by kernel_rfl) rfl rfl rfl ?_; simp only [argsE, Nat.reduceAdd]
    repeat (any_goals (first | ((refine aops_cons (fun K' h' => ?_)); simp only [go_sem, Nat.reduceLT, Nat.reduceLeDiff, Nat.reduceEqDiff, reduceIte, Nat.reduceAdd, Nat.reduceMul, Nat.reduceSub, Int.reduceLT, Int.reduceLE, Int.reduceToNat, Int.reduceNeg, reduceCtorEq, Node.cells, intC, List.length_map]; (try ((refine ⟨_, hC, ?_⟩); (try simp only [go_sem, Nat.reduceLT, Nat.reduceLeDiff, Nat.reduceEqDiff, reduceIte, Nat.reduceAdd, Nat.reduceMul, Nat.reduceSub, Int.reduceLT, Int.reduceLE, Int.reduceToNat, Int.reduceNeg, reduceCtorEq, Node.cells, intC, List.length_map]))); (try simp (disch := omega) only [wrap_id, getD_map_in, Int.toNat_natCast, Node.cells, intC, List.length_map]); (repeat (refine And.intro (by (omega)) ?_)); refine h' _ ?_; clear h' K') | (refine aops_nil (hK _ ?_); clear hK K gs; try simp only [aThen, aBlock]) | (refine AWp.sreg  dd68 rfl (fun gs K hgs hK => ?_); clear hgs) | refine AWp.seq ?_ | (refine AWp.ret ?_; try simp only [aThen, aBlock]) | (refine AWp.cond rfl (fun h => ?_) (fun h => ?_) <;> (try simp only [decide_eq_true_eq, decide_eq_false_iff_not, beq_iff_eq, bne_iff_ne, ne_eq, Bool.not_eq_true', Bool.not_eq_false', beq_eq_false_iff_ne, Bool.true_eq_false, Bool.false_eq_true, Int.not_le, Int.not_lt, Bool.and_eq_true, Bool.and_eq_false_iff, Bool.or_eq_true, Bool.or_eq_false_iff, bne_eq_false_iff_eq, reduceCtorEq] at h) <;> (try first | contradiction))))
    all_goals first
      | (exfalso; omega)
      | skip
    simp only [Out, outA, outL, resA, go_sem, Nat.reduceLT, Nat.reduceLeDiff, Nat.reduceEqDiff, reduceIte, Nat.reduceAdd, Nat.reduceMul, Nat.reduceSub, Int.reduceLT, Int.reduceLE, Int.reduceToNat, Int.reduceNeg, reduceCtorEq]
    exact AVle.tup ⟨AVle.nil 1, AVle.refl _, trivial⟩
theorem ofV_last {r : Rcd} {l : List Node} (h : ofE l = 0) : (valsL r l).getD ((l.length : Int) - 1).toNat default = ofV r l := by
  unfold ofV valAt
  rw [if_pos h, show ((l.length : Int) - 1).toNat = l.length - 1 by omega]
def dd55 : Nat → List (List Nat)
  | 0 => [[], [1], [4], [5]]
  | 1 => [[], [0], [3], [9, 10], [11], [], [8], [12], [13]]
  | 2 => [[], [], [14]]
  | 3 => [[6, 15], [7], [], [16]]
  | 4 => [[7, 15], [], [6], [18], [19], [17, 20], [21], [22], []]
  | _ => []
theorem eOf_c (l : List Node) (r : Rcd) (hl : l.length ≤ 1000) (hr : r.B) (hn : nodesB l) : ACall Tryz.prog 55 [nodesV l, .agg r.cells] (.tup [.lit (.int .i64 (ofV r l)), .lit (.int .i64 (ofE l))]) := by
  have hA := eAll_c l r hl hr hn
  have hrc : r.cells = [.lit (.int .i64 r.key), .lit (.int .i64 r.t), .lit (.int .i64 r.v)] := rfl
  rw [hrc] at hA ⊢
  clear hrc
  by_cases h0 : ofE l = 0
  · obtain ⟨e, hx, hlen, hp⟩ := ofE_ex h0
    have hR : valR r l = valsL r l := if_pos h0
    have hg := ofV_last (r := r) h0
    have hvl := valsL_length r l
    rw [hR, h0] at hA
    rw [h0]
    clear hR
    generalize valsL r l = vs at *
    generalize ofV r l = w at *
    unfold nodesV at *
    refine acall_of (n := 23) (rs := [.tmp 4, .tmp 5]) Tryz.func55 rfl (by kernel_rfl) rfl rfl rfl ?_; simp only [argsE, Nat.reduceAdd]
    repeat (any_goals (first | (refine aops_cons (fun K' h' => ?_); simp only [go_sem, Nat.reduceLT, Nat.reduceLeDiff, Nat.reduceEqDiff, reduceIte, Nat.reduceAdd, Nat.reduceMul, Nat.reduceSub, Int.reduceLT, Int.reduceLE, Int.reduceToNat, Int.reduceNeg, reduceCtorEq, Node.cells, intC, List.length_map, hg, hvl]; (try ((refine ⟨_, hA, ?_⟩); (try simp only [go_sem, Nat.reduceLT, Nat.reduceLeDiff, Nat.reduceEqDiff, reduceIte, Nat.reduceAdd, Nat.reduceMul, Nat.reduceSub, Int.reduceLT, Int.reduceLE, Int.reduceToNat, Int.reduceNeg, reduceCtorEq, Node.cells, intC, List.length_map, hg, hvl]))); (try simp (disch := omega) only [wrap_id, getD_map_in, Int.toNat_natCast, Node.cells, intC, List.length_map, hg, hvl]); (repeat (refine And.intro (by (omega)) ?_)); refine h' _ ?_; clear h' K') | (refine aops_nil (hK _ ?_); clear hK K gs; try simp only [aThen, aBlock]) | (refine AWp.sreg  dd55 rfl (fun gs K hgs hK => ?_); clear hgs) | refine AWp.seq ?_ | (refine AWp.ret ?_; try simp only [aThen, aBlock]) | (refine AWp.skip ?_; try simp only [aThen, aBlock]) | (refine AWp.cond rfl (fun h => ?_) (fun h => ?_) <;> (try simp only [decide_eq_true_eq, decide_eq_false_iff_not, beq_iff_eq, bne_iff_ne, ne_eq, Bool.not_eq_true', Bool.not_eq_false', beq_eq_false_iff_ne, Bool.true_eq_false, Bool.false_eq_true, Int.not_le, Int.not_lt, Bool.and_eq_true, Bool.and_eq_false_iff, Bool.or_eq_true, Bool.or_eq_false_iff, bne_eq_false_iff_eq, reduceCtorEq] at h) <;> (try first | contradiction))))
    simp only [Out, outA, outL, resA, go_sem, Nat.reduceLT, Nat.reduceLeDiff, Nat.reduceEqDiff, reduceIte, Nat.reduceAdd, Nat.reduceMul, Nat.reduceSub, Int.reduceLT, Int.reduceLE, Int.reduceToNat, Int.reduceNeg, reduceCtorEq]
    exact AVle.refl _
  · have hv : ofV r l = 0 := if_neg h0
    rw [hv]
    generalize valR r l = vs at *
    generalize ofE l = e at *
    unfold nodesV at *
    refine acall_of (n := 23) (rs := [.tmp 4, .tmp 5]) Tryz.func55 rfl (by kernel_rfl) rfl rfl rfl ?_; simp only [argsE, Nat.reduceAdd]
    repeat (any_goals (first | (refine aops_cons (fun K' h' => ?_); simp only [go_sem, Nat.reduceLT, Nat.reduceLeDiff, Nat.reduceEqDiff, reduceIte, Nat.reduceAdd, Nat.reduceMul, Nat.reduceSub, Int.reduceLT, Int.reduceLE, Int.reduceToNat, Int.reduceNeg, reduceCtorEq, Node.cells, intC, List.length_map]; (try ((refine ⟨_, hA, ?_⟩); (try simp only [go_sem, Nat.reduceLT, Nat.reduceLeDiff, Nat.reduceEqDiff, reduceIte, Nat.reduceAdd, Nat.reduceMul, Nat.reduceSub, Int.reduceLT, Int.reduceLE, Int.reduceToNat, Int.reduceNeg, reduceCtorEq, Node.cells, intC, List.length_map]))); (try simp (disch := omega) only [wrap_id, getD_map_in, Int.toNat_natCast, Node.cells, intC, List.length_map]); (repeat (refine And.intro (by (omega)) ?_)); refine h' _ ?_; clear h' K') | (refine aops_nil (hK _ ?_); clear hK K gs; try simp only [aThen, aBlock]) | (refine AWp.sreg  dd55 rfl (fun gs K hgs hK => ?_); clear hgs) | refine AWp.seq ?_ | (refine AWp.ret ?_; try simp only [aThen, aBlock]) | (refine AWp.cond rfl (fun h => ?_) (fun h => ?_) <;> (try simp only [decide_eq_true_eq, decide_eq_false_iff_not, beq_iff_eq, bne_iff_ne, ne_eq, Bool.not_eq_true', Bool.not_eq_false', beq_eq_false_iff_ne, Bool.true_eq_false, Bool.false_eq_true, Int.not_le, Int.not_lt, Bool.and_eq_true, Bool.and_eq_false_iff, Bool.or_eq_true, Bool.or_eq_false_iff, bne_eq_false_iff_eq, reduceCtorEq] at h) <;> (try first | contradiction))))
    all_goals first
      | (exfalso; omega)
      | skip
    simp only [Out, outA, outL, resA, go_sem, Nat.reduceLT, Nat.reduceLeDiff, Nat.reduceEqDiff, reduceIte, Nat.reduceAdd, Nat.reduceMul, Nat.reduceSub, Int.reduceLT, Int.reduceLE, Int.reduceToNat, Int.reduceNeg, reduceCtorEq]
    exact AVle.refl _
end Go.Proofs.YtjeehkdepoiegaaGreat
