/-
  The law NodesMade.
-/
import Derived.Test.YtgcnlellpgkbeaaOtherL
import Derived.Test.YtgcnlellpgkbeaaMadeW
namespace Go.Proofs.Ytgcnlellpgkbeaa
open Go.AL Go.RowKit
set_option linter.unusedSimpArgs false
set_option linter.unusedVariables false
set_option maxRecDepth 10000
set_option maxHeartbeats 4000000

def dd8 : Nat → List (List Nat)
  | 0 => [[], [4]]
  | 1 => [[], [], [17], [18], [], [20], [21], [19, 22], [23], [], [25], [24, 26], [27], [], [], [30], [29, 31], [28, 32]]
  | 2 => [[0, 1, 33], [], [34]]
  | 3 => [[33], [], [], [36, 37], [38], [], [35], [39], [40]]
  | 4 => [[], [], [1], [41, 42], [43], [], [44]]
  | 5 => [[], [], [46], [47], [48], [], [45], [49], [50]]
  | 6 => [[], [6], [51], [52], [9], [54], [53, 55]]
  | 7 => [[0, 5, 7, 8, 56], []]
  | 8 => [[56], []]
  | 9 => [[], [], [57]]
  | 10 => [[58], [], [], [61], [60, 62], [63], [], [59], [64], [65]]
  | 11 => [[], [12], [66]]
  | 12 => [[0, 5, 7, 8, 10, 11, 67], []]
  | 13 => [[67], [10], [11], [69], [68, 70], [71]]
  | 14 => [[58], [8], [72]]
  | 15 => [[73], [0], [], [76], [75, 77], [78], [], [74], [79], [80]]
  | 16 => [[], [14], [81]]
  | 17 => [[5, 7, 10, 13, 82], []]
  | 18 => [[82], [10], [13], [84], [83, 85], [86]]
  | 19 => [[0, 73], [], [88], [], [90], [7], [92], [10], [89, 91, 93, 94], [95], [], [87], [96], [97]]
  | 20 => [[], [16], [98], [99], [15], [5], [101, 102], [100, 103], [104], [], [105, 106], [107]]
  | _ => []
theorem made_law (l : List Node) (i : Int) (hma : l.length ≤ maxLen) (hi1 : -9223372036854775808 ≤ i) (hi2 : i ≤ 9223372036854775807) (hnn : ∀ x ∈ l, x.n ≤ 9223372036854775807) :
    ACall Try.prog 8 [nodesV l, .lit (.int .i64 i)] (.lit (.bool true)) := by
  have hG := great_c l
  have hC := rCheck_all l hma
  unfold maxLen at hma
  by_cases hv : l.length ≤ 70 ∧ errL l = 0 ∧ 0 ≤ i ∧ i < l.length
  · obtain ⟨hl, h0, hi0, hil⟩ := hv
    obtain ⟨j, rfl⟩ : ∃ j : Nat, i = j := ⟨i.toNat, by omega⟩
    have hj : j < l.length := by omega
    obtain ⟨e, ht, hx, hsz, hdp⟩ := errL_ok h0
    have h60 : l.length ≤ 60 := by rw [hx.len]; exact hsz
    have hle := hx.len
    have hab : ∀ x ∈ l, -2000 ≤ x.a ∧ x.a ≤ 2000 ∧ -2000 ≤ x.b ∧ x.b ≤ 2000 := fun x hxm => by
      have := e.ab_bd 0 x (hx.2 ▸ hxm)
      omega
    have part : ∀ a : Nat, a < l.length → ACall Try.prog 21 [nodesV l, .lit (.int .i64 (a : Int))] (.tup [nodesV (cutL l (a + 1 - e.szs.getD a default) (e.szs.getD a default)), .lit (.int .i64 0)]) ∧
        ∀ g, IsEx (cutL l (a + 1 - e.szs.getD a default) (e.szs.getD a default)) g → errL (cutL l (a + 1 - e.szs.getD a default) (e.szs.getD a default)) = 0 ∧ (cutL l (a + 1 - e.szs.getD a default) (e.szs.getD a default)).length ≤ 1000 := fun a ha => by
      refine ⟨nPart_ok a (by omega) h0 ht ha hab, fun g hg => ?_⟩
      obtain ⟨f, hf, hfs, hfd, _⟩ := hx.tell (j := a) (by omega)
      have hu := hg.uniq hf
      have := e.szs_bd a (by omega)
      have hs0 : e.szs.getD a 0 = e.szs.getD a default := rfl
      exact ⟨errL_of hg (by omega) (by omega), by rw [hg.len]; omega⟩
    obtain ⟨hP0, hP0'⟩ := part j hj
    rw [h0] at hC
    have hpx := hx.parts (j := j) (by omega)
    obtain ⟨y, hy⟩ : ∃ y, l.getD j default = y := ⟨_, rfl⟩
    have hym : y ∈ l := by rw [← hy, List.getD_eq_getElem?_getD, List.getElem?_eq_getElem hj]; exact List.getElem_mem _
    have hyn := hnn y hym
    rw [hy] at hpx
    have hQ := parts_c y.kind
    rw [show partsE y.kind = 0 from partsE_ok (hx.hd y hym)] at hQ
    obtain ⟨kd, nn, xa, xb, xp⟩ := y
    simp only [Node.hd] at hpx hQ hyn
    obtain ⟨C, hCe⟩ : ∃ C, cutL l (j + 1 - e.szs.getD j default) (e.szs.getD j default) = C := ⟨_, rfl⟩
    rw [hCe] at hP0 hpx hP0'
    rcases hpx with ⟨x, hxo, hk, rfl, hc⟩ | ⟨x, g, a, hxo, hk1, hk2, rfl, hc, rfl, ha, hg⟩ | ⟨x, g, k, a, b, hxo, hk1, rfl, hc, rfl, ha, hg, rfl, hb, hk⟩
    · have hCl := hc.2
      simp only [Ex.fl, Hd.node] at hCl hk
      subst hCl
      have hN := nNode_0 kd nn xp hxo hk hyn
      have hE := rEqual_c [⟨kd, nn, 0, 0, xp⟩] [⟨kd, nn, 0, 0, xp⟩] (by simp) (by simp)
      rw [decide_eq_true rfl] at hE
      rw [partsN_leaf hxo hk] at hQ
      unfold nodesV at *
      refine acall_of (n := 108) (rs := [.tmp 4]) Try.func8 rfl (by kernel_rfl) rfl rfl rfl ?_; simp only [argsE, Nat.reduceAdd]
      repeat (any_goals (first | (refine aops_cons (fun K' h' => ?_); simp only [go_sem, Nat.reduceLT, Nat.reduceLeDiff, Nat.reduceEqDiff, reduceIte, Nat.reduceAdd, Nat.reduceMul, Nat.reduceSub, Int.reduceLT, Int.reduceLE, Int.reduceToNat, Int.reduceNeg, reduceCtorEq, hgs, Node.cells, Option.toArray_none, Option.toArray_some, List.toList_toArray, hy]; (try simp (disch := omega) only [wrap_id, getD_map_in, Int.toNat_natCast, Node.cells, Option.toArray_none, Option.toArray_some, List.toList_toArray, hy]); (repeat (refine And.intro (by (first | omega | (simp; done) | (simp; omega) | assumption)) ?_)); refine h' _ ?_; clear h' K') | (refine aops_nil (hK _ ?_); clear hK K hgs gs; try simp only [aThen, aBlock]) | ((first | refine aops_cons (fun K' h' => ?_) | refine aopsD_cons (fun K' h' => ?_)); simp only [go_sem, Nat.reduceLT, Nat.reduceLeDiff, Nat.reduceEqDiff, reduceIte, Nat.reduceAdd, Nat.reduceMul, Nat.reduceSub, Int.reduceLT, Int.reduceLE, Int.reduceToNat, Int.reduceNeg, reduceCtorEq, hgs, Node.cells, Option.toArray_none, Option.toArray_some, List.toList_toArray, hy]; (first | refine ⟨_, hG, ?_⟩ | refine ⟨_, fun _ => hG, ?_⟩ | refine ⟨_, hC, ?_⟩ | refine ⟨_, fun _ => hC, ?_⟩ | refine ⟨_, alive_c, ?_⟩ | refine ⟨_, fun _ => alive_c, ?_⟩ | refine ⟨_, hP0, ?_⟩ | refine ⟨_, fun _ => hP0, ?_⟩ | refine ⟨_, hP1, ?_⟩ | refine ⟨_, fun _ => hP1, ?_⟩ | refine ⟨_, hP2, ?_⟩ | refine ⟨_, fun _ => hP2, ?_⟩ | refine ⟨_, hQ, ?_⟩ | refine ⟨_, fun _ => hQ, ?_⟩ | refine ⟨_, hN, ?_⟩ | refine ⟨_, fun _ => hN, ?_⟩ | refine ⟨_, hE, ?_⟩ | refine ⟨_, fun _ => hE, ?_⟩); (try simp only [go_sem, Nat.reduceLT, Nat.reduceLeDiff, Nat.reduceEqDiff, reduceIte, Nat.reduceAdd, Nat.reduceMul, Nat.reduceSub, Int.reduceLT, Int.reduceLE, Int.reduceToNat, Int.reduceNeg, reduceCtorEq, hgs, Node.cells, Option.toArray_none, Option.toArray_some, List.toList_toArray, hy]); (repeat (refine And.intro (by (first | omega | (simp; done) | (simp; omega) | assumption)) ?_)); refine h' _ ?_; clear h' K') | (refine aops_consF [] (fun K' h' => ?_); simp only [go_sem, Nat.reduceLT, Nat.reduceLeDiff, Nat.reduceEqDiff, reduceIte, Nat.reduceAdd, Nat.reduceMul, Nat.reduceSub, Int.reduceLT, Int.reduceLE, Int.reduceToNat, Int.reduceNeg, reduceCtorEq, hgs, Node.cells, Option.toArray_none, Option.toArray_some, List.toList_toArray, hy]; refine ⟨_, hN, ?_⟩; (try simp only [go_sem, Nat.reduceLT, Nat.reduceLeDiff, Nat.reduceEqDiff, reduceIte, Nat.reduceAdd, Nat.reduceMul, Nat.reduceSub, Int.reduceLT, Int.reduceLE, Int.reduceToNat, Int.reduceNeg, reduceCtorEq, hgs, Node.cells, Option.toArray_none, Option.toArray_some, List.toList_toArray, hy]); (repeat (refine And.intro (by (first | omega | (simp; done) | (simp; omega) | assumption)) ?_)); refine h' _ ?_; clear h' K') | (refine AWp.sreg (id := 1) dd8 rfl (fun gs K hgs hK => ?_); replace hgs : gs 2 = some 19 ∧ gs 7 = some 24 ∧ gs 11 = some 28 := ⟨hgs 2, hgs 7, hgs 11⟩) | (refine AWp.sreg (id := 6) dd8 rfl (fun gs K hgs hK => ?_); replace hgs : gs 2 = some 53 := hgs 2) | (refine AWp.sreg (id := 20) dd8 rfl (fun gs K hgs hK => ?_); replace hgs : gs 2 = some 100 ∧ gs 7 = some 105 := ⟨hgs 2, hgs 7⟩) | (refine AWp.reg (id := 1) dd8 rfl (fun gs K hgs hK => ?_); replace hgs : gs 2 = some 19 ∧ gs 7 = some 24 ∧ gs 11 = some 28 := ⟨hgs 2, hgs 7, hgs 11⟩) | (refine AWp.reg (id := 6) dd8 rfl (fun gs K hgs hK => ?_); replace hgs : gs 2 = some 53 := hgs 2) | (refine AWp.reg (id := 20) dd8 rfl (fun gs K hgs hK => ?_); replace hgs : gs 2 = some 100 ∧ gs 7 = some 105 := ⟨hgs 2, hgs 7⟩) | (refine AWp.sreg  dd8 rfl (fun gs K hgs hK => ?_); replace hgs : Nat.succ 0 = 1 := rfl) | refine AWp.seq ?_ | refine ARounds.step ?_ | refine AWp.block ?_ | refine AWp.label ?_ | (refine AWp.ret ?_; try simp only [aThen, aBlock]) | (refine AWp.skip ?_; try simp only [aThen, aBlock]) | (refine AWp.exit ?_; try simp only [aThen, aBlock, Nat.reduceEqDiff, reduceIte]) | (refine AWp.reg  dd8 rfl (fun gs K hgs hK => ?_); replace hgs : Nat.succ 0 = 1 := rfl) | (refine AWp.cond rfl (fun h => ?_) (fun h => ?_) <;> (try simp only [decide_eq_true_eq, decide_eq_false_iff_not, beq_iff_eq, bne_iff_ne, ne_eq, Bool.not_eq_true', Bool.not_eq_false', beq_eq_false_iff_ne, Bool.true_eq_false, Bool.false_eq_true, Int.not_le, Int.not_lt, Bool.and_eq_true, Bool.and_eq_false_iff, Bool.or_eq_true, Bool.or_eq_false_iff, bne_eq_false_iff_eq, reduceCtorEq] at h) <;> (try first | contradiction | (exfalso; omega) | (exfalso; revert h; simp; done) | (exfalso; revert h; simp; omega)))))
      all_goals simp only [Out, outA, outL, resA, go_sem, Nat.reduceLT, Nat.reduceLeDiff, Nat.reduceEqDiff, reduceIte, Nat.reduceAdd, Nat.reduceMul, Nat.reduceSub, Int.reduceLT, Int.reduceLE, Int.reduceToNat, Int.reduceNeg, reduceCtorEq]
      all_goals refine AVle.of_eq (congrArg (fun b => AV.lit (.bool b)) ?_)
      all_goals simp
    · obtain ⟨hP1, hA⟩ := part a (by omega)
      obtain ⟨hA0, hAl⟩ := hA g hg
      obtain ⟨A, hAe⟩ : ∃ A, cutL l (a + 1 - e.szs.getD a default) (e.szs.getD a default) = A := ⟨_, rfl⟩
      rw [hAe] at hP1 hg hA0 hAl
      simp only at hk1 hk2
      have hn0 : nn = 0 := hxo.n1.elim id fun h => by simp only at h; omega
      have hm : made1 kd nn xp A = C := (hg.made1 hxo hk1 hk2).2.trans hc.2.symm
      obtain ⟨hC0, hCl⟩ := hP0' _ hc
      have hN := nNode_1 kd nn xp hk1 hk2 hn0 hxo.p0 hxo.p1 hAl hg hA0
      rw [hm, if_pos hC0, hC0] at hN
      have hE := rEqual_c C C hCl hCl
      rw [decide_eq_true rfl] at hE
      rw [partsN_un (x := ⟨kd, nn, xp⟩) hk1 hk2] at hQ
      unfold partsV nodesV at *
      simp only [List.map_cons, List.map_nil] at hN
      refine acall_of (n := 108) (rs := [.tmp 4]) Try.func8 rfl (by kernel_rfl) rfl rfl rfl ?_; simp only [argsE, Nat.reduceAdd]
      repeat (any_goals (first | (refine aops_cons (fun K' h' => ?_); simp only [go_sem, Nat.reduceLT, Nat.reduceLeDiff, Nat.reduceEqDiff, reduceIte, Nat.reduceAdd, Nat.reduceMul, Nat.reduceSub, Int.reduceLT, Int.reduceLE, Int.reduceToNat, Int.reduceNeg, reduceCtorEq, hgs, Node.cells, Option.toArray_none, Option.toArray_some, List.toList_toArray, hy]; (try simp (disch := omega) only [wrap_id, getD_map_in, Int.toNat_natCast, Node.cells, Option.toArray_none, Option.toArray_some, List.toList_toArray, hy]); (repeat (refine And.intro (by (first | omega | (simp; done) | (simp; omega) | assumption)) ?_)); refine h' _ ?_; clear h' K') | (refine aops_nil (hK _ ?_); clear hK K hgs gs; try simp only [aThen, aBlock]) | ((first | refine aops_cons (fun K' h' => ?_) | refine aopsD_cons (fun K' h' => ?_)); simp only [go_sem, Nat.reduceLT, Nat.reduceLeDiff, Nat.reduceEqDiff, reduceIte, Nat.reduceAdd, Nat.reduceMul, Nat.reduceSub, Int.reduceLT, Int.reduceLE, Int.reduceToNat, Int.reduceNeg, reduceCtorEq, hgs, Node.cells, Option.toArray_none, Option.toArray_some, List.toList_toArray, hy]; (first | refine ⟨_, hG, ?_⟩ | refine ⟨_, fun _ => hG, ?_⟩ | refine ⟨_, hC, ?_⟩ | refine ⟨_, fun _ => hC, ?_⟩ | refine ⟨_, alive_c, ?_⟩ | refine ⟨_, fun _ => alive_c, ?_⟩ | refine ⟨_, hP0, ?_⟩ | refine ⟨_, fun _ => hP0, ?_⟩ | refine ⟨_, hP1, ?_⟩ | refine ⟨_, fun _ => hP1, ?_⟩ | refine ⟨_, hP2, ?_⟩ | refine ⟨_, fun _ => hP2, ?_⟩ | refine ⟨_, hQ, ?_⟩ | refine ⟨_, fun _ => hQ, ?_⟩ | refine ⟨_, hN, ?_⟩ | refine ⟨_, fun _ => hN, ?_⟩ | refine ⟨_, hE, ?_⟩ | refine ⟨_, fun _ => hE, ?_⟩); (try simp only [go_sem, Nat.reduceLT, Nat.reduceLeDiff, Nat.reduceEqDiff, reduceIte, Nat.reduceAdd, Nat.reduceMul, Nat.reduceSub, Int.reduceLT, Int.reduceLE, Int.reduceToNat, Int.reduceNeg, reduceCtorEq, hgs, Node.cells, Option.toArray_none, Option.toArray_some, List.toList_toArray, hy]); (repeat (refine And.intro (by (first | omega | (simp; done) | (simp; omega) | assumption)) ?_)); refine h' _ ?_; clear h' K') | (refine aops_consF [] (fun K' h' => ?_); simp only [go_sem, Nat.reduceLT, Nat.reduceLeDiff, Nat.reduceEqDiff, reduceIte, Nat.reduceAdd, Nat.reduceMul, Nat.reduceSub, Int.reduceLT, Int.reduceLE, Int.reduceToNat, Int.reduceNeg, reduceCtorEq, hgs, Node.cells, Option.toArray_none, Option.toArray_some, List.toList_toArray, hy]; refine ⟨_, hN, ?_⟩; (try simp only [go_sem, Nat.reduceLT, Nat.reduceLeDiff, Nat.reduceEqDiff, reduceIte, Nat.reduceAdd, Nat.reduceMul, Nat.reduceSub, Int.reduceLT, Int.reduceLE, Int.reduceToNat, Int.reduceNeg, reduceCtorEq, hgs, Node.cells, Option.toArray_none, Option.toArray_some, List.toList_toArray, hy]); (repeat (refine And.intro (by (first | omega | (simp; done) | (simp; omega) | assumption)) ?_)); refine h' _ ?_; clear h' K') | (refine AWp.sreg (id := 1) dd8 rfl (fun gs K hgs hK => ?_); replace hgs : gs 2 = some 19 ∧ gs 7 = some 24 ∧ gs 11 = some 28 := ⟨hgs 2, hgs 7, hgs 11⟩) | (refine AWp.sreg (id := 6) dd8 rfl (fun gs K hgs hK => ?_); replace hgs : gs 2 = some 53 := hgs 2) | (refine AWp.sreg (id := 20) dd8 rfl (fun gs K hgs hK => ?_); replace hgs : gs 2 = some 100 ∧ gs 7 = some 105 := ⟨hgs 2, hgs 7⟩) | (refine AWp.reg (id := 1) dd8 rfl (fun gs K hgs hK => ?_); replace hgs : gs 2 = some 19 ∧ gs 7 = some 24 ∧ gs 11 = some 28 := ⟨hgs 2, hgs 7, hgs 11⟩) | (refine AWp.reg (id := 6) dd8 rfl (fun gs K hgs hK => ?_); replace hgs : gs 2 = some 53 := hgs 2) | (refine AWp.reg (id := 20) dd8 rfl (fun gs K hgs hK => ?_); replace hgs : gs 2 = some 100 ∧ gs 7 = some 105 := ⟨hgs 2, hgs 7⟩) | (refine AWp.sreg  dd8 rfl (fun gs K hgs hK => ?_); replace hgs : Nat.succ 0 = 1 := rfl) | refine AWp.seq ?_ | refine ARounds.step ?_ | refine AWp.block ?_ | refine AWp.label ?_ | (refine AWp.ret ?_; try simp only [aThen, aBlock]) | (refine AWp.skip ?_; try simp only [aThen, aBlock]) | (refine AWp.exit ?_; try simp only [aThen, aBlock, Nat.reduceEqDiff, reduceIte]) | (refine AWp.reg  dd8 rfl (fun gs K hgs hK => ?_); replace hgs : Nat.succ 0 = 1 := rfl) | (refine AWp.cond rfl (fun h => ?_) (fun h => ?_) <;> (try simp only [decide_eq_true_eq, decide_eq_false_iff_not, beq_iff_eq, bne_iff_ne, ne_eq, Bool.not_eq_true', Bool.not_eq_false', beq_eq_false_iff_ne, Bool.true_eq_false, Bool.false_eq_true, Int.not_le, Int.not_lt, Bool.and_eq_true, Bool.and_eq_false_iff, Bool.or_eq_true, Bool.or_eq_false_iff, bne_eq_false_iff_eq, reduceCtorEq] at h) <;> (try first | contradiction | (exfalso; omega) | (exfalso; revert h; simp; done) | (exfalso; revert h; simp; omega)))))
      all_goals simp only [Out, outA, outL, resA, go_sem, Nat.reduceLT, Nat.reduceLeDiff, Nat.reduceEqDiff, reduceIte, Nat.reduceAdd, Nat.reduceMul, Nat.reduceSub, Int.reduceLT, Int.reduceLE, Int.reduceToNat, Int.reduceNeg, reduceCtorEq]
      all_goals refine AVle.of_eq (congrArg (fun b => AV.lit (.bool b)) ?_)
      all_goals simp
    · obtain ⟨hP1, hA⟩ := part a (by omega)
      obtain ⟨hA0, hAl⟩ := hA g hg
      obtain ⟨hP2, hB⟩ := part b (by omega)
      obtain ⟨hB0, hBl⟩ := hB k hk
      obtain ⟨A, hAe⟩ : ∃ A, cutL l (a + 1 - e.szs.getD a default) (e.szs.getD a default) = A := ⟨_, rfl⟩
      rw [hAe] at hP1 hg hA0 hAl
      obtain ⟨B, hBe⟩ : ∃ B, cutL l (b + 1 - e.szs.getD b default) (e.szs.getD b default) = B := ⟨_, rfl⟩
      rw [hBe] at hP2 hk hB0 hBl
      simp only at hk1
      have hn0 : nn = 0 := hxo.n1.elim id fun h => by simp only at h; omega
      have hm : made2 kd nn xp A B = C := (hg.made2 hk hxo hk1).2.trans hc.2.symm
      obtain ⟨hC0, hCl⟩ := hP0' _ hc
      have hN := nNode_2 kd nn xp hk1 hxo.k2 hn0 hxo.p0 hxo.p1 hg hk hA0 hB0
      rw [hm, if_pos hC0, hC0] at hN
      have hE := rEqual_c C C hCl hCl
      rw [decide_eq_true rfl] at hE
      rw [partsN_bin (x := ⟨kd, nn, xp⟩) hxo hk1] at hQ
      unfold partsV nodesV at *
      simp only [List.map_cons, List.map_nil] at hN
      refine acall_of (n := 108) (rs := [.tmp 4]) Try.func8 rfl (by kernel_rfl) rfl rfl rfl ?_; simp only [argsE, Nat.reduceAdd]
      repeat (any_goals (first | (refine aops_cons (fun K' h' => ?_); simp only [go_sem, Nat.reduceLT, Nat.reduceLeDiff, Nat.reduceEqDiff, reduceIte, Nat.reduceAdd, Nat.reduceMul, Nat.reduceSub, Int.reduceLT, Int.reduceLE, Int.reduceToNat, Int.reduceNeg, reduceCtorEq, hgs, Node.cells, Option.toArray_none, Option.toArray_some, List.toList_toArray, hy]; (try simp (disch := omega) only [wrap_id, getD_map_in, Int.toNat_natCast, Node.cells, Option.toArray_none, Option.toArray_some, List.toList_toArray, hy]); (repeat (refine And.intro (by (first | omega | (simp; done) | (simp; omega) | assumption)) ?_)); refine h' _ ?_; clear h' K') | (refine aops_nil (hK _ ?_); clear hK K hgs gs; try simp only [aThen, aBlock]) | ((first | refine aops_cons (fun K' h' => ?_) | refine aopsD_cons (fun K' h' => ?_)); simp only [go_sem, Nat.reduceLT, Nat.reduceLeDiff, Nat.reduceEqDiff, reduceIte, Nat.reduceAdd, Nat.reduceMul, Nat.reduceSub, Int.reduceLT, Int.reduceLE, Int.reduceToNat, Int.reduceNeg, reduceCtorEq, hgs, Node.cells, Option.toArray_none, Option.toArray_some, List.toList_toArray, hy]; (first | refine ⟨_, hG, ?_⟩ | refine ⟨_, fun _ => hG, ?_⟩ | refine ⟨_, hC, ?_⟩ | refine ⟨_, fun _ => hC, ?_⟩ | refine ⟨_, alive_c, ?_⟩ | refine ⟨_, fun _ => alive_c, ?_⟩ | refine ⟨_, hP0, ?_⟩ | refine ⟨_, fun _ => hP0, ?_⟩ | refine ⟨_, hP1, ?_⟩ | refine ⟨_, fun _ => hP1, ?_⟩ | refine ⟨_, hP2, ?_⟩ | refine ⟨_, fun _ => hP2, ?_⟩ | refine ⟨_, hQ, ?_⟩ | refine ⟨_, fun _ => hQ, ?_⟩ | refine ⟨_, hN, ?_⟩ | refine ⟨_, fun _ => hN, ?_⟩ | refine ⟨_, hE, ?_⟩ | refine ⟨_, fun _ => hE, ?_⟩); (try simp only [go_sem, Nat.reduceLT, Nat.reduceLeDiff, Nat.reduceEqDiff, reduceIte, Nat.reduceAdd, Nat.reduceMul, Nat.reduceSub, Int.reduceLT, Int.reduceLE, Int.reduceToNat, Int.reduceNeg, reduceCtorEq, hgs, Node.cells, Option.toArray_none, Option.toArray_some, List.toList_toArray, hy]); (repeat (refine And.intro (by (first | omega | (simp; done) | (simp; omega) | assumption)) ?_)); refine h' _ ?_; clear h' K') | (refine aops_consF [] (fun K' h' => ?_); simp only [go_sem, Nat.reduceLT, Nat.reduceLeDiff, Nat.reduceEqDiff, reduceIte, Nat.reduceAdd, Nat.reduceMul, Nat.reduceSub, Int.reduceLT, Int.reduceLE, Int.reduceToNat, Int.reduceNeg, reduceCtorEq, hgs, Node.cells, Option.toArray_none, Option.toArray_some, List.toList_toArray, hy]; refine ⟨_, hN, ?_⟩; (try simp only [go_sem, Nat.reduceLT, Nat.reduceLeDiff, Nat.reduceEqDiff, reduceIte, Nat.reduceAdd, Nat.reduceMul, Nat.reduceSub, Int.reduceLT, Int.reduceLE, Int.reduceToNat, Int.reduceNeg, reduceCtorEq, hgs, Node.cells, Option.toArray_none, Option.toArray_some, List.toList_toArray, hy]); (repeat (refine And.intro (by (first | omega | (simp; done) | (simp; omega) | assumption)) ?_)); refine h' _ ?_; clear h' K') | (refine AWp.sreg (id := 1) dd8 rfl (fun gs K hgs hK => ?_); replace hgs : gs 2 = some 19 ∧ gs 7 = some 24 ∧ gs 11 = some 28 := ⟨hgs 2, hgs 7, hgs 11⟩) | (refine AWp.sreg (id := 6) dd8 rfl (fun gs K hgs hK => ?_); replace hgs : gs 2 = some 53 := hgs 2) | (refine AWp.sreg (id := 20) dd8 rfl (fun gs K hgs hK => ?_); replace hgs : gs 2 = some 100 ∧ gs 7 = some 105 := ⟨hgs 2, hgs 7⟩) | (refine AWp.reg (id := 1) dd8 rfl (fun gs K hgs hK => ?_); replace hgs : gs 2 = some 19 ∧ gs 7 = some 24 ∧ gs 11 = some 28 := ⟨hgs 2, hgs 7, hgs 11⟩) | (refine AWp.reg (id := 6) dd8 rfl (fun gs K hgs hK => ?_); replace hgs : gs 2 = some 53 := hgs 2) | (refine AWp.reg (id := 20) dd8 rfl (fun gs K hgs hK => ?_); replace hgs : gs 2 = some 100 ∧ gs 7 = some 105 := ⟨hgs 2, hgs 7⟩) | (refine AWp.sreg  dd8 rfl (fun gs K hgs hK => ?_); replace hgs : Nat.succ 0 = 1 := rfl) | refine AWp.seq ?_ | refine ARounds.step ?_ | refine AWp.block ?_ | refine AWp.label ?_ | (refine AWp.ret ?_; try simp only [aThen, aBlock]) | (refine AWp.skip ?_; try simp only [aThen, aBlock]) | (refine AWp.exit ?_; try simp only [aThen, aBlock, Nat.reduceEqDiff, reduceIte]) | (refine AWp.reg  dd8 rfl (fun gs K hgs hK => ?_); replace hgs : Nat.succ 0 = 1 := rfl) | (refine AWp.cond rfl (fun h => ?_) (fun h => ?_) <;> (try simp only [decide_eq_true_eq, decide_eq_false_iff_not, beq_iff_eq, bne_iff_ne, ne_eq, Bool.not_eq_true', Bool.not_eq_false', beq_eq_false_iff_ne, Bool.true_eq_false, Bool.false_eq_true, Int.not_le, Int.not_lt, Bool.and_eq_true, Bool.and_eq_false_iff, Bool.or_eq_true, Bool.or_eq_false_iff, bne_eq_false_iff_eq, reduceCtorEq] at h) <;> (try first | contradiction | (exfalso; omega) | (exfalso; revert h; simp; done) | (exfalso; revert h; simp; omega)))))
      all_goals simp only [Out, outA, outL, resA, go_sem, Nat.reduceLT, Nat.reduceLeDiff, Nat.reduceEqDiff, reduceIte, Nat.reduceAdd, Nat.reduceMul, Nat.reduceSub, Int.reduceLT, Int.reduceLE, Int.reduceToNat, Int.reduceNeg, reduceCtorEq]
      all_goals refine AVle.of_eq (congrArg (fun b => AV.lit (.bool b)) ?_)
      all_goals simp
  · generalize errL l = ea at *
    unfold nodesV at *
    refine acall_of (n := 108) (rs := [.tmp 4]) Try.func8 rfl (by kernel_rfl) rfl rfl rfl ?_; simp only [argsE, Nat.reduceAdd]
    repeat (any_goals (first | (refine aops_cons (fun K' h' => ?_); simp only [go_sem, Nat.reduceLT, Nat.reduceLeDiff, Nat.reduceEqDiff, reduceIte, Nat.reduceAdd, Nat.reduceMul, Nat.reduceSub, Int.reduceLT, Int.reduceLE, Int.reduceToNat, Int.reduceNeg, reduceCtorEq, hgs, Node.cells, Option.toArray_none, Option.toArray_some, List.toList_toArray]; (try simp (disch := omega) only [wrap_id, getD_map_in, Int.toNat_natCast, Node.cells, Option.toArray_none, Option.toArray_some, List.toList_toArray]); (repeat (refine And.intro (by (first | omega | (simp; done) | (simp; omega) | assumption)) ?_)); refine h' _ ?_; clear h' K') | (refine aops_nil (hK _ ?_); clear hK K hgs gs; try simp only [aThen, aBlock]) | ((first | refine aops_cons (fun K' h' => ?_) | refine aopsD_cons (fun K' h' => ?_)); simp only [go_sem, Nat.reduceLT, Nat.reduceLeDiff, Nat.reduceEqDiff, reduceIte, Nat.reduceAdd, Nat.reduceMul, Nat.reduceSub, Int.reduceLT, Int.reduceLE, Int.reduceToNat, Int.reduceNeg, reduceCtorEq, hgs, Node.cells, Option.toArray_none, Option.toArray_some, List.toList_toArray]; (first | refine ⟨_, hG, ?_⟩ | refine ⟨_, fun _ => hG, ?_⟩ | refine ⟨_, hC, ?_⟩ | refine ⟨_, fun _ => hC, ?_⟩ | refine ⟨_, alive_c, ?_⟩ | refine ⟨_, fun _ => alive_c, ?_⟩ | refine ⟨_, hP0, ?_⟩ | refine ⟨_, fun _ => hP0, ?_⟩ | refine ⟨_, hP1, ?_⟩ | refine ⟨_, fun _ => hP1, ?_⟩ | refine ⟨_, hP2, ?_⟩ | refine ⟨_, fun _ => hP2, ?_⟩ | refine ⟨_, hQ, ?_⟩ | refine ⟨_, fun _ => hQ, ?_⟩ | refine ⟨_, hN, ?_⟩ | refine ⟨_, fun _ => hN, ?_⟩ | refine ⟨_, hE, ?_⟩ | refine ⟨_, fun _ => hE, ?_⟩); (try simp only [go_sem, Nat.reduceLT, Nat.reduceLeDiff, Nat.reduceEqDiff, reduceIte, Nat.reduceAdd, Nat.reduceMul, Nat.reduceSub, Int.reduceLT, Int.reduceLE, Int.reduceToNat, Int.reduceNeg, reduceCtorEq, hgs, Node.cells, Option.toArray_none, Option.toArray_some, List.toList_toArray]); (repeat (refine And.intro (by (first | omega | (simp; done) | (simp; omega) | assumption)) ?_)); refine h' _ ?_; clear h' K') | (refine aops_consF [] (fun K' h' => ?_); simp only [go_sem, Nat.reduceLT, Nat.reduceLeDiff, Nat.reduceEqDiff, reduceIte, Nat.reduceAdd, Nat.reduceMul, Nat.reduceSub, Int.reduceLT, Int.reduceLE, Int.reduceToNat, Int.reduceNeg, reduceCtorEq, hgs, Node.cells, Option.toArray_none, Option.toArray_some, List.toList_toArray]; refine ⟨_, hN, ?_⟩; (try simp only [go_sem, Nat.reduceLT, Nat.reduceLeDiff, Nat.reduceEqDiff, reduceIte, Nat.reduceAdd, Nat.reduceMul, Nat.reduceSub, Int.reduceLT, Int.reduceLE, Int.reduceToNat, Int.reduceNeg, reduceCtorEq, hgs, Node.cells, Option.toArray_none, Option.toArray_some, List.toList_toArray]); (repeat (refine And.intro (by (first | omega | (simp; done) | (simp; omega) | assumption)) ?_)); refine h' _ ?_; clear h' K') | (refine AWp.sreg (id := 1) dd8 rfl (fun gs K hgs hK => ?_); replace hgs : gs 2 = some 19 ∧ gs 7 = some 24 ∧ gs 11 = some 28 := ⟨hgs 2, hgs 7, hgs 11⟩) | (refine AWp.sreg (id := 6) dd8 rfl (fun gs K hgs hK => ?_); replace hgs : gs 2 = some 53 := hgs 2) | (refine AWp.sreg (id := 20) dd8 rfl (fun gs K hgs hK => ?_); replace hgs : gs 2 = some 100 ∧ gs 7 = some 105 := ⟨hgs 2, hgs 7⟩) | (refine AWp.reg (id := 1) dd8 rfl (fun gs K hgs hK => ?_); replace hgs : gs 2 = some 19 ∧ gs 7 = some 24 ∧ gs 11 = some 28 := ⟨hgs 2, hgs 7, hgs 11⟩) | (refine AWp.reg (id := 6) dd8 rfl (fun gs K hgs hK => ?_); replace hgs : gs 2 = some 53 := hgs 2) | (refine AWp.reg (id := 20) dd8 rfl (fun gs K hgs hK => ?_); replace hgs : gs 2 = some 100 ∧ gs 7 = some 105 := ⟨hgs 2, hgs 7⟩) | (refine AWp.sreg  dd8 rfl (fun gs K hgs hK => ?_); replace hgs : Nat.succ 0 = 1 := rfl) | refine AWp.seq ?_ | refine ARounds.step ?_ | refine AWp.block ?_ | refine AWp.label ?_ | (refine AWp.ret ?_; try simp only [aThen, aBlock]) | (refine AWp.skip ?_; try simp only [aThen, aBlock]) | (refine AWp.exit ?_; try simp only [aThen, aBlock, Nat.reduceEqDiff, reduceIte]) | (refine AWp.reg  dd8 rfl (fun gs K hgs hK => ?_); replace hgs : Nat.succ 0 = 1 := rfl) | (refine AWp.cond rfl (fun h => ?_) (fun h => ?_) <;> (try simp only [decide_eq_true_eq, decide_eq_false_iff_not, beq_iff_eq, bne_iff_ne, ne_eq, Bool.not_eq_true', Bool.not_eq_false', beq_eq_false_iff_ne, Bool.true_eq_false, Bool.false_eq_true, Int.not_le, Int.not_lt, Bool.and_eq_true, Bool.and_eq_false_iff, Bool.or_eq_true, Bool.or_eq_false_iff, bne_eq_false_iff_eq, reduceCtorEq] at h) <;> (try first | contradiction | (exfalso; omega) | (exfalso; revert h; simp; done) | (exfalso; revert h; simp; omega)))))
    all_goals first
      | (exfalso; omega)
      | (simp only [Out, outA, outL, resA, go_sem, Nat.reduceLT, Nat.reduceLeDiff, Nat.reduceEqDiff, reduceIte, Nat.reduceAdd, Nat.reduceMul, Nat.reduceSub, Int.reduceLT, Int.reduceLE, Int.reduceToNat, Int.reduceNeg, reduceCtorEq]
         exact AVle.refl _)
theorem made_all : ∀ xs, ShpAs Try.prog 8 Try.f8.params.toList xs → ACall Try.prog 8 xs (.lit (.bool true)) := by
  intro xs h
  have hp : Try.f8.params.toList = [22, 3] := by kernel_rfl
  rw [hp] at h
  obtain ⟨a, r, rfl, ha, h1⟩ := h
  obtain ⟨b, r, rfl, hb, h2⟩ := h1
  obtain rfl : r = [] := h2
  obtain ⟨l, rfl, hm, hn⟩ := nodes_shape2 ha
  obtain ⟨n, rfl, h1, h2⟩ := int_shape hb
  exact made_law l n hm h1 h2 fun x hx => (hn x hx).2.1.2
end Go.Proofs.Ytgcnlellpgkbeaa
