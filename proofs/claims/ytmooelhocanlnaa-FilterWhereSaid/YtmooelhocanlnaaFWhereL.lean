/-
  The law FilterWhere.
-/
import Derived.Test.YtmooelhocanlnaaFAlv
import Derived.Test.YtmooelhocanlnaaFShp
namespace Go.Proofs.Ytmooelhocanlnaa
open Go.AL Go.RowKit
set_option linter.unusedSimpArgs false
set_option linter.unusedVariables false
set_option maxRecDepth 10000
set_option maxHeartbeats 8000000

theorem greatF_fit2 {q : Qry} (h : greatF q = false) (hb : ∀ x ∈ q.src, -9223372036854775808 ≤ x ∧ x ≤ 9223372036854775807) (n1 : nodesB q.arg) (n2 : nodesB q.wh) : q.fit := by
  unfold greatF at h
  simp only [Bool.or_eq_false_iff, decide_eq_false_iff_not] at h
  exact ⟨by omega, by omega, by omega, hb, n1, n2⟩
theorem acc_facts {q : Qry} (h : accE q = 0) : (0 < q.wh.length → ofE q.wh = 0) ∧ (q.agg ≠ 1 → ofE q.arg = 0) := by
  unfold accE at h
  split at h
  · rename_i g; exact absurd h g
  · rename_i g
    have g := Classical.not_not.1 g
    have hw : ∀ (l : List Node) (t : Bool), wantE l t = 0 → ofE l = 0 := fun l t h => by
      unfold wantE at h
      split at h
      · exact absurd h (by decide)
      · exact h
    unfold fstE at h
    split at h
    · rename_i g1; exact absurd h g1.2
    · rename_i g1
      split at h
      · rename_i g2; exact absurd h g2.2
      · rename_i g2
        refine ⟨fun h1 => hw _ _ (Classical.not_not.1 fun h2 => g2 ⟨h1, h2⟩), fun h1 => ?_⟩
        have ha : errL q.arg = 0 := by
          unfold chkE at g
          split at g
          · exact absurd g (by decide)
          · split at g
            · rename_i g3; exact absurd g g3.2
            · rename_i g3; exact Classical.not_not.1 fun h2 => g3 ⟨h1, h2⟩
        obtain ⟨e, _, hx, _, _⟩ := errL_ok ha
        have : 0 < q.arg.length := by rw [hx.len]; exact e.sz_pos
        exact hw _ _ (Classical.not_not.1 fun h2 => g1 ⟨this, h2⟩)

def dd4 : Nat → List (List Nat)
  | 0 => [[], [0], [1], [4]]
  | 1 => [[], [], [14]]
  | 2 => [[], [], [15], [16], [], [18], [19], [17, 20], [21], [], [23], [24], [22, 25], [26], [], [28], [27, 29]]
  | 3 => [[2, 3, 30], [5], [31]]
  | 4 => [[30], [], [], [33, 34], [35], [], [], [32], [], [36], [37], [38]]
  | 5 => [[], [8], [39]]
  | 6 => [[2, 3, 5, 6, 7, 40], []]
  | 7 => [[40], [], [41], [42], [43]]
  | 8 => [[44], [], [46], [], [47, 48], [49], [], [45], [50], [51]]
  | 9 => [[], [10], [52], [53], [], [9], [56], [55, 57], [54, 58]]
  | 10 => [[2, 3, 5, 6, 7, 59], []]
  | 11 => [[44], [], [60]]
  | 12 => [[2, 3, 5, 6, 7, 61], []]
  | 13 => [[59, 61], [7], [62]]
  | 14 => [[2, 3, 63], [5], [64], [6], [], [66, 67], [65, 68], [69]]
  | 15 => [[63], []]
  | 16 => [[], [], [70], [71]]
  | 17 => [[11, 72], [], [74], [], [75, 76], [77], [], [73], [78], [79]]
  | 18 => [[], [13], [80]]
  | 19 => [[2, 3, 5, 6, 12, 81], []]
  | 20 => [[81], [12], [82]]
  | 21 => [[72], [5], [83], [], [85], [], [87], [86, 88], [84, 89], [90], [], [92], [11], [93, 94], [91, 95], [96], [], [98], [99], [], [101], [3], [103], [102, 104], [100, 105], [106], [2], [108], [109], [110], [6], [112], [113], [111, 114], [107, 115], [97, 116], [117]]
  | _ => []
theorem fwhere_law (q : Qry) (r : Rcd) (h1 : q.arg.length ≤ maxLen) (h2 : q.wh.length ≤ maxLen) (h3 : q.src.length ≤ maxLen) (hb : ∀ x ∈ q.src, -9223372036854775808 ≤ x ∧ x ≤ 9223372036854775807) (n1 : nodesB q.arg) (n2 : nodesB q.wh) (hr : r.B) :
    ACall Try.prog 4 [.agg q.cells, .agg r.cells] (.lit (.bool true)) := by
  have hGr := greatF_c q h1 h2 h3
  by_cases hall : greatF q = false ∧ accE q = 0 ∧ isTimeB r.t = true
  · obtain ⟨hg, ha, ht⟩ := hall
    have hf := greatF_fit2 hg hb n1 n2
    have hAc := accepted29_c q hf
    rw [ha] at hAc
    rw [hg] at hGr
    have hR := right25_c r.key r.t r.v
    rw [ht] at hR
    have hP1 := project_c q r hf hr
    have p1 : prjE q r = 0 := if_pos ⟨ha, ht⟩
    have p2 : prjB q r = passB q r := by unfold prjB; rw [if_pos p1]
    have p3 : prjR q r = projR q r := by unfold prjR; rw [if_pos p1]
    rw [p1, p2, p3] at hP1
    have hE1 := eOf_c q.wh r hf.w hr hf.wn
    have hE2 := eOf_c q.arg r hf.a hr hf.an
    obtain ⟨f1, f2⟩ := acc_facts ha
    unfold projR passB at hP1
    clear hg ha ht hf p1 p2 p3 hb n1 n2 hr
    obtain ⟨r1, r2, r3⟩ := r
    obtain ⟨ag, ar, sr, jn, wh, ⟨kd, sz, ev⟩, bk, lt⟩ := q
    simp only at *
    generalize ofV ⟨r1, r2, r3⟩ wh = vw at *
    generalize ofV ⟨r1, r2, r3⟩ ar = va at *
    generalize ofE wh = ew at *
    generalize ofE ar = ea at *
    unfold maxLen at h1 h2 h3
    unfold Qry.cells nodesV intsV Rcd.cells at *
    simp only at *
    by_cases hw : 0 < wh.length
    · obtain rfl := f1 hw
      simp only [hw, decide_true, Bool.true_and] at hP1
      by_cases hv : vw = 0
      · subst hv
        simp only [beq_self_eq_true, Bool.not_true, Bool.false_eq_true, reduceIte] at hP1
        cases bk
        all_goals
          refine acall_of (n := 118) (rs := [.tmp 4]) Try.func4 rfl (by kernel_rfl) rfl rfl rfl ?_; simp only [argsE, Nat.reduceAdd]
          repeat (any_goals (first | (refine aops_cons (fun K' h' => ?_); simp only [go_sem, Nat.reduceLT, Nat.reduceLeDiff, Nat.reduceEqDiff, reduceIte, Nat.reduceAdd, Nat.reduceMul, Nat.reduceSub, Int.reduceLT, Int.reduceLE, Int.reduceToNat, Int.reduceNeg, reduceCtorEq, hgs, aopG, bne_self_eq_false, Bool.not_false, beq_self_eq_true]; (try ((first | refine ⟨_, alive29_c, ?_⟩ | refine ⟨_, fun _ => alive29_c, ?_⟩ | refine ⟨_, hGr, ?_⟩ | refine ⟨_, fun _ => hGr, ?_⟩ | refine ⟨_, hAc, ?_⟩ | refine ⟨_, fun _ => hAc, ?_⟩ | refine ⟨_, hR, ?_⟩ | refine ⟨_, fun _ => hR, ?_⟩ | refine ⟨_, hP1, ?_⟩ | refine ⟨_, fun _ => hP1, ?_⟩ | refine ⟨_, hP2, ?_⟩ | refine ⟨_, fun _ => hP2, ?_⟩ | refine ⟨_, hP3, ?_⟩ | refine ⟨_, fun _ => hP3, ?_⟩ | refine ⟨_, hE1, ?_⟩ | refine ⟨_, fun _ => hE1, ?_⟩ | refine ⟨_, hE2, ?_⟩ | refine ⟨_, fun _ => hE2, ?_⟩); (try simp only [go_sem, Nat.reduceLT, Nat.reduceLeDiff, Nat.reduceEqDiff, reduceIte, Nat.reduceAdd, Nat.reduceMul, Nat.reduceSub, Int.reduceLT, Int.reduceLE, Int.reduceToNat, Int.reduceNeg, reduceCtorEq, hgs, aopG, bne_self_eq_false, Bool.not_false, beq_self_eq_true]))); (try simp (disch := omega) only [wrap_id, getD_map_in, Int.toNat_natCast, aopG, bne_self_eq_false, Bool.not_false, beq_self_eq_true]); (repeat (refine And.intro (by (first | omega | (simp; done) | (simp; omega) | assumption)) ?_)); refine h' _ ?_; clear h' K') | (refine aops_nil (hK _ ?_); clear hK K hgs gs; try simp only [aThen, aBlock]) | ((first | refine AWp.sreg (id := 2) dd4 rfl (fun gs K hgs hK => ?_) | refine AWp.reg (id := 2) dd4 rfl (fun gs K hgs hK => ?_)); replace hgs : gs 2 = some 17 ∧ gs 7 = some 22 ∧ gs 12 = some 27 := ⟨hgs 2, hgs 7, hgs 12⟩) | ((first | refine AWp.sreg (id := 9) dd4 rfl (fun gs K hgs hK => ?_) | refine AWp.reg (id := 9) dd4 rfl (fun gs K hgs hK => ?_)); replace hgs : gs 2 = some 54 := hgs 2) | ((first | refine AWp.sreg (id := 14) dd4 rfl (fun gs K hgs hK => ?_) | refine AWp.reg (id := 14) dd4 rfl (fun gs K hgs hK => ?_)); replace hgs : gs 1 = some 65 := hgs 1) | ((first | refine AWp.sreg (id := 21) dd4 rfl (fun gs K hgs hK => ?_) | refine AWp.reg (id := 21) dd4 rfl (fun gs K hgs hK => ?_)); replace hgs : gs 1 = some 84 ∧ gs 8 = some 91 ∧ gs 14 = some 97 ∧ gs 17 = some 100 ∧ gs 24 = some 107 ∧ gs 28 = some 111 := ⟨hgs 1, hgs 8, hgs 14, hgs 17, hgs 24, hgs 28⟩) | (refine AWp.sreg  dd4 rfl (fun gs K hgs hK => ?_); replace hgs : Nat.succ 0 = 1 := rfl) | refine AWp.seq ?_ | refine ARounds.step ?_ | refine AWp.block ?_ | refine AWp.label ?_ | (refine AWp.ret ?_; try simp only [aThen, aBlock]) | (refine AWp.skip ?_; try simp only [aThen, aBlock]) | (refine AWp.exit ?_; try simp only [aThen, aBlock, Nat.reduceEqDiff, reduceIte]) | (refine AWp.reg  dd4 rfl (fun gs K hgs hK => ?_); replace hgs : Nat.succ 0 = 1 := rfl) | (refine aops_consG (fun K' h' => ?_); simp only [go_sem, Nat.reduceLT, Nat.reduceLeDiff, Nat.reduceEqDiff, reduceIte, Nat.reduceAdd, Nat.reduceMul, Nat.reduceSub, Int.reduceLT, Int.reduceLE, Int.reduceToNat, Int.reduceNeg, reduceCtorEq, hgs, aopG, bne_self_eq_false, Bool.not_false, beq_self_eq_true]; (try simp (disch := omega) only [wrap_id, getD_map_in, Int.toNat_natCast, aopG, bne_self_eq_false, Bool.not_false, beq_self_eq_true]); (repeat (refine And.intro (by (first | omega | (simp; done) | (simp; omega) | assumption)) ?_)); refine h' _ ?_; clear h' K') | (refine AWp.cond rfl (fun h => ?_) (fun h => ?_) <;> (try simp only [decide_eq_true_eq, decide_eq_false_iff_not, beq_iff_eq, bne_iff_ne, ne_eq, Bool.not_eq_true', Bool.not_eq_false', beq_eq_false_iff_ne, Bool.true_eq_false, Bool.false_eq_true, Int.not_le, Int.not_lt, Bool.and_eq_true, Bool.and_eq_false_iff, Bool.or_eq_true, Bool.or_eq_false_iff, bne_eq_false_iff_eq, reduceCtorEq] at h) <;> (try first | contradiction | (exfalso; omega) | (exfalso; revert h; simp; done) | (exfalso; revert h; simp; omega)))))
          all_goals first
            | (exfalso; omega)
            | skip
          all_goals simp only [Out, outA, outL, resA, go_sem, Nat.reduceLT, Nat.reduceLeDiff, Nat.reduceEqDiff, reduceIte, Nat.reduceAdd, Nat.reduceMul, Nat.reduceSub, Int.reduceLT, Int.reduceLE, Int.reduceToNat, Int.reduceNeg, reduceCtorEq]
          all_goals exact AVle.of_eq (by simp)
      · have hvb : (vw == 0) = false := beq_eq_false_iff_ne.2 hv
        have hvn : (vw != 0) = true := bne_iff_ne.2 hv
        simp only [hvb, Bool.not_false, reduceIte] at hP1
        by_cases hag : ag = 1
        · subst hag
          simp only [ne_eq, not_true_eq_false, reduceIte] at hP1
          cases bk
          all_goals simp only [Bool.false_eq_true, reduceIte] at hP1
          all_goals
            refine acall_of (n := 118) (rs := [.tmp 4]) Try.func4 rfl (by kernel_rfl) rfl rfl rfl ?_; simp only [argsE, Nat.reduceAdd]
            repeat (any_goals (first | (refine aops_cons (fun K' h' => ?_); simp only [go_sem, Nat.reduceLT, Nat.reduceLeDiff, Nat.reduceEqDiff, reduceIte, Nat.reduceAdd, Nat.reduceMul, Nat.reduceSub, Int.reduceLT, Int.reduceLE, Int.reduceToNat, Int.reduceNeg, reduceCtorEq, hgs, aopG, bne_self_eq_false, Bool.not_false, beq_self_eq_true, hvn]; (try ((first | refine ⟨_, alive29_c, ?_⟩ | refine ⟨_, fun _ => alive29_c, ?_⟩ | refine ⟨_, hGr, ?_⟩ | refine ⟨_, fun _ => hGr, ?_⟩ | refine ⟨_, hAc, ?_⟩ | refine ⟨_, fun _ => hAc, ?_⟩ | refine ⟨_, hR, ?_⟩ | refine ⟨_, fun _ => hR, ?_⟩ | refine ⟨_, hP1, ?_⟩ | refine ⟨_, fun _ => hP1, ?_⟩ | refine ⟨_, hP2, ?_⟩ | refine ⟨_, fun _ => hP2, ?_⟩ | refine ⟨_, hP3, ?_⟩ | refine ⟨_, fun _ => hP3, ?_⟩ | refine ⟨_, hE1, ?_⟩ | refine ⟨_, fun _ => hE1, ?_⟩ | refine ⟨_, hE2, ?_⟩ | refine ⟨_, fun _ => hE2, ?_⟩); (try simp only [go_sem, Nat.reduceLT, Nat.reduceLeDiff, Nat.reduceEqDiff, reduceIte, Nat.reduceAdd, Nat.reduceMul, Nat.reduceSub, Int.reduceLT, Int.reduceLE, Int.reduceToNat, Int.reduceNeg, reduceCtorEq, hgs, aopG, bne_self_eq_false, Bool.not_false, beq_self_eq_true, hvn]))); (try simp (disch := omega) only [wrap_id, getD_map_in, Int.toNat_natCast, aopG, bne_self_eq_false, Bool.not_false, beq_self_eq_true, hvn]); (repeat (refine And.intro (by (first | omega | (simp; done) | (simp; omega) | assumption)) ?_)); refine h' _ ?_; clear h' K') | (refine aops_nil (hK _ ?_); clear hK K hgs gs; try simp only [aThen, aBlock]) | ((first | refine AWp.sreg (id := 2) dd4 rfl (fun gs K hgs hK => ?_) | refine AWp.reg (id := 2) dd4 rfl (fun gs K hgs hK => ?_)); replace hgs : gs 2 = some 17 ∧ gs 7 = some 22 ∧ gs 12 = some 27 := ⟨hgs 2, hgs 7, hgs 12⟩) | ((first | refine AWp.sreg (id := 9) dd4 rfl (fun gs K hgs hK => ?_) | refine AWp.reg (id := 9) dd4 rfl (fun gs K hgs hK => ?_)); replace hgs : gs 2 = some 54 := hgs 2) | ((first | refine AWp.sreg (id := 14) dd4 rfl (fun gs K hgs hK => ?_) | refine AWp.reg (id := 14) dd4 rfl (fun gs K hgs hK => ?_)); replace hgs : gs 1 = some 65 := hgs 1) | ((first | refine AWp.sreg (id := 21) dd4 rfl (fun gs K hgs hK => ?_) | refine AWp.reg (id := 21) dd4 rfl (fun gs K hgs hK => ?_)); replace hgs : gs 1 = some 84 ∧ gs 8 = some 91 ∧ gs 14 = some 97 ∧ gs 17 = some 100 ∧ gs 24 = some 107 ∧ gs 28 = some 111 := ⟨hgs 1, hgs 8, hgs 14, hgs 17, hgs 24, hgs 28⟩) | (refine AWp.sreg  dd4 rfl (fun gs K hgs hK => ?_); replace hgs : Nat.succ 0 = 1 := rfl) | refine AWp.seq ?_ | refine ARounds.step ?_ | refine AWp.block ?_ | refine AWp.label ?_ | (refine AWp.ret ?_; try simp only [aThen, aBlock]) | (refine AWp.skip ?_; try simp only [aThen, aBlock]) | (refine AWp.exit ?_; try simp only [aThen, aBlock, Nat.reduceEqDiff, reduceIte]) | (refine AWp.reg  dd4 rfl (fun gs K hgs hK => ?_); replace hgs : Nat.succ 0 = 1 := rfl) | (refine aops_consG (fun K' h' => ?_); simp only [go_sem, Nat.reduceLT, Nat.reduceLeDiff, Nat.reduceEqDiff, reduceIte, Nat.reduceAdd, Nat.reduceMul, Nat.reduceSub, Int.reduceLT, Int.reduceLE, Int.reduceToNat, Int.reduceNeg, reduceCtorEq, hgs, aopG, bne_self_eq_false, Bool.not_false, beq_self_eq_true, hvn]; (try simp (disch := omega) only [wrap_id, getD_map_in, Int.toNat_natCast, aopG, bne_self_eq_false, Bool.not_false, beq_self_eq_true, hvn]); (repeat (refine And.intro (by (first | omega | (simp; done) | (simp; omega) | assumption)) ?_)); refine h' _ ?_; clear h' K') | (refine AWp.cond rfl (fun h => ?_) (fun h => ?_) <;> (try simp only [decide_eq_true_eq, decide_eq_false_iff_not, beq_iff_eq, bne_iff_ne, ne_eq, Bool.not_eq_true', Bool.not_eq_false', beq_eq_false_iff_ne, Bool.true_eq_false, Bool.false_eq_true, Int.not_le, Int.not_lt, Bool.and_eq_true, Bool.and_eq_false_iff, Bool.or_eq_true, Bool.or_eq_false_iff, bne_eq_false_iff_eq, reduceCtorEq] at h) <;> (try first | contradiction | (exfalso; omega) | (exfalso; revert h; simp; done) | (exfalso; revert h; simp; omega)))))
            all_goals first
              | (exfalso; omega)
              | skip
            all_goals simp only [Out, outA, outL, resA, go_sem, Nat.reduceLT, Nat.reduceLeDiff, Nat.reduceEqDiff, reduceIte, Nat.reduceAdd, Nat.reduceMul, Nat.reduceSub, Int.reduceLT, Int.reduceLE, Int.reduceToNat, Int.reduceNeg, reduceCtorEq]
            all_goals exact AVle.of_eq (by simp)
        · obtain rfl := f2 hag
          simp only [ne_eq, hag, not_false_eq_true, reduceIte] at hP1
          cases bk
          all_goals simp only [Bool.false_eq_true, reduceIte] at hP1
          all_goals
            refine acall_of (n := 118) (rs := [.tmp 4]) Try.func4 rfl (by kernel_rfl) rfl rfl rfl ?_; simp only [argsE, Nat.reduceAdd]
            repeat (any_goals (first | (refine aops_cons (fun K' h' => ?_); simp only [go_sem, Nat.reduceLT, Nat.reduceLeDiff, Nat.reduceEqDiff, reduceIte, Nat.reduceAdd, Nat.reduceMul, Nat.reduceSub, Int.reduceLT, Int.reduceLE, Int.reduceToNat, Int.reduceNeg, reduceCtorEq, hgs, aopG, bne_self_eq_false, Bool.not_false, beq_self_eq_true, hvn]; (try ((first | refine ⟨_, alive29_c, ?_⟩ | refine ⟨_, fun _ => alive29_c, ?_⟩ | refine ⟨_, hGr, ?_⟩ | refine ⟨_, fun _ => hGr, ?_⟩ | refine ⟨_, hAc, ?_⟩ | refine ⟨_, fun _ => hAc, ?_⟩ | refine ⟨_, hR, ?_⟩ | refine ⟨_, fun _ => hR, ?_⟩ | refine ⟨_, hP1, ?_⟩ | refine ⟨_, fun _ => hP1, ?_⟩ | refine ⟨_, hP2, ?_⟩ | refine ⟨_, fun _ => hP2, ?_⟩ | refine ⟨_, hP3, ?_⟩ | refine ⟨_, fun _ => hP3, ?_⟩ | refine ⟨_, hE1, ?_⟩ | refine ⟨_, fun _ => hE1, ?_⟩ | refine ⟨_, hE2, ?_⟩ | refine ⟨_, fun _ => hE2, ?_⟩); (try simp only [go_sem, Nat.reduceLT, Nat.reduceLeDiff, Nat.reduceEqDiff, reduceIte, Nat.reduceAdd, Nat.reduceMul, Nat.reduceSub, Int.reduceLT, Int.reduceLE, Int.reduceToNat, Int.reduceNeg, reduceCtorEq, hgs, aopG, bne_self_eq_false, Bool.not_false, beq_self_eq_true, hvn]))); (try simp (disch := omega) only [wrap_id, getD_map_in, Int.toNat_natCast, aopG, bne_self_eq_false, Bool.not_false, beq_self_eq_true, hvn]); (repeat (refine And.intro (by (first | omega | (simp; done) | (simp; omega) | assumption)) ?_)); refine h' _ ?_; clear h' K') | (refine aops_nil (hK _ ?_); clear hK K hgs gs; try simp only [aThen, aBlock]) | ((first | refine AWp.sreg (id := 2) dd4 rfl (fun gs K hgs hK => ?_) | refine AWp.reg (id := 2) dd4 rfl (fun gs K hgs hK => ?_)); replace hgs : gs 2 = some 17 ∧ gs 7 = some 22 ∧ gs 12 = some 27 := ⟨hgs 2, hgs 7, hgs 12⟩) | ((first | refine AWp.sreg (id := 9) dd4 rfl (fun gs K hgs hK => ?_) | refine AWp.reg (id := 9) dd4 rfl (fun gs K hgs hK => ?_)); replace hgs : gs 2 = some 54 := hgs 2) | ((first | refine AWp.sreg (id := 14) dd4 rfl (fun gs K hgs hK => ?_) | refine AWp.reg (id := 14) dd4 rfl (fun gs K hgs hK => ?_)); replace hgs : gs 1 = some 65 := hgs 1) | ((first | refine AWp.sreg (id := 21) dd4 rfl (fun gs K hgs hK => ?_) | refine AWp.reg (id := 21) dd4 rfl (fun gs K hgs hK => ?_)); replace hgs : gs 1 = some 84 ∧ gs 8 = some 91 ∧ gs 14 = some 97 ∧ gs 17 = some 100 ∧ gs 24 = some 107 ∧ gs 28 = some 111 := ⟨hgs 1, hgs 8, hgs 14, hgs 17, hgs 24, hgs 28⟩) | (refine AWp.sreg  dd4 rfl (fun gs K hgs hK => ?_); replace hgs : Nat.succ 0 = 1 := rfl) | refine AWp.seq ?_ | refine ARounds.step ?_ | refine AWp.block ?_ | refine AWp.label ?_ | (refine AWp.ret ?_; try simp only [aThen, aBlock]) | (refine AWp.skip ?_; try simp only [aThen, aBlock]) | (refine AWp.exit ?_; try simp only [aThen, aBlock, Nat.reduceEqDiff, reduceIte]) | (refine AWp.reg  dd4 rfl (fun gs K hgs hK => ?_); replace hgs : Nat.succ 0 = 1 := rfl) | (refine aops_consG (fun K' h' => ?_); simp only [go_sem, Nat.reduceLT, Nat.reduceLeDiff, Nat.reduceEqDiff, reduceIte, Nat.reduceAdd, Nat.reduceMul, Nat.reduceSub, Int.reduceLT, Int.reduceLE, Int.reduceToNat, Int.reduceNeg, reduceCtorEq, hgs, aopG, bne_self_eq_false, Bool.not_false, beq_self_eq_true, hvn]; (try simp (disch := omega) only [wrap_id, getD_map_in, Int.toNat_natCast, aopG, bne_self_eq_false, Bool.not_false, beq_self_eq_true, hvn]); (repeat (refine And.intro (by (first | omega | (simp; done) | (simp; omega) | assumption)) ?_)); refine h' _ ?_; clear h' K') | (refine AWp.cond rfl (fun h => ?_) (fun h => ?_) <;> (try simp only [decide_eq_true_eq, decide_eq_false_iff_not, beq_iff_eq, bne_iff_ne, ne_eq, Bool.not_eq_true', Bool.not_eq_false', beq_eq_false_iff_ne, Bool.true_eq_false, Bool.false_eq_true, Int.not_le, Int.not_lt, Bool.and_eq_true, Bool.and_eq_false_iff, Bool.or_eq_true, Bool.or_eq_false_iff, bne_eq_false_iff_eq, reduceCtorEq] at h) <;> (try first | contradiction | (exfalso; omega) | (exfalso; revert h; simp; done) | (exfalso; revert h; simp; omega)))))
            all_goals first
              | (exfalso; omega)
              | skip
            all_goals simp only [Out, outA, outL, resA, go_sem, Nat.reduceLT, Nat.reduceLeDiff, Nat.reduceEqDiff, reduceIte, Nat.reduceAdd, Nat.reduceMul, Nat.reduceSub, Int.reduceLT, Int.reduceLE, Int.reduceToNat, Int.reduceNeg, reduceCtorEq]
            all_goals exact AVle.of_eq (by simp)
    · simp only [hw, decide_false, Bool.false_and, Bool.not_false, reduceIte] at hP1
      by_cases hag : ag = 1
      · subst hag
        simp only [ne_eq, not_true_eq_false, reduceIte] at hP1
        cases bk
        all_goals simp only [Bool.false_eq_true, reduceIte] at hP1
        all_goals
          refine acall_of (n := 118) (rs := [.tmp 4]) Try.func4 rfl (by kernel_rfl) rfl rfl rfl ?_; simp only [argsE, Nat.reduceAdd]
          repeat (any_goals (first | (refine aops_cons (fun K' h' => ?_); simp only [go_sem, Nat.reduceLT, Nat.reduceLeDiff, Nat.reduceEqDiff, reduceIte, Nat.reduceAdd, Nat.reduceMul, Nat.reduceSub, Int.reduceLT, Int.reduceLE, Int.reduceToNat, Int.reduceNeg, reduceCtorEq, hgs, aopG, bne_self_eq_false, Bool.not_false, beq_self_eq_true]; (try ((first | refine ⟨_, alive29_c, ?_⟩ | refine ⟨_, fun _ => alive29_c, ?_⟩ | refine ⟨_, hGr, ?_⟩ | refine ⟨_, fun _ => hGr, ?_⟩ | refine ⟨_, hAc, ?_⟩ | refine ⟨_, fun _ => hAc, ?_⟩ | refine ⟨_, hR, ?_⟩ | refine ⟨_, fun _ => hR, ?_⟩ | refine ⟨_, hP1, ?_⟩ | refine ⟨_, fun _ => hP1, ?_⟩ | refine ⟨_, hP2, ?_⟩ | refine ⟨_, fun _ => hP2, ?_⟩ | refine ⟨_, hP3, ?_⟩ | refine ⟨_, fun _ => hP3, ?_⟩ | refine ⟨_, hE1, ?_⟩ | refine ⟨_, fun _ => hE1, ?_⟩ | refine ⟨_, hE2, ?_⟩ | refine ⟨_, fun _ => hE2, ?_⟩); (try simp only [go_sem, Nat.reduceLT, Nat.reduceLeDiff, Nat.reduceEqDiff, reduceIte, Nat.reduceAdd, Nat.reduceMul, Nat.reduceSub, Int.reduceLT, Int.reduceLE, Int.reduceToNat, Int.reduceNeg, reduceCtorEq, hgs, aopG, bne_self_eq_false, Bool.not_false, beq_self_eq_true]))); (try simp (disch := omega) only [wrap_id, getD_map_in, Int.toNat_natCast, aopG, bne_self_eq_false, Bool.not_false, beq_self_eq_true]); (repeat (refine And.intro (by (first | omega | (simp; done) | (simp; omega) | assumption)) ?_)); refine h' _ ?_; clear h' K') | (refine aops_nil (hK _ ?_); clear hK K hgs gs; try simp only [aThen, aBlock]) | ((first | refine AWp.sreg (id := 2) dd4 rfl (fun gs K hgs hK => ?_) | refine AWp.reg (id := 2) dd4 rfl (fun gs K hgs hK => ?_)); replace hgs : gs 2 = some 17 ∧ gs 7 = some 22 ∧ gs 12 = some 27 := ⟨hgs 2, hgs 7, hgs 12⟩) | ((first | refine AWp.sreg (id := 9) dd4 rfl (fun gs K hgs hK => ?_) | refine AWp.reg (id := 9) dd4 rfl (fun gs K hgs hK => ?_)); replace hgs : gs 2 = some 54 := hgs 2) | ((first | refine AWp.sreg (id := 14) dd4 rfl (fun gs K hgs hK => ?_) | refine AWp.reg (id := 14) dd4 rfl (fun gs K hgs hK => ?_)); replace hgs : gs 1 = some 65 := hgs 1) | ((first | refine AWp.sreg (id := 21) dd4 rfl (fun gs K hgs hK => ?_) | refine AWp.reg (id := 21) dd4 rfl (fun gs K hgs hK => ?_)); replace hgs : gs 1 = some 84 ∧ gs 8 = some 91 ∧ gs 14 = some 97 ∧ gs 17 = some 100 ∧ gs 24 = some 107 ∧ gs 28 = some 111 := ⟨hgs 1, hgs 8, hgs 14, hgs 17, hgs 24, hgs 28⟩) | (refine AWp.sreg  dd4 rfl (fun gs K hgs hK => ?_); replace hgs : Nat.succ 0 = 1 := rfl) | refine AWp.seq ?_ | refine ARounds.step ?_ | refine AWp.block ?_ | refine AWp.label ?_ | (refine AWp.ret ?_; try simp only [aThen, aBlock]) | (refine AWp.skip ?_; try simp only [aThen, aBlock]) | (refine AWp.exit ?_; try simp only [aThen, aBlock, Nat.reduceEqDiff, reduceIte]) | (refine AWp.reg  dd4 rfl (fun gs K hgs hK => ?_); replace hgs : Nat.succ 0 = 1 := rfl) | (refine aops_consG (fun K' h' => ?_); simp only [go_sem, Nat.reduceLT, Nat.reduceLeDiff, Nat.reduceEqDiff, reduceIte, Nat.reduceAdd, Nat.reduceMul, Nat.reduceSub, Int.reduceLT, Int.reduceLE, Int.reduceToNat, Int.reduceNeg, reduceCtorEq, hgs, aopG, bne_self_eq_false, Bool.not_false, beq_self_eq_true]; (try simp (disch := omega) only [wrap_id, getD_map_in, Int.toNat_natCast, aopG, bne_self_eq_false, Bool.not_false, beq_self_eq_true]); (repeat (refine And.intro (by (first | omega | (simp; done) | (simp; omega) | assumption)) ?_)); refine h' _ ?_; clear h' K') | (refine AWp.cond rfl (fun h => ?_) (fun h => ?_) <;> (try simp only [decide_eq_true_eq, decide_eq_false_iff_not, beq_iff_eq, bne_iff_ne, ne_eq, Bool.not_eq_true', Bool.not_eq_false', beq_eq_false_iff_ne, Bool.true_eq_false, Bool.false_eq_true, Int.not_le, Int.not_lt, Bool.and_eq_true, Bool.and_eq_false_iff, Bool.or_eq_true, Bool.or_eq_false_iff, bne_eq_false_iff_eq, reduceCtorEq] at h) <;> (try first | contradiction | (exfalso; omega) | (exfalso; revert h; simp; done) | (exfalso; revert h; simp; omega)))))
          all_goals first
            | (exfalso; omega)
            | skip
          all_goals simp only [Out, outA, outL, resA, go_sem, Nat.reduceLT, Nat.reduceLeDiff, Nat.reduceEqDiff, reduceIte, Nat.reduceAdd, Nat.reduceMul, Nat.reduceSub, Int.reduceLT, Int.reduceLE, Int.reduceToNat, Int.reduceNeg, reduceCtorEq]
          all_goals exact AVle.of_eq (by simp)
      · obtain rfl := f2 hag
        simp only [ne_eq, hag, not_false_eq_true, reduceIte] at hP1
        cases bk
        all_goals simp only [Bool.false_eq_true, reduceIte] at hP1
        all_goals
          refine acall_of (n := 118) (rs := [.tmp 4]) Try.func4 rfl (by kernel_rfl) rfl rfl rfl ?_; simp only [argsE, Nat.reduceAdd]
          repeat (any_goals (first | (refine aops_cons (fun K' h' => ?_); simp only [go_sem, Nat.reduceLT, Nat.reduceLeDiff, Nat.reduceEqDiff, reduceIte, Nat.reduceAdd, Nat.reduceMul, Nat.reduceSub, Int.reduceLT, Int.reduceLE, Int.reduceToNat, Int.reduceNeg, reduceCtorEq, hgs, aopG, bne_self_eq_false, Bool.not_false, beq_self_eq_true]; (try ((first | refine ⟨_, alive29_c, ?_⟩ | refine ⟨_, fun _ => alive29_c, ?_⟩ | refine ⟨_, hGr, ?_⟩ | refine ⟨_, fun _ => hGr, ?_⟩ | refine ⟨_, hAc, ?_⟩ | refine ⟨_, fun _ => hAc, ?_⟩ | refine ⟨_, hR, ?_⟩ | refine ⟨_, fun _ => hR, ?_⟩ | refine ⟨_, hP1, ?_⟩ | refine ⟨_, fun _ => hP1, ?_⟩ | refine ⟨_, hP2, ?_⟩ | refine ⟨_, fun _ => hP2, ?_⟩ | refine ⟨_, hP3, ?_⟩ | refine ⟨_, fun _ => hP3, ?_⟩ | refine ⟨_, hE1, ?_⟩ | refine ⟨_, fun _ => hE1, ?_⟩ | refine ⟨_, hE2, ?_⟩ | refine ⟨_, fun _ => hE2, ?_⟩); (try simp only [go_sem, Nat.reduceLT, Nat.reduceLeDiff, Nat.reduceEqDiff, reduceIte, Nat.reduceAdd, Nat.reduceMul, Nat.reduceSub, Int.reduceLT, Int.reduceLE, Int.reduceToNat, Int.reduceNeg, reduceCtorEq, hgs, aopG, bne_self_eq_false, Bool.not_false, beq_self_eq_true]))); (try simp (disch := omega) only [wrap_id, getD_map_in, Int.toNat_natCast, aopG, bne_self_eq_false, Bool.not_false, beq_self_eq_true]); (repeat (refine And.intro (by (first | omega | (simp; done) | (simp; omega) | assumption)) ?_)); refine h' _ ?_; clear h' K') | (refine aops_nil (hK _ ?_); clear hK K hgs gs; try simp only [aThen, aBlock]) | ((first | refine AWp.sreg (id := 2) dd4 rfl (fun gs K hgs hK => ?_) | refine AWp.reg (id := 2) dd4 rfl (fun gs K hgs hK => ?_)); replace hgs : gs 2 = some 17 ∧ gs 7 = some 22 ∧ gs 12 = some 27 := ⟨hgs 2, hgs 7, hgs 12⟩) | ((first | refine AWp.sreg (id := 9) dd4 rfl (fun gs K hgs hK => ?_) | refine AWp.reg (id := 9) dd4 rfl (fun gs K hgs hK => ?_)); replace hgs : gs 2 = some 54 := hgs 2) | ((first | refine AWp.sreg (id := 14) dd4 rfl (fun gs K hgs hK => ?_) | refine AWp.reg (id := 14) dd4 rfl (fun gs K hgs hK => ?_)); replace hgs : gs 1 = some 65 := hgs 1) | ((first | refine AWp.sreg (id := 21) dd4 rfl (fun gs K hgs hK => ?_) | refine AWp.reg (id := 21) dd4 rfl (fun gs K hgs hK => ?_)); replace hgs : gs 1 = some 84 ∧ gs 8 = some 91 ∧ gs 14 = some 97 ∧ gs 17 = some 100 ∧ gs 24 = some 107 ∧ gs 28 = some 111 := ⟨hgs 1, hgs 8, hgs 14, hgs 17, hgs 24, hgs 28⟩) | (refine AWp.sreg  dd4 rfl (fun gs K hgs hK => ?_); replace hgs : Nat.succ 0 = 1 := rfl) | refine AWp.seq ?_ | refine ARounds.step ?_ | refine AWp.block ?_ | refine AWp.label ?_ | (refine AWp.ret ?_; try simp only [aThen, aBlock]) | (refine AWp.skip ?_; try simp only [aThen, aBlock]) | (refine AWp.exit ?_; try simp only [aThen, aBlock, Nat.reduceEqDiff, reduceIte]) | (refine AWp.reg  dd4 rfl (fun gs K hgs hK => ?_); replace hgs : Nat.succ 0 = 1 := rfl) | (refine aops_consG (fun K' h' => ?_); simp only [go_sem, Nat.reduceLT, Nat.reduceLeDiff, Nat.reduceEqDiff, reduceIte, Nat.reduceAdd, Nat.reduceMul, Nat.reduceSub, Int.reduceLT, Int.reduceLE, Int.reduceToNat, Int.reduceNeg, reduceCtorEq, hgs, aopG, bne_self_eq_false, Bool.not_false, beq_self_eq_true]; (try simp (disch := omega) only [wrap_id, getD_map_in, Int.toNat_natCast, aopG, bne_self_eq_false, Bool.not_false, beq_self_eq_true]); (repeat (refine And.intro (by (first | omega | (simp; done) | (simp; omega) | assumption)) ?_)); refine h' _ ?_; clear h' K') | (refine AWp.cond rfl (fun h => ?_) (fun h => ?_) <;> (try simp only [decide_eq_true_eq, decide_eq_false_iff_not, beq_iff_eq, bne_iff_ne, ne_eq, Bool.not_eq_true', Bool.not_eq_false', beq_eq_false_iff_ne, Bool.true_eq_false, Bool.false_eq_true, Int.not_le, Int.not_lt, Bool.and_eq_true, Bool.and_eq_false_iff, Bool.or_eq_true, Bool.or_eq_false_iff, bne_eq_false_iff_eq, reduceCtorEq] at h) <;> (try first | contradiction | (exfalso; omega) | (exfalso; revert h; simp; done) | (exfalso; revert h; simp; omega)))))
          all_goals first
            | (exfalso; omega)
            | skip
          all_goals simp only [Out, outA, outL, resA, go_sem, Nat.reduceLT, Nat.reduceLeDiff, Nat.reduceEqDiff, reduceIte, Nat.reduceAdd, Nat.reduceMul, Nat.reduceSub, Int.reduceLT, Int.reduceLE, Int.reduceToNat, Int.reduceNeg, reduceCtorEq]
          all_goals exact AVle.of_eq (by simp)
  · -- asked of a query that is great, or not accepted, or of a record that is not right
    have hAc2 : greatF q = true ∨ q.fit := by
      cases hg : greatF q
      · exact .inr (greatF_fit2 hg hb n1 n2)
      · exact .inl rfl
    rcases hAc2 with hg2 | hf
    · rw [hg2] at hGr
      clear hall hg2 hb n1 n2 hr
      obtain ⟨r1, r2, r3⟩ := r
      obtain ⟨ag, ar, sr, jn, wh, ⟨kd, sz, ev⟩, bk, lt⟩ := q
      unfold Qry.cells nodesV intsV Rcd.cells at *
      simp only at *
      refine acall_of (n := 118) (rs := [.tmp 4]) Try.func4 rfl (by kernel_rfl) rfl rfl rfl ?_; simp only [argsE, Nat.reduceAdd]
      repeat (any_goals (first | (refine aops_cons (fun K' h' => ?_); simp only [go_sem, Nat.reduceLT, Nat.reduceLeDiff, Nat.reduceEqDiff, reduceIte, Nat.reduceAdd, Nat.reduceMul, Nat.reduceSub, Int.reduceLT, Int.reduceLE, Int.reduceToNat, Int.reduceNeg, reduceCtorEq, hgs, aopG, bne_self_eq_false, Bool.not_false, beq_self_eq_true]; (try ((first | refine ⟨_, alive29_c, ?_⟩ | refine ⟨_, fun _ => alive29_c, ?_⟩ | refine ⟨_, hGr, ?_⟩ | refine ⟨_, fun _ => hGr, ?_⟩ | refine ⟨_, hAc, ?_⟩ | refine ⟨_, fun _ => hAc, ?_⟩ | refine ⟨_, hR, ?_⟩ | refine ⟨_, fun _ => hR, ?_⟩ | refine ⟨_, hP1, ?_⟩ | refine ⟨_, fun _ => hP1, ?_⟩ | refine ⟨_, hP2, ?_⟩ | refine ⟨_, fun _ => hP2, ?_⟩ | refine ⟨_, hP3, ?_⟩ | refine ⟨_, fun _ => hP3, ?_⟩ | refine ⟨_, hE1, ?_⟩ | refine ⟨_, fun _ => hE1, ?_⟩ | refine ⟨_, hE2, ?_⟩ | refine ⟨_, fun _ => hE2, ?_⟩); (try simp only [go_sem, Nat.reduceLT, Nat.reduceLeDiff, Nat.reduceEqDiff, reduceIte, Nat.reduceAdd, Nat.reduceMul, Nat.reduceSub, Int.reduceLT, Int.reduceLE, Int.reduceToNat, Int.reduceNeg, reduceCtorEq, hgs, aopG, bne_self_eq_false, Bool.not_false, beq_self_eq_true]))); (try simp (disch := omega) only [wrap_id, getD_map_in, Int.toNat_natCast, aopG, bne_self_eq_false, Bool.not_false, beq_self_eq_true]); (repeat (refine And.intro (by (first | omega | (simp; done) | (simp; omega) | assumption)) ?_)); refine h' _ ?_; clear h' K') | (refine aops_nil (hK _ ?_); clear hK K hgs gs; try simp only [aThen, aBlock]) | ((first | refine AWp.sreg (id := 2) dd4 rfl (fun gs K hgs hK => ?_) | refine AWp.reg (id := 2) dd4 rfl (fun gs K hgs hK => ?_)); replace hgs : gs 2 = some 17 ∧ gs 7 = some 22 ∧ gs 12 = some 27 := ⟨hgs 2, hgs 7, hgs 12⟩) | ((first | refine AWp.sreg (id := 9) dd4 rfl (fun gs K hgs hK => ?_) | refine AWp.reg (id := 9) dd4 rfl (fun gs K hgs hK => ?_)); replace hgs : gs 2 = some 54 := hgs 2) | ((first | refine AWp.sreg (id := 14) dd4 rfl (fun gs K hgs hK => ?_) | refine AWp.reg (id := 14) dd4 rfl (fun gs K hgs hK => ?_)); replace hgs : gs 1 = some 65 := hgs 1) | ((first | refine AWp.sreg (id := 21) dd4 rfl (fun gs K hgs hK => ?_) | refine AWp.reg (id := 21) dd4 rfl (fun gs K hgs hK => ?_)); replace hgs : gs 1 = some 84 ∧ gs 8 = some 91 ∧ gs 14 = some 97 ∧ gs 17 = some 100 ∧ gs 24 = some 107 ∧ gs 28 = some 111 := ⟨hgs 1, hgs 8, hgs 14, hgs 17, hgs 24, hgs 28⟩) | (refine AWp.sreg  dd4 rfl (fun gs K hgs hK => ?_); replace hgs : Nat.succ 0 = 1 := rfl) | refine AWp.seq ?_ | refine ARounds.step ?_ | refine AWp.block ?_ | refine AWp.label ?_ | (refine AWp.ret ?_; try simp only [aThen, aBlock]) | (refine AWp.skip ?_; try simp only [aThen, aBlock]) | (refine AWp.exit ?_; try simp only [aThen, aBlock, Nat.reduceEqDiff, reduceIte]) | (refine AWp.reg  dd4 rfl (fun gs K hgs hK => ?_); replace hgs : Nat.succ 0 = 1 := rfl) | (refine aops_consG (fun K' h' => ?_); simp only [go_sem, Nat.reduceLT, Nat.reduceLeDiff, Nat.reduceEqDiff, reduceIte, Nat.reduceAdd, Nat.reduceMul, Nat.reduceSub, Int.reduceLT, Int.reduceLE, Int.reduceToNat, Int.reduceNeg, reduceCtorEq, hgs, aopG, bne_self_eq_false, Bool.not_false, beq_self_eq_true]; (try simp (disch := omega) only [wrap_id, getD_map_in, Int.toNat_natCast, aopG, bne_self_eq_false, Bool.not_false, beq_self_eq_true]); (repeat (refine And.intro (by (first | omega | (simp; done) | (simp; omega) | assumption)) ?_)); refine h' _ ?_; clear h' K') | (refine AWp.cond rfl (fun h => ?_) (fun h => ?_) <;> (try simp only [decide_eq_true_eq, decide_eq_false_iff_not, beq_iff_eq, bne_iff_ne, ne_eq, Bool.not_eq_true', Bool.not_eq_false', beq_eq_false_iff_ne, Bool.true_eq_false, Bool.false_eq_true, Int.not_le, Int.not_lt, Bool.and_eq_true, Bool.and_eq_false_iff, Bool.or_eq_true, Bool.or_eq_false_iff, bne_eq_false_iff_eq, reduceCtorEq] at h) <;> (try first | contradiction | (exfalso; omega) | (exfalso; revert h; simp; done) | (exfalso; revert h; simp; omega)))))
      all_goals simp only [Out, outA, outL, resA, go_sem, Nat.reduceLT, Nat.reduceLeDiff, Nat.reduceEqDiff, reduceIte, Nat.reduceAdd, Nat.reduceMul, Nat.reduceSub, Int.reduceLT, Int.reduceLE, Int.reduceToNat, Int.reduceNeg, reduceCtorEq]
      all_goals exact AVle.refl _
    · have hAc := accepted29_c q hf
      obtain ⟨gf, hgf⟩ : ∃ g, greatF q = g := ⟨_, rfl⟩
      obtain ⟨ac, hac⟩ : ∃ a, accE q = a := ⟨_, rfl⟩
      obtain ⟨tb, htb⟩ : ∃ b, isTimeB r.t = b := ⟨_, rfl⟩
      have hR := right25_c r.key r.t r.v
      rw [hgf, hac, htb] at hall
      rw [hgf] at hGr
      rw [hac] at hAc
      rw [htb] at hR
      clear hgf hac htb hb n1 n2 hr hf
      obtain ⟨r1, r2, r3⟩ := r
      obtain ⟨ag, ar, sr, jn, wh, ⟨kd, sz, ev⟩, bk, lt⟩ := q
      unfold Qry.cells nodesV intsV Rcd.cells at *
      simp only at *
      by_cases ha : ac = 0
      · rw [decide_eq_true ha] at hAc
        cases gf <;> cases tb
        all_goals first
          | exact absurd ⟨rfl, ha, rfl⟩ hall
          | skip
        all_goals
          refine acall_of (n := 118) (rs := [.tmp 4]) Try.func4 rfl (by kernel_rfl) rfl rfl rfl ?_; simp only [argsE, Nat.reduceAdd]
          repeat (any_goals (first | (refine aops_cons (fun K' h' => ?_); simp only [go_sem, Nat.reduceLT, Nat.reduceLeDiff, Nat.reduceEqDiff, reduceIte, Nat.reduceAdd, Nat.reduceMul, Nat.reduceSub, Int.reduceLT, Int.reduceLE, Int.reduceToNat, Int.reduceNeg, reduceCtorEq, hgs, aopG, bne_self_eq_false, Bool.not_false, beq_self_eq_true]; (try ((first | refine ⟨_, alive29_c, ?_⟩ | refine ⟨_, fun _ => alive29_c, ?_⟩ | refine ⟨_, hGr, ?_⟩ | refine ⟨_, fun _ => hGr, ?_⟩ | refine ⟨_, hAc, ?_⟩ | refine ⟨_, fun _ => hAc, ?_⟩ | refine ⟨_, hR, ?_⟩ | refine ⟨_, fun _ => hR, ?_⟩ | refine ⟨_, hP1, ?_⟩ | refine ⟨_, fun _ => hP1, ?_⟩ | refine ⟨_, hP2, ?_⟩ | refine ⟨_, fun _ => hP2, ?_⟩ | refine ⟨_, hP3, ?_⟩ | refine ⟨_, fun _ => hP3, ?_⟩ | refine ⟨_, hE1, ?_⟩ | refine ⟨_, fun _ => hE1, ?_⟩ | refine ⟨_, hE2, ?_⟩ | refine ⟨_, fun _ => hE2, ?_⟩); (try simp only [go_sem, Nat.reduceLT, Nat.reduceLeDiff, Nat.reduceEqDiff, reduceIte, Nat.reduceAdd, Nat.reduceMul, Nat.reduceSub, Int.reduceLT, Int.reduceLE, Int.reduceToNat, Int.reduceNeg, reduceCtorEq, hgs, aopG, bne_self_eq_false, Bool.not_false, beq_self_eq_true]))); (try simp (disch := omega) only [wrap_id, getD_map_in, Int.toNat_natCast, aopG, bne_self_eq_false, Bool.not_false, beq_self_eq_true]); (repeat (refine And.intro (by (first | omega | (simp; done) | (simp; omega) | assumption)) ?_)); refine h' _ ?_; clear h' K') | (refine aops_nil (hK _ ?_); clear hK K hgs gs; try simp only [aThen, aBlock]) | ((first | refine AWp.sreg (id := 2) dd4 rfl (fun gs K hgs hK => ?_) | refine AWp.reg (id := 2) dd4 rfl (fun gs K hgs hK => ?_)); replace hgs : gs 2 = some 17 ∧ gs 7 = some 22 ∧ gs 12 = some 27 := ⟨hgs 2, hgs 7, hgs 12⟩) | ((first | refine AWp.sreg (id := 9) dd4 rfl (fun gs K hgs hK => ?_) | refine AWp.reg (id := 9) dd4 rfl (fun gs K hgs hK => ?_)); replace hgs : gs 2 = some 54 := hgs 2) | ((first | refine AWp.sreg (id := 14) dd4 rfl (fun gs K hgs hK => ?_) | refine AWp.reg (id := 14) dd4 rfl (fun gs K hgs hK => ?_)); replace hgs : gs 1 = some 65 := hgs 1) | ((first | refine AWp.sreg (id := 21) dd4 rfl (fun gs K hgs hK => ?_) | refine AWp.reg (id := 21) dd4 rfl (fun gs K hgs hK => ?_)); replace hgs : gs 1 = some 84 ∧ gs 8 = some 91 ∧ gs 14 = some 97 ∧ gs 17 = some 100 ∧ gs 24 = some 107 ∧ gs 28 = some 111 := ⟨hgs 1, hgs 8, hgs 14, hgs 17, hgs 24, hgs 28⟩) | (refine AWp.sreg  dd4 rfl (fun gs K hgs hK => ?_); replace hgs : Nat.succ 0 = 1 := rfl) | refine AWp.seq ?_ | refine ARounds.step ?_ | refine AWp.block ?_ | refine AWp.label ?_ | (refine AWp.ret ?_; try simp only [aThen, aBlock]) | (refine AWp.skip ?_; try simp only [aThen, aBlock]) | (refine AWp.exit ?_; try simp only [aThen, aBlock, Nat.reduceEqDiff, reduceIte]) | (refine AWp.reg  dd4 rfl (fun gs K hgs hK => ?_); replace hgs : Nat.succ 0 = 1 := rfl) | (refine aops_consG (fun K' h' => ?_); simp only [go_sem, Nat.reduceLT, Nat.reduceLeDiff, Nat.reduceEqDiff, reduceIte, Nat.reduceAdd, Nat.reduceMul, Nat.reduceSub, Int.reduceLT, Int.reduceLE, Int.reduceToNat, Int.reduceNeg, reduceCtorEq, hgs, aopG, bne_self_eq_false, Bool.not_false, beq_self_eq_true]; (try simp (disch := omega) only [wrap_id, getD_map_in, Int.toNat_natCast, aopG, bne_self_eq_false, Bool.not_false, beq_self_eq_true]); (repeat (refine And.intro (by (first | omega | (simp; done) | (simp; omega) | assumption)) ?_)); refine h' _ ?_; clear h' K') | (refine AWp.cond rfl (fun h => ?_) (fun h => ?_) <;> (try simp only [decide_eq_true_eq, decide_eq_false_iff_not, beq_iff_eq, bne_iff_ne, ne_eq, Bool.not_eq_true', Bool.not_eq_false', beq_eq_false_iff_ne, Bool.true_eq_false, Bool.false_eq_true, Int.not_le, Int.not_lt, Bool.and_eq_true, Bool.and_eq_false_iff, Bool.or_eq_true, Bool.or_eq_false_iff, bne_eq_false_iff_eq, reduceCtorEq] at h) <;> (try first | contradiction | (exfalso; omega) | (exfalso; revert h; simp; done) | (exfalso; revert h; simp; omega)))))
          all_goals simp only [Out, outA, outL, resA, go_sem, Nat.reduceLT, Nat.reduceLeDiff, Nat.reduceEqDiff, reduceIte, Nat.reduceAdd, Nat.reduceMul, Nat.reduceSub, Int.reduceLT, Int.reduceLE, Int.reduceToNat, Int.reduceNeg, reduceCtorEq]
          all_goals exact AVle.refl _
      · rw [decide_eq_false ha] at hAc
        cases gf
        all_goals
          refine acall_of (n := 118) (rs := [.tmp 4]) Try.func4 rfl (by kernel_rfl) rfl rfl rfl ?_; simp only [argsE, Nat.reduceAdd]
          repeat (any_goals (first | (refine aops_cons (fun K' h' => ?_); simp only [go_sem, Nat.reduceLT, Nat.reduceLeDiff, Nat.reduceEqDiff, reduceIte, Nat.reduceAdd, Nat.reduceMul, Nat.reduceSub, Int.reduceLT, Int.reduceLE, Int.reduceToNat, Int.reduceNeg, reduceCtorEq, hgs, aopG, bne_self_eq_false, Bool.not_false, beq_self_eq_true]; (try ((first | refine ⟨_, alive29_c, ?_⟩ | refine ⟨_, fun _ => alive29_c, ?_⟩ | refine ⟨_, hGr, ?_⟩ | refine ⟨_, fun _ => hGr, ?_⟩ | refine ⟨_, hAc, ?_⟩ | refine ⟨_, fun _ => hAc, ?_⟩ | refine ⟨_, hR, ?_⟩ | refine ⟨_, fun _ => hR, ?_⟩ | refine ⟨_, hP1, ?_⟩ | refine ⟨_, fun _ => hP1, ?_⟩ | refine ⟨_, hP2, ?_⟩ | refine ⟨_, fun _ => hP2, ?_⟩ | refine ⟨_, hP3, ?_⟩ | refine ⟨_, fun _ => hP3, ?_⟩ | refine ⟨_, hE1, ?_⟩ | refine ⟨_, fun _ => hE1, ?_⟩ | refine ⟨_, hE2, ?_⟩ | refine ⟨_, fun _ => hE2, ?_⟩); (try simp only [go_sem, Nat.reduceLT, Nat.reduceLeDiff, Nat.reduceEqDiff, reduceIte, Nat.reduceAdd, Nat.reduceMul, Nat.reduceSub, Int.reduceLT, Int.reduceLE, Int.reduceToNat, Int.reduceNeg, reduceCtorEq, hgs, aopG, bne_self_eq_false, Bool.not_false, beq_self_eq_true]))); (try simp (disch := omega) only [wrap_id, getD_map_in, Int.toNat_natCast, aopG, bne_self_eq_false, Bool.not_false, beq_self_eq_true]); (repeat (refine And.intro (by (first | omega | (simp; done) | (simp; omega) | assumption)) ?_)); refine h' _ ?_; clear h' K') | (refine aops_nil (hK _ ?_); clear hK K hgs gs; try simp only [aThen, aBlock]) | ((first | refine AWp.sreg (id := 2) dd4 rfl (fun gs K hgs hK => ?_) | refine AWp.reg (id := 2) dd4 rfl (fun gs K hgs hK => ?_)); replace hgs : gs 2 = some 17 ∧ gs 7 = some 22 ∧ gs 12 = some 27 := ⟨hgs 2, hgs 7, hgs 12⟩) | ((first | refine AWp.sreg (id := 9) dd4 rfl (fun gs K hgs hK => ?_) | refine AWp.reg (id := 9) dd4 rfl (fun gs K hgs hK => ?_)); replace hgs : gs 2 = some 54 := hgs 2) | ((first | refine AWp.sreg (id := 14) dd4 rfl (fun gs K hgs hK => ?_) | refine AWp.reg (id := 14) dd4 rfl (fun gs K hgs hK => ?_)); replace hgs : gs 1 = some 65 := hgs 1) | ((first | refine AWp.sreg (id := 21) dd4 rfl (fun gs K hgs hK => ?_) | refine AWp.reg (id := 21) dd4 rfl (fun gs K hgs hK => ?_)); replace hgs : gs 1 = some 84 ∧ gs 8 = some 91 ∧ gs 14 = some 97 ∧ gs 17 = some 100 ∧ gs 24 = some 107 ∧ gs 28 = some 111 := ⟨hgs 1, hgs 8, hgs 14, hgs 17, hgs 24, hgs 28⟩) | (refine AWp.sreg  dd4 rfl (fun gs K hgs hK => ?_); replace hgs : Nat.succ 0 = 1 := rfl) | refine AWp.seq ?_ | refine ARounds.step ?_ | refine AWp.block ?_ | refine AWp.label ?_ | (refine AWp.ret ?_; try simp only [aThen, aBlock]) | (refine AWp.skip ?_; try simp only [aThen, aBlock]) | (refine AWp.exit ?_; try simp only [aThen, aBlock, Nat.reduceEqDiff, reduceIte]) | (refine AWp.reg  dd4 rfl (fun gs K hgs hK => ?_); replace hgs : Nat.succ 0 = 1 := rfl) | (refine aops_consG (fun K' h' => ?_); simp only [go_sem, Nat.reduceLT, Nat.reduceLeDiff, Nat.reduceEqDiff, reduceIte, Nat.reduceAdd, Nat.reduceMul, Nat.reduceSub, Int.reduceLT, Int.reduceLE, Int.reduceToNat, Int.reduceNeg, reduceCtorEq, hgs, aopG, bne_self_eq_false, Bool.not_false, beq_self_eq_true]; (try simp (disch := omega) only [wrap_id, getD_map_in, Int.toNat_natCast, aopG, bne_self_eq_false, Bool.not_false, beq_self_eq_true]); (repeat (refine And.intro (by (first | omega | (simp; done) | (simp; omega) | assumption)) ?_)); refine h' _ ?_; clear h' K') | (refine AWp.cond rfl (fun h => ?_) (fun h => ?_) <;> (try simp only [decide_eq_true_eq, decide_eq_false_iff_not, beq_iff_eq, bne_iff_ne, ne_eq, Bool.not_eq_true', Bool.not_eq_false', beq_eq_false_iff_ne, Bool.true_eq_false, Bool.false_eq_true, Int.not_le, Int.not_lt, Bool.and_eq_true, Bool.and_eq_false_iff, Bool.or_eq_true, Bool.or_eq_false_iff, bne_eq_false_iff_eq, reduceCtorEq] at h) <;> (try first | contradiction | (exfalso; omega) | (exfalso; revert h; simp; done) | (exfalso; revert h; simp; omega)))))
          all_goals simp only [Out, outA, outL, resA, go_sem, Nat.reduceLT, Nat.reduceLeDiff, Nat.reduceEqDiff, reduceIte, Nat.reduceAdd, Nat.reduceMul, Nat.reduceSub, Int.reduceLT, Int.reduceLE, Int.reduceToNat, Int.reduceNeg, reduceCtorEq]
          all_goals exact AVle.refl _
theorem fwhere_all : ∀ xs, ShpAs Try.prog 8 Try.f4.params.toList xs → ACall Try.prog 4 xs (.lit (.bool true)) := by
  intro xs h
  have hp : Try.f4.params.toList = [27, 29] := by kernel_rfl
  rw [hp] at h
  obtain ⟨a, r, rfl, ha, h⟩ := h
  obtain ⟨b, r, rfl, hb, h⟩ := h
  obtain rfl : r = [] := h
  obtain ⟨q, rfl, h1, h2, h3, h4, h5, h6⟩ := qryB_shape ha
  obtain ⟨r, rfl, hr⟩ := recB_shape hb
  exact fwhere_law q r h1 h2 h3 h4 h5 h6 hr
end Go.Proofs.Ytmooelhocanlnaa
