/-
  The law FoldsFields.
-/
import Derived.Test.YteohklfoggiojaaFdH
namespace Go.Proofs.Yteohklfoggiojaa
open Go.AL Go.RowKit
set_option linter.unusedSimpArgs false
set_option linter.unusedVariables false
set_option maxRecDepth 10000
set_option maxHeartbeats 8000000
def mkF (q : Int) (l : List Node) (k : Nat) : List Node := l.mapIdx fun i x => if i < k then x.fieldy q else x
theorem mkF_len (q : Int) (l : List Node) (k : Nat) : (mkF q l k).length = l.length := by simp [mkF]
theorem mkF_0 (q : Int) (l : List Node) : mkF q l 0 = l := by
  apply List.ext_getElem?
  intro i
  simp [mkF, List.getElem?_mapIdx]
theorem mkF_all (q : Int) (l : List Node) : mkF q l l.length = l.map (Node.fieldy q) := by
  apply List.ext_getElem?
  intro i
  simp only [mkF, List.getElem?_mapIdx, List.getElem?_map]
  by_cases h : i < l.length
  · rw [List.getElem?_eq_getElem h]; simp [h]
  · rw [List.getElem?_eq_none (by omega)]; rfl
theorem mkF_at {q : Int} {l : List Node} {k : Nat} (hk : k < l.length) : (mkF q l k).getD k default = l.getD k default := by
  simp [mkF, List.getD_eq_getElem?_getD, List.getElem?_mapIdx, List.getElem?_eq_getElem hk]
theorem mkF_step {q : Int} {l : List Node} {k : Nat} (hk : k < l.length) : mkF q l (k + 1) = (mkF q l k).set k ((l.getD k default).fieldy q) := by
  apply List.ext_getElem?
  intro i
  rw [List.getElem?_set]
  by_cases h : k = i
  · subst h
    rw [if_pos rfl, mkF_len, if_pos hk]
    simp [mkF, List.getElem?_mapIdx, List.getD_eq_getElem?_getD, List.getElem?_eq_getElem hk]
  · rw [if_neg h]
    simp only [mkF, List.getElem?_mapIdx]
    by_cases h2 : i < k
    · simp [h2, show i < k + 1 by omega]
    · simp [h2, show ¬ i < k + 1 by omega]
theorem mkF_same {q : Int} {l : List Node} {k : Nat} (hk : k < l.length) (h1 : (l.getD k default).kind ≠ 1) : mkF q l (k + 1) = mkF q l k := by
  rw [mkF_step hk]
  have hf : (l.getD k default).fieldy q = (mkF q l k).getD k default := by rw [mkF_at hk]; unfold Node.fieldy; rw [if_neg h1]
  rw [hf, List.getD_eq_getElem?_getD, List.getElem?_eq_getElem (by rw [mkF_len]; exact hk)]
  exact List.set_getElem_self _
def dd6 : Nat → List (List Nat)
  | 0 => [[], [4]]
  | 1 => [[], [], [10], [11], [], [13], [12, 14], [15], [], [17], [16, 18]]
  | 2 => [[0, 1, 19], [], [20]]
  | 3 => [[19], [], [22], [23], [], [], [21], [5, 24], [6, 25], [26]]
  | 4 => [[], [7], [27]]
  | 5 => [[0, 1, 28], [], [29]]
  | 6 => [[28], [], [0], [30, 31], [32]]
  | 7 => [[], []]
  | 8 => [[], [], [], [34], [33, 35]]
  | 9 => [[44], [9], [37], [38]]
  | 10 => [[36], [], [], [39, 40], [41], [42], [43]]
  | 11 => [[44], [], [], [], [], [], [45, 46], [50], [49, 51], [47, 48], [52], [53]]
  | 12 => [[1, 9, 36], [], [8], [54, 55], [56], [], [57, 58], [59]]
  | _ => []
theorem fdfields_law (l : List Node) (q : Int) (hl : l.length ≤ maxLen) (hn : nodesB l) : ACall Try.prog 6 [nodesV l, .lit (.int .u8 q)] (.lit (.bool true)) := by
  have hGr := great_c l
  unfold maxLen at hl
  by_cases hg : l.length ≤ 70
  · rw [decide_eq_false (by omega)] at hGr
    by_cases hq : 2 ≤ q ∧ q ≤ 4
    · obtain ⟨hq1, hq2⟩ := hq
      have hO6 := rOf_c l (by omega)
      by_cases h0 : ofE l = 0
      · obtain ⟨e, H⟩ := fld_of h0 hn
        have hmx : l.map (Node.fieldy q) = (e.fieldy q).fl 0 := by rw [e.fieldy_fl q 0 H.ex.1, ← H.ex.2]
        have hmw := e.fieldy_wf hq1 hq2 H.ex.1
        have hms : (e.fieldy q).sz ≤ 60 := by rw [e.fieldy_sz q]; exact H.sz
        have hmd : (e.fieldy q).dp ≤ 20 := by rw [e.fieldy_dp q]; exact H.dp
        have hmt : (e.fieldy q).typ = true := by rw [e.fieldy_typ hq2 H.ex.1]; exact H.typ
        have hmB := Ex.fieldy_nB (q := q) H.nB
        have hm0 : ofE (l.map (Node.fieldy q)) = 0 := by rw [hmx]; exact ofE_ty hmw hms hmd hmt
        have hmf : fldR (l.map (Node.fieldy q)) = l.map (Node.fieldy q) := by rw [hmx, fldR_fl hmw hms hmd hmt, foldE_fieldy hq1 e]
        have hB := becomes_l (l.map (Node.fieldy q)) (l.map (Node.fieldy q)) (by simp; omega) (by rw [hmx]; exact Ex.nB_fl _ 0 hmw hmB) (by simp; omega) (by rw [hmf]; simp; omega)
        rw [hm0, hmf] at hB
        simp only [decide_true, Bool.and_true, Bool.and_self] at hB
        rw [h0] at hO6
        have hk0 := mkF_0 q l
        have hka := mkF_all q l
        rw [← hka] at hB
        have hd1 : decide (q < 2) = false := decide_eq_false (by omega)
        have hd2 : decide (4 < q) = false := decide_eq_false (by omega)
        clear H hmx hmw hms hmd hmt hmB hm0 hmf hka hn
        generalize ofN l = n at *
        generalize ofB l = b at *
        unfold nodesV at *
        have htk0 : (l.map Node.cells).take l.length = l.map Node.cells := List.take_of_length_le (by simp)
        refine acall_of (n := 60) (rs := [.tmp 4]) Try.func6 rfl (by kernel_rfl) rfl rfl rfl ?_; simp only [argsE, Nat.reduceAdd]
        repeat (any_goals (first | (refine aops_cons (fun K' h' => ?_); simp only [go_sem, Nat.reduceLT, Nat.reduceLeDiff, Nat.reduceEqDiff, reduceIte, Nat.reduceAdd, Nat.reduceMul, Nat.reduceSub, Int.reduceLT, Int.reduceLE, Int.reduceToNat, Int.reduceNeg, reduceCtorEq, hgs, Node.cells, aopG, beq_self_eq_true, hd1, hd2, htk0]; (try ((first | refine ⟨_, hGr, ?_⟩ | refine ⟨_, fun _ => hGr, ?_⟩ | refine ⟨_, hO6, ?_⟩ | refine ⟨_, fun _ => hO6, ?_⟩ | refine ⟨_, hB, ?_⟩ | refine ⟨_, fun _ => hB, ?_⟩ | refine ⟨_, alive12_c, ?_⟩ | refine ⟨_, fun _ => alive12_c, ?_⟩); (try simp only [go_sem, Nat.reduceLT, Nat.reduceLeDiff, Nat.reduceEqDiff, reduceIte, Nat.reduceAdd, Nat.reduceMul, Nat.reduceSub, Int.reduceLT, Int.reduceLE, Int.reduceToNat, Int.reduceNeg, reduceCtorEq, hgs, Node.cells, aopG, beq_self_eq_true, hd1, hd2, htk0]))); (try simp (disch := omega) only [wrap_id, getD_map_in, Int.toNat_natCast, Node.cells, aopG, beq_self_eq_true, hd1, hd2, htk0]); (repeat (refine And.intro (by (first | omega | (simp; done) | (simp; omega) | assumption)) ?_)); refine h' _ ?_; clear h' K') | (refine aops_nil (hK _ ?_); clear hK K hgs gs; try simp only [aThen, aBlock]) | ((first | refine AWp.sreg (id := 1) dd6 rfl (fun gs K hgs hK => ?_) | refine AWp.reg (id := 1) dd6 rfl (fun gs K hgs hK => ?_)); replace hgs : gs 2 = some 12 ∧ gs 6 = some 16 := ⟨hgs 2, hgs 6⟩) | ((first | refine AWp.sreg (id := 12) dd6 rfl (fun gs K hgs hK => ?_) | refine AWp.reg (id := 12) dd6 rfl (fun gs K hgs hK => ?_)); replace hgs : gs 3 = some 57 := hgs 3) | (refine AWp.sreg  dd6 rfl (fun gs K hgs hK => ?_); replace hgs : Nat.succ 0 = 1 := rfl) | refine AWp.seq ?_ | refine ARounds.step ?_ | refine AWp.block ?_ | refine AWp.label ?_ | (refine AWp.ret ?_; try simp only [aThen, aBlock]) | (refine AWp.skip ?_; try simp only [aThen, aBlock]) | (refine AWp.exit ?_; try simp only [aThen, aBlock, Nat.reduceEqDiff, reduceIte]) | (refine AWp.reg  dd6 rfl (fun gs K hgs hK => ?_); replace hgs : Nat.succ 0 = 1 := rfl) | (refine aops_consG (fun K' h' => ?_); simp only [go_sem, Nat.reduceLT, Nat.reduceLeDiff, Nat.reduceEqDiff, reduceIte, Nat.reduceAdd, Nat.reduceMul, Nat.reduceSub, Int.reduceLT, Int.reduceLE, Int.reduceToNat, Int.reduceNeg, reduceCtorEq, hgs, Node.cells, aopG, beq_self_eq_true, hd1, hd2, htk0]; (try simp (disch := omega) only [wrap_id, getD_map_in, Int.toNat_natCast, Node.cells, aopG, beq_self_eq_true, hd1, hd2, htk0]); (repeat (refine And.intro (by (first | omega | (simp; done) | (simp; omega) | assumption)) ?_)); refine h' _ ?_; clear h' K') | (refine AWp.cond rfl (fun h => ?_) (fun h => ?_) <;> (try simp only [decide_eq_true_eq, decide_eq_false_iff_not, beq_iff_eq, bne_iff_ne, ne_eq, Bool.not_eq_true', Bool.not_eq_false', beq_eq_false_iff_ne, Bool.true_eq_false, Bool.false_eq_true, Int.not_le, Int.not_lt, Bool.and_eq_true, Bool.and_eq_false_iff, Bool.or_eq_true, Bool.or_eq_false_iff, bne_eq_false_iff_eq, reduceCtorEq] at h) <;> (try first | contradiction | (exfalso; omega) | (exfalso; revert h; simp; done) | (exfalso; revert h; simp; omega)))))
        refine AWp.loopN l.length (fun _ => True) (fun k => ⟨[(1, .lit (.int .u8 q)), (8, .own 0 5 0 l.length), (9, .lit (.int .i64 (k : Int)))], [], [some ⟨50, 5, (mkF q l k).map Node.cells⟩]⟩) ?_ ?_
        · refine Wk.ofCut 0 1 rfl ?_ ?_
          · rw [hk0]; simp [ASt.drop]
          · simp [subE, eget, ASt.drop, dropE, keepR, lowE, AV.lowB, lowL, Nat.blt, Nat.ble]
        · intro k hk _
          have hlen := mkF_len q l k
          by_cases hkk : k < l.length
          · have hat := mkF_at (q := q) hkk
            have hst := mkF_step (q := q) hkk
            have hsm := mkF_same (q := q) hkk
            obtain ⟨y, hy⟩ : ∃ y, l.getD k default = y := ⟨_, rfl⟩
            rw [hy] at hat hst hsm
            generalize mkF q l k = M at *
            have hg1 : ∀ v : List AV, ((M.map Node.cells).set k v).getD k [] = v := fun v => by
              rw [List.getD_eq_getElem?_getD, List.getElem?_set_self (by simp; omega)]; rfl
            obtain ⟨kd, nn, xa, xb, xp⟩ := y
            simp only at hsm
            by_cases h1 : kd = 1
            · subst h1
              unfold Node.fieldy at hst
              simp only [if_true] at hst
              repeat (any_goals (first | (refine aops_cons (fun K' h' => ?_); simp only [go_sem, Nat.reduceLT, Nat.reduceLeDiff, Nat.reduceEqDiff, reduceIte, Nat.reduceAdd, Nat.reduceMul, Nat.reduceSub, Int.reduceLT, Int.reduceLE, Int.reduceToNat, Int.reduceNeg, reduceCtorEq, hgs, Node.cells, aopG, beq_self_eq_true, hat, hg1, hlen]; (try ((first | refine ⟨_, hGr, ?_⟩ | refine ⟨_, fun _ => hGr, ?_⟩ | refine ⟨_, hO6, ?_⟩ | refine ⟨_, fun _ => hO6, ?_⟩ | refine ⟨_, hB, ?_⟩ | refine ⟨_, fun _ => hB, ?_⟩ | refine ⟨_, alive12_c, ?_⟩ | refine ⟨_, fun _ => alive12_c, ?_⟩); (try simp only [go_sem, Nat.reduceLT, Nat.reduceLeDiff, Nat.reduceEqDiff, reduceIte, Nat.reduceAdd, Nat.reduceMul, Nat.reduceSub, Int.reduceLT, Int.reduceLE, Int.reduceToNat, Int.reduceNeg, reduceCtorEq, hgs, Node.cells, aopG, beq_self_eq_true, hat, hg1, hlen]))); (try simp (disch := omega) only [wrap_id, getD_map_in, Int.toNat_natCast, Node.cells, aopG, beq_self_eq_true, hat, hg1, hlen]); (repeat (refine And.intro (by (first | omega | (simp; done) | (simp; omega) | assumption)) ?_)); refine h' _ ?_; clear h' K') | (refine aops_nil (hK _ ?_); clear hK K hgs gs; try simp only [aThen, aBlock]) | ((first | refine AWp.sreg (id := 1) dd6 rfl (fun gs K hgs hK => ?_) | refine AWp.reg (id := 1) dd6 rfl (fun gs K hgs hK => ?_)); replace hgs : gs 2 = some 12 ∧ gs 6 = some 16 := ⟨hgs 2, hgs 6⟩) | ((first | refine AWp.sreg (id := 12) dd6 rfl (fun gs K hgs hK => ?_) | refine AWp.reg (id := 12) dd6 rfl (fun gs K hgs hK => ?_)); replace hgs : gs 3 = some 57 := hgs 3) | (refine AWp.sreg  dd6 rfl (fun gs K hgs hK => ?_); replace hgs : Nat.succ 0 = 1 := rfl) | refine AWp.seq ?_ | refine ARounds.step ?_ | refine AWp.block ?_ | refine AWp.label ?_ | (refine AWp.ret ?_; try simp only [aThen, aBlock]) | (refine AWp.skip ?_; try simp only [aThen, aBlock]) | (refine AWp.exit ?_; try simp only [aThen, aBlock, Nat.reduceEqDiff, reduceIte]) | (refine AWp.reg  dd6 rfl (fun gs K hgs hK => ?_); replace hgs : Nat.succ 0 = 1 := rfl) | (refine aops_consG (fun K' h' => ?_); simp only [go_sem, Nat.reduceLT, Nat.reduceLeDiff, Nat.reduceEqDiff, reduceIte, Nat.reduceAdd, Nat.reduceMul, Nat.reduceSub, Int.reduceLT, Int.reduceLE, Int.reduceToNat, Int.reduceNeg, reduceCtorEq, hgs, Node.cells, aopG, beq_self_eq_true, hat, hg1, hlen]; (try simp (disch := omega) only [wrap_id, getD_map_in, Int.toNat_natCast, Node.cells, aopG, beq_self_eq_true, hat, hg1, hlen]); (repeat (refine And.intro (by (first | omega | (simp; done) | (simp; omega) | assumption)) ?_)); refine h' _ ?_; clear h' K') | (refine AWp.cond rfl (fun h => ?_) (fun h => ?_) <;> (try simp only [decide_eq_true_eq, decide_eq_false_iff_not, beq_iff_eq, bne_iff_ne, ne_eq, Bool.not_eq_true', Bool.not_eq_false', beq_eq_false_iff_ne, Bool.true_eq_false, Bool.false_eq_true, Int.not_le, Int.not_lt, Bool.and_eq_true, Bool.and_eq_false_iff, Bool.or_eq_true, Bool.or_eq_false_iff, bne_eq_false_iff_eq, reduceCtorEq] at h) <;> (try first | contradiction | (exfalso; omega) | (exfalso; revert h; simp; done) | (exfalso; revert h; simp; omega)))))
              all_goals first
                | (exfalso; omega)
                | skip
              refine ⟨by omega, trivial, Wk.ofCut 0 1 rfl ?_ ?_⟩
              · rw [hst, List.map_set]; simp [ASt.drop, Node.cells]
              · simp [subE, eget, ASt.drop, dropE, keepR, lowE, AV.lowB, lowL, Nat.blt, Nat.ble]
            · have hsm := hsm h1
              repeat (any_goals (first | (refine aops_cons (fun K' h' => ?_); simp only [go_sem, Nat.reduceLT, Nat.reduceLeDiff, Nat.reduceEqDiff, reduceIte, Nat.reduceAdd, Nat.reduceMul, Nat.reduceSub, Int.reduceLT, Int.reduceLE, Int.reduceToNat, Int.reduceNeg, reduceCtorEq, hgs, Node.cells, aopG, beq_self_eq_true, hat, hg1, hlen]; (try ((first | refine ⟨_, hGr, ?_⟩ | refine ⟨_, fun _ => hGr, ?_⟩ | refine ⟨_, hO6, ?_⟩ | refine ⟨_, fun _ => hO6, ?_⟩ | refine ⟨_, hB, ?_⟩ | refine ⟨_, fun _ => hB, ?_⟩ | refine ⟨_, alive12_c, ?_⟩ | refine ⟨_, fun _ => alive12_c, ?_⟩); (try simp only [go_sem, Nat.reduceLT, Nat.reduceLeDiff, Nat.reduceEqDiff, reduceIte, Nat.reduceAdd, Nat.reduceMul, Nat.reduceSub, Int.reduceLT, Int.reduceLE, Int.reduceToNat, Int.reduceNeg, reduceCtorEq, hgs, Node.cells, aopG, beq_self_eq_true, hat, hg1, hlen]))); (try simp (disch := omega) only [wrap_id, getD_map_in, Int.toNat_natCast, Node.cells, aopG, beq_self_eq_true, hat, hg1, hlen]); (repeat (refine And.intro (by (first | omega | (simp; done) | (simp; omega) | assumption)) ?_)); refine h' _ ?_; clear h' K') | (refine aops_nil (hK _ ?_); clear hK K hgs gs; try simp only [aThen, aBlock]) | ((first | refine AWp.sreg (id := 1) dd6 rfl (fun gs K hgs hK => ?_) | refine AWp.reg (id := 1) dd6 rfl (fun gs K hgs hK => ?_)); replace hgs : gs 2 = some 12 ∧ gs 6 = some 16 := ⟨hgs 2, hgs 6⟩) | ((first | refine AWp.sreg (id := 12) dd6 rfl (fun gs K hgs hK => ?_) | refine AWp.reg (id := 12) dd6 rfl (fun gs K hgs hK => ?_)); replace hgs : gs 3 = some 57 := hgs 3) | (refine AWp.sreg  dd6 rfl (fun gs K hgs hK => ?_); replace hgs : Nat.succ 0 = 1 := rfl) | refine AWp.seq ?_ | refine ARounds.step ?_ | refine AWp.block ?_ | refine AWp.label ?_ | (refine AWp.ret ?_; try simp only [aThen, aBlock]) | (refine AWp.skip ?_; try simp only [aThen, aBlock]) | (refine AWp.exit ?_; try simp only [aThen, aBlock, Nat.reduceEqDiff, reduceIte]) | (refine AWp.reg  dd6 rfl (fun gs K hgs hK => ?_); replace hgs : Nat.succ 0 = 1 := rfl) | (refine aops_consG (fun K' h' => ?_); simp only [go_sem, Nat.reduceLT, Nat.reduceLeDiff, Nat.reduceEqDiff, reduceIte, Nat.reduceAdd, Nat.reduceMul, Nat.reduceSub, Int.reduceLT, Int.reduceLE, Int.reduceToNat, Int.reduceNeg, reduceCtorEq, hgs, Node.cells, aopG, beq_self_eq_true, hat, hg1, hlen]; (try simp (disch := omega) only [wrap_id, getD_map_in, Int.toNat_natCast, Node.cells, aopG, beq_self_eq_true, hat, hg1, hlen]); (repeat (refine And.intro (by (first | omega | (simp; done) | (simp; omega) | assumption)) ?_)); refine h' _ ?_; clear h' K') | (refine AWp.cond rfl (fun h => ?_) (fun h => ?_) <;> (try simp only [decide_eq_true_eq, decide_eq_false_iff_not, beq_iff_eq, bne_iff_ne, ne_eq, Bool.not_eq_true', Bool.not_eq_false', beq_eq_false_iff_ne, Bool.true_eq_false, Bool.false_eq_true, Int.not_le, Int.not_lt, Bool.and_eq_true, Bool.and_eq_false_iff, Bool.or_eq_true, Bool.or_eq_false_iff, bne_eq_false_iff_eq, reduceCtorEq] at h) <;> (try first | contradiction | (exfalso; omega) | (exfalso; revert h; simp; done) | (exfalso; revert h; simp; omega)))))
              all_goals first
                | (exfalso; omega)
                | skip
              refine ⟨by omega, trivial, Wk.ofCut 0 1 rfl ?_ ?_⟩
              · rw [hsm]; simp [ASt.drop]
              · simp [subE, eget, ASt.drop, dropE, keepR, lowE, AV.lowB, lowL, Nat.blt, Nat.ble]
          · obtain rfl : k = l.length := by omega
            have htk : (List.map Node.cells (mkF q l l.length)).take l.length = List.map Node.cells (mkF q l l.length) := List.take_of_length_le (by simp [mkF_len])
            generalize mkF q l l.length = M at *
            repeat (any_goals (first | (refine aops_cons (fun K' h' => ?_); simp only [go_sem, Nat.reduceLT, Nat.reduceLeDiff, Nat.reduceEqDiff, reduceIte, Nat.reduceAdd, Nat.reduceMul, Nat.reduceSub, Int.reduceLT, Int.reduceLE, Int.reduceToNat, Int.reduceNeg, reduceCtorEq, hgs, Node.cells, aopG, beq_self_eq_true, htk]; (try ((first | refine ⟨_, hGr, ?_⟩ | refine ⟨_, fun _ => hGr, ?_⟩ | refine ⟨_, hO6, ?_⟩ | refine ⟨_, fun _ => hO6, ?_⟩ | refine ⟨_, hB, ?_⟩ | refine ⟨_, fun _ => hB, ?_⟩ | refine ⟨_, alive12_c, ?_⟩ | refine ⟨_, fun _ => alive12_c, ?_⟩); (try simp only [go_sem, Nat.reduceLT, Nat.reduceLeDiff, Nat.reduceEqDiff, reduceIte, Nat.reduceAdd, Nat.reduceMul, Nat.reduceSub, Int.reduceLT, Int.reduceLE, Int.reduceToNat, Int.reduceNeg, reduceCtorEq, hgs, Node.cells, aopG, beq_self_eq_true, htk]))); (try simp (disch := omega) only [wrap_id, getD_map_in, Int.toNat_natCast, Node.cells, aopG, beq_self_eq_true, htk]); (repeat (refine And.intro (by (first | omega | (simp; done) | (simp; omega) | assumption)) ?_)); refine h' _ ?_; clear h' K') | (refine aops_nil (hK _ ?_); clear hK K hgs gs; try simp only [aThen, aBlock]) | ((first | refine AWp.sreg (id := 1) dd6 rfl (fun gs K hgs hK => ?_) | refine AWp.reg (id := 1) dd6 rfl (fun gs K hgs hK => ?_)); replace hgs : gs 2 = some 12 ∧ gs 6 = some 16 := ⟨hgs 2, hgs 6⟩) | ((first | refine AWp.sreg (id := 12) dd6 rfl (fun gs K hgs hK => ?_) | refine AWp.reg (id := 12) dd6 rfl (fun gs K hgs hK => ?_)); replace hgs : gs 3 = some 57 := hgs 3) | (refine AWp.sreg  dd6 rfl (fun gs K hgs hK => ?_); replace hgs : Nat.succ 0 = 1 := rfl) | refine AWp.seq ?_ | refine ARounds.step ?_ | refine AWp.block ?_ | refine AWp.label ?_ | (refine AWp.ret ?_; try simp only [aThen, aBlock]) | (refine AWp.skip ?_; try simp only [aThen, aBlock]) | (refine AWp.exit ?_; try simp only [aThen, aBlock, Nat.reduceEqDiff, reduceIte]) | (refine AWp.reg  dd6 rfl (fun gs K hgs hK => ?_); replace hgs : Nat.succ 0 = 1 := rfl) | (refine aops_consG (fun K' h' => ?_); simp only [go_sem, Nat.reduceLT, Nat.reduceLeDiff, Nat.reduceEqDiff, reduceIte, Nat.reduceAdd, Nat.reduceMul, Nat.reduceSub, Int.reduceLT, Int.reduceLE, Int.reduceToNat, Int.reduceNeg, reduceCtorEq, hgs, Node.cells, aopG, beq_self_eq_true, htk]; (try simp (disch := omega) only [wrap_id, getD_map_in, Int.toNat_natCast, Node.cells, aopG, beq_self_eq_true, htk]); (repeat (refine And.intro (by (first | omega | (simp; done) | (simp; omega) | assumption)) ?_)); refine h' _ ?_; clear h' K') | (refine AWp.cond rfl (fun h => ?_) (fun h => ?_) <;> (try simp only [decide_eq_true_eq, decide_eq_false_iff_not, beq_iff_eq, bne_iff_ne, ne_eq, Bool.not_eq_true', Bool.not_eq_false', beq_eq_false_iff_ne, Bool.true_eq_false, Bool.false_eq_true, Int.not_le, Int.not_lt, Bool.and_eq_true, Bool.and_eq_false_iff, Bool.or_eq_true, Bool.or_eq_false_iff, bne_eq_false_iff_eq, reduceCtorEq] at h) <;> (try first | contradiction | (exfalso; omega) | (exfalso; revert h; simp; done) | (exfalso; revert h; simp; omega)))))
            simp only [Out, outA, outL, resA, go_sem, Nat.reduceLT, Nat.reduceLeDiff, Nat.reduceEqDiff, reduceIte, Nat.reduceAdd, Nat.reduceMul, Nat.reduceSub, Int.reduceLT, Int.reduceLE, Int.reduceToNat, Int.reduceNeg, reduceCtorEq]
            exact AVle.refl _
      · have hd1 : decide (q < 2) = false := decide_eq_false (by omega)
        have hd2 : decide (4 < q) = false := decide_eq_false (by omega)
        clear hn
        generalize ofE l = oe at *
        generalize ofB l = b at *
        generalize ofN l = n at *
        unfold nodesV at *
        refine acall_of (n := 60) (rs := [.tmp 4]) Try.func6 rfl (by kernel_rfl) rfl rfl rfl ?_; simp only [argsE, Nat.reduceAdd]
        repeat (any_goals (first | (refine aops_cons (fun K' h' => ?_); simp only [go_sem, Nat.reduceLT, Nat.reduceLeDiff, Nat.reduceEqDiff, reduceIte, Nat.reduceAdd, Nat.reduceMul, Nat.reduceSub, Int.reduceLT, Int.reduceLE, Int.reduceToNat, Int.reduceNeg, reduceCtorEq, hgs, Node.cells, aopG, beq_self_eq_true, hd1, hd2]; (try ((first | refine ⟨_, hGr, ?_⟩ | refine ⟨_, fun _ => hGr, ?_⟩ | refine ⟨_, hO6, ?_⟩ | refine ⟨_, fun _ => hO6, ?_⟩ | refine ⟨_, hB, ?_⟩ | refine ⟨_, fun _ => hB, ?_⟩ | refine ⟨_, alive12_c, ?_⟩ | refine ⟨_, fun _ => alive12_c, ?_⟩); (try simp only [go_sem, Nat.reduceLT, Nat.reduceLeDiff, Nat.reduceEqDiff, reduceIte, Nat.reduceAdd, Nat.reduceMul, Nat.reduceSub, Int.reduceLT, Int.reduceLE, Int.reduceToNat, Int.reduceNeg, reduceCtorEq, hgs, Node.cells, aopG, beq_self_eq_true, hd1, hd2]))); (try simp (disch := omega) only [wrap_id, getD_map_in, Int.toNat_natCast, Node.cells, aopG, beq_self_eq_true, hd1, hd2]); (repeat (refine And.intro (by (first | omega | (simp; done) | (simp; omega) | assumption)) ?_)); refine h' _ ?_; clear h' K') | (refine aops_nil (hK _ ?_); clear hK K hgs gs; try simp only [aThen, aBlock]) | ((first | refine AWp.sreg (id := 1) dd6 rfl (fun gs K hgs hK => ?_) | refine AWp.reg (id := 1) dd6 rfl (fun gs K hgs hK => ?_)); replace hgs : gs 2 = some 12 ∧ gs 6 = some 16 := ⟨hgs 2, hgs 6⟩) | ((first | refine AWp.sreg (id := 12) dd6 rfl (fun gs K hgs hK => ?_) | refine AWp.reg (id := 12) dd6 rfl (fun gs K hgs hK => ?_)); replace hgs : gs 3 = some 57 := hgs 3) | (refine AWp.sreg  dd6 rfl (fun gs K hgs hK => ?_); replace hgs : Nat.succ 0 = 1 := rfl) | refine AWp.seq ?_ | refine ARounds.step ?_ | refine AWp.block ?_ | refine AWp.label ?_ | (refine AWp.ret ?_; try simp only [aThen, aBlock]) | (refine AWp.skip ?_; try simp only [aThen, aBlock]) | (refine AWp.exit ?_; try simp only [aThen, aBlock, Nat.reduceEqDiff, reduceIte]) | (refine AWp.reg  dd6 rfl (fun gs K hgs hK => ?_); replace hgs : Nat.succ 0 = 1 := rfl) | (refine aops_consG (fun K' h' => ?_); simp only [go_sem, Nat.reduceLT, Nat.reduceLeDiff, Nat.reduceEqDiff, reduceIte, Nat.reduceAdd, Nat.reduceMul, Nat.reduceSub, Int.reduceLT, Int.reduceLE, Int.reduceToNat, Int.reduceNeg, reduceCtorEq, hgs, Node.cells, aopG, beq_self_eq_true, hd1, hd2]; (try simp (disch := omega) only [wrap_id, getD_map_in, Int.toNat_natCast, Node.cells, aopG, beq_self_eq_true, hd1, hd2]); (repeat (refine And.intro (by (first | omega | (simp; done) | (simp; omega) | assumption)) ?_)); refine h' _ ?_; clear h' K') | (refine AWp.cond rfl (fun h => ?_) (fun h => ?_) <;> (try simp only [decide_eq_true_eq, decide_eq_false_iff_not, beq_iff_eq, bne_iff_ne, ne_eq, Bool.not_eq_true', Bool.not_eq_false', beq_eq_false_iff_ne, Bool.true_eq_false, Bool.false_eq_true, Int.not_le, Int.not_lt, Bool.and_eq_true, Bool.and_eq_false_iff, Bool.or_eq_true, Bool.or_eq_false_iff, bne_eq_false_iff_eq, reduceCtorEq] at h) <;> (try first | contradiction | (exfalso; omega) | (exfalso; revert h; simp; done) | (exfalso; revert h; simp; omega)))))
        all_goals simp only [Out, outA, outL, resA, go_sem, Nat.reduceLT, Nat.reduceLeDiff, Nat.reduceEqDiff, reduceIte, Nat.reduceAdd, Nat.reduceMul, Nat.reduceSub, Int.reduceLT, Int.reduceLE, Int.reduceToNat, Int.reduceNeg, reduceCtorEq]
        all_goals exact AVle.refl _
    · clear hn
      unfold nodesV at *
      by_cases h1 : q < 2
      · have hd1 : decide (q < 2) = true := decide_eq_true h1
        refine acall_of (n := 60) (rs := [.tmp 4]) Try.func6 rfl (by kernel_rfl) rfl rfl rfl ?_; simp only [argsE, Nat.reduceAdd]
        repeat (any_goals (first | (refine aops_cons (fun K' h' => ?_); simp only [go_sem, Nat.reduceLT, Nat.reduceLeDiff, Nat.reduceEqDiff, reduceIte, Nat.reduceAdd, Nat.reduceMul, Nat.reduceSub, Int.reduceLT, Int.reduceLE, Int.reduceToNat, Int.reduceNeg, reduceCtorEq, hgs, Node.cells, aopG, beq_self_eq_true, hd1]; (try ((first | refine ⟨_, hGr, ?_⟩ | refine ⟨_, fun _ => hGr, ?_⟩ | refine ⟨_, hO6, ?_⟩ | refine ⟨_, fun _ => hO6, ?_⟩ | refine ⟨_, hB, ?_⟩ | refine ⟨_, fun _ => hB, ?_⟩ | refine ⟨_, alive12_c, ?_⟩ | refine ⟨_, fun _ => alive12_c, ?_⟩); (try simp only [go_sem, Nat.reduceLT, Nat.reduceLeDiff, Nat.reduceEqDiff, reduceIte, Nat.reduceAdd, Nat.reduceMul, Nat.reduceSub, Int.reduceLT, Int.reduceLE, Int.reduceToNat, Int.reduceNeg, reduceCtorEq, hgs, Node.cells, aopG, beq_self_eq_true, hd1]))); (try simp (disch := omega) only [wrap_id, getD_map_in, Int.toNat_natCast, Node.cells, aopG, beq_self_eq_true, hd1]); (repeat (refine And.intro (by (first | omega | (simp; done) | (simp; omega) | assumption)) ?_)); refine h' _ ?_; clear h' K') | (refine aops_nil (hK _ ?_); clear hK K hgs gs; try simp only [aThen, aBlock]) | ((first | refine AWp.sreg (id := 1) dd6 rfl (fun gs K hgs hK => ?_) | refine AWp.reg (id := 1) dd6 rfl (fun gs K hgs hK => ?_)); replace hgs : gs 2 = some 12 ∧ gs 6 = some 16 := ⟨hgs 2, hgs 6⟩) | ((first | refine AWp.sreg (id := 12) dd6 rfl (fun gs K hgs hK => ?_) | refine AWp.reg (id := 12) dd6 rfl (fun gs K hgs hK => ?_)); replace hgs : gs 3 = some 57 := hgs 3) | (refine AWp.sreg  dd6 rfl (fun gs K hgs hK => ?_); replace hgs : Nat.succ 0 = 1 := rfl) | refine AWp.seq ?_ | refine ARounds.step ?_ | refine AWp.block ?_ | refine AWp.label ?_ | (refine AWp.ret ?_; try simp only [aThen, aBlock]) | (refine AWp.skip ?_; try simp only [aThen, aBlock]) | (refine AWp.exit ?_; try simp only [aThen, aBlock, Nat.reduceEqDiff, reduceIte]) | (refine AWp.reg  dd6 rfl (fun gs K hgs hK => ?_); replace hgs : Nat.succ 0 = 1 := rfl) | (refine aops_consG (fun K' h' => ?_); simp only [go_sem, Nat.reduceLT, Nat.reduceLeDiff, Nat.reduceEqDiff, reduceIte, Nat.reduceAdd, Nat.reduceMul, Nat.reduceSub, Int.reduceLT, Int.reduceLE, Int.reduceToNat, Int.reduceNeg, reduceCtorEq, hgs, Node.cells, aopG, beq_self_eq_true, hd1]; (try simp (disch := omega) only [wrap_id, getD_map_in, Int.toNat_natCast, Node.cells, aopG, beq_self_eq_true, hd1]); (repeat (refine And.intro (by (first | omega | (simp; done) | (simp; omega) | assumption)) ?_)); refine h' _ ?_; clear h' K') | (refine AWp.cond rfl (fun h => ?_) (fun h => ?_) <;> (try simp only [decide_eq_true_eq, decide_eq_false_iff_not, beq_iff_eq, bne_iff_ne, ne_eq, Bool.not_eq_true', Bool.not_eq_false', beq_eq_false_iff_ne, Bool.true_eq_false, Bool.false_eq_true, Int.not_le, Int.not_lt, Bool.and_eq_true, Bool.and_eq_false_iff, Bool.or_eq_true, Bool.or_eq_false_iff, bne_eq_false_iff_eq, reduceCtorEq] at h) <;> (try first | contradiction | (exfalso; omega) | (exfalso; revert h; simp; done) | (exfalso; revert h; simp; omega)))))
        all_goals simp only [Out, outA, outL, resA, go_sem, Nat.reduceLT, Nat.reduceLeDiff, Nat.reduceEqDiff, reduceIte, Nat.reduceAdd, Nat.reduceMul, Nat.reduceSub, Int.reduceLT, Int.reduceLE, Int.reduceToNat, Int.reduceNeg, reduceCtorEq]
        all_goals exact AVle.refl _
      · have hd1 : decide (q < 2) = false := decide_eq_false h1
        have hd2 : decide (4 < q) = true := decide_eq_true (by omega)
        refine acall_of (n := 60) (rs := [.tmp 4]) Try.func6 rfl (by kernel_rfl) rfl rfl rfl ?_; simp only [argsE, Nat.reduceAdd]
        repeat (any_goals (first | (refine aops_cons (fun K' h' => ?_); simp only [go_sem, Nat.reduceLT, Nat.reduceLeDiff, Nat.reduceEqDiff, reduceIte, Nat.reduceAdd, Nat.reduceMul, Nat.reduceSub, Int.reduceLT, Int.reduceLE, Int.reduceToNat, Int.reduceNeg, reduceCtorEq, hgs, Node.cells, aopG, beq_self_eq_true, hd1, hd2]; (try ((first | refine ⟨_, hGr, ?_⟩ | refine ⟨_, fun _ => hGr, ?_⟩ | refine ⟨_, hO6, ?_⟩ | refine ⟨_, fun _ => hO6, ?_⟩ | refine ⟨_, hB, ?_⟩ | refine ⟨_, fun _ => hB, ?_⟩ | refine ⟨_, alive12_c, ?_⟩ | refine ⟨_, fun _ => alive12_c, ?_⟩); (try simp only [go_sem, Nat.reduceLT, Nat.reduceLeDiff, Nat.reduceEqDiff, reduceIte, Nat.reduceAdd, Nat.reduceMul, Nat.reduceSub, Int.reduceLT, Int.reduceLE, Int.reduceToNat, Int.reduceNeg, reduceCtorEq, hgs, Node.cells, aopG, beq_self_eq_true, hd1, hd2]))); (try simp (disch := omega) only [wrap_id, getD_map_in, Int.toNat_natCast, Node.cells, aopG, beq_self_eq_true, hd1, hd2]); (repeat (refine And.intro (by (first | omega | (simp; done) | (simp; omega) | assumption)) ?_)); refine h' _ ?_; clear h' K') | (refine aops_nil (hK _ ?_); clear hK K hgs gs; try simp only [aThen, aBlock]) | ((first | refine AWp.sreg (id := 1) dd6 rfl (fun gs K hgs hK => ?_) | refine AWp.reg (id := 1) dd6 rfl (fun gs K hgs hK => ?_)); replace hgs : gs 2 = some 12 ∧ gs 6 = some 16 := ⟨hgs 2, hgs 6⟩) | ((first | refine AWp.sreg (id := 12) dd6 rfl (fun gs K hgs hK => ?_) | refine AWp.reg (id := 12) dd6 rfl (fun gs K hgs hK => ?_)); replace hgs : gs 3 = some 57 := hgs 3) | (refine AWp.sreg  dd6 rfl (fun gs K hgs hK => ?_); replace hgs : Nat.succ 0 = 1 := rfl) | refine AWp.seq ?_ | refine ARounds.step ?_ | refine AWp.block ?_ | refine AWp.label ?_ | (refine AWp.ret ?_; try simp only [aThen, aBlock]) | (refine AWp.skip ?_; try simp only [aThen, aBlock]) | (refine AWp.exit ?_; try simp only [aThen, aBlock, Nat.reduceEqDiff, reduceIte]) | (refine AWp.reg  dd6 rfl (fun gs K hgs hK => ?_); replace hgs : Nat.succ 0 = 1 := rfl) | (refine aops_consG (fun K' h' => ?_); simp only [go_sem, Nat.reduceLT, Nat.reduceLeDiff, Nat.reduceEqDiff, reduceIte, Nat.reduceAdd, Nat.reduceMul, Nat.reduceSub, Int.reduceLT, Int.reduceLE, Int.reduceToNat, Int.reduceNeg, reduceCtorEq, hgs, Node.cells, aopG, beq_self_eq_true, hd1, hd2]; (try simp (disch := omega) only [wrap_id, getD_map_in, Int.toNat_natCast, Node.cells, aopG, beq_self_eq_true, hd1, hd2]); (repeat (refine And.intro (by (first | omega | (simp; done) | (simp; omega) | assumption)) ?_)); refine h' _ ?_; clear h' K') | (refine AWp.cond rfl (fun h => ?_) (fun h => ?_) <;> (try simp only [decide_eq_true_eq, decide_eq_false_iff_not, beq_iff_eq, bne_iff_ne, ne_eq, Bool.not_eq_true', Bool.not_eq_false', beq_eq_false_iff_ne, Bool.true_eq_false, Bool.false_eq_true, Int.not_le, Int.not_lt, Bool.and_eq_true, Bool.and_eq_false_iff, Bool.or_eq_true, Bool.or_eq_false_iff, bne_eq_false_iff_eq, reduceCtorEq] at h) <;> (try first | contradiction | (exfalso; omega) | (exfalso; revert h; simp; done) | (exfalso; revert h; simp; omega)))))
        all_goals simp only [Out, outA, outL, resA, go_sem, Nat.reduceLT, Nat.reduceLeDiff, Nat.reduceEqDiff, reduceIte, Nat.reduceAdd, Nat.reduceMul, Nat.reduceSub, Int.reduceLT, Int.reduceLE, Int.reduceToNat, Int.reduceNeg, reduceCtorEq]
        all_goals exact AVle.refl _
  · rw [decide_eq_true (by omega)] at hGr
    clear hn
    unfold nodesV at *
    refine acall_of (n := 60) (rs := [.tmp 4]) Try.func6 rfl (by kernel_rfl) rfl rfl rfl ?_; simp only [argsE, Nat.reduceAdd]
    repeat (any_goals (first | (refine aops_cons (fun K' h' => ?_); simp only [go_sem, Nat.reduceLT, Nat.reduceLeDiff, Nat.reduceEqDiff, reduceIte, Nat.reduceAdd, Nat.reduceMul, Nat.reduceSub, Int.reduceLT, Int.reduceLE, Int.reduceToNat, Int.reduceNeg, reduceCtorEq, hgs, Node.cells, aopG, beq_self_eq_true]; (try ((first | refine ⟨_, hGr, ?_⟩ | refine ⟨_, fun _ => hGr, ?_⟩ | refine ⟨_, hO6, ?_⟩ | refine ⟨_, fun _ => hO6, ?_⟩ | refine ⟨_, hB, ?_⟩ | refine ⟨_, fun _ => hB, ?_⟩ | refine ⟨_, alive12_c, ?_⟩ | refine ⟨_, fun _ => alive12_c, ?_⟩); (try simp only [go_sem, Nat.reduceLT, Nat.reduceLeDiff, Nat.reduceEqDiff, reduceIte, Nat.reduceAdd, Nat.reduceMul, Nat.reduceSub, Int.reduceLT, Int.reduceLE, Int.reduceToNat, Int.reduceNeg, reduceCtorEq, hgs, Node.cells, aopG, beq_self_eq_true]))); (try simp (disch := omega) only [wrap_id, getD_map_in, Int.toNat_natCast, Node.cells, aopG, beq_self_eq_true]); (repeat (refine And.intro (by (first | omega | (simp; done) | (simp; omega) | assumption)) ?_)); refine h' _ ?_; clear h' K') | (refine aops_nil (hK _ ?_); clear hK K hgs gs; try simp only [aThen, aBlock]) | ((first | refine AWp.sreg (id := 1) dd6 rfl (fun gs K hgs hK => ?_) | refine AWp.reg (id := 1) dd6 rfl (fun gs K hgs hK => ?_)); replace hgs : gs 2 = some 12 ∧ gs 6 = some 16 := ⟨hgs 2, hgs 6⟩) | ((first | refine AWp.sreg (id := 12) dd6 rfl (fun gs K hgs hK => ?_) | refine AWp.reg (id := 12) dd6 rfl (fun gs K hgs hK => ?_)); replace hgs : gs 3 = some 57 := hgs 3) | (refine AWp.sreg  dd6 rfl (fun gs K hgs hK => ?_); replace hgs : Nat.succ 0 = 1 := rfl) | refine AWp.seq ?_ | refine ARounds.step ?_ | refine AWp.block ?_ | refine AWp.label ?_ | (refine AWp.ret ?_; try simp only [aThen, aBlock]) | (refine AWp.skip ?_; try simp only [aThen, aBlock]) | (refine AWp.exit ?_; try simp only [aThen, aBlock, Nat.reduceEqDiff, reduceIte]) | (refine AWp.reg  dd6 rfl (fun gs K hgs hK => ?_); replace hgs : Nat.succ 0 = 1 := rfl) | (refine aops_consG (fun K' h' => ?_); simp only [go_sem, Nat.reduceLT, Nat.reduceLeDiff, Nat.reduceEqDiff, reduceIte, Nat.reduceAdd, Nat.reduceMul, Nat.reduceSub, Int.reduceLT, Int.reduceLE, Int.reduceToNat, Int.reduceNeg, reduceCtorEq, hgs, Node.cells, aopG, beq_self_eq_true]; (try simp (disch := omega) only [wrap_id, getD_map_in, Int.toNat_natCast, Node.cells, aopG, beq_self_eq_true]); (repeat (refine And.intro (by (first | omega | (simp; done) | (simp; omega) | assumption)) ?_)); refine h' _ ?_; clear h' K') | (refine AWp.cond rfl (fun h => ?_) (fun h => ?_) <;> (try simp only [decide_eq_true_eq, decide_eq_false_iff_not, beq_iff_eq, bne_iff_ne, ne_eq, Bool.not_eq_true', Bool.not_eq_false', beq_eq_false_iff_ne, Bool.true_eq_false, Bool.false_eq_true, Int.not_le, Int.not_lt, Bool.and_eq_true, Bool.and_eq_false_iff, Bool.or_eq_true, Bool.or_eq_false_iff, bne_eq_false_iff_eq, reduceCtorEq] at h) <;> (try first | contradiction | (exfalso; omega) | (exfalso; revert h; simp; done) | (exfalso; revert h; simp; omega)))))
    all_goals simp only [Out, outA, outL, resA, go_sem, Nat.reduceLT, Nat.reduceLeDiff, Nat.reduceEqDiff, reduceIte, Nat.reduceAdd, Nat.reduceMul, Nat.reduceSub, Int.reduceLT, Int.reduceLE, Int.reduceToNat, Int.reduceNeg, reduceCtorEq]
    all_goals exact AVle.refl _
theorem fdfields_all : ∀ xs, ShpAs Try.prog 8 Try.f6.params.toList xs → ACall Try.prog 6 xs (.lit (.bool true)) := by
  intro xs h
  have hp : Try.f6.params.toList = [22, 5] := by kernel_rfl
  rw [hp] at h
  obtain ⟨a, r, rfl, ha, h⟩ := h
  obtain ⟨b, r, rfl, hb, h⟩ := h
  obtain rfl : r = [] := h
  obtain ⟨l, rfl, hl, hn⟩ := nodesB_shape ha
  obtain ⟨i, e, hw⟩ := shp_in (k := .u8) (by kernel_rfl) (shpA_one (by kernel_rfl) hb)
  obtain rfl : b = .lit (.int .u8 i) := by simpa using e
  exact fdfields_law l i hl hn
end Go.Proofs.Yteohklfoggiojaa
