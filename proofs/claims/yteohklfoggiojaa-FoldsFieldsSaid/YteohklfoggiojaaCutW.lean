/-
  The walks over the reference's Cut and Part.
-/
import Derived.Test.YteohklfoggiojaaRefP
namespace Go.Proofs.Yteohklfoggiojaa
open Go.AL Go.RowKit
set_option linter.unusedSimpArgs false
set_option linter.unusedVariables false
set_option maxRecDepth 10000
set_option maxHeartbeats 4000000
theorem Ex.kinds : ∀ (e : Ex) (o : Nat), e.wf → ∀ x ∈ e.fl o, 1 ≤ x.kind ∧ x.kind ≤ 19
  | .leaf x, o, hw, y, hy => by simp [Ex.fl] at hy; subst hy; exact ⟨hw.1.k1, hw.1.k2⟩
  | .un x e, o, hw, y, hy => by
    simp only [Ex.fl, List.mem_append, List.mem_singleton] at hy
    rcases hy with hy | rfl
    · exact e.kinds o hw.2.2.2 y hy
    · exact ⟨hw.1.k1, hw.1.k2⟩
  | .bin x e f, o, hw, y, hy => by
    simp only [Ex.fl, List.mem_append, List.mem_singleton] at hy
    rcases hy with (hy | hy) | rfl
    · exact e.kinds o hw.2.2.1 y hy
    · exact f.kinds _ hw.2.2.2 y hy
    · exact ⟨hw.1.k1, hw.1.k2⟩
theorem count_parts {k : Int} (h1 : 1 ≤ k) (h2 : k ≤ 19) : countI k = partsN k := by
  unfold partsN countI
  repeat' split
  all_goals omega
theorem cutUp_step {l : List Node} {off k : Nat} {y : Node} (hk : off + k < l.length) (hy : l.getD (off + k) default = y) : cutUp l off (k + 1) = cutUp l off k ++ [mvN (-(off : Int)) y] := by
  unfold cutUp
  rw [List.take_add_one, List.map_append, List.getElem?_drop, List.getElem?_eq_getElem hk]
  rw [List.getD_eq_getElem?_getD, List.getElem?_eq_getElem hk] at hy
  rw [show l[off + k] = y from hy]; rfl
theorem cutUp_len {l : List Node} {off k : Nat} (hk : off + k ≤ l.length) : (cutUp l off k).length = k := by simp [cutUp]; omega
def dd71 : Nat → List (List Nat)
  | 0 => [[], [4]]
  | 1 => [[], [], [13], [14], [], [], [12], [15], [6, 16], [7, 17]]
  | 2 => [[], [], [18], [5], [], [20, 21], [22], [19, 23], [24]]
  | 3 => [[], []]
  | 4 => [[], [], [25]]
  | 5 => [[], [], [], [26, 27]]
  | 6 => [[], [10], [29], [30]]
  | 7 => [[28], [], [], [31, 32], [33], [], [34]]
  | 8 => [[], [], [35], [36], [37]]
  | 9 => [[38], [], [39], [], [40, 41], [], [42, 43]]
  | 10 => [[38], [], [44], [45], [46]]
  | 11 => [[47], [], [48], [], [49, 50], [], [51, 52]]
  | 12 => [[47], [9], [11], [54], [53, 55], [56]]
  | 13 => [[0, 1, 8, 10, 28], [9], [57]]
  | _ => []
theorem rCut_c {l : List Node} {e : Ex} (j : Nat) (hl : l.length ≤ 1000) (hx : IsEx l e) (hj : j < l.length) : ACall Try.prog 71 [nodesV l, .lit (.int .i64 (j : Int))] (nodesV (cutL l (j + 1 - e.szs.getD j default) (e.szs.getD j default))) := by
  have hZ := sizes_tree hl hx
  have hle := hx.len
  have hdl := e.szs_length
  have hsb := e.szs_bd j (by omega)
  have hs0 : e.szs.getD j 0 = e.szs.getD j default := rfl
  rw [hs0] at hsb
  have hab : ∀ x ∈ l, -2000 ≤ x.a ∧ x.a ≤ 2000 ∧ -2000 ≤ x.b ∧ x.b ≤ 2000 ∧ 1 ≤ x.kind ∧ x.kind ≤ 19 := fun x hxm => by
    have := e.ab_bd 0 x (hx.2 ▸ hxm)
    have := e.kinds 0 hx.1 x (hx.2 ▸ hxm)
    omega
  show ACall _ _ _ (nodesV (cutUp l (j + 1 - e.szs.getD j default) (e.szs.getD j default)))
  obtain ⟨s, hs⟩ : ∃ s, e.szs.getD j default = s := ⟨_, rfl⟩
  rw [hs] at hsb ⊢
  obtain ⟨o, ho⟩ : ∃ o, j + 1 - s = o := ⟨_, rfl⟩
  rw [ho]
  have hoi : (j : Int) + 1 - (s : Int) = (o : Int) := by omega
  unfold nodesV natsV at *
  refine acall_of (n := 58) (rs := [.tmp 4]) Try.func71 rfl (by kernel_rfl) rfl rfl rfl ?_; simp only [argsE, Nat.reduceAdd]
  repeat (any_goals (first | (refine aops_cons (fun K' h' => ?_); simp only [go_sem, Nat.reduceLT, Nat.reduceLeDiff, Nat.reduceEqDiff, reduceIte, Nat.reduceAdd, Nat.reduceMul, Nat.reduceSub, Int.reduceLT, Int.reduceLE, Int.reduceToNat, Int.reduceNeg, reduceCtorEq, Node.cells, hs, hoi]; (try ((first | refine ⟨_, hZ, ?_⟩ | refine ⟨_, fun _ => hZ, ?_⟩ | refine ⟨_, hN, ?_⟩ | refine ⟨_, fun _ => hN, ?_⟩); (try simp only [go_sem, Nat.reduceLT, Nat.reduceLeDiff, Nat.reduceEqDiff, reduceIte, Nat.reduceAdd, Nat.reduceMul, Nat.reduceSub, Int.reduceLT, Int.reduceLE, Int.reduceToNat, Int.reduceNeg, reduceCtorEq, Node.cells, hs, hoi]))); (try simp (disch := omega) only [wrap_id, getD_map_in, Int.toNat_natCast, Node.cells, hs, hoi]); (repeat (refine And.intro (by (first | omega | (simp; done) | (simp; omega) | assumption)) ?_)); refine h' _ ?_; clear h' K') | (refine aops_nil (hK _ ?_); clear hK K gs; try simp only [aThen, aBlock]) | (refine AWp.sreg  dd71 rfl (fun gs K hgs hK => ?_); clear hgs) | refine AWp.seq ?_ | refine ARounds.step ?_ | refine AWp.block ?_ | refine AWp.label ?_ | (refine AWp.ret ?_; try simp only [aThen, aBlock]) | (refine AWp.skip ?_; try simp only [aThen, aBlock]) | (refine AWp.exit ?_; try simp only [aThen, aBlock, Nat.reduceEqDiff, reduceIte]) | (refine AWp.reg  dd71 rfl (fun gs K hgs hK => ?_); clear hgs) | (refine AWp.cond rfl (fun h => ?_) (fun h => ?_) <;> (try simp only [decide_eq_true_eq, decide_eq_false_iff_not, beq_iff_eq, bne_iff_ne, ne_eq, Bool.not_eq_true', Bool.not_eq_false', beq_eq_false_iff_ne, Bool.true_eq_false, Bool.false_eq_true, Int.not_le, Int.not_lt, Bool.and_eq_true, Bool.and_eq_false_iff, Bool.or_eq_true, Bool.or_eq_false_iff, bne_eq_false_iff_eq, reduceCtorEq] at h) <;> (try first | contradiction | (exfalso; omega) | (exfalso; revert h; simp; done) | (exfalso; revert h; simp; omega)))))
  refine AWp.loop (I := fun k : Nat => k ≤ s) (fun k => ⟨[(0, .ro 5 (l.map Node.cells)), (1, .lit (.int .i64 (j : Int))), (8, .lit (.int .i64 (o : Int))), (9, .own 0 5 0 k), (10, .lit (.int .i64 ((o + k : Nat) : Int)))], [], [some ⟨50, 5, (cutUp l o k).map Node.cells⟩]⟩) (fun k => s - k) 0 ?_ ?_ ?_
  · exact Nat.zero_le _
  · refine (Wk.nilOwn 9 50 5 rfl (by simp)).trans (Wk.of rfl ?_ ?_)
    · simp [ASt.nilOwn, cutUp, ASt.drop]
    · simp [ASt.nilOwn, eput, subE, eget, ASt.drop, dropE, keepR, lowE, AV.lowB, Nat.blt, Nat.ble]
  · rintro k hk
    repeat ((first | (refine aops_cons (fun K' h' => ?_); simp only [go_sem, Nat.reduceLT, Nat.reduceLeDiff, Nat.reduceEqDiff, reduceIte, Nat.reduceAdd, Nat.reduceMul, Nat.reduceSub, Int.reduceLT, Int.reduceLE, Int.reduceToNat, Int.reduceNeg, reduceCtorEq, Node.cells, hs, hoi]; (try ((first | refine ⟨_, hZ, ?_⟩ | refine ⟨_, fun _ => hZ, ?_⟩ | refine ⟨_, hN, ?_⟩ | refine ⟨_, fun _ => hN, ?_⟩); (try simp only [go_sem, Nat.reduceLT, Nat.reduceLeDiff, Nat.reduceEqDiff, reduceIte, Nat.reduceAdd, Nat.reduceMul, Nat.reduceSub, Int.reduceLT, Int.reduceLE, Int.reduceToNat, Int.reduceNeg, reduceCtorEq, Node.cells, hs, hoi]))); (try simp (disch := omega) only [wrap_id, getD_map_in, Int.toNat_natCast, Node.cells, hs, hoi]); (repeat (refine And.intro (by (first | omega | (simp; done) | (simp; omega) | assumption)) ?_)); refine h' _ ?_; clear h' K') | (refine aops_nil (hK _ ?_); clear hK K gs; try simp only [aThen, aBlock]) | (refine AWp.sreg  dd71 rfl (fun gs K hgs hK => ?_); clear hgs) | refine AWp.seq ?_ | refine ARounds.step ?_ | refine AWp.block ?_ | refine AWp.label ?_ | (refine AWp.ret ?_; try simp only [aThen, aBlock]) | (refine AWp.skip ?_; try simp only [aThen, aBlock]) | (refine AWp.exit ?_; try simp only [aThen, aBlock, Nat.reduceEqDiff, reduceIte]) | (refine AWp.reg  dd71 rfl (fun gs K hgs hK => ?_); clear hgs)))
    (refine AWp.cond rfl (fun h => ?_) (fun h => ?_) <;> (try simp only [decide_eq_true_eq, decide_eq_false_iff_not, beq_iff_eq, bne_iff_ne, ne_eq, Bool.not_eq_true', Bool.not_eq_false', beq_eq_false_iff_ne, Bool.true_eq_false, Bool.false_eq_true, Int.not_le, Int.not_lt, Bool.and_eq_true, Bool.and_eq_false_iff, Bool.or_eq_true, Bool.or_eq_false_iff, bne_eq_false_iff_eq, reduceCtorEq] at h) <;> (try first | contradiction | (exfalso; omega) | (exfalso; revert h; simp; done) | (exfalso; revert h; simp; omega)))
    · obtain ⟨y, hy⟩ : ∃ y, l.getD (o + k) default = y := ⟨_, rfl⟩
      have hyb := hab y (by rw [← hy, List.getD_eq_getElem?_getD, List.getElem?_eq_getElem (by omega)]; exact List.getElem_mem _)
      have hst := cutUp_step (k := k) (by omega) hy
      have hcl : (cutUp l o k).length = k := cutUp_len (by omega)
      obtain ⟨kd, nn, xa, xb, xp⟩ := y
      simp only at hyb
      have hN := count_c kd
      rw [count_parts (by omega) (by omega)] at hN
      repeat (any_goals (first | (refine aops_cons (fun K' h' => ?_); simp only [go_sem, Nat.reduceLT, Nat.reduceLeDiff, Nat.reduceEqDiff, reduceIte, Nat.reduceAdd, Nat.reduceMul, Nat.reduceSub, Int.reduceLT, Int.reduceLE, Int.reduceToNat, Int.reduceNeg, reduceCtorEq, Node.cells, hy, hcl]; (try ((first | refine ⟨_, hZ, ?_⟩ | refine ⟨_, fun _ => hZ, ?_⟩ | refine ⟨_, hN, ?_⟩ | refine ⟨_, fun _ => hN, ?_⟩); (try simp only [go_sem, Nat.reduceLT, Nat.reduceLeDiff, Nat.reduceEqDiff, reduceIte, Nat.reduceAdd, Nat.reduceMul, Nat.reduceSub, Int.reduceLT, Int.reduceLE, Int.reduceToNat, Int.reduceNeg, reduceCtorEq, Node.cells, hy, hcl]))); (try simp (disch := omega) only [wrap_id, getD_map_in, Int.toNat_natCast, Node.cells, hy, hcl]); (repeat (refine And.intro (by (first | omega | (simp; done) | (simp; omega) | assumption)) ?_)); refine h' _ ?_; clear h' K') | (refine aops_nil (hK _ ?_); clear hK K gs; try simp only [aThen, aBlock]) | (refine AWp.sreg  dd71 rfl (fun gs K hgs hK => ?_); clear hgs) | refine AWp.seq ?_ | refine ARounds.step ?_ | refine AWp.block ?_ | refine AWp.label ?_ | (refine AWp.ret ?_; try simp only [aThen, aBlock]) | (refine AWp.skip ?_; try simp only [aThen, aBlock]) | (refine AWp.exit ?_; try simp only [aThen, aBlock, Nat.reduceEqDiff, reduceIte]) | (refine AWp.reg  dd71 rfl (fun gs K hgs hK => ?_); clear hgs) | (refine AWp.cond rfl (fun h => ?_) (fun h => ?_) <;> (try simp only [decide_eq_true_eq, decide_eq_false_iff_not, beq_iff_eq, bne_iff_ne, ne_eq, Bool.not_eq_true', Bool.not_eq_false', beq_eq_false_iff_ne, Bool.true_eq_false, Bool.false_eq_true, Int.not_le, Int.not_lt, Bool.and_eq_true, Bool.and_eq_false_iff, Bool.or_eq_true, Bool.or_eq_false_iff, bne_eq_false_iff_eq, reduceCtorEq] at h) <;> (try first | contradiction | (exfalso; omega) | (exfalso; revert h; simp; done) | (exfalso; revert h; simp; omega)))))
      all_goals refine ⟨k + 1, by omega, Wk.ofCut 0 1 rfl ?_ ?_, by omega⟩
      all_goals first
        | (simp [hst, hcl, mvN, Node.cells, List.take_of_length_le, ASt.drop, Int.sub_eq_add_neg, show 0 < partsN kd by omega, show 1 < partsN kd by omega]; done)
        | (simp [hst, hcl, mvN, Node.cells, List.take_of_length_le, ASt.drop, Int.sub_eq_add_neg, show 0 < partsN kd by omega, show ¬ 1 < partsN kd by omega]; done)
        | (simp [hst, hcl, mvN, Node.cells, List.take_of_length_le, ASt.drop, Int.sub_eq_add_neg, show ¬ 0 < partsN kd by omega, show ¬ 1 < partsN kd by omega]; done)
        | (simp [subE, eget, ASt.drop, dropE, keepR, lowE, AV.lowB, lowL, Nat.blt, Nat.ble]; done)
        | (simp [subE, eget, ASt.drop, dropE, keepR, lowE, AV.lowB, lowL, Nat.blt, Nat.ble]; omega)
    · have : k = s := by omega
      subst this
      have hcl : (cutUp l o k).length = k := cutUp_len (by omega)
      repeat (any_goals (first | (refine aops_cons (fun K' h' => ?_); simp only [go_sem, Nat.reduceLT, Nat.reduceLeDiff, Nat.reduceEqDiff, reduceIte, Nat.reduceAdd, Nat.reduceMul, Nat.reduceSub, Int.reduceLT, Int.reduceLE, Int.reduceToNat, Int.reduceNeg, reduceCtorEq, Node.cells, hcl]; (try ((first | refine ⟨_, hZ, ?_⟩ | refine ⟨_, fun _ => hZ, ?_⟩ | refine ⟨_, hN, ?_⟩ | refine ⟨_, fun _ => hN, ?_⟩); (try simp only [go_sem, Nat.reduceLT, Nat.reduceLeDiff, Nat.reduceEqDiff, reduceIte, Nat.reduceAdd, Nat.reduceMul, Nat.reduceSub, Int.reduceLT, Int.reduceLE, Int.reduceToNat, Int.reduceNeg, reduceCtorEq, Node.cells, hcl]))); (try simp (disch := omega) only [wrap_id, getD_map_in, Int.toNat_natCast, Node.cells, hcl]); (repeat (refine And.intro (by (first | omega | (simp; done) | (simp; omega) | assumption)) ?_)); refine h' _ ?_; clear h' K') | (refine aops_nil (hK _ ?_); clear hK K gs; try simp only [aThen, aBlock]) | (refine AWp.sreg  dd71 rfl (fun gs K hgs hK => ?_); clear hgs) | refine AWp.seq ?_ | refine ARounds.step ?_ | refine AWp.block ?_ | refine AWp.label ?_ | (refine AWp.ret ?_; try simp only [aThen, aBlock]) | (refine AWp.skip ?_; try simp only [aThen, aBlock]) | (refine AWp.exit ?_; try simp only [aThen, aBlock, Nat.reduceEqDiff, reduceIte]) | (refine AWp.reg  dd71 rfl (fun gs K hgs hK => ?_); clear hgs) | (refine AWp.cond rfl (fun h => ?_) (fun h => ?_) <;> (try simp only [decide_eq_true_eq, decide_eq_false_iff_not, beq_iff_eq, bne_iff_ne, ne_eq, Bool.not_eq_true', Bool.not_eq_false', beq_eq_false_iff_ne, Bool.true_eq_false, Bool.false_eq_true, Int.not_le, Int.not_lt, Bool.and_eq_true, Bool.and_eq_false_iff, Bool.or_eq_true, Bool.or_eq_false_iff, bne_eq_false_iff_eq, reduceCtorEq] at h) <;> (try first | contradiction | (exfalso; omega) | (exfalso; revert h; simp; done) | (exfalso; revert h; simp; omega)))))
      simp only [Out, outA, outL, resA, go_sem, Nat.reduceLT, Nat.reduceLeDiff, Nat.reduceEqDiff, reduceIte, Nat.reduceAdd, Nat.reduceMul, Nat.reduceSub, Int.reduceLT, Int.reduceLE, Int.reduceToNat, Int.reduceNeg, reduceCtorEq]
      refine AVle.of_eq ?_
      rw [List.take_of_length_le (by simp [hcl])]
end Go.Proofs.Yteohklfoggiojaa
