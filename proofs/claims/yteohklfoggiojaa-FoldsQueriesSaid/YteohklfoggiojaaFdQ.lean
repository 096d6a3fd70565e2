/-
  The walks over queries that are folded: of the program and of the reference.
-/
import Derived.Test.YteohklfoggiojaaQryU
import Derived.Test.YteohklfoggiojaaFltC
import Derived.Test.YteohklfoggiojaaFdH
import Derived.Test.YteohklfoggiojaaAbsV
namespace Go.Proofs.Yteohklfoggiojaa
open Go.AL Go.RowKit
set_option linter.unusedSimpArgs false
set_option linter.unusedVariables false
set_option maxRecDepth 10000
set_option maxHeartbeats 8000000
def dd58 : Nat → List (List Nat)
  | 0 => [[], [2]]
  | 1 => [[], [], [3]]
  | 2 => [[0, 4], []]
  | 3 => [[4], [], [0], [5, 6], [7]]
  | _ => []
theorem cloneI_c (x : Int) (l : List Int) (hl : l.length ≤ 1000) : ACall Try.prog 58 [intsV (x :: l)] (intsV (x :: l)) := by
  unfold intsV
  refine acall_of (n := 8) (rs := [.tmp 2]) Try.func58 rfl (by kernel_rfl) rfl rfl rfl ?_; simp only [argsE, Nat.reduceAdd]
  repeat (any_goals (first | (refine aops_cons (fun K' h' => ?_); simp only [go_sem, simprocAttr, Node.cells, aopG, bne_self_eq_false, Bool.not_false, beq_self_eq_true]; (try simp (disch := omega) only [wrap_id, getD_map_in, Int.toNat_natCast, Node.cells, aopG, bne_self_eq_false, Bool.not_false, beq_self_eq_true]); (repeat (refine And.intro (by (first | omega | (simp; done) | (simp; omega) | assumption)) ?_)); refine h' _ ?_; clear h' K') | (refine aops_nil (hK _ ?_); clear hK K gs; try simp only [aThen, aBlock]) | (refine AWp.sreg  dd58 rfl (fun gs K hgs hK => ?_); clear hgs) | refine AWp.seq ?_ | refine ARounds.step ?_ | refine AWp.block ?_ | refine AWp.label ?_ | (refine AWp.ret ?_; try simp only [aThen, aBlock]) | (refine AWp.skip ?_; try simp only [aThen, aBlock]) | (refine AWp.exit ?_; try simp only [aThen, aBlock, Nat.reduceEqDiff, reduceIte]) | (refine AWp.reg  dd58 rfl (fun gs K hgs hK => ?_); clear hgs) | (refine AWp.cond rfl (fun h => ?_) (fun h => ?_) <;> (try simp only [decide_eq_true_eq, decide_eq_false_iff_not, beq_iff_eq, bne_iff_ne, ne_eq, Bool.not_eq_true', Bool.not_eq_false', beq_eq_false_iff_ne, Bool.true_eq_false, Bool.false_eq_true, Int.not_le, Int.not_lt, Bool.and_eq_true, Bool.and_eq_false_iff, Bool.or_eq_true, Bool.or_eq_false_iff, bne_eq_false_iff_eq, reduceCtorEq] at h) <;> (try first | contradiction | (exfalso; omega) | (exfalso; revert h; simp; done) | (exfalso; revert h; simp; omega)))))
  all_goals simp only [Out, outA, outL, resA, go_sem, simprocAttr]
  all_goals exact AVle.of_eq (by simp [List.take_of_length_le])
noncomputable def fq (l : List Node) : List Node := if l = [] then [] else fldR l
noncomputable def fqQ (q : Qry) : Qry := ⟨q.agg, fq q.arg, q.src, q.join, fq q.wh, q.win, q.byKey, q.late⟩
def zeroQ : Qry := ⟨0, [], [], false, [], ⟨0, 0, 0⟩, false, 0⟩
noncomputable def fqR (q : Qry) : Qry := if accE q = 0 then fqQ q else zeroQ
theorem want_0 {l : List Node} {t : Bool} (h : wantE l t = 0) : ofE l = 0 ∧ ofB l = t := by
  unfold wantE at h
  split at h
  · omega
  · rename_i h1
    refine ⟨h, ?_⟩
    by_cases h2 : ofB l = t
    · exact h2
    · exact absurd ⟨h, h2⟩ h1
theorem chk_0 {q : Qry} (h : chkE q = 0) : ¬ (q.agg < 1 ∨ 4 < q.agg ∨ (q.late ≠ 1 ∧ q.late ≠ 2)) ∧ ¬ (q.agg ≠ 1 ∧ errL q.arg ≠ 0) ∧ ¬ (q.agg = 1 ∧ 0 < q.arg.length) ∧ ¬ (0 < q.wh.length ∧ errL q.wh ≠ 0) ∧ srcE q.src q.join = 0 ∧ ¬ (q.join = true ∧ q.win.kind ≠ 1) ∧ winE q.win = 0 := by
  unfold chkE at h
  by_cases h1 : q.agg < 1 ∨ 4 < q.agg ∨ (q.late ≠ 1 ∧ q.late ≠ 2)
  · rw [if_pos h1] at h; omega
  · rw [if_neg h1] at h
    by_cases h2 : q.agg ≠ 1 ∧ errL q.arg ≠ 0
    · rw [if_pos h2] at h; exact absurd h h2.2
    · rw [if_neg h2] at h
      by_cases h3 : q.agg = 1 ∧ 0 < q.arg.length
      · rw [if_pos h3] at h; omega
      · rw [if_neg h3] at h
        by_cases h4 : 0 < q.wh.length ∧ errL q.wh ≠ 0
        · rw [if_pos h4] at h; exact absurd h h4.2
        · rw [if_neg h4] at h
          by_cases h5 : srcE q.src q.join ≠ 0
          · rw [if_pos h5] at h; exact absurd h h5
          · rw [if_neg h5] at h
            by_cases h6 : q.join = true ∧ q.win.kind ≠ 1
            · rw [if_pos h6] at h; omega
            · rw [if_neg h6] at h
              exact ⟨h1, h2, h3, h4, Classical.not_not.1 h5, h6, h⟩
theorem acc_0 {q : Qry} (h : accE q = 0) : chkE q = 0 ∧ (q.arg = [] ∨ (ofE q.arg = 0 ∧ ofB q.arg = false)) ∧ (q.wh = [] ∨ (ofE q.wh = 0 ∧ ofB q.wh = true)) := by
  unfold accE at h
  by_cases h1 : chkE q ≠ 0
  · rw [if_pos h1] at h; exact absurd h h1
  · rw [if_neg h1] at h
    refine ⟨Classical.not_not.1 h1, ?_⟩
    unfold fstE at h
    by_cases h2 : 0 < q.arg.length ∧ wantE q.arg false ≠ 0
    · rw [if_pos h2] at h; exact absurd h h2.2
    · rw [if_neg h2] at h
      have ha : q.arg = [] ∨ (ofE q.arg = 0 ∧ ofB q.arg = false) := by
        by_cases h3 : q.arg = []
        · exact .inl h3
        · have : 0 < q.arg.length := List.length_pos_iff.2 h3
          exact .inr (want_0 (Classical.not_not.1 fun h4 => h2 ⟨this, h4⟩))
      refine ⟨ha, ?_⟩
      by_cases h3 : 0 < q.wh.length ∧ wantE q.wh true ≠ 0
      · rw [if_pos h3] at h; exact absurd h h3.2
      · by_cases h4 : q.wh = []
        · exact .inl h4
        · have : 0 < q.wh.length := List.length_pos_iff.2 h4
          exact .inr (want_0 (Classical.not_not.1 fun h5 => h3 ⟨this, h5⟩))
theorem src_ne {l : List Int} {j : Bool} (h : srcE l j = 0) : l ≠ [] := by
  intro h1
  subst h1
  unfold srcE at h
  simp at h
theorem fq_len (l : List Node) (hn : nodesB l) : (fq l).length ≤ 1000 := by
  unfold fq
  split
  · simp
  · by_cases h0 : ofE l = 0
    · obtain ⟨e, H⟩ := fld_of h0 hn
      rw [H.out_len]; have := H.same.sz; have := H.sz; omega
    · rw [show fldR l = [] from if_neg h0]; simp
theorem fqR_len (q : Qry) (h : q.fit) : (fqR q).arg.length ≤ 1000 ∧ (fqR q).wh.length ≤ 1000 ∧ (fqR q).src.length ≤ 1000 := by
  unfold fqR
  split
  · exact ⟨fq_len _ h.an, fq_len _ h.wn, h.s⟩
  · simp [zeroQ]
def dd31 : Nat → List (List Nat)
  | 0 => [[], [0], [], [3]]
  | 1 => [[], [], [11], [12], [], [10], [4, 13], [14]]
  | 2 => [[], [], [15]]
  | 3 => [[1, 16], [], [5], [17], [18]]
  | 4 => [[5, 16], [], [19], [20], [], [21, 22]]
  | 5 => [[], [], [], [23, 24], [], []]
  | 6 => [[], []]
  | 7 => [[28], [], [29], [30]]
  | 8 => [[], [], [31], [32], [33], [34]]
  | 9 => [[35], [], [37], [38], [39], [40], [], [36], [41], [42]]
  | 10 => [[], [], [43]]
  | 11 => [[1, 7, 8, 25, 26, 27, 44], [], [9], [45], [46]]
  | 12 => [[9, 44], [7], [8], [47], [48, 49]]
  | 13 => [[7, 35], [27], [50]]
  | 14 => [[25, 26, 27, 28], [1], [51], []]
  | _ => []
theorem query_c (q : Qry) (h : q.fit) : ACall Try.prog 31 [.agg q.cells] (.tup [.agg (fqR q).cells, .lit (.int .i64 (accE q))]) := by
  have hCk := checks_c q h
  by_cases h0 : accE q = 0
  · obtain ⟨hc, ha, hw⟩ := acc_0 h0
    have hs := src_ne (chk_0 hc).2.2.2.2.1
    rw [show fqR q = fqQ q from if_pos h0, h0]
    rw [h0] at hCk
    generalize accP q = ap at *
    obtain ⟨h1, h2, h3, -, h5, h6⟩ := h
    obtain ⟨ag, ar, sr, jn, wh, ⟨kd, sz, ev⟩, bk, lt⟩ := q
    unfold fqQ
    simp only at h1 h2 h3 h5 h6 ha hw hs ⊢
    obtain ⟨x, sr, rfl⟩ : ∃ x t, sr = x :: t := by
      cases sr with
      | nil => exact absurd rfl hs
      | cons x t => exact ⟨x, t, rfl⟩
    have hCl := cloneI_c x sr (by simp at h3; omega)
    generalize x :: sr = src at *
    have hF1 := fold_c ar h1 h5
    have hF2 := fold_c wh h2 h6
    have hfa : fq ar = if ar = [] then [] else fldR ar := rfl
    have hfw : fq wh = if wh = [] then [] else fldR wh := rfl
    generalize fq ar = far at *
    generalize fq wh = fwh at *
    clear h0 hc hs
    unfold Qry.cells intsV at *
    simp only at *
    unfold nodesV at *
    refine acall_of (n := 52) (rs := [.cell 2 63, .tmp 3]) Try.func31 rfl (by kernel_rfl) rfl rfl rfl ?_; simp only [argsE, Nat.reduceAdd]
    iterate 29 (any_goals (first | (refine aops_cons (fun K' h' => ?_); simp only [go_sem, simprocAttr, Node.cells, aopG, bne_self_eq_false, Bool.not_false, beq_self_eq_true]; (try ((first | refine ⟨_, hCk, ?_⟩ | refine ⟨_, fun _ => hCk, ?_⟩ | refine ⟨_, hF1, ?_⟩ | refine ⟨_, fun _ => hF1, ?_⟩ | refine ⟨_, hF2, ?_⟩ | refine ⟨_, fun _ => hF2, ?_⟩ | refine ⟨_, hCl, ?_⟩ | refine ⟨_, fun _ => hCl, ?_⟩); (try simp only [go_sem, simprocAttr, Node.cells, aopG, bne_self_eq_false, Bool.not_false, beq_self_eq_true]))); (try simp (disch := omega) only [wrap_id, getD_map_in, Int.toNat_natCast, Node.cells, aopG, bne_self_eq_false, Bool.not_false, beq_self_eq_true]); (repeat (refine And.intro (by (first | omega | (simp; done) | (simp; omega) | assumption)) ?_)); refine h' _ ?_; clear h' K') | (refine aops_nil (hK _ ?_); clear hK K gs; try simp only [aThen, aBlock]) | (refine AWp.sreg  dd31 rfl (fun gs K hgs hK => ?_); clear hgs) | refine AWp.seq ?_ | refine ARounds.step ?_ | refine AWp.block ?_ | refine AWp.label ?_ | (refine AWp.ret ?_; try simp only [aThen, aBlock]) | (refine AWp.skip ?_; try simp only [aThen, aBlock]) | (refine AWp.exit ?_; try simp only [aThen, aBlock, Nat.reduceEqDiff, reduceIte]) | (refine AWp.reg  dd31 rfl (fun gs K hgs hK => ?_); clear hgs) | (refine AWp.cond rfl (fun h => ?_) (fun h => ?_) <;> (try simp only [decide_eq_true_eq, decide_eq_false_iff_not, beq_iff_eq, bne_iff_ne, ne_eq, Bool.not_eq_true', Bool.not_eq_false', beq_eq_false_iff_ne, Bool.true_eq_false, Bool.false_eq_true, Int.not_le, Int.not_lt, Bool.and_eq_true, Bool.and_eq_false_iff, Bool.or_eq_true, Bool.or_eq_false_iff, bne_eq_false_iff_eq, reduceCtorEq] at h) <;> (try first | contradiction | (exfalso; omega) | (exfalso; revert h; simp; done) | (exfalso; revert h; simp; omega)))))
    refine AWp.snap rfl ?_
    intro w0 S0 G hG
    obtain ⟨g, hg⟩ := hG 1 0 0 rfl
    clear hG
    simp only [ASt.drop, dropE, keepR]
    simp only [go_sem, simprocAttr, Node.cells, aopG, bne_self_eq_false, Bool.not_false, beq_self_eq_true]
    refine J.AWp.seq ?_
    refine J.AWp.split [[], [], []] rfl rfl ?_
    intro gs K0 hgs hK
    clear hgs
    iterate 2 (refine aops_cons (fun K' h' => ?_); simp only [go_sem, simprocAttr, Node.cells, aopG, bne_self_eq_false, Bool.not_false, beq_self_eq_true]; (try simp (disch := omega) only [wrap_id, getD_map_in, Int.toNat_natCast, Node.cells, aopG, bne_self_eq_false, Bool.not_false, beq_self_eq_true]); (repeat (refine And.intro (by (first | omega | (simp; done) | (simp; omega) | assumption)) ?_)); refine h' _ ?_; clear h' K')
    refine aops_nil (hK _ ⟨_, (alias_gen (p := 1) (k := 0) (s := 23) (off := 1) hg rfl (.inl ⟨rfl, rfl⟩)).trans (alias_gen (p := 1) (k := 0) (s := 24) (off := 4) hg rfl (.inl ⟨rfl, rfl⟩)), ?_⟩)
    clear hK K0 gs
    intro gs K0 hgs hK
    clear hgs
    simp only [go_sem, simprocAttr, Node.cells, aopG, bne_self_eq_false, Bool.not_false, beq_self_eq_true]
    iterate 3 (refine aops_cons (fun K' h' => ?_); simp only [go_sem, simprocAttr, Node.cells, aopG, bne_self_eq_false, Bool.not_false, beq_self_eq_true]; (try simp (disch := omega) only [wrap_id, getD_map_in, Int.toNat_natCast, Node.cells, aopG, bne_self_eq_false, Bool.not_false, beq_self_eq_true]); (repeat (refine And.intro (by (first | omega | (simp; done) | (simp; omega) | assumption)) ?_)); refine h' _ ?_; clear h' K')
    refine aops_nil (hK _ ?_)
    clear hK K0 gs
    simp only [aThen]
    refine J.AWp.block ?_
    have hsa : ar ≠ [] → ofE ar = 0 := fun h => by rcases ha with ha | ha; exact absurd ha h; exact ha.1
    have hsw : wh ≠ [] → ofE wh = 0 := fun h => by rcases hw with hw | hw; exact absurd hw h; exact hw.1
    clear ha hw
    refine J.AWp.loop (I := fun k : Nat => k ≤ 2) (fun k => ⟨[(1, .bp 0 0), (2, .bp 1 0), (25, .own 0 1 0 2), (26, .lit (.int .i64 2)), (27, .lit (.int .i64 (k : Int))), (53, .bp 0 0)],
      [[.lit (.int .u8 ag), .ro 5 ((if 1 ≤ k then far else ar).map Node.cells), .ro 1 (src.map fun x => [.lit (.int .i64 x)]), .lit (.bool jn), .ro 5 ((if 2 ≤ k then fwh else wh).map Node.cells), .lit (.int .u8 kd), .lit (.int .i64 sz), .lit (.int .i64 ev), .lit (.bool bk), .lit (.int .u8 lt)],
       [.lit (.int .u8 0), .lit (.slice none 0 0), .lit (.slice none 0 0), .lit (.bool false), .lit (.slice none 0 0), .lit (.int .u8 0), .lit (.int .i64 0), .lit (.int .i64 0), .lit (.bool false), .lit (.int .u8 0)]],
      [some ⟨107, 1, [[.lit (.pointer (some ⟨g, 1, none⟩))], [.lit (.pointer (some ⟨g, 4, none⟩))]]⟩]⟩) (fun k => 2 - k) 0 (Nat.zero_le _) ?_ ?_
    · refine Wk.ofCut 2 1 rfl rfl ?_
      simp [subE, eget, ASt.drop, dropE, keepR, lowE, AV.lowB, lowL, Nat.blt, Nat.ble]
    · intro k hk
      have hk3 : k = 0 ∨ k = 1 ∨ k = 2 := by omega
      rcases hk3 with rfl | rfl | rfl
      · simp only [Nat.reduceLeDiff, reduceIte]
        iterate 13 try (any_goals (first | (refine aops_cons (fun K' h' => ?_); simp only [go_sem, simprocAttr, Node.cells, aopG, bne_self_eq_false, Bool.not_false, beq_self_eq_true, Int.reduceAdd, Int.natCast_zero, Int.zero_add]; (try ((first | refine ⟨_, hCk, ?_⟩ | refine ⟨_, fun _ => hCk, ?_⟩ | refine ⟨_, hF1, ?_⟩ | refine ⟨_, fun _ => hF1, ?_⟩ | refine ⟨_, hF2, ?_⟩ | refine ⟨_, fun _ => hF2, ?_⟩ | refine ⟨_, hCl, ?_⟩ | refine ⟨_, fun _ => hCl, ?_⟩); (try simp only [go_sem, simprocAttr, Node.cells, aopG, bne_self_eq_false, Bool.not_false, beq_self_eq_true, Int.reduceAdd, Int.natCast_zero, Int.zero_add]))); (try simp (disch := omega) only [wrap_id, getD_map_in, Int.toNat_natCast, Node.cells, aopG, bne_self_eq_false, Bool.not_false, beq_self_eq_true, Int.reduceAdd, Int.natCast_zero, Int.zero_add]); (repeat (refine And.intro (by (first | omega | (simp; done) | (simp; omega) | assumption)) ?_)); refine h' _ ?_; clear h' K') | (refine aops_nil (hK _ ?_); clear hK K gs; try simp only [aThen, aBlock]) | (refine J.AWp.sreg  dd31 rfl (fun gs K hgs hK => ?_); clear hgs) | refine J.AWp.seq ?_ | refine ARounds.step ?_ | refine J.AWp.block ?_ | refine J.AWp.label ?_ | (refine J.AWp.ret ?_; try simp only [aThen, aBlock]) | (refine J.AWp.skip ?_; try simp only [aThen, aBlock]) | (refine J.AWp.exit ?_; try simp only [aThen, aBlock, Nat.reduceEqDiff, reduceIte]) | (refine J.AWp.reg  dd31 rfl (fun gs K hgs hK => ?_); clear hgs) | (refine J.AWp.cond rfl (fun h => ?_) (fun h => ?_) <;> (try simp only [decide_eq_true_eq, decide_eq_false_iff_not, beq_iff_eq, bne_iff_ne, ne_eq, Bool.not_eq_true', Bool.not_eq_false', beq_eq_false_iff_ne, Bool.true_eq_false, Bool.false_eq_true, Int.not_le, Int.not_lt, Bool.and_eq_true, Bool.and_eq_false_iff, Bool.or_eq_true, Bool.or_eq_false_iff, bne_eq_false_iff_eq, reduceCtorEq] at h) <;> (try first | contradiction | (exfalso; omega) | (exfalso; revert h; simp; done) | (exfalso; revert h; simp; omega)))))
        refine J.AWp.weakenJ (alias_gen (p := 1) (k := 0) (s := 7) (off := 1) hg rfl (.inr ⟨rfl, rfl⟩)) ?_
        by_cases hz : ar = []
        all_goals simp only [hz, if_true, if_false] at hfa
        all_goals try subst hz
        all_goals try rw [hsa hz] at hF1
        all_goals subst hfa
        all_goals try have hlen : 0 < ar.length := List.length_pos_iff.2 hz
        all_goals
          simp only [go_sem, simprocAttr, Node.cells, aopG, bne_self_eq_false, Bool.not_false, beq_self_eq_true, Int.reduceAdd, Int.natCast_zero, Int.zero_add]
        repeat (any_goals (first | (refine aops_cons (fun K' h' => ?_); simp only [go_sem, simprocAttr, Node.cells, aopG, bne_self_eq_false, Bool.not_false, beq_self_eq_true, Int.reduceAdd, Int.natCast_zero, Int.zero_add]; (try ((first | refine ⟨_, hCk, ?_⟩ | refine ⟨_, fun _ => hCk, ?_⟩ | refine ⟨_, hF1, ?_⟩ | refine ⟨_, fun _ => hF1, ?_⟩ | refine ⟨_, hF2, ?_⟩ | refine ⟨_, fun _ => hF2, ?_⟩ | refine ⟨_, hCl, ?_⟩ | refine ⟨_, fun _ => hCl, ?_⟩); (try simp only [go_sem, simprocAttr, Node.cells, aopG, bne_self_eq_false, Bool.not_false, beq_self_eq_true, Int.reduceAdd, Int.natCast_zero, Int.zero_add]))); (try simp (disch := omega) only [wrap_id, getD_map_in, Int.toNat_natCast, Node.cells, aopG, bne_self_eq_false, Bool.not_false, beq_self_eq_true, Int.reduceAdd, Int.natCast_zero, Int.zero_add]); (repeat (refine And.intro (by (first | omega | (simp; done) | (simp; omega) | assumption)) ?_)); refine h' _ ?_; clear h' K') | (refine aops_nil (hK _ ?_); clear hK K gs; try simp only [aThen, aBlock]) | (refine J.AWp.sreg  dd31 rfl (fun gs K hgs hK => ?_); clear hgs) | refine J.AWp.seq ?_ | refine ARounds.step ?_ | refine J.AWp.block ?_ | refine J.AWp.label ?_ | (refine J.AWp.ret ?_; try simp only [aThen, aBlock]) | (refine J.AWp.skip ?_; try simp only [aThen, aBlock]) | (refine J.AWp.exit ?_; try simp only [aThen, aBlock, Nat.reduceEqDiff, reduceIte]) | (refine J.AWp.reg  dd31 rfl (fun gs K hgs hK => ?_); clear hgs) | (refine J.AWp.cond rfl (fun h => ?_) (fun h => ?_) <;> (try simp only [decide_eq_true_eq, decide_eq_false_iff_not, beq_iff_eq, bne_iff_ne, ne_eq, Bool.not_eq_true', Bool.not_eq_false', beq_eq_false_iff_ne, Bool.true_eq_false, Bool.false_eq_true, Int.not_le, Int.not_lt, Bool.and_eq_true, Bool.and_eq_false_iff, Bool.or_eq_true, Bool.or_eq_false_iff, bne_eq_false_iff_eq, reduceCtorEq] at h) <;> (try first | contradiction | (exfalso; omega) | (exfalso; revert h; simp; done) | (exfalso; revert h; simp; omega)))))
        all_goals first
          | (exfalso; omega)
          | skip
        all_goals refine ⟨1, by omega, Wk.ofCut 2 1 rfl rfl ?_, by omega⟩
        all_goals
          simp [subE, eget, ASt.drop, dropE, keepR, lowE, AV.lowB, lowL, Nat.blt, Nat.ble]
      · simp only [Nat.reduceLeDiff, reduceIte]
        iterate 13 try (any_goals (first | (refine aops_cons (fun K' h' => ?_); simp only [go_sem, simprocAttr, Node.cells, aopG, bne_self_eq_false, Bool.not_false, beq_self_eq_true, Int.reduceAdd, Int.natCast_zero, Int.zero_add]; (try ((first | refine ⟨_, hCk, ?_⟩ | refine ⟨_, fun _ => hCk, ?_⟩ | refine ⟨_, hF1, ?_⟩ | refine ⟨_, fun _ => hF1, ?_⟩ | refine ⟨_, hF2, ?_⟩ | refine ⟨_, fun _ => hF2, ?_⟩ | refine ⟨_, hCl, ?_⟩ | refine ⟨_, fun _ => hCl, ?_⟩); (try simp only [go_sem, simprocAttr, Node.cells, aopG, bne_self_eq_false, Bool.not_false, beq_self_eq_true, Int.reduceAdd, Int.natCast_zero, Int.zero_add]))); (try simp (disch := omega) only [wrap_id, getD_map_in, Int.toNat_natCast, Node.cells, aopG, bne_self_eq_false, Bool.not_false, beq_self_eq_true, Int.reduceAdd, Int.natCast_zero, Int.zero_add]); (repeat (refine And.intro (by (first | omega | (simp; done) | (simp; omega) | assumption)) ?_)); refine h' _ ?_; clear h' K') | (refine aops_nil (hK _ ?_); clear hK K gs; try simp only [aThen, aBlock]) | (refine J.AWp.sreg  dd31 rfl (fun gs K hgs hK => ?_); clear hgs) | refine J.AWp.seq ?_ | refine ARounds.step ?_ | refine J.AWp.block ?_ | refine J.AWp.label ?_ | (refine J.AWp.ret ?_; try simp only [aThen, aBlock]) | (refine J.AWp.skip ?_; try simp only [aThen, aBlock]) | (refine J.AWp.exit ?_; try simp only [aThen, aBlock, Nat.reduceEqDiff, reduceIte]) | (refine J.AWp.reg  dd31 rfl (fun gs K hgs hK => ?_); clear hgs) | (refine J.AWp.cond rfl (fun h => ?_) (fun h => ?_) <;> (try simp only [decide_eq_true_eq, decide_eq_false_iff_not, beq_iff_eq, bne_iff_ne, ne_eq, Bool.not_eq_true', Bool.not_eq_false', beq_eq_false_iff_ne, Bool.true_eq_false, Bool.false_eq_true, Int.not_le, Int.not_lt, Bool.and_eq_true, Bool.and_eq_false_iff, Bool.or_eq_true, Bool.or_eq_false_iff, bne_eq_false_iff_eq, reduceCtorEq] at h) <;> (try first | contradiction | (exfalso; omega) | (exfalso; revert h; simp; done) | (exfalso; revert h; simp; omega)))))
        refine J.AWp.weakenJ (alias_gen (p := 1) (k := 0) (s := 7) (off := 4) hg rfl (.inr ⟨rfl, rfl⟩)) ?_
        by_cases hz : wh = []
        all_goals simp only [hz, if_true, if_false] at hfw
        all_goals try subst hz
        all_goals try rw [hsw hz] at hF2
        all_goals subst hfw
        all_goals try have hlen : 0 < wh.length := List.length_pos_iff.2 hz
        all_goals
          simp only [go_sem, simprocAttr, Node.cells, aopG, bne_self_eq_false, Bool.not_false, beq_self_eq_true, Int.reduceAdd, Int.natCast_zero, Int.zero_add]
        repeat (any_goals (first | (refine aops_cons (fun K' h' => ?_); simp only [go_sem, simprocAttr, Node.cells, aopG, bne_self_eq_false, Bool.not_false, beq_self_eq_true, Int.reduceAdd, Int.natCast_zero, Int.zero_add]; (try ((first | refine ⟨_, hCk, ?_⟩ | refine ⟨_, fun _ => hCk, ?_⟩ | refine ⟨_, hF1, ?_⟩ | refine ⟨_, fun _ => hF1, ?_⟩ | refine ⟨_, hF2, ?_⟩ | refine ⟨_, fun _ => hF2, ?_⟩ | refine ⟨_, hCl, ?_⟩ | refine ⟨_, fun _ => hCl, ?_⟩); (try simp only [go_sem, simprocAttr, Node.cells, aopG, bne_self_eq_false, Bool.not_false, beq_self_eq_true, Int.reduceAdd, Int.natCast_zero, Int.zero_add]))); (try simp (disch := omega) only [wrap_id, getD_map_in, Int.toNat_natCast, Node.cells, aopG, bne_self_eq_false, Bool.not_false, beq_self_eq_true, Int.reduceAdd, Int.natCast_zero, Int.zero_add]); (repeat (refine And.intro (by (first | omega | (simp; done) | (simp; omega) | assumption)) ?_)); refine h' _ ?_; clear h' K') | (refine aops_nil (hK _ ?_); clear hK K gs; try simp only [aThen, aBlock]) | (refine J.AWp.sreg  dd31 rfl (fun gs K hgs hK => ?_); clear hgs) | refine J.AWp.seq ?_ | refine ARounds.step ?_ | refine J.AWp.block ?_ | refine J.AWp.label ?_ | (refine J.AWp.ret ?_; try simp only [aThen, aBlock]) | (refine J.AWp.skip ?_; try simp only [aThen, aBlock]) | (refine J.AWp.exit ?_; try simp only [aThen, aBlock, Nat.reduceEqDiff, reduceIte]) | (refine J.AWp.reg  dd31 rfl (fun gs K hgs hK => ?_); clear hgs) | (refine J.AWp.cond rfl (fun h => ?_) (fun h => ?_) <;> (try simp only [decide_eq_true_eq, decide_eq_false_iff_not, beq_iff_eq, bne_iff_ne, ne_eq, Bool.not_eq_true', Bool.not_eq_false', beq_eq_false_iff_ne, Bool.true_eq_false, Bool.false_eq_true, Int.not_le, Int.not_lt, Bool.and_eq_true, Bool.and_eq_false_iff, Bool.or_eq_true, Bool.or_eq_false_iff, bne_eq_false_iff_eq, reduceCtorEq] at h) <;> (try first | contradiction | (exfalso; omega) | (exfalso; revert h; simp; done) | (exfalso; revert h; simp; omega)))))
        all_goals first
          | (exfalso; omega)
          | skip
        all_goals refine ⟨2, by omega, Wk.ofCut 2 1 rfl rfl ?_, by omega⟩
        all_goals
          simp [subE, eget, ASt.drop, dropE, keepR, lowE, AV.lowB, lowL, Nat.blt, Nat.ble]
      · simp only [Nat.reduceLeDiff, reduceIte]
        repeat (any_goals (first | (refine aops_cons (fun K' h' => ?_); simp only [go_sem, simprocAttr, Node.cells, aopG, bne_self_eq_false, Bool.not_false, beq_self_eq_true, Int.reduceAdd, Int.natCast_zero, Int.zero_add]; (try ((first | refine ⟨_, hCk, ?_⟩ | refine ⟨_, fun _ => hCk, ?_⟩ | refine ⟨_, hF1, ?_⟩ | refine ⟨_, fun _ => hF1, ?_⟩ | refine ⟨_, hF2, ?_⟩ | refine ⟨_, fun _ => hF2, ?_⟩ | refine ⟨_, hCl, ?_⟩ | refine ⟨_, fun _ => hCl, ?_⟩); (try simp only [go_sem, simprocAttr, Node.cells, aopG, bne_self_eq_false, Bool.not_false, beq_self_eq_true, Int.reduceAdd, Int.natCast_zero, Int.zero_add]))); (try simp (disch := omega) only [wrap_id, getD_map_in, Int.toNat_natCast, Node.cells, aopG, bne_self_eq_false, Bool.not_false, beq_self_eq_true, Int.reduceAdd, Int.natCast_zero, Int.zero_add]); (repeat (refine And.intro (by (first | omega | (simp; done) | (simp; omega) | assumption)) ?_)); refine h' _ ?_; clear h' K') | (refine aops_nil (hK _ ?_); clear hK K gs; try simp only [aThen, aBlock]) | (refine J.AWp.sreg  dd31 rfl (fun gs K hgs hK => ?_); clear hgs) | refine J.AWp.seq ?_ | refine ARounds.step ?_ | refine J.AWp.block ?_ | refine J.AWp.label ?_ | (refine J.AWp.ret ?_; try simp only [aThen, aBlock]) | (refine J.AWp.skip ?_; try simp only [aThen, aBlock]) | (refine J.AWp.exit ?_; try simp only [aThen, aBlock, Nat.reduceEqDiff, reduceIte]) | (refine J.AWp.reg  dd31 rfl (fun gs K hgs hK => ?_); clear hgs) | (refine J.AWp.cond rfl (fun h => ?_) (fun h => ?_) <;> (try simp only [decide_eq_true_eq, decide_eq_false_iff_not, beq_iff_eq, bne_iff_ne, ne_eq, Bool.not_eq_true', Bool.not_eq_false', beq_eq_false_iff_ne, Bool.true_eq_false, Bool.false_eq_true, Int.not_le, Int.not_lt, Bool.and_eq_true, Bool.and_eq_false_iff, Bool.or_eq_true, Bool.or_eq_false_iff, bne_eq_false_iff_eq, reduceCtorEq] at h) <;> (try first | contradiction | (exfalso; omega) | (exfalso; revert h; simp; done) | (exfalso; revert h; simp; omega)))))
        all_goals first
          | (exfalso; omega)
          | skip
        simp only [go_sem, simprocAttr, Node.cells, aopG, bne_self_eq_false, Bool.not_false, beq_self_eq_true, Int.reduceAdd, Int.natCast_zero, Int.zero_add]
        repeat (any_goals (first | (refine aops_cons (fun K' h' => ?_); simp only [go_sem, simprocAttr, Node.cells, aopG, bne_self_eq_false, Bool.not_false, beq_self_eq_true, Int.reduceAdd, Int.natCast_zero, Int.zero_add]; (try ((first | refine ⟨_, hCk, ?_⟩ | refine ⟨_, fun _ => hCk, ?_⟩ | refine ⟨_, hF1, ?_⟩ | refine ⟨_, fun _ => hF1, ?_⟩ | refine ⟨_, hF2, ?_⟩ | refine ⟨_, fun _ => hF2, ?_⟩ | refine ⟨_, hCl, ?_⟩ | refine ⟨_, fun _ => hCl, ?_⟩); (try simp only [go_sem, simprocAttr, Node.cells, aopG, bne_self_eq_false, Bool.not_false, beq_self_eq_true, Int.reduceAdd, Int.natCast_zero, Int.zero_add]))); (try simp (disch := omega) only [wrap_id, getD_map_in, Int.toNat_natCast, Node.cells, aopG, bne_self_eq_false, Bool.not_false, beq_self_eq_true, Int.reduceAdd, Int.natCast_zero, Int.zero_add]); (repeat (refine And.intro (by (first | omega | (simp; done) | (simp; omega) | assumption)) ?_)); refine h' _ ?_; clear h' K') | (refine aops_nil (hK _ ?_); clear hK K gs; try simp only [aThen, aBlock]) | (refine AWp.sreg  dd31 rfl (fun gs K hgs hK => ?_); clear hgs) | refine AWp.seq ?_ | refine ARounds.step ?_ | refine AWp.block ?_ | refine AWp.label ?_ | (refine AWp.ret ?_; try simp only [aThen, aBlock]) | (refine AWp.skip ?_; try simp only [aThen, aBlock]) | (refine AWp.exit ?_; try simp only [aThen, aBlock, Nat.reduceEqDiff, reduceIte]) | (refine AWp.reg  dd31 rfl (fun gs K hgs hK => ?_); clear hgs) | (refine AWp.cond rfl (fun h => ?_) (fun h => ?_) <;> (try simp only [decide_eq_true_eq, decide_eq_false_iff_not, beq_iff_eq, bne_iff_ne, ne_eq, Bool.not_eq_true', Bool.not_eq_false', beq_eq_false_iff_ne, Bool.true_eq_false, Bool.false_eq_true, Int.not_le, Int.not_lt, Bool.and_eq_true, Bool.and_eq_false_iff, Bool.or_eq_true, Bool.or_eq_false_iff, bne_eq_false_iff_eq, reduceCtorEq] at h) <;> (try first | contradiction | (exfalso; omega) | (exfalso; revert h; simp; done) | (exfalso; revert h; simp; omega)))))
        all_goals simp only [Out, outA, outL, resA, go_sem, simprocAttr]
        all_goals exact AVle.refl _
  · rw [show fqR q = zeroQ from if_neg h0]
    generalize accE q = ce at *
    generalize accP q = ap at *
    clear h
    obtain ⟨ag, ar, sr, jn, wh, ⟨kd, sz, ev⟩, bk, lt⟩ := q
    unfold zeroQ Qry.cells nodesV intsV at *
    refine acall_of (n := 52) (rs := [.cell 2 63, .tmp 3]) Try.func31 rfl (by kernel_rfl) rfl rfl rfl ?_; simp only [argsE, Nat.reduceAdd]
    repeat (any_goals (first | (refine aops_cons (fun K' h' => ?_); simp only [go_sem, simprocAttr, Node.cells, aopG, bne_self_eq_false, Bool.not_false, beq_self_eq_true]; (try ((first | refine ⟨_, hCk, ?_⟩ | refine ⟨_, fun _ => hCk, ?_⟩ | refine ⟨_, hF1, ?_⟩ | refine ⟨_, fun _ => hF1, ?_⟩ | refine ⟨_, hF2, ?_⟩ | refine ⟨_, fun _ => hF2, ?_⟩ | refine ⟨_, hCl, ?_⟩ | refine ⟨_, fun _ => hCl, ?_⟩); (try simp only [go_sem, simprocAttr, Node.cells, aopG, bne_self_eq_false, Bool.not_false, beq_self_eq_true]))); (try simp (disch := omega) only [wrap_id, getD_map_in, Int.toNat_natCast, Node.cells, aopG, bne_self_eq_false, Bool.not_false, beq_self_eq_true]); (repeat (refine And.intro (by (first | omega | (simp; done) | (simp; omega) | assumption)) ?_)); refine h' _ ?_; clear h' K') | (refine aops_nil (hK _ ?_); clear hK K gs; try simp only [aThen, aBlock]) | (refine AWp.sreg  dd31 rfl (fun gs K hgs hK => ?_); clear hgs) | refine AWp.seq ?_ | refine ARounds.step ?_ | refine AWp.block ?_ | refine AWp.label ?_ | (refine AWp.ret ?_; try simp only [aThen, aBlock]) | (refine AWp.skip ?_; try simp only [aThen, aBlock]) | (refine AWp.exit ?_; try simp only [aThen, aBlock, Nat.reduceEqDiff, reduceIte]) | (refine AWp.reg  dd31 rfl (fun gs K hgs hK => ?_); clear hgs) | (refine AWp.cond rfl (fun h => ?_) (fun h => ?_) <;> (try simp only [decide_eq_true_eq, decide_eq_false_iff_not, beq_iff_eq, bne_iff_ne, ne_eq, Bool.not_eq_true', Bool.not_eq_false', beq_eq_false_iff_ne, Bool.true_eq_false, Bool.false_eq_true, Int.not_le, Int.not_lt, Bool.and_eq_true, Bool.and_eq_false_iff, Bool.or_eq_true, Bool.or_eq_false_iff, bne_eq_false_iff_eq, reduceCtorEq] at h) <;> (try first | contradiction | (exfalso; omega) | (exfalso; revert h; simp; done) | (exfalso; revert h; simp; omega)))))
    all_goals simp only [Out, outA, outL, resA, go_sem, simprocAttr]
    all_goals exact AVle.tup ⟨AVle.agg ⟨AVle.refl _, AVle.nil 5, AVle.nil 1, AVle.refl _, AVle.nil 5, AVle.refl _, AVle.refl _, AVle.refl _, AVle.refl _, AVle.refl _, trivial⟩, AVle.refl _, trivial⟩
def dd34 : Nat → List (List Nat)
  | 0 => [[], [0], [], [3]]
  | 1 => [[], [], [7], [8], [], [6], [4, 9], [10]]
  | 2 => [[], [], [11]]
  | 3 => [[1, 12], [], [5], [13], [14]]
  | 4 => [[5, 12], [], [15], [16], [17]]
  | 5 => [[18], [], [20], [21], [22], [], [19, 24], [], [23, 25]]
  | 6 => [[18], [], [26], [27], [28]]
  | 7 => [[29], [], [31], [32], [33], [], [30, 35], [], [34, 36]]
  | 8 => [[29], [], [], [38], [37, 39], [], [40, 41]]
  | 9 => [[], [1], [42], []]
  | _ => []
theorem rQuery_c (q : Qry) (h : q.fit) : ACall Try.prog 34 [.agg q.cells] (.tup [.agg (fqR q).cells, .lit (.int .i64 (accE q))]) := by
  have hCk := checks10_c q h
  by_cases h0 : accE q = 0
  · rw [show fqR q = fqQ q from if_pos h0, h0]
    rw [h0] at hCk
    generalize accP q = ap at *
    obtain ⟨h1, h2, h3, -, h5, h6⟩ := h
    obtain ⟨ag, ar, sr, jn, wh, ⟨kd, sz, ev⟩, bk, lt⟩ := q
    unfold fqQ
    simp only at h1 h2 h3 h5 h6 ⊢
    have hF1 := rFold_c ar h1 h5
    have hF2 := rFold_c wh h2 h6
    have hfa : fq ar = if ar = [] then [] else fldR ar := rfl
    have hfw : fq wh = if wh = [] then [] else fldR wh := rfl
    generalize fq ar = far at *
    generalize fq wh = fwh at *
    generalize ofE ar = ea at *
    generalize ofE wh = ew at *
    clear h0
    unfold Qry.cells intsV at *
    simp only at *
    unfold nodesV at *
    have htk : (sr.map fun x => [AV.lit (Value.int IntKind.i64 x)]).take sr.length = sr.map fun x => [AV.lit (Value.int IntKind.i64 x)] := List.take_of_length_le (by simp)
    by_cases hz : ar = [] <;> by_cases hy : wh = []
    all_goals simp only [hz, hy, if_true, if_false] at hfa hfw
    all_goals try subst hz
    all_goals try subst hy
    all_goals subst hfa hfw
    all_goals try have hl1 : 0 < ar.length := List.length_pos_iff.2 hz
    all_goals try have hl2 : 0 < wh.length := List.length_pos_iff.2 hy
    all_goals
      refine acall_of (n := 43) (rs := [.cell 2 63, .tmp 3]) Try.func34 rfl (by kernel_rfl) rfl rfl rfl ?_; simp only [argsE, Nat.reduceAdd]
    repeat (any_goals (first | (refine aops_cons (fun K' h' => ?_); simp only [go_sem, simprocAttr, Node.cells, aopG, bne_self_eq_false, Bool.not_false, beq_self_eq_true, htk]; (try ((first | refine ⟨_, hCk, ?_⟩ | refine ⟨_, fun _ => hCk, ?_⟩ | refine ⟨_, hF1, ?_⟩ | refine ⟨_, fun _ => hF1, ?_⟩ | refine ⟨_, hF2, ?_⟩ | refine ⟨_, fun _ => hF2, ?_⟩); (try simp only [go_sem, simprocAttr, Node.cells, aopG, bne_self_eq_false, Bool.not_false, beq_self_eq_true, htk]))); (try simp (disch := omega) only [wrap_id, getD_map_in, Int.toNat_natCast, Node.cells, aopG, bne_self_eq_false, Bool.not_false, beq_self_eq_true, htk]); (repeat (refine And.intro (by (first | omega | (simp; done) | (simp; omega) | assumption)) ?_)); refine h' _ ?_; clear h' K') | (refine aops_nil (hK _ ?_); clear hK K gs; try simp only [aThen, aBlock]) | (refine AWp.sreg  dd34 rfl (fun gs K hgs hK => ?_); clear hgs) | refine AWp.seq ?_ | refine ARounds.step ?_ | refine AWp.block ?_ | refine AWp.label ?_ | (refine AWp.ret ?_; try simp only [aThen, aBlock]) | (refine AWp.skip ?_; try simp only [aThen, aBlock]) | (refine AWp.exit ?_; try simp only [aThen, aBlock, Nat.reduceEqDiff, reduceIte]) | (refine AWp.reg  dd34 rfl (fun gs K hgs hK => ?_); clear hgs) | (refine AWp.cond rfl (fun h => ?_) (fun h => ?_) <;> (try simp only [decide_eq_true_eq, decide_eq_false_iff_not, beq_iff_eq, bne_iff_ne, ne_eq, Bool.not_eq_true', Bool.not_eq_false', beq_eq_false_iff_ne, Bool.true_eq_false, Bool.false_eq_true, Int.not_le, Int.not_lt, Bool.and_eq_true, Bool.and_eq_false_iff, Bool.or_eq_true, Bool.or_eq_false_iff, bne_eq_false_iff_eq, reduceCtorEq] at h) <;> (try first | contradiction | (exfalso; omega) | (exfalso; revert h; simp; done) | (exfalso; revert h; simp; omega)))))
    all_goals first
      | (exfalso; omega)
      | skip
    all_goals simp only [Out, outA, outL, resA, go_sem, simprocAttr]
    all_goals exact AVle.of_eq (by simp [List.take_of_length_le])
  · rw [show fqR q = zeroQ from if_neg h0]
    generalize accE q = ce at *
    generalize accP q = ap at *
    clear h
    obtain ⟨ag, ar, sr, jn, wh, ⟨kd, sz, ev⟩, bk, lt⟩ := q
    unfold zeroQ Qry.cells nodesV intsV at *
    refine acall_of (n := 43) (rs := [.cell 2 63, .tmp 3]) Try.func34 rfl (by kernel_rfl) rfl rfl rfl ?_; simp only [argsE, Nat.reduceAdd]
    repeat (any_goals (first | (refine aops_cons (fun K' h' => ?_); simp only [go_sem, simprocAttr, Node.cells, aopG, bne_self_eq_false, Bool.not_false, beq_self_eq_true]; (try ((first | refine ⟨_, hCk, ?_⟩ | refine ⟨_, fun _ => hCk, ?_⟩ | refine ⟨_, hF1, ?_⟩ | refine ⟨_, fun _ => hF1, ?_⟩ | refine ⟨_, hF2, ?_⟩ | refine ⟨_, fun _ => hF2, ?_⟩); (try simp only [go_sem, simprocAttr, Node.cells, aopG, bne_self_eq_false, Bool.not_false, beq_self_eq_true]))); (try simp (disch := omega) only [wrap_id, getD_map_in, Int.toNat_natCast, Node.cells, aopG, bne_self_eq_false, Bool.not_false, beq_self_eq_true]); (repeat (refine And.intro (by (first | omega | (simp; done) | (simp; omega) | assumption)) ?_)); refine h' _ ?_; clear h' K') | (refine aops_nil (hK _ ?_); clear hK K gs; try simp only [aThen, aBlock]) | (refine AWp.sreg  dd34 rfl (fun gs K hgs hK => ?_); clear hgs) | refine AWp.seq ?_ | refine ARounds.step ?_ | refine AWp.block ?_ | refine AWp.label ?_ | (refine AWp.ret ?_; try simp only [aThen, aBlock]) | (refine AWp.skip ?_; try simp only [aThen, aBlock]) | (refine AWp.exit ?_; try simp only [aThen, aBlock, Nat.reduceEqDiff, reduceIte]) | (refine AWp.reg  dd34 rfl (fun gs K hgs hK => ?_); clear hgs) | (refine AWp.cond rfl (fun h => ?_) (fun h => ?_) <;> (try simp only [decide_eq_true_eq, decide_eq_false_iff_not, beq_iff_eq, bne_iff_ne, ne_eq, Bool.not_eq_true', Bool.not_eq_false', beq_eq_false_iff_ne, Bool.true_eq_false, Bool.false_eq_true, Int.not_le, Int.not_lt, Bool.and_eq_true, Bool.and_eq_false_iff, Bool.or_eq_true, Bool.or_eq_false_iff, bne_eq_false_iff_eq, reduceCtorEq] at h) <;> (try first | contradiction | (exfalso; omega) | (exfalso; revert h; simp; done) | (exfalso; revert h; simp; omega)))))
    all_goals simp only [Out, outA, outL, resA, go_sem, simprocAttr]
    all_goals exact AVle.tup ⟨AVle.agg ⟨AVle.refl _, AVle.nil 5, AVle.nil 1, AVle.refl _, AVle.nil 5, AVle.refl _, AVle.refl _, AVle.refl _, AVle.refl _, AVle.refl _, trivial⟩, AVle.refl _, trivial⟩
end Go.Proofs.Yteohklfoggiojaa
