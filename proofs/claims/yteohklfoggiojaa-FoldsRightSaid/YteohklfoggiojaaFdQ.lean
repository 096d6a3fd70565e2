/-
  The walks over queries that are folded: of the program and of the reference.
-/
import Derived.Test.YteohklfoggiojaaFltC
import Derived.Test.YteohklfoggiojaaFdH
import Derived.Test.YteohklfoggiojaaAbsV
namespace Go.Proofs.Yteohklfoggiojaa
open Go.AL Go.RowKit
set_option linter.unusedSimpArgs false
set_option linter.unusedVariables false
set_option maxRecDepth 10000
set_option maxHeartbeats 8000000
def dd58 : Nat → List (List Nat)
  | 0 => [[], [2]]
  | 1 => [[], [], [3]]
  | 2 => [[0, 4], []]
  | 3 => [[4], [], [0], [5, 6], [7]]
  | _ => []
theorem cloneI_c (x : Int) (l : List Int) (hl : l.length ≤ 1000) : ACall Try.prog 58 [intsV (x :: l)] (intsV (x :: l)) := by
  unfold intsV
  refine acall_of (n := 8) (rs := [.tmp 2]) Try.func58 rfl (by kernel_rfl) rfl rfl rfl ?_; simp only [argsE, Nat.reduceAdd]
  repeat (any_goals (first | (refine aops_cons (fun K' h' => ?_); simp only [go_sem, simprocAttr, Node.cells, aopG, bne_self_eq_false, Bool.not_false, beq_self_eq_true]; (try simp (disch := omega) only [wrap_id, getD_map_in, Int.toNat_natCast, Node.cells, aopG, bne_self_eq_false, Bool.not_false, beq_self_eq_true]); (repeat (refine And.intro (by (first | omega | (simp; done) | (simp; omega) | assumption)) ?_)); refine h' _ ?_; clear h' K') | (refine aops_nil (hK _ ?_); clear hK K gs; try simp only [aThen, aBlock]) | (refine AWp.sreg  dd58 rfl (fun gs K hgs hK => ?_); clear hgs) | refine AWp.seq ?_ | refine ARounds.step ?_ | refine AWp.block ?_ | refine AWp.label ?_ | (refine AWp.ret ?_; try simp only [aThen, aBlock]) | (refine AWp.skip ?_; try simp only [aThen, aBlock]) | (refine AWp.exit ?_; try simp only [aThen, aBlock, Nat.reduceEqDiff, reduceIte]) | (refine AWp.reg  dd58 rfl (fun gs K hgs hK => ?_); clear hgs) | (refine AWp.cond rfl (fun h => ?_) (fun h => ?_) <;> (try simp only [decide_eq_true_eq, decide_eq_false_iff_not, beq_iff_eq, bne_iff_ne, ne_eq, Bool.not_eq_true', Bool.not_eq_false', beq_eq_false_iff_ne, Bool.true_eq_false, Bool.false_eq_true, Int.not_le, Int.not_lt, Bool.and_eq_true, Bool.and_eq_false_iff, Bool.or_eq_true, Bool.or_eq_false_iff, bne_eq_false_iff_eq, reduceCtorEq] at h) <;> (try first | contradiction | (exfalso; omega) | (exfalso; revert h; simp; done) | (exfalso; revert h; simp; omega)))))
  all_goals simp only [Out, outA, outL, resA, go_sem, simprocAttr]
  all_goals exact AVle.of_eq (by simp [List.take_of_length_le])
noncomputable def fq (l : List Node) : List Node := if l = [] then [] else fldR l
noncomputable def fqQ (q : Qry) : Qry := ⟨q.agg, fq q.arg, q.src, q.join, fq q.wh, q.win, q.byKey, q.late⟩
def zeroQ : Qry := ⟨0, [], [], false, [], ⟨0, 0, 0⟩, false, 0⟩
noncomputable def fqR (q : Qry) : Qry := if accE q = 0 then fqQ q else zeroQ
theorem errL_nil : errL [] = 8 := by
  unfold errL
  rw [if_neg (by simp)]
  cases h : treeO [] with
  | none => rfl
  | some e => have := (treeO_some h).len; have := e.sz_pos; simp at *; omega
theorem want_0 {l : List Node} {t : Bool} (h : wantE l t = 0) : ofE l = 0 ∧ ofB l = t := by
  unfold wantE at h
  split at h
  · omega
  · rename_i h1
    refine ⟨h, ?_⟩
    by_cases h2 : ofB l = t
    · exact h2
    · exact absurd ⟨h, h2⟩ h1
theorem chk_0 {q : Qry} (h : chkE q = 0) : ¬ (q.agg < 1 ∨ 4 < q.agg ∨ (q.late ≠ 1 ∧ q.late ≠ 2)) ∧ ¬ (q.agg ≠ 1 ∧ errL q.arg ≠ 0) ∧ ¬ (q.agg = 1 ∧ 0 < q.arg.length) ∧ ¬ (0 < q.wh.length ∧ errL q.wh ≠ 0) ∧ srcE q.src q.join = 0 ∧ ¬ (q.join = true ∧ q.win.kind ≠ 1) ∧ winE q.win = 0 := by
  unfold chkE at h
  by_cases h1 : q.agg < 1 ∨ 4 < q.agg ∨ (q.late ≠ 1 ∧ q.late ≠ 2)
  · rw [if_pos h1] at h; omega
  · rw [if_neg h1] at h
    by_cases h2 : q.agg ≠ 1 ∧ errL q.arg ≠ 0
    · rw [if_pos h2] at h; exact absurd h h2.2
    · rw [if_neg h2] at h
      by_cases h3 : q.agg = 1 ∧ 0 < q.arg.length
      · rw [if_pos h3] at h; omega
      · rw [if_neg h3] at h
        by_cases h4 : 0 < q.wh.length ∧ errL q.wh ≠ 0
        · rw [if_pos h4] at h; exact absurd h h4.2
        · rw [if_neg h4] at h
          by_cases h5 : srcE q.src q.join ≠ 0
          · rw [if_pos h5] at h; exact absurd h h5
          · rw [if_neg h5] at h
            by_cases h6 : q.join = true ∧ q.win.kind ≠ 1
            · rw [if_pos h6] at h; omega
            · rw [if_neg h6] at h
              exact ⟨h1, h2, h3, h4, Classical.not_not.1 h5, h6, h⟩
theorem acc_0 {q : Qry} (h : accE q = 0) : chkE q = 0 ∧ (q.arg = [] ∨ (ofE q.arg = 0 ∧ ofB q.arg = false)) ∧ (q.wh = [] ∨ (ofE q.wh = 0 ∧ ofB q.wh = true)) := by
  unfold accE at h
  by_cases h1 : chkE q ≠ 0
  · rw [if_pos h1] at h; exact absurd h h1
  · rw [if_neg h1] at h
    refine ⟨Classical.not_not.1 h1, ?_⟩
    unfold fstE at h
    by_cases h2 : 0 < q.arg.length ∧ wantE q.arg false ≠ 0
    · rw [if_pos h2] at h; exact absurd h h2.2
    · rw [if_neg h2] at h
      have ha : q.arg = [] ∨ (ofE q.arg = 0 ∧ ofB q.arg = false) := by
        by_cases h3 : q.arg = []
        · exact .inl h3
        · have : 0 < q.arg.length := List.length_pos_iff.2 h3
          exact .inr (want_0 (Classical.not_not.1 fun h4 => h2 ⟨this, h4⟩))
      refine ⟨ha, ?_⟩
      by_cases h3 : 0 < q.wh.length ∧ wantE q.wh true ≠ 0
      · rw [if_pos h3] at h; exact absurd h h3.2
      · by_cases h4 : q.wh = []
        · exact .inl h4
        · have : 0 < q.wh.length := List.length_pos_iff.2 h4
          exact .inr (want_0 (Classical.not_not.1 fun h5 => h3 ⟨this, h5⟩))
theorem src_ne {l : List Int} {j : Bool} (h : srcE l j = 0) : l ≠ [] := by
  intro h1
  subst h1
  unfold srcE at h
  simp at h
theorem fq_len (l : List Node) (hn : nodesB l) : (fq l).length ≤ 1000 := by
  unfold fq
  split
  · simp
  · by_cases h0 : ofE l = 0
    · obtain ⟨e, H⟩ := fld_of h0 hn
      rw [H.out_len]; have := H.same.sz; have := H.sz; omega
    · rw [show fldR l = [] from if_neg h0]; simp
theorem fq_B {l : List Node} (hn : nodesB l) : nodesB (fq l) := by
  unfold fq
  split
  · intro x hx; cases hx
  · by_cases h0 : ofE l = 0
    · obtain ⟨e, H⟩ := fld_of h0 hn
      exact H.out_B
    · rw [show fldR l = [] from if_neg h0]
      intro x hx; cases hx
theorem fq_val {r : Rcd} {l : List Node} (h : l = [] ∨ ofE l = 0) (hn : nodesB l) : ofV r (fq l) = ofV r l ∧ ofE (fq l) = ofE l := by
  unfold fq
  by_cases h1 : l = []
  · rw [if_pos h1, h1]; exact ⟨rfl, rfl⟩
  · rw [if_neg h1]
    have h0 : ofE l = 0 := by rcases h with h | h; exact absurd h h1; exact h
    obtain ⟨e, H⟩ := fld_of h0 hn
    exact ⟨H.val r, by rw [H.out_ty, h0]⟩
theorem fq_nil (l : List Node) (hn : nodesB l) (h : l = [] ∨ ofE l = 0) : (((fq l).length : Int) == 0) = ((l.length : Int) == 0) := by
  unfold fq
  by_cases h1 : l = []
  · rw [if_pos h1, h1]
  · rw [if_neg h1]
    have h0 : ofE l = 0 := by rcases h with h | h; exact absurd h h1; exact h
    obtain ⟨e, H⟩ := fld_of h0 hn
    have := (foldE e).sz_pos
    have h2 := H.out_len
    have h3 := H.len
    have := e.sz_pos
    rw [beq_eq_false_iff_ne.2 (by omega), beq_eq_false_iff_ne.2 (by omega)]
theorem fq_want {l : List Node} {t : Bool} (hn : nodesB l) (h : ofE l = 0 ∧ ofB l = t) (h1 : l ≠ []) : wantE (fq l) t = 0 ∧ errL (fq l) = 0 := by
  unfold fq
  rw [if_neg h1]
  obtain ⟨e, H⟩ := fld_of h.1 hn
  refine ⟨?_, (ofE_0 H.out_ty).1⟩
  unfold wantE
  rw [H.out_ty, H.kind, h.2]
  simp
theorem fq_0 : fq [] = [] := if_pos rfl
theorem accE_fq {q : Qry} (h : accE q = 0) (n1 : nodesB q.arg) (n2 : nodesB q.wh) : accE (fqQ q) = 0 := by
  obtain ⟨hc, ha, hw⟩ := acc_0 h
  obtain ⟨c1, c2, c3, c4, c5, c6, c7⟩ := chk_0 hc
  have hA : fq q.arg = [] ∨ (wantE (fq q.arg) false = 0 ∧ errL (fq q.arg) = 0) := by
    by_cases h1 : q.arg = []
    · rw [h1]; exact .inl fq_0
    · rcases ha with ha | ha
      · exact absurd ha h1
      · exact .inr (fq_want n1 ha h1)
  have hW : fq q.wh = [] ∨ (wantE (fq q.wh) true = 0 ∧ errL (fq q.wh) = 0) := by
    by_cases h1 : q.wh = []
    · rw [h1]; exact .inl fq_0
    · rcases hw with hw | hw
      · exact absurd hw h1
      · exact .inr (fq_want n2 hw h1)
  have hck : chkE (fqQ q) = 0 := by
    unfold chkE fqQ
    simp only
    rw [if_neg c1]
    have d2 : ¬ (q.agg ≠ 1 ∧ errL (fq q.arg) ≠ 0) := by
      rintro ⟨g1, g2⟩
      rcases hA with hA | hA
      · by_cases h1 : q.arg = []
        · exact c2 ⟨g1, by rw [h1, errL_nil]; decide⟩
        · rcases ha with ha | ha
          · exact h1 ha
          · exact g2 (fq_want n1 ha h1).2
      · exact g2 hA.2
    rw [if_neg d2]
    have d3 : ¬ (q.agg = 1 ∧ 0 < (fq q.arg).length) := by
      rintro ⟨g1, g2⟩
      have h1 : q.arg = [] := by
        cases hq : q.arg with
        | nil => rfl
        | cons x t => exact absurd ⟨g1, by rw [hq]; simp⟩ c3
      rw [h1, fq_0] at g2
      simp at g2
    rw [if_neg d3]
    have d4 : ¬ (0 < (fq q.wh).length ∧ errL (fq q.wh) ≠ 0) := by
      rintro ⟨g1, g2⟩
      rcases hW with hW | hW
      · rw [hW] at g1; simp at g1
      · exact g2 hW.2
    rw [if_neg d4, if_neg (by rw [c5]; simp), if_neg c6, c7]
  unfold accE
  rw [if_neg (by rw [hck]; simp)]
  unfold fstE
  rw [if_neg, if_neg]
  · rintro ⟨g1, g2⟩
    rcases hW with hW | hW
    · have : (fqQ q).wh = [] := hW
      rw [this] at g1; simp at g1
    · exact g2 hW.1
  · rintro ⟨g1, g2⟩
    rcases hA with hA | hA
    · have : (fqQ q).arg = [] := hA
      rw [this] at g1; simp at g1
    · exact g2 hA.1
theorem fqQ_fit (q : Qry) (h : q.fit) : (fqQ q).fit := ⟨fq_len _ h.an, fq_len _ h.wn, h.s, h.sb, fq_B h.an, fq_B h.wn⟩
def dd31 : Nat → List (List Nat)
  | 0 => [[], [0], [], [3]]
  | 1 => [[], [], [11], [12], [], [10], [4, 13], [14]]
  | 2 => [[], [], [15]]
  | 3 => [[1, 16], [], [5], [17], [18]]
  | 4 => [[5, 16], [], [19], [20], [], [21, 22]]
  | 5 => [[], [], [], [23, 24], [], []]
  | 6 => [[], []]
  | 7 => [[28], [], [29], [30]]
  | 8 => [[], [], [31], [32], [33], [34]]
  | 9 => [[35], [], [37], [38], [39], [40], [], [36], [41], [42]]
  | 10 => [[], [], [43]]
  | 11 => [[1, 7, 8, 25, 26, 27, 44], [], [9], [45], [46]]
  | 12 => [[9, 44], [7], [8], [47], [48, 49]]
  | 13 => [[7, 35], [27], [50]]
  | 14 => [[25, 26, 27, 28], [1], [51], []]
  | _ => []
theorem query_c (q : Qry) (h : q.fit) : ACall Try.prog 31 [.agg q.cells] (.tup [.agg (fqR q).cells, .lit (.int .i64 (accE q))]) := by
  have hCk := checks_c q h
  by_cases h0 : accE q = 0
  · obtain ⟨hc, ha, hw⟩ := acc_0 h0
    have hs := src_ne (chk_0 hc).2.2.2.2.1
    rw [show fqR q = fqQ q from if_pos h0, h0]
    rw [h0] at hCk
    generalize accP q = ap at *
    obtain ⟨h1, h2, h3, -, h5, h6⟩ := h
    obtain ⟨ag, ar, sr, jn, wh, ⟨kd, sz, ev⟩, bk, lt⟩ := q
    unfold fqQ
    simp only at h1 h2 h3 h5 h6 ha hw hs ⊢
    obtain ⟨x, sr, rfl⟩ : ∃ x t, sr = x :: t := by
      cases sr with
      | nil => exact absurd rfl hs
      | cons x t => exact ⟨x, t, rfl⟩
    have hCl := cloneI_c x sr (by simp at h3; omega)
    generalize x :: sr = src at *
    have hF1 := fold_c ar h1 h5
    have hF2 := fold_c wh h2 h6
    have hfa : fq ar = if ar = [] then [] else fldR ar := rfl
    have hfw : fq wh = if wh = [] then [] else fldR wh := rfl
    generalize fq ar = far at *
    generalize fq wh = fwh at *
    clear h0 hc hs
    unfold Qry.cells intsV at *
    simp only at *
    unfold nodesV at *
    refine acall_of (n := 52) (rs := [.cell 2 63, .tmp 3]) Try.func31 rfl (by kernel_rfl) rfl rfl rfl ?_; simp only [argsE, Nat.reduceAdd]
    iterate 29 (any_goals (first | (refine aops_cons (fun K' h' => ?_); simp only [go_sem, simprocAttr, Node.cells, aopG, bne_self_eq_false, Bool.not_false, beq_self_eq_true]; (try ((first | refine ⟨_, hCk, ?_⟩ | refine ⟨_, fun _ => hCk, ?_⟩ | refine ⟨_, hF1, ?_⟩ | refine ⟨_, fun _ => hF1, ?_⟩ | refine ⟨_, hF2, ?_⟩ | refine ⟨_, fun _ => hF2, ?_⟩ | refine ⟨_, hCl, ?_⟩ | refine ⟨_, fun _ => hCl, ?_⟩); (try simp only [go_sem, simprocAttr, Node.cells, aopG, bne_self_eq_false, Bool.not_false, beq_self_eq_true]))); (try simp (disch := omega) only [wrap_id, getD_map_in, Int.toNat_natCast, Node.cells, aopG, bne_self_eq_false, Bool.not_false, beq_self_eq_true]); (repeat (refine And.intro (by (first | omega | (simp; done) | (simp; omega) | assumption)) ?_)); refine h' _ ?_; clear h' K') | (refine aops_nil (hK _ ?_); clear hK K gs; try simp only [aThen, aBlock]) | (refine AWp.sreg  dd31 rfl (fun gs K hgs hK => ?_); clear hgs) | refine AWp.seq ?_ | refine ARounds.step ?_ | refine AWp.block ?_ | refine AWp.label ?_ | (refine AWp.ret ?_; try simp only [aThen, aBlock]) | (refine AWp.skip ?_; try simp only [aThen, aBlock]) | (refine AWp.exit ?_; try simp only [aThen, aBlock, Nat.reduceEqDiff, reduceIte]) | (refine AWp.reg  dd31 rfl (fun gs K hgs hK => ?_); clear hgs) | (refine AWp.cond rfl (fun h => ?_) (fun h => ?_) <;> (try simp only [decide_eq_true_eq, decide_eq_false_iff_not, beq_iff_eq, bne_iff_ne, ne_eq, Bool.not_eq_true', Bool.not_eq_false', beq_eq_false_iff_ne, Bool.true_eq_false, Bool.false_eq_true, Int.not_le, Int.not_lt, Bool.and_eq_true, Bool.and_eq_false_iff, Bool.or_eq_true, Bool.or_eq_false_iff, bne_eq_false_iff_eq, reduceCtorEq] at h) <;> (try first | contradiction | (exfalso; omega) | (exfalso; revert h; simp; done) | (exfalso; revert h; simp; omega)))))
    refine AWp.snap rfl ?_
    intro w0 S0 G hG
    obtain ⟨g, hg⟩ := hG 1 0 0 rfl
    clear hG
    simp only [ASt.drop, dropE, keepR]
    simp only [go_sem, simprocAttr, Node.cells, aopG, bne_self_eq_false, Bool.not_false, beq_self_eq_true]
    refine J.AWp.seq ?_
    refine J.AWp.split [[], [], []] rfl rfl ?_
    intro gs K0 hgs hK
    clear hgs
    iterate 2 (refine aops_cons (fun K' h' => ?_); simp only [go_sem, simprocAttr, Node.cells, aopG, bne_self_eq_false, Bool.not_false, beq_self_eq_true]; (try simp (disch := omega) only [wrap_id, getD_map_in, Int.toNat_natCast, Node.cells, aopG, bne_self_eq_false, Bool.not_false, beq_self_eq_true]); (repeat (refine And.intro (by (first | omega | (simp; done) | (simp; omega) | assumption)) ?_)); refine h' _ ?_; clear h' K')
    refine aops_nil (hK _ ⟨_, (alias_gen (p := 1) (k := 0) (s := 23) (off := 1) hg rfl (.inl ⟨rfl, rfl⟩)).trans (alias_gen (p := 1) (k := 0) (s := 24) (off := 4) hg rfl (.inl ⟨rfl, rfl⟩)), ?_⟩)
    clear hK K0 gs
    intro gs K0 hgs hK
    clear hgs
    simp only [go_sem, simprocAttr, Node.cells, aopG, bne_self_eq_false, Bool.not_false, beq_self_eq_true]
    iterate 3 (refine aops_cons (fun K' h' => ?_); simp only [go_sem, simprocAttr, Node.cells, aopG, bne_self_eq_false, Bool.not_false, beq_self_eq_true]; (try simp (disch := omega) only [wrap_id, getD_map_in, Int.toNat_natCast, Node.cells, aopG, bne_self_eq_false, Bool.not_false, beq_self_eq_true]); (repeat (refine And.intro (by (first | omega | (simp; done) | (simp; omega) | assumption)) ?_)); refine h' _ ?_; clear h' K')
    refine aops_nil (hK _ ?_)
    clear hK K0 gs
    simp only [aThen]
    refine J.AWp.block ?_
    have hsa : ar ≠ [] → ofE ar = 0 := fun h => by rcases ha with ha | ha; exact absurd ha h; exact ha.1
    have hsw : wh ≠ [] → ofE wh = 0 := fun h => by rcases hw with hw | hw; exact absurd hw h; exact hw.1
    clear ha hw
    refine J.AWp.loop (I := fun k : Nat => k ≤ 2) (fun k => ⟨[(1, .bp 0 0), (2, .bp 1 0), (25, .own 0 1 0 2), (26, .lit (.int .i64 2)), (27, .lit (.int .i64 (k : Int))), (53, .bp 0 0)],
      [[.lit (.int .u8 ag), .ro 5 ((if 1 ≤ k then far else ar).map Node.cells), .ro 1 (src.map fun x => [.lit (.int .i64 x)]), .lit (.bool jn), .ro 5 ((if 2 ≤ k then fwh else wh).map Node.cells), .lit (.int .u8 kd), .lit (.int .i64 sz), .lit (.int .i64 ev), .lit (.bool bk), .lit (.int .u8 lt)],
       [.lit (.int .u8 0), .lit (.slice none 0 0), .lit (.slice none 0 0), .lit (.bool false), .lit (.slice none 0 0), .lit (.int .u8 0), .lit (.int .i64 0), .lit (.int .i64 0), .lit (.bool false), .lit (.int .u8 0)]],
      [some ⟨107, 1, [[.lit (.pointer (some ⟨g, 1, none⟩))], [.lit (.pointer (some ⟨g, 4, none⟩))]]⟩]⟩) (fun k => 2 - k) 0 (Nat.zero_le _) ?_ ?_
    · refine Wk.ofCut 2 1 rfl rfl ?_
      simp [subE, eget, ASt.drop, dropE, keepR, lowE, AV.lowB, lowL, Nat.blt, Nat.ble]
    · intro k hk
      have hk3 : k = 0 ∨ k = 1 ∨ k = 2 := by omega
      rcases hk3 with rfl | rfl | rfl
      · simp only [Nat.reduceLeDiff, reduceIte]
        iterate 13 try (any_goals (first | (refine aops_cons (fun K' h' => ?_); simp only [go_sem, simprocAttr, Node.cells, aopG, bne_self_eq_false, Bool.not_false, beq_self_eq_true, Int.reduceAdd, Int.natCast_zero, Int.zero_add]; (try ((first | refine ⟨_, hCk, ?_⟩ | refine ⟨_, fun _ => hCk, ?_⟩ | refine ⟨_, hF1, ?_⟩ | refine ⟨_, fun _ => hF1, ?_⟩ | refine ⟨_, hF2, ?_⟩ | refine ⟨_, fun _ => hF2, ?_⟩ | refine ⟨_, hCl, ?_⟩ | refine ⟨_, fun _ => hCl, ?_⟩); (try simp only [go_sem, simprocAttr, Node.cells, aopG, bne_self_eq_false, Bool.not_false, beq_self_eq_true, Int.reduceAdd, Int.natCast_zero, Int.zero_add]))); (try simp (disch := omega) only [wrap_id, getD_map_in, Int.toNat_natCast, Node.cells, aopG, bne_self_eq_false, Bool.not_false, beq_self_eq_true, Int.reduceAdd, Int.natCast_zero, Int.zero_add]); (repeat (refine And.intro (by (first | omega | (simp; done) | (simp; omega) | assumption)) ?_)); refine h' _ ?_; clear h' K') | (refine aops_nil (hK _ ?_); clear hK K gs; try simp only [aThen, aBlock]) | (refine J.AWp.sreg  dd31 rfl (fun gs K hgs hK => ?_); clear hgs) | refine J.AWp.seq ?_ | refine ARounds.step ?_ | refine J.AWp.block ?_ | refine J.AWp.label ?_ | (refine J.AWp.ret ?_; try simp only [aThen, aBlock]) | (refine J.AWp.skip ?_; try simp only [aThen, aBlock]) | (refine J.AWp.exit ?_; try simp only [aThen, aBlock, Nat.reduceEqDiff, reduceIte]) | (refine J.AWp.reg  dd31 rfl (fun gs K hgs hK => ?_); clear hgs) | (refine J.AWp.cond rfl (fun h => ?_) (fun h => ?_) <;> (try simp only [decide_eq_true_eq, decide_eq_false_iff_not, beq_iff_eq, bne_iff_ne, ne_eq, Bool.not_eq_true', Bool.not_eq_false', beq_eq_false_iff_ne, Bool.true_eq_false, Bool.false_eq_true, Int.not_le, Int.not_lt, Bool.and_eq_true, Bool.and_eq_false_iff, Bool.or_eq_true, Bool.or_eq_false_iff, bne_eq_false_iff_eq, reduceCtorEq] at h) <;> (try first | contradiction | (exfalso; omega) | (exfalso; revert h; simp; done) | (exfalso; revert h; simp; omega)))))
        refine J.AWp.weakenJ (alias_gen (p := 1) (k := 0) (s := 7) (off := 1) hg rfl (.inr ⟨rfl, rfl⟩)) ?_
        by_cases hz : ar = []
        · rw [if_pos hz] at hfa
          subst hz
          subst hfa
          simp only [go_sem, simprocAttr, Node.cells, aopG, bne_self_eq_false, Bool.not_false, beq_self_eq_true, Int.reduceAdd, Int.natCast_zero, Int.zero_add]
          repeat (any_goals (first | (refine aops_cons (fun K' h' => ?_); simp only [go_sem, simprocAttr, Node.cells, aopG, bne_self_eq_false, Bool.not_false, beq_self_eq_true, Int.reduceAdd, Int.natCast_zero, Int.zero_add]; (try ((first | refine ⟨_, hCk, ?_⟩ | refine ⟨_, fun _ => hCk, ?_⟩ | refine ⟨_, hF1, ?_⟩ | refine ⟨_, fun _ => hF1, ?_⟩ | refine ⟨_, hF2, ?_⟩ | refine ⟨_, fun _ => hF2, ?_⟩ | refine ⟨_, hCl, ?_⟩ | refine ⟨_, fun _ => hCl, ?_⟩); (try simp only [go_sem, simprocAttr, Node.cells, aopG, bne_self_eq_false, Bool.not_false, beq_self_eq_true, Int.reduceAdd, Int.natCast_zero, Int.zero_add]))); (try simp (disch := omega) only [wrap_id, getD_map_in, Int.toNat_natCast, Node.cells, aopG, bne_self_eq_false, Bool.not_false, beq_self_eq_true, Int.reduceAdd, Int.natCast_zero, Int.zero_add]); (repeat (refine And.intro (by (first | omega | (simp; done) | (simp; omega) | assumption)) ?_)); refine h' _ ?_; clear h' K') | (refine aops_nil (hK _ ?_); clear hK K gs; try simp only [aThen, aBlock]) | (refine J.AWp.sreg  dd31 rfl (fun gs K hgs hK => ?_); clear hgs) | refine J.AWp.seq ?_ | refine ARounds.step ?_ | refine J.AWp.block ?_ | refine J.AWp.label ?_ | (refine J.AWp.ret ?_; try simp only [aThen, aBlock]) | (refine J.AWp.skip ?_; try simp only [aThen, aBlock]) | (refine J.AWp.exit ?_; try simp only [aThen, aBlock, Nat.reduceEqDiff, reduceIte]) | (refine J.AWp.reg  dd31 rfl (fun gs K hgs hK => ?_); clear hgs) | (refine J.AWp.cond rfl (fun h => ?_) (fun h => ?_) <;> (try simp only [decide_eq_true_eq, decide_eq_false_iff_not, beq_iff_eq, bne_iff_ne, ne_eq, Bool.not_eq_true', Bool.not_eq_false', beq_eq_false_iff_ne, Bool.true_eq_false, Bool.false_eq_true, Int.not_le, Int.not_lt, Bool.and_eq_true, Bool.and_eq_false_iff, Bool.or_eq_true, Bool.or_eq_false_iff, bne_eq_false_iff_eq, reduceCtorEq] at h) <;> (try first | contradiction | (exfalso; omega) | (exfalso; revert h; simp; done) | (exfalso; revert h; simp; omega)))))
          all_goals first
            | (exfalso; omega)
            | skip
          refine ⟨1, by omega, Wk.ofCut 2 1 rfl rfl ?_, by omega⟩
          simp [subE, eget, ASt.drop, dropE, keepR, lowE, AV.lowB, lowL, Nat.blt, Nat.ble]
        · have hlen : 0 < ar.length := List.length_pos_iff.2 hz
          rw [if_neg hz] at hfa
          rw [hsa hz] at hF1
          subst hfa
          simp only [go_sem, simprocAttr, Node.cells, aopG, bne_self_eq_false, Bool.not_false, beq_self_eq_true, Int.reduceAdd, Int.natCast_zero, Int.zero_add]
          repeat (any_goals (first | (refine aops_cons (fun K' h' => ?_); simp only [go_sem, simprocAttr, Node.cells, aopG, bne_self_eq_false, Bool.not_false, beq_self_eq_true, Int.reduceAdd, Int.natCast_zero, Int.zero_add]; (try ((first | refine ⟨_, hCk, ?_⟩ | refine ⟨_, fun _ => hCk, ?_⟩ | refine ⟨_, hF1, ?_⟩ | refine ⟨_, fun _ => hF1, ?_⟩ | refine ⟨_, hF2, ?_⟩ | refine ⟨_, fun _ => hF2, ?_⟩ | refine ⟨_, hCl, ?_⟩ | refine ⟨_, fun _ => hCl, ?_⟩); (try simp only [go_sem, simprocAttr, Node.cells, aopG, bne_self_eq_false, Bool.not_false, beq_self_eq_true, Int.reduceAdd, Int.natCast_zero, Int.zero_add]))); (try simp (disch := omega) only [wrap_id, getD_map_in, Int.toNat_natCast, Node.cells, aopG, bne_self_eq_false, Bool.not_false, beq_self_eq_true, Int.reduceAdd, Int.natCast_zero, Int.zero_add]); (repeat (refine And.intro (by (first | omega | (simp; done) | (simp; omega) | assumption)) ?_)); refine h' _ ?_; clear h' K') | (refine aops_nil (hK _ ?_); clear hK K gs; try simp only [aThen, aBlock]) | (refine J.AWp.sreg  dd31 rfl (fun gs K hgs hK => ?_); clear hgs) | refine J.AWp.seq ?_ | refine ARounds.step ?_ | refine J.AWp.block ?_ | refine J.AWp.label ?_ | (refine J.AWp.ret ?_; try simp only [aThen, aBlock]) | (refine J.AWp.skip ?_; try simp only [aThen, aBlock]) | (refine J.AWp.exit ?_; try simp only [aThen, aBlock, Nat.reduceEqDiff, reduceIte]) | (refine J.AWp.reg  dd31 rfl (fun gs K hgs hK => ?_); clear hgs) | (refine J.AWp.cond rfl (fun h => ?_) (fun h => ?_) <;> (try simp only [decide_eq_true_eq, decide_eq_false_iff_not, beq_iff_eq, bne_iff_ne, ne_eq, Bool.not_eq_true', Bool.not_eq_false', beq_eq_false_iff_ne, Bool.true_eq_false, Bool.false_eq_true, Int.not_le, Int.not_lt, Bool.and_eq_true, Bool.and_eq_false_iff, Bool.or_eq_true, Bool.or_eq_false_iff, bne_eq_false_iff_eq, reduceCtorEq] at h) <;> (try first | contradiction | (exfalso; omega) | (exfalso; revert h; simp; done) | (exfalso; revert h; simp; omega)))))
          all_goals first
            | (exfalso; omega)
            | skip
          refine ⟨1, by omega, Wk.ofCut 2 1 rfl rfl ?_, by omega⟩
          simp [subE, eget, ASt.drop, dropE, keepR, lowE, AV.lowB, lowL, Nat.blt, Nat.ble]
      · simp only [Nat.reduceLeDiff, reduceIte]
        iterate 13 try (any_goals (first | (refine aops_cons (fun K' h' => ?_); simp only [go_sem, simprocAttr, Node.cells, aopG, bne_self_eq_false, Bool.not_false, beq_self_eq_true, Int.reduceAdd, Int.natCast_zero, Int.zero_add]; (try ((first | refine ⟨_, hCk, ?_⟩ | refine ⟨_, fun _ => hCk, ?_⟩ | refine ⟨_, hF1, ?_⟩ | refine ⟨_, fun _ => hF1, ?_⟩ | refine ⟨_, hF2, ?_⟩ | refine ⟨_, fun _ => hF2, ?_⟩ | refine ⟨_, hCl, ?_⟩ | refine ⟨_, fun _ => hCl, ?_⟩); (try simp only [go_sem, simprocAttr, Node.cells, aopG, bne_self_eq_false, Bool.not_false, beq_self_eq_true, Int.reduceAdd, Int.natCast_zero, Int.zero_add]))); (try simp (disch := omega) only [wrap_id, getD_map_in, Int.toNat_natCast, Node.cells, aopG, bne_self_eq_false, Bool.not_false, beq_self_eq_true, Int.reduceAdd, Int.natCast_zero, Int.zero_add]); (repeat (refine And.intro (by (first | omega | (simp; done) | (simp; omega) | assumption)) ?_)); refine h' _ ?_; clear h' K') | (refine aops_nil (hK _ ?_); clear hK K gs; try simp only [aThen, aBlock]) | (refine J.AWp.sreg  dd31 rfl (fun gs K hgs hK => ?_); clear hgs) | refine J.AWp.seq ?_ | refine ARounds.step ?_ | refine J.AWp.block ?_ | refine J.AWp.label ?_ | (refine J.AWp.ret ?_; try simp only [aThen, aBlock]) | (refine J.AWp.skip ?_; try simp only [aThen, aBlock]) | (refine J.AWp.exit ?_; try simp only [aThen, aBlock, Nat.reduceEqDiff, reduceIte]) | (refine J.AWp.reg  dd31 rfl (fun gs K hgs hK => ?_); clear hgs) | (refine J.AWp.cond rfl (fun h => ?_) (fun h => ?_) <;> (try simp only [decide_eq_true_eq, decide_eq_false_iff_not, beq_iff_eq, bne_iff_ne, ne_eq, Bool.not_eq_true', Bool.not_eq_false', beq_eq_false_iff_ne, Bool.true_eq_false, Bool.false_eq_true, Int.not_le, Int.not_lt, Bool.and_eq_true, Bool.and_eq_false_iff, Bool.or_eq_true, Bool.or_eq_false_iff, bne_eq_false_iff_eq, reduceCtorEq] at h) <;> (try first | contradiction | (exfalso; omega) | (exfalso; revert h; simp; done) | (exfalso; revert h; simp; omega)))))
        refine J.AWp.weakenJ (alias_gen (p := 1) (k := 0) (s := 7) (off := 4) hg rfl (.inr ⟨rfl, rfl⟩)) ?_
        by_cases hz : wh = []
        · rw [if_pos hz] at hfw
          subst hz
          subst hfw
          simp only [go_sem, simprocAttr, Node.cells, aopG, bne_self_eq_false, Bool.not_false, beq_self_eq_true, Int.reduceAdd, Int.natCast_zero, Int.zero_add]
          repeat (any_goals (first | (refine aops_cons (fun K' h' => ?_); simp only [go_sem, simprocAttr, Node.cells, aopG, bne_self_eq_false, Bool.not_false, beq_self_eq_true, Int.reduceAdd, Int.natCast_zero, Int.zero_add]; (try ((first | refine ⟨_, hCk, ?_⟩ | refine ⟨_, fun _ => hCk, ?_⟩ | refine ⟨_, hF1, ?_⟩ | refine ⟨_, fun _ => hF1, ?_⟩ | refine ⟨_, hF2, ?_⟩ | refine ⟨_, fun _ => hF2, ?_⟩ | refine ⟨_, hCl, ?_⟩ | refine ⟨_, fun _ => hCl, ?_⟩); (try simp only [go_sem, simprocAttr, Node.cells, aopG, bne_self_eq_false, Bool.not_false, beq_self_eq_true, Int.reduceAdd, Int.natCast_zero, Int.zero_add]))); (try simp (disch := omega) only [wrap_id, getD_map_in, Int.toNat_natCast, Node.cells, aopG, bne_self_eq_false, Bool.not_false, beq_self_eq_true, Int.reduceAdd, Int.natCast_zero, Int.zero_add]); (repeat (refine And.intro (by (first | omega | (simp; done) | (simp; omega) | assumption)) ?_)); refine h' _ ?_; clear h' K') | (refine aops_nil (hK _ ?_); clear hK K gs; try simp only [aThen, aBlock]) | (refine J.AWp.sreg  dd31 rfl (fun gs K hgs hK => ?_); clear hgs) | refine J.AWp.seq ?_ | refine ARounds.step ?_ | refine J.AWp.block ?_ | refine J.AWp.label ?_ | (refine J.AWp.ret ?_; try simp only [aThen, aBlock]) | (refine J.AWp.skip ?_; try simp only [aThen, aBlock]) | (refine J.AWp.exit ?_; try simp only [aThen, aBlock, Nat.reduceEqDiff, reduceIte]) | (refine J.AWp.reg  dd31 rfl (fun gs K hgs hK => ?_); clear hgs) | (refine J.AWp.cond rfl (fun h => ?_) (fun h => ?_) <;> (try simp only [decide_eq_true_eq, decide_eq_false_iff_not, beq_iff_eq, bne_iff_ne, ne_eq, Bool.not_eq_true', Bool.not_eq_false', beq_eq_false_iff_ne, Bool.true_eq_false, Bool.false_eq_true, Int.not_le, Int.not_lt, Bool.and_eq_true, Bool.and_eq_false_iff, Bool.or_eq_true, Bool.or_eq_false_iff, bne_eq_false_iff_eq, reduceCtorEq] at h) <;> (try first | contradiction | (exfalso; omega) | (exfalso; revert h; simp; done) | (exfalso; revert h; simp; omega)))))
          all_goals first
            | (exfalso; omega)
            | skip
          refine ⟨2, by omega, Wk.ofCut 2 1 rfl rfl ?_, by omega⟩
          simp [subE, eget, ASt.drop, dropE, keepR, lowE, AV.lowB, lowL, Nat.blt, Nat.ble]
        · have hlen : 0 < wh.length := List.length_pos_iff.2 hz
          rw [if_neg hz] at hfw
          rw [hsw hz] at hF2
          subst hfw
          simp only [go_sem, simprocAttr, Node.cells, aopG, bne_self_eq_false, Bool.not_false, beq_self_eq_true, Int.reduceAdd, Int.natCast_zero, Int.zero_add]
          repeat (any_goals (first | (refine aops_cons (fun K' h' => ?_); simp only [go_sem, simprocAttr, Node.cells, aopG, bne_self_eq_false, Bool.not_false, beq_self_eq_true, Int.reduceAdd, Int.natCast_zero, Int.zero_add]; (try ((first | refine ⟨_, hCk, ?_⟩ | refine ⟨_, fun _ => hCk, ?_⟩ | refine ⟨_, hF1, ?_⟩ | refine ⟨_, fun _ => hF1, ?_⟩ | refine ⟨_, hF2, ?_⟩ | refine ⟨_, fun _ => hF2, ?_⟩ | refine ⟨_, hCl, ?_⟩ | refine ⟨_, fun _ => hCl, ?_⟩); (try simp only [go_sem, simprocAttr, Node.cells, aopG, bne_self_eq_false, Bool.not_false, beq_self_eq_true, Int.reduceAdd, Int.natCast_zero, Int.zero_add]))); (try simp (disch := omega) only [wrap_id, getD_map_in, Int.toNat_natCast, Node.cells, aopG, bne_self_eq_false, Bool.not_false, beq_self_eq_true, Int.reduceAdd, Int.natCast_zero, Int.zero_add]); (repeat (refine And.intro (by (first | omega | (simp; done) | (simp; omega) | assumption)) ?_)); refine h' _ ?_; clear h' K') | (refine aops_nil (hK _ ?_); clear hK K gs; try simp only [aThen, aBlock]) | (refine J.AWp.sreg  dd31 rfl (fun gs K hgs hK => ?_); clear hgs) | refine J.AWp.seq ?_ | refine ARounds.step ?_ | refine J.AWp.block ?_ | refine J.AWp.label ?_ | (refine J.AWp.ret ?_; try simp only [aThen, aBlock]) | (refine J.AWp.skip ?_; try simp only [aThen, aBlock]) | (refine J.AWp.exit ?_; try simp only [aThen, aBlock, Nat.reduceEqDiff, reduceIte]) | (refine J.AWp.reg  dd31 rfl (fun gs K hgs hK => ?_); clear hgs) | (refine J.AWp.cond rfl (fun h => ?_) (fun h => ?_) <;> (try simp only [decide_eq_true_eq, decide_eq_false_iff_not, beq_iff_eq, bne_iff_ne, ne_eq, Bool.not_eq_true', Bool.not_eq_false', beq_eq_false_iff_ne, Bool.true_eq_false, Bool.false_eq_true, Int.not_le, Int.not_lt, Bool.and_eq_true, Bool.and_eq_false_iff, Bool.or_eq_true, Bool.or_eq_false_iff, bne_eq_false_iff_eq, reduceCtorEq] at h) <;> (try first | contradiction | (exfalso; omega) | (exfalso; revert h; simp; done) | (exfalso; revert h; simp; omega)))))
          all_goals first
            | (exfalso; omega)
            | skip
          refine ⟨2, by omega, Wk.ofCut 2 1 rfl rfl ?_, by omega⟩
          simp [subE, eget, ASt.drop, dropE, keepR, lowE, AV.lowB, lowL, Nat.blt, Nat.ble]
      · simp only [Nat.reduceLeDiff, reduceIte]
        repeat (any_goals (first | (refine aops_cons (fun K' h' => ?_); simp only [go_sem, simprocAttr, Node.cells, aopG, bne_self_eq_false, Bool.not_false, beq_self_eq_true, Int.reduceAdd, Int.natCast_zero, Int.zero_add]; (try ((first | refine ⟨_, hCk, ?_⟩ | refine ⟨_, fun _ => hCk, ?_⟩ | refine ⟨_, hF1, ?_⟩ | refine ⟨_, fun _ => hF1, ?_⟩ | refine ⟨_, hF2, ?_⟩ | refine ⟨_, fun _ => hF2, ?_⟩ | refine ⟨_, hCl, ?_⟩ | refine ⟨_, fun _ => hCl, ?_⟩); (try simp only [go_sem, simprocAttr, Node.cells, aopG, bne_self_eq_false, Bool.not_false, beq_self_eq_true, Int.reduceAdd, Int.natCast_zero, Int.zero_add]))); (try simp (disch := omega) only [wrap_id, getD_map_in, Int.toNat_natCast, Node.cells, aopG, bne_self_eq_false, Bool.not_false, beq_self_eq_true, Int.reduceAdd, Int.natCast_zero, Int.zero_add]); (repeat (refine And.intro (by (first | omega | (simp; done) | (simp; omega) | assumption)) ?_)); refine h' _ ?_; clear h' K') | (refine aops_nil (hK _ ?_); clear hK K gs; try simp only [aThen, aBlock]) | (refine J.AWp.sreg  dd31 rfl (fun gs K hgs hK => ?_); clear hgs) | refine J.AWp.seq ?_ | refine ARounds.step ?_ | refine J.AWp.block ?_ | refine J.AWp.label ?_ | (refine J.AWp.ret ?_; try simp only [aThen, aBlock]) | (refine J.AWp.skip ?_; try simp only [aThen, aBlock]) | (refine J.AWp.exit ?_; try simp only [aThen, aBlock, Nat.reduceEqDiff, reduceIte]) | (refine J.AWp.reg  dd31 rfl (fun gs K hgs hK => ?_); clear hgs) | (refine J.AWp.cond rfl (fun h => ?_) (fun h => ?_) <;> (try simp only [decide_eq_true_eq, decide_eq_false_iff_not, beq_iff_eq, bne_iff_ne, ne_eq, Bool.not_eq_true', Bool.not_eq_false', beq_eq_false_iff_ne, Bool.true_eq_false, Bool.false_eq_true, Int.not_le, Int.not_lt, Bool.and_eq_true, Bool.and_eq_false_iff, Bool.or_eq_true, Bool.or_eq_false_iff, bne_eq_false_iff_eq, reduceCtorEq] at h) <;> (try first | contradiction | (exfalso; omega) | (exfalso; revert h; simp; done) | (exfalso; revert h; simp; omega)))))
        all_goals first
          | (exfalso; omega)
          | skip
        simp only [go_sem, simprocAttr, Node.cells, aopG, bne_self_eq_false, Bool.not_false, beq_self_eq_true, Int.reduceAdd, Int.natCast_zero, Int.zero_add]
        repeat (any_goals (first | (refine aops_cons (fun K' h' => ?_); simp only [go_sem, simprocAttr, Node.cells, aopG, bne_self_eq_false, Bool.not_false, beq_self_eq_true, Int.reduceAdd, Int.natCast_zero, Int.zero_add]; (try ((first | refine ⟨_, hCk, ?_⟩ | refine ⟨_, fun _ => hCk, ?_⟩ | refine ⟨_, hF1, ?_⟩ | refine ⟨_, fun _ => hF1, ?_⟩ | refine ⟨_, hF2, ?_⟩ | refine ⟨_, fun _ => hF2, ?_⟩ | refine ⟨_, hCl, ?_⟩ | refine ⟨_, fun _ => hCl, ?_⟩); (try simp only [go_sem, simprocAttr, Node.cells, aopG, bne_self_eq_false, Bool.not_false, beq_self_eq_true, Int.reduceAdd, Int.natCast_zero, Int.zero_add]))); (try simp (disch := omega) only [wrap_id, getD_map_in, Int.toNat_natCast, Node.cells, aopG, bne_self_eq_false, Bool.not_false, beq_self_eq_true, Int.reduceAdd, Int.natCast_zero, Int.zero_add]); (repeat (refine And.intro (by (first | omega | (simp; done) | (simp; omega) | assumption)) ?_)); refine h' _ ?_; clear h' K') | (refine aops_nil (hK _ ?_); clear hK K gs; try simp only [aThen, aBlock]) | (refine AWp.sreg  dd31 rfl (fun gs K hgs hK => ?_); clear hgs) | refine AWp.seq ?_ | refine ARounds.step ?_ | refine AWp.block ?_ | refine AWp.label ?_ | (refine AWp.ret ?_; try simp only [aThen, aBlock]) | (refine AWp.skip ?_; try simp only [aThen, aBlock]) | (refine AWp.exit ?_; try simp only [aThen, aBlock, Nat.reduceEqDiff, reduceIte]) | (refine AWp.reg  dd31 rfl (fun gs K hgs hK => ?_); clear hgs) | (refine AWp.cond rfl (fun h => ?_) (fun h => ?_) <;> (try simp only [decide_eq_true_eq, decide_eq_false_iff_not, beq_iff_eq, bne_iff_ne, ne_eq, Bool.not_eq_true', Bool.not_eq_false', beq_eq_false_iff_ne, Bool.true_eq_false, Bool.false_eq_true, Int.not_le, Int.not_lt, Bool.and_eq_true, Bool.and_eq_false_iff, Bool.or_eq_true, Bool.or_eq_false_iff, bne_eq_false_iff_eq, reduceCtorEq] at h) <;> (try first | contradiction | (exfalso; omega) | (exfalso; revert h; simp; done) | (exfalso; revert h; simp; omega)))))
        all_goals simp only [Out, outA, outL, resA, go_sem, simprocAttr]
        all_goals exact AVle.refl _
  · rw [show fqR q = zeroQ from if_neg h0]
    generalize accE q = ce at *
    generalize accP q = ap at *
    clear h
    obtain ⟨ag, ar, sr, jn, wh, ⟨kd, sz, ev⟩, bk, lt⟩ := q
    unfold zeroQ Qry.cells nodesV intsV at *
    refine acall_of (n := 52) (rs := [.cell 2 63, .tmp 3]) Try.func31 rfl (by kernel_rfl) rfl rfl rfl ?_; simp only [argsE, Nat.reduceAdd]
    repeat (any_goals (first | (refine aops_cons (fun K' h' => ?_); simp only [go_sem, simprocAttr, Node.cells, aopG, bne_self_eq_false, Bool.not_false, beq_self_eq_true]; (try ((first | refine ⟨_, hCk, ?_⟩ | refine ⟨_, fun _ => hCk, ?_⟩ | refine ⟨_, hF1, ?_⟩ | refine ⟨_, fun _ => hF1, ?_⟩ | refine ⟨_, hF2, ?_⟩ | refine ⟨_, fun _ => hF2, ?_⟩ | refine ⟨_, hCl, ?_⟩ | refine ⟨_, fun _ => hCl, ?_⟩); (try simp only [go_sem, simprocAttr, Node.cells, aopG, bne_self_eq_false, Bool.not_false, beq_self_eq_true]))); (try simp (disch := omega) only [wrap_id, getD_map_in, Int.toNat_natCast, Node.cells, aopG, bne_self_eq_false, Bool.not_false, beq_self_eq_true]); (repeat (refine And.intro (by (first | omega | (simp; done) | (simp; omega) | assumption)) ?_)); refine h' _ ?_; clear h' K') | (refine aops_nil (hK _ ?_); clear hK K gs; try simp only [aThen, aBlock]) | (refine AWp.sreg  dd31 rfl (fun gs K hgs hK => ?_); clear hgs) | refine AWp.seq ?_ | refine ARounds.step ?_ | refine AWp.block ?_ | refine AWp.label ?_ | (refine AWp.ret ?_; try simp only [aThen, aBlock]) | (refine AWp.skip ?_; try simp only [aThen, aBlock]) | (refine AWp.exit ?_; try simp only [aThen, aBlock, Nat.reduceEqDiff, reduceIte]) | (refine AWp.reg  dd31 rfl (fun gs K hgs hK => ?_); clear hgs) | (refine AWp.cond rfl (fun h => ?_) (fun h => ?_) <;> (try simp only [decide_eq_true_eq, decide_eq_false_iff_not, beq_iff_eq, bne_iff_ne, ne_eq, Bool.not_eq_true', Bool.not_eq_false', beq_eq_false_iff_ne, Bool.true_eq_false, Bool.false_eq_true, Int.not_le, Int.not_lt, Bool.and_eq_true, Bool.and_eq_false_iff, Bool.or_eq_true, Bool.or_eq_false_iff, bne_eq_false_iff_eq, reduceCtorEq] at h) <;> (try first | contradiction | (exfalso; omega) | (exfalso; revert h; simp; done) | (exfalso; revert h; simp; omega)))))
    all_goals simp only [Out, outA, outL, resA, go_sem, simprocAttr]
    all_goals exact AVle.tup ⟨AVle.agg ⟨AVle.refl _, AVle.nil 5, AVle.nil 1, AVle.refl _, AVle.nil 5, AVle.refl _, AVle.refl _, AVle.refl _, AVle.refl _, AVle.refl _, trivial⟩, AVle.refl _, trivial⟩
end Go.Proofs.Yteohklfoggiojaa
