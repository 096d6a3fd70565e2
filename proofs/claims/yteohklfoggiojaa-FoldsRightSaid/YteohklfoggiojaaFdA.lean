/-
  The chapter's examples of folding.
-/
import Derived.Test.YteohklfoggiojaaFldE
namespace Go.Proofs.Yteohklfoggiojaa
open Go.AL Go.RowKit
set_option linter.unusedSimpArgs false
set_option linter.unusedVariables false
set_option maxRecDepth 10000
set_option maxHeartbeats 4000000
def dd28 : Nat → List (List Nat)
  | 0 => [[], [2]]
  | 1 => [[], [0], [3], [4], [5]]
  | _ => []
theorem num12_c (n : Int) : ACall Try.prog 28 [.lit (.int .i64 n)] (.ro 5 [[.lit (.int .u8 1), .lit (.int .i64 n), .lit (.int .i64 0), .lit (.int .i64 0), .lit (.int .i64 0)]]) := by
  refine acall_of (n := 6) (rs := [.tmp 2]) Try.func28 rfl (by kernel_rfl) rfl rfl rfl ?_; simp only [argsE, Nat.reduceAdd]
  repeat (any_goals (first | (refine aops_cons (fun K' h' => ?_); simp only [go_sem, simprocAttr, Node.cells, aopG, beq_self_eq_true]; (try simp (disch := omega) only [wrap_id, getD_map_in, Int.toNat_natCast, Node.cells, aopG, beq_self_eq_true]); (repeat (refine And.intro (by (first | omega | (simp; done) | (simp; omega) | assumption)) ?_)); refine h' _ ?_; clear h' K') | (refine aops_nil (hK _ ?_); clear hK K gs; try simp only [aThen, aBlock]) | (refine AWp.sreg  dd28 rfl (fun gs K hgs hK => ?_); clear hgs) | refine AWp.seq ?_ | refine ARounds.step ?_ | refine AWp.block ?_ | refine AWp.label ?_ | (refine AWp.ret ?_; try simp only [aThen, aBlock]) | (refine AWp.skip ?_; try simp only [aThen, aBlock]) | (refine AWp.exit ?_; try simp only [aThen, aBlock, Nat.reduceEqDiff, reduceIte]) | (refine AWp.reg  dd28 rfl (fun gs K hgs hK => ?_); clear hgs) | (refine AWp.cond rfl (fun h => ?_) (fun h => ?_) <;> (try simp only [decide_eq_true_eq, decide_eq_false_iff_not, beq_iff_eq, bne_iff_ne, ne_eq, Bool.not_eq_true', Bool.not_eq_false', beq_eq_false_iff_ne, Bool.true_eq_false, Bool.false_eq_true, Int.not_le, Int.not_lt, Bool.and_eq_true, Bool.and_eq_false_iff, Bool.or_eq_true, Bool.or_eq_false_iff, bne_eq_false_iff_eq, reduceCtorEq] at h) <;> (try first | contradiction | (exfalso; omega) | (exfalso; revert h; simp; done) | (exfalso; revert h; simp; omega)))))
  simp only [Out, outA, outL, resA, go_sem, simprocAttr]
  exact AVle.refl _
def dd30 : Nat → List (List Nat)
  | 0 => [[], [0]]
  | 1 => [[], [], [1], [2]]
  | _ => []
theorem val12_c : ACall Try.prog 30 [] (.ro 5 [[.lit (.int .u8 4), .lit (.int .i64 0), .lit (.int .i64 0), .lit (.int .i64 0), .lit (.int .i64 0)]]) := by
  refine acall_of (n := 3) (rs := [.tmp 0]) Try.func30 rfl (by kernel_rfl) rfl rfl rfl ?_; simp only [argsE, Nat.reduceAdd]
  repeat (any_goals (first | (refine aops_cons (fun K' h' => ?_); simp only [go_sem, simprocAttr, Node.cells, aopG, beq_self_eq_true]; (try simp (disch := omega) only [wrap_id, getD_map_in, Int.toNat_natCast, Node.cells, aopG, beq_self_eq_true]); (repeat (refine And.intro (by (first | omega | (simp; done) | (simp; omega) | assumption)) ?_)); refine h' _ ?_; clear h' K') | (refine aops_nil (hK _ ?_); clear hK K gs; try simp only [aThen, aBlock]) | (refine AWp.sreg  dd30 rfl (fun gs K hgs hK => ?_); clear hgs) | refine AWp.seq ?_ | refine ARounds.step ?_ | refine AWp.block ?_ | refine AWp.label ?_ | (refine AWp.ret ?_; try simp only [aThen, aBlock]) | (refine AWp.skip ?_; try simp only [aThen, aBlock]) | (refine AWp.exit ?_; try simp only [aThen, aBlock, Nat.reduceEqDiff, reduceIte]) | (refine AWp.reg  dd30 rfl (fun gs K hgs hK => ?_); clear hgs) | (refine AWp.cond rfl (fun h => ?_) (fun h => ?_) <;> (try simp only [decide_eq_true_eq, decide_eq_false_iff_not, beq_iff_eq, bne_iff_ne, ne_eq, Bool.not_eq_true', Bool.not_eq_false', beq_eq_false_iff_ne, Bool.true_eq_false, Bool.false_eq_true, Int.not_le, Int.not_lt, Bool.and_eq_true, Bool.and_eq_false_iff, Bool.or_eq_true, Bool.or_eq_false_iff, bne_eq_false_iff_eq, reduceCtorEq] at h) <;> (try first | contradiction | (exfalso; omega) | (exfalso; revert h; simp; done) | (exfalso; revert h; simp; omega)))))
  simp only [Out, outA, outL, resA, go_sem, simprocAttr]
  exact AVle.refl _
def okHd (x : Hd) : Bool := decide (1 ≤ x.kind) && decide (x.kind ≤ 19) && decide (0 ≤ x.n) && (x.n == 0 || x.kind == 1) && decide (0 ≤ x.pos) && decide (x.pos ≤ 400)
theorem okHd_ok {x : Hd} (h : okHd x = true) : x.ok := by
  unfold okHd at h
  simp only [Bool.and_eq_true, Bool.or_eq_true, decide_eq_true_eq, beq_iff_eq] at h
  obtain ⟨⟨⟨⟨⟨h1, h2⟩, h3⟩, h4⟩, h5⟩, h6⟩ := h
  exact ⟨h1, h2, h3, h4, h5, h6⟩
def okEx : Ex → Bool
  | .leaf x => okHd x && decide (x.kind ≤ 4) && decide (-9223372036854775808 ≤ x.n) && decide (x.n ≤ 9223372036854775807)
  | .un x e => okHd x && decide (4 < x.kind) && decide (x.kind ≤ 6) && okEx e
  | .bin x e f => okHd x && decide (6 < x.kind) && okEx e && okEx f
theorem okEx_wf : ∀ {e : Ex}, okEx e = true → e.wf ∧ e.nB
  | .leaf x, h => by
    simp only [okEx, Bool.and_eq_true, decide_eq_true_eq] at h
    exact ⟨⟨okHd_ok h.1.1.1, h.1.1.2⟩, h.1.2, h.2⟩
  | .un x e, h => by
    simp only [okEx, Bool.and_eq_true, decide_eq_true_eq] at h
    exact ⟨⟨okHd_ok h.1.1.1, h.1.1.2, h.1.2, (okEx_wf h.2).1⟩, (okEx_wf h.2).2⟩
  | .bin x e f, h => by
    simp only [okEx, Bool.and_eq_true, decide_eq_true_eq] at h
    exact ⟨⟨okHd_ok h.1.1.1, h.1.1.2, (okEx_wf h.1.2).1, (okEx_wf h.2).1⟩, (okEx_wf h.1.2).2, (okEx_wf h.2).2⟩
def okX (e : Ex) : Bool := okEx e && decide (e.sz ≤ 60) && decide (e.dp ≤ 20) && e.typ
theorem Ex.fl_inj : ∀ {e f : Ex} {o : Nat}, e.wf → f.wf → e.fl o = f.fl o → e = f := by
  have hd : ∀ {e : Ex} {o : Nat}, (e.fl o).getD (e.sz - 1) default = e.nodeA (o + (e.sz - 1)) := fun {e o} => by
    have := e.sz_pos
    rw [e.node_at o (e.sz - 1) (by omega), e.subE_end]
  intro e
  induction e with
  | leaf x =>
    intro f o hw hf h
    have hl := congrArg List.length h
    rw [Ex.fl_length, Ex.fl_length] at hl
    have h1 := hd (e := .leaf x) (o := o)
    rw [h, hl, hd] at h1
    cases f with
    | leaf y => simp only [Ex.nodeA, Hd.node, Node.mk.injEq] at h1; cases x; cases y; simp at h1 ⊢; exact ⟨h1.1.symm, h1.2.1.symm, h1.2.2.symm⟩
    | un y g => simp only [Ex.sz] at hl; have := g.sz_pos; omega
    | bin y g k => simp only [Ex.sz] at hl; have := g.sz_pos; omega
  | un x g ih =>
    intro f o hw hf h
    have hl := congrArg List.length h
    rw [Ex.fl_length, Ex.fl_length] at hl
    have h1 := hd (e := .un x g) (o := o)
    rw [h, hl, hd] at h1
    cases f with
    | leaf y => simp only [Ex.sz] at hl; have := g.sz_pos; omega
    | un y g' =>
      simp only [Ex.nodeA, Hd.node, Node.mk.injEq] at h1
      simp only [Ex.sz] at hl
      simp only [Ex.fl] at h
      have h2 := List.append_inj_left h (by rw [Ex.fl_length, Ex.fl_length]; omega)
      have := ih hw.2.2.2 hf.2.2.2 h2
      subst this
      cases x; cases y; simp at h1 ⊢; exact ⟨h1.1.symm, h1.2.1.symm, h1.2.2.symm⟩
    | bin y g' k =>
      exfalso
      have e1 := congrArg Node.kind h1
      simp only [Ex.nodeA_kind, Ex.hd] at e1
      have := hw.2.2.1
      have := hf.2.1
      omega
  | bin x g k ih1 ih2 =>
    intro f o hw hf h
    have hl := congrArg List.length h
    rw [Ex.fl_length, Ex.fl_length] at hl
    have h1 := hd (e := .bin x g k) (o := o)
    rw [h, hl, hd] at h1
    cases f with
    | leaf y => simp only [Ex.sz] at hl; have := g.sz_pos; omega
    | un y g' =>
      exfalso
      have e1 := congrArg Node.kind h1
      simp only [Ex.nodeA_kind, Ex.hd] at e1
      have := hw.2.1
      have := hf.2.2.1
      omega
    | bin y g' k' =>
      have g0 := g.sz_pos
      have k0 := k.sz_pos
      have g0' := g'.sz_pos
      have k0' := k'.sz_pos
      simp only [Ex.sz, Ex.nodeA, Hd.node, Node.mk.injEq] at h1 hl
      simp only [Ex.fl] at h
      have hk : k'.sz = k.sz := by omega
      have hg : g'.sz = g.sz := by omega
      rw [hg, hk, List.append_assoc, List.append_assoc] at h
      have h2 := List.append_inj h (by rw [Ex.fl_length, Ex.fl_length]; omega)
      have h3 := List.append_inj_left h2.2 (by rw [Ex.fl_length, Ex.fl_length]; omega)
      have := ih1 hw.2.2.1 hf.2.2.1 h2.1
      subst this
      have := ih2 hw.2.2.2 hf.2.2.2 h3
      subst this
      cases x; cases y; simp at h1 ⊢; exact ⟨h1.1.symm, h1.2.1.symm, h1.2.2.symm⟩
theorem fldR_fl {e : Ex} (hw : e.wf) (h1 : e.sz ≤ 60) (h2 : e.dp ≤ 20) (ht : e.typ = true) : fldR (e.fl 0) = (foldE e).fl 0 := by
  have h0 := ofE_ty hw h1 h2 ht
  obtain ⟨f, htr, hx, _⟩ := ofE_tree h0
  rw [fldR_ex h0 htr]
  rw [Ex.fl_inj hw hx.1 hx.2]
def dd25 : Nat → List (List Nat)
  | 0 => [[], [4]]
  | 1 => [[], [0], [8], [9], [], [7], [10], [11]]
  | 2 => [[], [6], [12], [13], [5], [1], [15, 16], [14, 17], [18]]
  | _ => []
theorem becomes_l (l w : List Node) (hl : l.length ≤ 1000) (hn : nodesB l) (hw : w.length ≤ 1000) (hf : (fldR l).length ≤ 1000) : ACall Try.prog 25 [nodesV l, nodesV w] (.lit (.bool (decide (ofE l = 0) && decide (fldR l = w)))) := by
  have hF := fold_c l hl hn
  have hEq := rEqual_c (fldR l) w hf hw
  generalize decide (fldR l = w) = q at *
  generalize fldR l = fl at *
  generalize ofE l = oe at *
  unfold nodesV at *
  refine acall_of (n := 19) (rs := [.tmp 4]) Try.func25 rfl (by kernel_rfl) rfl rfl rfl ?_; simp only [argsE, Nat.reduceAdd]
  repeat (any_goals (first | (refine aops_cons (fun K' h' => ?_); simp only [go_sem, simprocAttr, hgs, Node.cells, aopG, beq_self_eq_true]; (try ((first | refine ⟨_, hEq, ?_⟩ | refine ⟨_, fun _ => hEq, ?_⟩ | refine ⟨_, hF, ?_⟩ | refine ⟨_, fun _ => hF, ?_⟩); (try simp only [go_sem, simprocAttr, hgs, Node.cells, aopG, beq_self_eq_true]))); (try simp (disch := omega) only [wrap_id, getD_map_in, Int.toNat_natCast, Node.cells, aopG, beq_self_eq_true]); (repeat (refine And.intro (by (first | omega | (simp; done) | (simp; omega) | assumption)) ?_)); refine h' _ ?_; clear h' K') | (refine aops_nil (hK _ ?_); clear hK K hgs gs; try simp only [aThen, aBlock]) | (refine aops_consF [] (fun K' h' => ?_); simp only [go_sem, simprocAttr, hgs, Node.cells, aopG, beq_self_eq_true]; refine ⟨_, hF, ?_⟩; (try simp only [go_sem, simprocAttr, hgs, Node.cells, aopG, beq_self_eq_true]); (repeat (refine And.intro (by (first | omega | (simp; done) | (simp; omega) | assumption)) ?_)); refine h' _ ?_; clear h' K') | ((first | refine AWp.sreg (id := 2) dd25 rfl (fun gs K hgs hK => ?_) | refine AWp.reg (id := 2) dd25 rfl (fun gs K hgs hK => ?_)); replace hgs : gs 2 = some 14 := hgs 2) | (refine AWp.sreg  dd25 rfl (fun gs K hgs hK => ?_); replace hgs : Nat.succ 0 = 1 := rfl) | refine AWp.seq ?_ | refine ARounds.step ?_ | refine AWp.block ?_ | refine AWp.label ?_ | (refine AWp.ret ?_; try simp only [aThen, aBlock]) | (refine AWp.skip ?_; try simp only [aThen, aBlock]) | (refine AWp.exit ?_; try simp only [aThen, aBlock, Nat.reduceEqDiff, reduceIte]) | (refine AWp.reg  dd25 rfl (fun gs K hgs hK => ?_); replace hgs : Nat.succ 0 = 1 := rfl) | (refine AWp.cond rfl (fun h => ?_) (fun h => ?_) <;> (try simp only [decide_eq_true_eq, decide_eq_false_iff_not, beq_iff_eq, bne_iff_ne, ne_eq, Bool.not_eq_true', Bool.not_eq_false', beq_eq_false_iff_ne, Bool.true_eq_false, Bool.false_eq_true, Int.not_le, Int.not_lt, Bool.and_eq_true, Bool.and_eq_false_iff, Bool.or_eq_true, Bool.or_eq_false_iff, bne_eq_false_iff_eq, reduceCtorEq] at h) <;> (try first | contradiction | (exfalso; omega) | (exfalso; revert h; simp; done) | (exfalso; revert h; simp; omega)))))
  all_goals simp only [Out, outA, outL, resA, go_sem, simprocAttr]
  all_goals refine AVle.of_eq (congrArg (fun b => AV.lit (.bool b)) ?_)
  all_goals simp [Bool.beq_eq_decide_eq]
theorem becomes_c {e w : Ex} (h : okX e = true) (hw : w.sz ≤ 100) (hf : foldE e = w) : ACall Try.prog 25 [nodesV (e.fl 0), nodesV (w.fl 0)] (.lit (.bool true)) := by
  unfold okX at h
  simp only [Bool.and_eq_true, decide_eq_true_eq] at h
  obtain ⟨h1, h2⟩ := okEx_wf h.1.1.1
  have hr := fldR_fl h1 h.1.1.2 h.1.2 h.2
  have := becomes_l (e.fl 0) (w.fl 0) (by rw [Ex.fl_length]; omega) (e.nB_fl 0 h1 h2) (by rw [Ex.fl_length]; omega) (by rw [hr, hf, Ex.fl_length]; omega)
  rw [hr, ofE_ty h1 h.1.1.2 h.1.2 h.2, hf] at this
  simpa using this
def dd27 : Nat → List (List Nat)
  | 0 => [[], [6]]
  | 1 => [[], [0], [1], [2], [8, 9], [7, 10], [11]]
  | _ => []
theorem two12_l (k : Int) (a b : List Node) (hla : a.length ≤ 100) (hla0 : 0 < a.length) (ha : NodeB a) (hlb : b.length ≤ 100) (hlb0 : 0 < b.length) (hb : NodeB b) :
    ACall Try.prog 27 [.lit (.int .u8 k), nodesV a, nodesV b] (nodesV (made2 k 0 0 a b)) := by
  have hM := rMade_2 k 0 0 a b hla hla0 ha hlb hlb0 hb
  generalize made2 k 0 0 a b = m at *
  unfold nodesV at *
  refine acall_of (n := 12) (rs := [.tmp 6]) Try.func27 rfl (by kernel_rfl) rfl rfl rfl ?_; simp only [argsE, Nat.reduceAdd]
  repeat (any_goals (first | (refine aops_cons (fun K' h' => ?_); simp only [go_sem, simprocAttr, Node.cells, aopG, beq_self_eq_true]; (try ((first | refine ⟨_, hM, ?_⟩ | refine ⟨_, fun _ => hM, ?_⟩); (try simp only [go_sem, simprocAttr, Node.cells, aopG, beq_self_eq_true]))); (try simp (disch := omega) only [wrap_id, getD_map_in, Int.toNat_natCast, Node.cells, aopG, beq_self_eq_true]); (repeat (refine And.intro (by (first | omega | (simp; done) | (simp; omega) | assumption)) ?_)); refine h' _ ?_; clear h' K') | (refine aops_nil (hK _ ?_); clear hK K gs; try simp only [aThen, aBlock]) | (refine aops_consF [] (fun K' h' => ?_); simp only [go_sem, simprocAttr, Node.cells, aopG, beq_self_eq_true]; refine ⟨_, hM, ?_⟩; (try simp only [go_sem, simprocAttr, Node.cells, aopG, beq_self_eq_true]); (repeat (refine And.intro (by (first | omega | (simp; done) | (simp; omega) | assumption)) ?_)); refine h' _ ?_; clear h' K') | (refine AWp.sreg  dd27 rfl (fun gs K hgs hK => ?_); clear hgs) | refine AWp.seq ?_ | refine ARounds.step ?_ | refine AWp.block ?_ | refine AWp.label ?_ | (refine AWp.ret ?_; try simp only [aThen, aBlock]) | (refine AWp.skip ?_; try simp only [aThen, aBlock]) | (refine AWp.exit ?_; try simp only [aThen, aBlock, Nat.reduceEqDiff, reduceIte]) | (refine AWp.reg  dd27 rfl (fun gs K hgs hK => ?_); clear hgs) | (refine AWp.cond rfl (fun h => ?_) (fun h => ?_) <;> (try simp only [decide_eq_true_eq, decide_eq_false_iff_not, beq_iff_eq, bne_iff_ne, ne_eq, Bool.not_eq_true', Bool.not_eq_false', beq_eq_false_iff_ne, Bool.true_eq_false, Bool.false_eq_true, Int.not_le, Int.not_lt, Bool.and_eq_true, Bool.and_eq_false_iff, Bool.or_eq_true, Bool.or_eq_false_iff, bne_eq_false_iff_eq, reduceCtorEq] at h) <;> (try first | contradiction | (exfalso; omega) | (exfalso; revert h; simp; done) | (exfalso; revert h; simp; omega)))))
  simp only [Out, outA, outL, resA, go_sem, simprocAttr]
  exact AVle.refl _
def lf (k n : Int) : Ex := .leaf ⟨k, n, 0⟩
def bi (k : Int) (e f : Ex) : Ex := .bin ⟨k, 0, 0⟩ e f
theorem two12_c (k : Int) {e f : Ex} (hk : decide (7 ≤ k) && decide (k ≤ 19) && okEx e && okEx f && decide (e.sz ≤ 50) && decide (f.sz ≤ 50) = true) : ACall Try.prog 27 [.lit (.int .u8 k), nodesV (e.fl 0), nodesV (f.fl 0)] (nodesV ((bi k e f).fl 0)) := by
  simp only [Bool.and_eq_true, decide_eq_true_eq] at hk
  obtain ⟨⟨⟨⟨⟨h1, h2⟩, h3⟩, h4⟩, h5⟩, h6⟩ := hk
  have a := okEx_wf h3
  have b := okEx_wf h4
  have := two12_l k (e.fl 0) (f.fl 0) (by rw [Ex.fl_length]; omega) (by rw [Ex.fl_length]; exact e.sz_pos) (ex_NodeB a.1 (by omega)) (by rw [Ex.fl_length]; omega) (by rw [Ex.fl_length]; exact f.sz_pos) (ex_NodeB b.1 (by omega))
  have hm := (IsEx.made2 (a := e.fl 0) (b := f.fl 0) ⟨a.1, rfl⟩ ⟨b.1, rfl⟩ (x := ⟨k, 0, 0⟩) ⟨by show 1 ≤ k; omega, by show k ≤ 19; omega, by show (0 : Int) ≤ 0; decide, .inl rfl, by show (0 : Int) ≤ 0; decide, by show (0 : Int) ≤ 400; decide⟩ (by show 6 < k; omega)).2
  have hm : made2 k 0 0 (e.fl 0) (f.fl 0) = (bi k e f).fl 0 := hm
  rw [hm] at this
  exact this
def dd17 : Nat → List (List Nat)
  | 0 => [[], [0]]
  | 1 => [[], [], [], [4, 5], [], [], [7, 8], [], [9, 10], [6], [11]]
  | 2 => [[], [], [12], [13], [14]]
  | 3 => [[], [], [], [], [16, 17], [15, 18], [], [], [20, 21], [19, 22], [23], [], [], [25, 26], [3], [27, 28], [24, 29], [30], [], [], [32, 33], [], [34, 35], [], [], [37, 38], [1], [39, 40], [36, 41], [31, 42], [43], [], [2], [45, 46], [44, 47], [48]]
  | _ => []
theorem alive12_c : ACall Try.prog 17 [] (.lit (.bool true)) := by
  have hT1 := two12_c 12 (e := lf 4 0) (f := lf 1 1) (by decide)
  have hT2 := two12_c 8 (e := lf 4 0) (f := lf 1 1) (by decide)
  have hT3 := two12_c 8 (e := bi 8 (lf 4 0) (lf 1 1)) (f := lf 1 2) (by decide)
  have hT4 := two12_c 7 (e := lf 1 2) (f := lf 1 3) (by decide)
  have hT5 := two12_c 8 (e := lf 4 0) (f := bi 7 (lf 1 2) (lf 1 3)) (by decide)
  have hT6 := two12_c 8 (e := lf 4 0) (f := lf 1 6) (by decide)
  have hT7 := two12_c 9 (e := lf 1 1) (f := lf 1 3) (by decide)
  have hT8 := two12_c 12 (e := lf 1 1) (f := lf 1 2) (by decide)
  have hT9 := two12_c 18 (e := bi 12 (lf 1 1) (lf 1 2)) (f := bi 12 (lf 4 0) (lf 1 1)) (by decide)
  have hT10 := two12_c 16 (e := lf 1 0) (f := lf 1 0) (by decide)
  have hT11 := two12_c 18 (e := bi 16 (lf 1 0) (lf 1 0)) (f := bi 12 (lf 4 0) (lf 1 1)) (by decide)
  have hM := rMade_1 5 0 0 [⟨1, 2, 0, 0, 0⟩] (by decide) (by decide) num_B
  have hB1 := becomes_c (e := bi 8 (lf 4 0) (bi 7 (lf 1 2) (lf 1 3))) (w := bi 8 (lf 4 0) (lf 1 6)) (by decide) (by decide) (by decide)
  have hB2 := becomes_c (e := bi 9 (lf 1 1) (lf 1 3)) (w := .un ⟨5, 0, 0⟩ (lf 1 2)) (by decide) (by decide) (by decide)
  have hB3 := becomes_c (e := bi 18 (bi 12 (lf 1 1) (lf 1 2)) (bi 12 (lf 4 0) (lf 1 1))) (w := bi 18 (bi 16 (lf 1 0) (lf 1 0)) (bi 12 (lf 4 0) (lf 1 1))) (by decide) (by decide) (by decide)
  have hB4 := becomes_c (e := bi 8 (bi 8 (lf 4 0) (lf 1 1)) (lf 1 2)) (w := bi 8 (bi 8 (lf 4 0) (lf 1 1)) (lf 1 2)) (by decide) (by decide) (by decide)
  rw [show made1 5 0 0 [⟨1, 2, 0, 0, 0⟩] = (Ex.un ⟨5, 0, 0⟩ (lf 1 2)).fl 0 by decide] at hM
  have hlf : ∀ k n, (lf k n).fl 0 = [⟨k, n, 0, 0, 0⟩] := fun _ _ => rfl
  simp only [hlf] at *
  generalize (bi 18 (bi 12 (lf 1 1) (lf 1 2)) (bi 12 (lf 4 0) (lf 1 1))).fl 0 = m1 at *
  generalize (bi 18 (bi 16 (lf 1 0) (lf 1 0)) (bi 12 (lf 4 0) (lf 1 1))).fl 0 = m2 at *
  generalize (bi 8 (lf 4 0) (bi 7 (lf 1 2) (lf 1 3))).fl 0 = m3 at *
  generalize (bi 8 (bi 8 (lf 4 0) (lf 1 1)) (lf 1 2)).fl 0 = m4 at *
  generalize (bi 12 (lf 4 0) (lf 1 1)).fl 0 = m5 at *
  generalize (bi 8 (lf 4 0) (lf 1 1)).fl 0 = m6 at *
  generalize (bi 7 (lf 1 2) (lf 1 3)).fl 0 = m7 at *
  generalize (bi 8 (lf 4 0) (lf 1 6)).fl 0 = m8 at *
  generalize (bi 9 (lf 1 1) (lf 1 3)).fl 0 = m9 at *
  generalize (bi 12 (lf 1 1) (lf 1 2)).fl 0 = m10 at *
  generalize (bi 16 (lf 1 0) (lf 1 0)).fl 0 = m11 at *
  generalize (Ex.un ⟨5, 0, 0⟩ (lf 1 2)).fl 0 = m12 at *
  clear hlf
  simp only [nodesV, List.map_cons, List.map_nil, Node.cells] at *
  refine acall_of (n := 49) (rs := [.tmp 0]) Try.func17 rfl (by kernel_rfl) rfl rfl rfl ?_; simp only [argsE, Nat.reduceAdd]
  repeat (any_goals (first | (refine aops_cons (fun K' h' => ?_); simp only [go_sem, simprocAttr, hgs, Node.cells, aopG, beq_self_eq_true]; (try ((first | refine ⟨_, hM, ?_⟩ | refine ⟨_, fun _ => hM, ?_⟩ | refine ⟨_, num12_c _, ?_⟩ | refine ⟨_, fun _ => num12_c _, ?_⟩ | refine ⟨_, val12_c, ?_⟩ | refine ⟨_, fun _ => val12_c, ?_⟩ | refine ⟨_, hT1, ?_⟩ | refine ⟨_, fun _ => hT1, ?_⟩ | refine ⟨_, hT2, ?_⟩ | refine ⟨_, fun _ => hT2, ?_⟩ | refine ⟨_, hT3, ?_⟩ | refine ⟨_, fun _ => hT3, ?_⟩ | refine ⟨_, hT4, ?_⟩ | refine ⟨_, fun _ => hT4, ?_⟩ | refine ⟨_, hT5, ?_⟩ | refine ⟨_, fun _ => hT5, ?_⟩ | refine ⟨_, hT6, ?_⟩ | refine ⟨_, fun _ => hT6, ?_⟩ | refine ⟨_, hT7, ?_⟩ | refine ⟨_, fun _ => hT7, ?_⟩ | refine ⟨_, hT8, ?_⟩ | refine ⟨_, fun _ => hT8, ?_⟩ | refine ⟨_, hT9, ?_⟩ | refine ⟨_, fun _ => hT9, ?_⟩ | refine ⟨_, hT10, ?_⟩ | refine ⟨_, fun _ => hT10, ?_⟩ | refine ⟨_, hT11, ?_⟩ | refine ⟨_, fun _ => hT11, ?_⟩ | refine ⟨_, hB1, ?_⟩ | refine ⟨_, fun _ => hB1, ?_⟩ | refine ⟨_, hB2, ?_⟩ | refine ⟨_, fun _ => hB2, ?_⟩ | refine ⟨_, hB3, ?_⟩ | refine ⟨_, fun _ => hB3, ?_⟩ | refine ⟨_, hB4, ?_⟩ | refine ⟨_, fun _ => hB4, ?_⟩); (try simp only [go_sem, simprocAttr, hgs, Node.cells, aopG, beq_self_eq_true]))); (try simp (disch := omega) only [wrap_id, getD_map_in, Int.toNat_natCast, Node.cells, aopG, beq_self_eq_true]); (repeat (refine And.intro (by (first | omega | (simp; done) | (simp; omega) | assumption)) ?_)); refine h' _ ?_; clear h' K') | (refine aops_nil (hK _ ?_); clear hK K hgs gs; try simp only [aThen, aBlock]) | (refine aops_consF [] (fun K' h' => ?_); simp only [go_sem, simprocAttr, hgs, Node.cells, aopG, beq_self_eq_true]; refine ⟨_, hM, ?_⟩; (try simp only [go_sem, simprocAttr, hgs, Node.cells, aopG, beq_self_eq_true]); (repeat (refine And.intro (by (first | omega | (simp; done) | (simp; omega) | assumption)) ?_)); refine h' _ ?_; clear h' K') | ((first | refine AWp.sreg (id := 3) dd17 rfl (fun gs K hgs hK => ?_) | refine AWp.reg (id := 3) dd17 rfl (fun gs K hgs hK => ?_)); replace hgs : gs 9 = some 24 ∧ gs 16 = some 31 ∧ gs 29 = some 44 := ⟨hgs 9, hgs 16, hgs 29⟩) | (refine AWp.sreg  dd17 rfl (fun gs K hgs hK => ?_); replace hgs : Nat.succ 0 = 1 := rfl) | refine AWp.seq ?_ | refine ARounds.step ?_ | refine AWp.block ?_ | refine AWp.label ?_ | (refine AWp.ret ?_; try simp only [aThen, aBlock]) | (refine AWp.skip ?_; try simp only [aThen, aBlock]) | (refine AWp.exit ?_; try simp only [aThen, aBlock, Nat.reduceEqDiff, reduceIte]) | (refine AWp.reg  dd17 rfl (fun gs K hgs hK => ?_); replace hgs : Nat.succ 0 = 1 := rfl) | (refine aops_consG (fun K' h' => ?_); simp only [go_sem, simprocAttr, hgs, Node.cells, aopG, beq_self_eq_true]; (try simp (disch := omega) only [wrap_id, getD_map_in, Int.toNat_natCast, Node.cells, aopG, beq_self_eq_true]); (repeat (refine And.intro (by (first | omega | (simp; done) | (simp; omega) | assumption)) ?_)); refine h' _ ?_; clear h' K') | (refine AWp.cond rfl (fun h => ?_) (fun h => ?_) <;> (try simp only [decide_eq_true_eq, decide_eq_false_iff_not, beq_iff_eq, bne_iff_ne, ne_eq, Bool.not_eq_true', Bool.not_eq_false', beq_eq_false_iff_ne, Bool.true_eq_false, Bool.false_eq_true, Int.not_le, Int.not_lt, Bool.and_eq_true, Bool.and_eq_false_iff, Bool.or_eq_true, Bool.or_eq_false_iff, bne_eq_false_iff_eq, reduceCtorEq] at h) <;> (try first | contradiction | (exfalso; omega) | (exfalso; revert h; simp; done) | (exfalso; revert h; simp; omega)))))
  simp only [Out, outA, outL, resA, go_sem, simprocAttr]
  exact AVle.refl _
end Go.Proofs.Yteohklfoggiojaa
