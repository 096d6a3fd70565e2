/-
  The walk over build.
-/
import Derived.Test.YteohklfoggiojaaFldC
namespace Go.Proofs.Yteohklfoggiojaa
open Go.AL Go.RowKit
set_option linter.unusedSimpArgs false
set_option linter.unusedVariables false
set_option maxRecDepth 10000
set_option maxHeartbeats 4000000
def formsV (fs : List (Option Ex)) : AV := .ro 2 (fs.map fe)
def dd41 : Nat → List (List Nat)
  | 0 => [[], [3]]
  | 1 => [[], [1], [0], [4, 5], [6], [7], [8], [9]]
  | _ => []
theorem into_c (fs : List (Option Ex)) (j : Nat) (hj : j < fs.length) : ACall Try.prog 41 [.lit (.int .i64 (j : Int)), .rop [formsV fs]] (.lit (.bool (!(fs.getD j default).isSome))) := by
  unfold formsV
  cases hv : fs.getD j default with
  | none =>
    have hfe : fe none = [.lit (.slice none 0 0), .lit (.bool false)] := rfl
    refine acall_of (n := 10) (rs := [.tmp 3]) Try.func41 rfl (by kernel_rfl) rfl rfl rfl ?_; simp only [argsE, Nat.reduceAdd]
    repeat (any_goals (first | (refine aops_cons (fun K' h' => ?_); simp only [go_sem, simprocAttr, Node.cells, hv, hfe]; (try simp (disch := omega) only [wrap_id, getD_map_in, Int.toNat_natCast, Node.cells, hv, hfe]); (repeat (refine And.intro (by (first | omega | (simp; done) | (simp; omega) | assumption)) ?_)); refine h' _ ?_; clear h' K') | (refine aops_nil (hK _ ?_); clear hK K gs; try simp only [aThen, aBlock]) | (refine AWp.sreg  dd41 rfl (fun gs K hgs hK => ?_); clear hgs) | refine AWp.seq ?_ | refine ARounds.step ?_ | refine AWp.block ?_ | refine AWp.label ?_ | (refine AWp.ret ?_; try simp only [aThen, aBlock]) | (refine AWp.skip ?_; try simp only [aThen, aBlock]) | (refine AWp.exit ?_; try simp only [aThen, aBlock, Nat.reduceEqDiff, reduceIte]) | (refine AWp.reg  dd41 rfl (fun gs K hgs hK => ?_); clear hgs) | (refine AWp.cond rfl (fun h => ?_) (fun h => ?_) <;> (try simp only [decide_eq_true_eq, decide_eq_false_iff_not, beq_iff_eq, bne_iff_ne, ne_eq, Bool.not_eq_true', Bool.not_eq_false', beq_eq_false_iff_ne, Bool.true_eq_false, Bool.false_eq_true, Int.not_le, Int.not_lt, Bool.and_eq_true, Bool.and_eq_false_iff, Bool.or_eq_true, Bool.or_eq_false_iff, bne_eq_false_iff_eq, reduceCtorEq] at h) <;> (try first | contradiction | (exfalso; omega) | (exfalso; revert h; simp; done) | (exfalso; revert h; simp; omega)))))
    all_goals simp only [Out, outA, outL, resA, go_sem, simprocAttr]
    all_goals exact AVle.refl _
  | some g =>
    have hfe : fe (some g) = [nodesV (g.fl 0), .lit (.bool true)] := rfl
    generalize nodesV (g.fl 0) = v at *
    refine acall_of (n := 10) (rs := [.tmp 3]) Try.func41 rfl (by kernel_rfl) rfl rfl rfl ?_; simp only [argsE, Nat.reduceAdd]
    repeat (any_goals (first | (refine aops_cons (fun K' h' => ?_); simp only [go_sem, simprocAttr, Node.cells, hv, hfe]; (try simp (disch := omega) only [wrap_id, getD_map_in, Int.toNat_natCast, Node.cells, hv, hfe]); (repeat (refine And.intro (by (first | omega | (simp; done) | (simp; omega) | assumption)) ?_)); refine h' _ ?_; clear h' K') | (refine aops_nil (hK _ ?_); clear hK K gs; try simp only [aThen, aBlock]) | (refine AWp.sreg  dd41 rfl (fun gs K hgs hK => ?_); clear hgs) | refine AWp.seq ?_ | refine ARounds.step ?_ | refine AWp.block ?_ | refine AWp.label ?_ | (refine AWp.ret ?_; try simp only [aThen, aBlock]) | (refine AWp.skip ?_; try simp only [aThen, aBlock]) | (refine AWp.exit ?_; try simp only [aThen, aBlock, Nat.reduceEqDiff, reduceIte]) | (refine AWp.reg  dd41 rfl (fun gs K hgs hK => ?_); clear hgs) | (refine AWp.cond rfl (fun h => ?_) (fun h => ?_) <;> (try simp only [decide_eq_true_eq, decide_eq_false_iff_not, beq_iff_eq, bne_iff_ne, ne_eq, Bool.not_eq_true', Bool.not_eq_false', beq_eq_false_iff_ne, Bool.true_eq_false, Bool.false_eq_true, Int.not_le, Int.not_lt, Bool.and_eq_true, Bool.and_eq_false_iff, Bool.or_eq_true, Bool.or_eq_false_iff, bne_eq_false_iff_eq, reduceCtorEq] at h) <;> (try first | contradiction | (exfalso; omega) | (exfalso; revert h; simp; done) | (exfalso; revert h; simp; omega)))))
    all_goals simp only [Out, outA, outL, resA, go_sem, simprocAttr]
    all_goals exact AVle.refl _
def dd43 : Nat → List (List Nat)
  | 0 => [[], [6], [7]]
  | 1 => [[], [], [], [16, 17], [18], [19]]
  | 2 => [[0, 20], [1], [2], [21, 22], [23], [24], [25], [26], []]
  | 3 => [[20], [], [2], [27, 28], [29], [], [30]]
  | 4 => [[], [], [32], [33], [34], [], [31], [35], [36]]
  | 5 => [[], []]
  | 6 => [[], [], [37], [], [39], [38, 40], [9], [41, 42], [], []]
  | 7 => [[], []]
  | 8 => [[46], [], [47], [48]]
  | 9 => [[], [], [], [13], [50, 51, 52], [53], [], [49], [54], [55]]
  | 10 => [[], [], [56]]
  | 11 => [[0, 1, 8, 10, 11, 14, 43, 44, 45, 57], [15], [], [58]]
  | 12 => [[15, 57], [11], [14], [60], [59, 61], [62]]
  | 13 => [[], [45], [63]]
  | 14 => [[0, 1, 43, 44, 45, 46], [], [64]]
  | 15 => [[8, 11, 65], [10], [], [66]]
  | 16 => [[10, 65], [], [67], [], [69], [8], [71], [11], [68, 70, 72, 73], [], [74], [75], [76]]
  | _ => []
theorem build_c {l : List Node} {e : Ex} (hx : IsEx l e) (hl : l.length ≤ 60) (hdp : e.dp ≤ 20) (ht : e.typ = true) (hn : nodesB l) (fs : List (Option Ex)) (hfs : fs.length = l.length) :
    ∀ j : Nat, j < l.length → OkAt e (fun i => fs.getD i default) [] j → ACall Try.prog 43 [nodesV l, formsV fs, .lit (.int .i64 (j : Int))] (.tup [nodesV ((foldE (e.subE j)).fl 0), .lit (.int .i64 0)]) := by
  intro j
  induction j using Nat.strongRecOn with
  | _ j ih =>
    intro hj hok
    have P := hx.partAt ht hn hj
    have hle := hx.len
    have hy := P.node
    have S := foldE_same P.wf P.typ P.nB
    have hsz := P.sz
    have hd2 := P.dp
    have hjf : j < fs.length := by omega
    unfold formsV at *
    rcases hok.built (by omega) with ⟨g, h1, h2, h3⟩ | ⟨h1, h2⟩
    · rw [h2]
      obtain ⟨x, tl, hxt⟩ : ∃ x tl, g.fl 0 = x :: tl := by
        cases hg : g.fl 0 with
        | nil => have := g.fl_length 0; rw [hg] at this; have := g.sz_pos; simp at *; omega
        | cons x tl => exact ⟨x, tl, rfl⟩
      have hlen : tl.length ≤ 1000 := by
        have := g.fl_length 0
        rw [hxt] at this
        rw [h2] at S
        have := S.sz
        simp at *; omega
      have hCl := cloneN_n x tl hlen
      have hfe : fe (some g) = [nodesV (g.fl 0), .lit (.bool true)] := rfl
      have h1 : fs.getD j default = some g := h1
      rw [hxt] at hfe ⊢
      clear ih hok hx S P hfs h2 h3
      unfold nodesV at *
      refine acall_of (n := 77) (rs := [.tmp 6, .tmp 7]) Try.func43 rfl (by kernel_rfl) rfl rfl rfl ?_; simp only [argsE, Nat.reduceAdd]
      repeat (any_goals (first | (refine aops_cons (fun K' h' => ?_); simp only [go_sem, simprocAttr, Node.cells, h1, hfe]; (try ((first | refine ⟨_, hP, ?_⟩ | refine ⟨_, fun _ => hP, ?_⟩ | refine ⟨_, hN, ?_⟩ | refine ⟨_, fun _ => hN, ?_⟩ | refine ⟨_, hB1, ?_⟩ | refine ⟨_, fun _ => hB1, ?_⟩ | refine ⟨_, hB2, ?_⟩ | refine ⟨_, fun _ => hB2, ?_⟩); (try simp only [go_sem, simprocAttr, Node.cells, h1, hfe]))); (try simp (disch := omega) only [wrap_id, getD_map_in, Int.toNat_natCast, Node.cells, h1, hfe]); (repeat (refine And.intro (by (first | omega | (simp; done) | (simp; omega) | assumption)) ?_)); refine h' _ ?_; clear h' K') | (refine aops_nil (hK _ ?_); clear hK K gs; try simp only [aThen, aBlock]) | (refine aops_consF [] (fun K' h' => ?_); simp only [go_sem, simprocAttr, Node.cells, h1, hfe]; refine ⟨_, hN, ?_⟩; (try simp only [go_sem, simprocAttr, Node.cells, h1, hfe]); (repeat (refine And.intro (by (first | omega | (simp; done) | (simp; omega) | assumption)) ?_)); refine h' _ ?_; clear h' K') | (refine aops_consN  (fun K' h' => ?_); simp only [go_sem, simprocAttr, Node.cells, h1, hfe]; refine ⟨_, _, hCl, ?_⟩; (try simp only [go_sem, simprocAttr, Node.cells, h1, hfe]); (repeat (refine And.intro (by (first | omega | (simp; done) | (simp; omega) | assumption)) ?_)); refine h' _ ?_; clear h' K') | (refine AWp.sreg  dd43 rfl (fun gs K hgs hK => ?_); clear hgs) | refine AWp.seq ?_ | refine ARounds.step ?_ | refine AWp.block ?_ | refine AWp.label ?_ | (refine AWp.ret ?_; try simp only [aThen, aBlock]) | (refine AWp.skip ?_; try simp only [aThen, aBlock]) | (refine AWp.exit ?_; try simp only [aThen, aBlock, Nat.reduceEqDiff, reduceIte]) | (refine AWp.reg  dd43 rfl (fun gs K hgs hK => ?_); clear hgs) | (refine AWp.cond rfl (fun h => ?_) (fun h => ?_) <;> (try simp only [decide_eq_true_eq, decide_eq_false_iff_not, beq_iff_eq, bne_iff_ne, ne_eq, Bool.not_eq_true', Bool.not_eq_false', beq_eq_false_iff_ne, Bool.true_eq_false, Bool.false_eq_true, Int.not_le, Int.not_lt, Bool.and_eq_true, Bool.and_eq_false_iff, Bool.or_eq_true, Bool.or_eq_false_iff, bne_eq_false_iff_eq, reduceCtorEq] at h) <;> (try first | contradiction | (exfalso; omega) | (exfalso; revert h; simp; done) | (exfalso; revert h; simp; omega)))))
      all_goals simp only [Out, outA, outL, resA, go_sem, simprocAttr]
      all_goals exact AVle.of_eq (by simp [List.take_of_length_le, Node.cells])
    · have h1 : fs.getD j default = none := h1
      have hfe : fe none = [.lit (.slice none 0 0), .lit (.bool false)] := rfl
      have hwf := P.wf
      have htyp := P.typ
      have hnB := P.nB
      have hok2 := Ex.hd_ok hwf
      have hP := parts_c (e.subE j).hd.kind
      rw [partsE_0 hok2.k1 hok2.k2] at hP
      have herr : errL ((foldE (e.subE j)).fl 0) = 0 := errL_of ⟨S.wf, rfl⟩ (by have := S.sz; omega) (by have := S.dp; omega)
      rcases h2 with ⟨x, hs, hf⟩ | ⟨x, g, hs, q0, q2, r1, hf⟩ | ⟨x, g, k, hs, q1, q2, q3, r1, r2, hf⟩
      · rw [hf]
        rw [hs] at hy hwf hP hnB
        rw [show partsN (Ex.leaf x).hd.kind = 0 from partsN_leaf hwf.1 hwf.2] at hP
        have hnx : x.n ≤ 9223372036854775807 := hnB.2
        have hN := nNode_0 x.kind x.n x.pos hwf.1 hwf.2 hnx
        simp only [Ex.nodeA, Ex.fl, Hd.node, Ex.hd] at hy hP ⊢
        clear ih hok hx S P hfs ht hn hs hf hok2 herr hwf htyp hnB hnx
        obtain ⟨kd, nn, xp⟩ := x
        simp only at *
        unfold nodesV at *
        refine acall_of (n := 77) (rs := [.tmp 6, .tmp 7]) Try.func43 rfl (by kernel_rfl) rfl rfl rfl ?_; simp only [argsE, Nat.reduceAdd]
        repeat (any_goals (first | (refine aops_cons (fun K' h' => ?_); simp only [go_sem, simprocAttr, Node.cells, h1, hfe, hy, Int.reduceAdd]; (try ((first | refine ⟨_, hP, ?_⟩ | refine ⟨_, fun _ => hP, ?_⟩ | refine ⟨_, hN, ?_⟩ | refine ⟨_, fun _ => hN, ?_⟩ | refine ⟨_, hB1, ?_⟩ | refine ⟨_, fun _ => hB1, ?_⟩ | refine ⟨_, hB2, ?_⟩ | refine ⟨_, fun _ => hB2, ?_⟩); (try simp only [go_sem, simprocAttr, Node.cells, h1, hfe, hy, Int.reduceAdd]))); (try simp (disch := omega) only [wrap_id, getD_map_in, Int.toNat_natCast, Node.cells, h1, hfe, hy, Int.reduceAdd]); (repeat (refine And.intro (by (first | omega | (simp; done) | (simp; omega) | assumption)) ?_)); refine h' _ ?_; clear h' K') | (refine aops_nil (hK _ ?_); clear hK K gs; try simp only [aThen, aBlock]) | (refine aops_consF [] (fun K' h' => ?_); simp only [go_sem, simprocAttr, Node.cells, h1, hfe, hy, Int.reduceAdd]; refine ⟨_, hN, ?_⟩; (try simp only [go_sem, simprocAttr, Node.cells, h1, hfe, hy, Int.reduceAdd]); (repeat (refine And.intro (by (first | omega | (simp; done) | (simp; omega) | assumption)) ?_)); refine h' _ ?_; clear h' K') | (refine aops_consN  (fun K' h' => ?_); simp only [go_sem, simprocAttr, Node.cells, h1, hfe, hy, Int.reduceAdd]; refine ⟨_, _, hCl, ?_⟩; (try simp only [go_sem, simprocAttr, Node.cells, h1, hfe, hy, Int.reduceAdd]); (repeat (refine And.intro (by (first | omega | (simp; done) | (simp; omega) | assumption)) ?_)); refine h' _ ?_; clear h' K') | (refine AWp.sreg  dd43 rfl (fun gs K hgs hK => ?_); clear hgs) | refine AWp.seq ?_ | refine ARounds.step ?_ | refine AWp.block ?_ | refine AWp.label ?_ | (refine AWp.ret ?_; try simp only [aThen, aBlock]) | (refine AWp.skip ?_; try simp only [aThen, aBlock]) | (refine AWp.exit ?_; try simp only [aThen, aBlock, Nat.reduceEqDiff, reduceIte]) | (refine AWp.reg  dd43 rfl (fun gs K hgs hK => ?_); clear hgs) | (refine AWp.cond rfl (fun h => ?_) (fun h => ?_) <;> (try simp only [decide_eq_true_eq, decide_eq_false_iff_not, beq_iff_eq, bne_iff_ne, ne_eq, Bool.not_eq_true', Bool.not_eq_false', beq_eq_false_iff_ne, Bool.true_eq_false, Bool.false_eq_true, Int.not_le, Int.not_lt, Bool.and_eq_true, Bool.and_eq_false_iff, Bool.or_eq_true, Bool.or_eq_false_iff, bne_eq_false_iff_eq, reduceCtorEq] at h) <;> (try first | contradiction | (exfalso; omega) | (exfalso; revert h; simp; done) | (exfalso; revert h; simp; omega)))))
        refine AWp.loopR 1 ?_
        repeat (any_goals (first | (refine aops_cons (fun K' h' => ?_); simp only [go_sem, simprocAttr, Node.cells, h1, hfe, hy, Int.reduceAdd]; (try ((first | refine ⟨_, hP, ?_⟩ | refine ⟨_, fun _ => hP, ?_⟩ | refine ⟨_, hN, ?_⟩ | refine ⟨_, fun _ => hN, ?_⟩ | refine ⟨_, hB1, ?_⟩ | refine ⟨_, fun _ => hB1, ?_⟩ | refine ⟨_, hB2, ?_⟩ | refine ⟨_, fun _ => hB2, ?_⟩); (try simp only [go_sem, simprocAttr, Node.cells, h1, hfe, hy, Int.reduceAdd]))); (try simp (disch := omega) only [wrap_id, getD_map_in, Int.toNat_natCast, Node.cells, h1, hfe, hy, Int.reduceAdd]); (repeat (refine And.intro (by (first | omega | (simp; done) | (simp; omega) | assumption)) ?_)); refine h' _ ?_; clear h' K') | (refine aops_nil (hK _ ?_); clear hK K gs; try simp only [aThen, aBlock]) | (refine aops_consF [] (fun K' h' => ?_); simp only [go_sem, simprocAttr, Node.cells, h1, hfe, hy, Int.reduceAdd]; refine ⟨_, hN, ?_⟩; (try simp only [go_sem, simprocAttr, Node.cells, h1, hfe, hy, Int.reduceAdd]); (repeat (refine And.intro (by (first | omega | (simp; done) | (simp; omega) | assumption)) ?_)); refine h' _ ?_; clear h' K') | (refine aops_consN  (fun K' h' => ?_); simp only [go_sem, simprocAttr, Node.cells, h1, hfe, hy, Int.reduceAdd]; refine ⟨_, _, hCl, ?_⟩; (try simp only [go_sem, simprocAttr, Node.cells, h1, hfe, hy, Int.reduceAdd]); (repeat (refine And.intro (by (first | omega | (simp; done) | (simp; omega) | assumption)) ?_)); refine h' _ ?_; clear h' K') | (refine AWp.sreg  dd43 rfl (fun gs K hgs hK => ?_); clear hgs) | refine AWp.seq ?_ | refine ARounds.step ?_ | refine AWp.block ?_ | refine AWp.label ?_ | (refine AWp.ret ?_; try simp only [aThen, aBlock]) | (refine AWp.skip ?_; try simp only [aThen, aBlock]) | (refine AWp.exit ?_; try simp only [aThen, aBlock, Nat.reduceEqDiff, reduceIte]) | (refine AWp.reg  dd43 rfl (fun gs K hgs hK => ?_); clear hgs) | (refine AWp.cond rfl (fun h => ?_) (fun h => ?_) <;> (try simp only [decide_eq_true_eq, decide_eq_false_iff_not, beq_iff_eq, bne_iff_ne, ne_eq, Bool.not_eq_true', Bool.not_eq_false', beq_eq_false_iff_ne, Bool.true_eq_false, Bool.false_eq_true, Int.not_le, Int.not_lt, Bool.and_eq_true, Bool.and_eq_false_iff, Bool.or_eq_true, Bool.or_eq_false_iff, bne_eq_false_iff_eq, reduceCtorEq] at h) <;> (try first | contradiction | (exfalso; omega) | (exfalso; revert h; simp; done) | (exfalso; revert h; simp; omega)))))
        all_goals simp only [Out, outA, outL, resA, go_sem, simprocAttr]
        all_goals exact AVle.refl _
      · rw [hf] at herr ⊢
        rw [hs] at hy hwf hP htyp hnB hsz
        rw [show partsN (Ex.un x g).hd.kind = 1 from partsN_un hwf.2.1 hwf.2.2.1] at hP
        have hB1 := ih (j - 1) (by omega) (by omega) r1
        rw [q2] at hB1
        simp only [Ex.typ, Bool.and_eq_true] at htyp
        simp only [Ex.sz] at hsz
        obtain ⟨k1, k2, k3, k4⟩ := fold_ok hwf.2.2.2 htyp.2 hnB (by omega)
        have Sg := foldE_same hwf.2.2.2 htyp.2 hnB
        have heg : errL ((foldE g).fl 0) = 0 := errL_of k1 (by have := Sg.sz; omega) (by
          have := Sg.dp
          rw [hs] at hd2
          simp only [Ex.dp] at hd2
          omega)
        have hx0 : x.n = 0 := by have := hwf.1.n1; have := hwf.2.1; omega
        have hN := nNode_1 x.kind x.n x.pos hwf.2.1 hwf.2.2.1 hx0 hwf.1.p0 hwf.1.p1 (by omega) k1 heg
        rw [(k1.made1 hwf.1 hwf.2.1 hwf.2.2.1).2, herr, if_pos rfl] at hN
        simp only [Ex.nodeA, Hd.node, Ex.hd] at hy hP
        clear ih hok hx S P hfs ht hn hs hf hok2 herr hwf htyp hnB q2 k1 k2 k3 k4 Sg heg hd2 r1
        generalize Ex.fl 0 (Ex.un x (foldE g)) = out at *
        generalize Ex.fl 0 (foldE g) = pa at *
        obtain ⟨kd, nn, xp⟩ := x
        simp only at *
        unfold partsV at hN
        unfold nodesV at *
        refine acall_of (n := 77) (rs := [.tmp 6, .tmp 7]) Try.func43 rfl (by kernel_rfl) rfl rfl rfl ?_; simp only [argsE, Nat.reduceAdd]
        repeat (any_goals (first | (refine aops_cons (fun K' h' => ?_); simp only [go_sem, simprocAttr, Node.cells, h1, hfe, hy, Int.reduceAdd]; (try ((first | refine ⟨_, hP, ?_⟩ | refine ⟨_, fun _ => hP, ?_⟩ | refine ⟨_, hN, ?_⟩ | refine ⟨_, fun _ => hN, ?_⟩ | refine ⟨_, hB1, ?_⟩ | refine ⟨_, fun _ => hB1, ?_⟩ | refine ⟨_, hB2, ?_⟩ | refine ⟨_, fun _ => hB2, ?_⟩); (try simp only [go_sem, simprocAttr, Node.cells, h1, hfe, hy, Int.reduceAdd]))); (try simp (disch := omega) only [wrap_id, getD_map_in, Int.toNat_natCast, Node.cells, h1, hfe, hy, Int.reduceAdd]); (repeat (refine And.intro (by (first | omega | (simp; done) | (simp; omega) | assumption)) ?_)); refine h' _ ?_; clear h' K') | (refine aops_nil (hK _ ?_); clear hK K gs; try simp only [aThen, aBlock]) | (refine aops_consF [] (fun K' h' => ?_); simp only [go_sem, simprocAttr, Node.cells, h1, hfe, hy, Int.reduceAdd]; refine ⟨_, hN, ?_⟩; (try simp only [go_sem, simprocAttr, Node.cells, h1, hfe, hy, Int.reduceAdd]); (repeat (refine And.intro (by (first | omega | (simp; done) | (simp; omega) | assumption)) ?_)); refine h' _ ?_; clear h' K') | (refine aops_consN  (fun K' h' => ?_); simp only [go_sem, simprocAttr, Node.cells, h1, hfe, hy, Int.reduceAdd]; refine ⟨_, _, hCl, ?_⟩; (try simp only [go_sem, simprocAttr, Node.cells, h1, hfe, hy, Int.reduceAdd]); (repeat (refine And.intro (by (first | omega | (simp; done) | (simp; omega) | assumption)) ?_)); refine h' _ ?_; clear h' K') | (refine AWp.sreg  dd43 rfl (fun gs K hgs hK => ?_); clear hgs) | refine AWp.seq ?_ | refine ARounds.step ?_ | refine AWp.block ?_ | refine AWp.label ?_ | (refine AWp.ret ?_; try simp only [aThen, aBlock]) | (refine AWp.skip ?_; try simp only [aThen, aBlock]) | (refine AWp.exit ?_; try simp only [aThen, aBlock, Nat.reduceEqDiff, reduceIte]) | (refine AWp.reg  dd43 rfl (fun gs K hgs hK => ?_); clear hgs) | (refine AWp.cond rfl (fun h => ?_) (fun h => ?_) <;> (try simp only [decide_eq_true_eq, decide_eq_false_iff_not, beq_iff_eq, bne_iff_ne, ne_eq, Bool.not_eq_true', Bool.not_eq_false', beq_eq_false_iff_ne, Bool.true_eq_false, Bool.false_eq_true, Int.not_le, Int.not_lt, Bool.and_eq_true, Bool.and_eq_false_iff, Bool.or_eq_true, Bool.or_eq_false_iff, bne_eq_false_iff_eq, reduceCtorEq] at h) <;> (try first | contradiction | (exfalso; omega) | (exfalso; revert h; simp; done) | (exfalso; revert h; simp; omega)))))
        refine AWp.loopR 2 ?_
        repeat (any_goals (first | (refine aops_cons (fun K' h' => ?_); simp only [go_sem, simprocAttr, Node.cells, h1, hfe, hy, Int.reduceAdd]; (try ((first | refine ⟨_, hP, ?_⟩ | refine ⟨_, fun _ => hP, ?_⟩ | refine ⟨_, hN, ?_⟩ | refine ⟨_, fun _ => hN, ?_⟩ | refine ⟨_, hB1, ?_⟩ | refine ⟨_, fun _ => hB1, ?_⟩ | refine ⟨_, hB2, ?_⟩ | refine ⟨_, fun _ => hB2, ?_⟩); (try simp only [go_sem, simprocAttr, Node.cells, h1, hfe, hy, Int.reduceAdd]))); (try simp (disch := omega) only [wrap_id, getD_map_in, Int.toNat_natCast, Node.cells, h1, hfe, hy, Int.reduceAdd]); (repeat (refine And.intro (by (first | omega | (simp; done) | (simp; omega) | assumption)) ?_)); refine h' _ ?_; clear h' K') | (refine aops_nil (hK _ ?_); clear hK K gs; try simp only [aThen, aBlock]) | (refine aops_consF [] (fun K' h' => ?_); simp only [go_sem, simprocAttr, Node.cells, h1, hfe, hy, Int.reduceAdd]; refine ⟨_, hN, ?_⟩; (try simp only [go_sem, simprocAttr, Node.cells, h1, hfe, hy, Int.reduceAdd]); (repeat (refine And.intro (by (first | omega | (simp; done) | (simp; omega) | assumption)) ?_)); refine h' _ ?_; clear h' K') | (refine aops_consN  (fun K' h' => ?_); simp only [go_sem, simprocAttr, Node.cells, h1, hfe, hy, Int.reduceAdd]; refine ⟨_, _, hCl, ?_⟩; (try simp only [go_sem, simprocAttr, Node.cells, h1, hfe, hy, Int.reduceAdd]); (repeat (refine And.intro (by (first | omega | (simp; done) | (simp; omega) | assumption)) ?_)); refine h' _ ?_; clear h' K') | (refine AWp.sreg  dd43 rfl (fun gs K hgs hK => ?_); clear hgs) | refine AWp.seq ?_ | refine ARounds.step ?_ | refine AWp.block ?_ | refine AWp.label ?_ | (refine AWp.ret ?_; try simp only [aThen, aBlock]) | (refine AWp.skip ?_; try simp only [aThen, aBlock]) | (refine AWp.exit ?_; try simp only [aThen, aBlock, Nat.reduceEqDiff, reduceIte]) | (refine AWp.reg  dd43 rfl (fun gs K hgs hK => ?_); clear hgs) | (refine AWp.cond rfl (fun h => ?_) (fun h => ?_) <;> (try simp only [decide_eq_true_eq, decide_eq_false_iff_not, beq_iff_eq, bne_iff_ne, ne_eq, Bool.not_eq_true', Bool.not_eq_false', beq_eq_false_iff_ne, Bool.true_eq_false, Bool.false_eq_true, Int.not_le, Int.not_lt, Bool.and_eq_true, Bool.and_eq_false_iff, Bool.or_eq_true, Bool.or_eq_false_iff, bne_eq_false_iff_eq, reduceCtorEq] at h) <;> (try first | contradiction | (exfalso; omega) | (exfalso; revert h; simp; done) | (exfalso; revert h; simp; omega)))))
        all_goals simp only [Out, outA, outL, resA, go_sem, simprocAttr]
        all_goals exact AVle.refl _
      · rw [hf] at herr ⊢
        have g0 := g.sz_pos
        have k0 := k.sz_pos
        rw [hs] at hy hwf hP htyp hnB hsz
        rw [show partsN (Ex.bin x g k).hd.kind = 2 from partsN_bin hwf.1 hwf.2.1] at hP
        have hB2 := ih (j - 1) (by omega) (by omega) r1
        rw [q2] at hB2
        have hB1 := ih (j - 1 - k.sz) (by omega) (by omega) r2
        rw [q3] at hB1
        simp only [Ex.typ, Bool.and_eq_true] at htyp
        simp only [Ex.sz] at hsz
        obtain ⟨k1, k2, k3, k4⟩ := fold_ok hwf.2.2.1 htyp.1.2 hnB.1 (by omega)
        obtain ⟨l1, l2, l3, l4⟩ := fold_ok hwf.2.2.2 htyp.2 hnB.2 (by omega)
        have Sg := foldE_same hwf.2.2.1 htyp.1.2 hnB.1
        have Sk := foldE_same hwf.2.2.2 htyp.2 hnB.2
        rw [hs] at hd2
        simp only [Ex.dp] at hd2
        have heg : errL ((foldE g).fl 0) = 0 := errL_of k1 (by have := Sg.sz; omega) (by have := Sg.dp; omega)
        have hek : errL ((foldE k).fl 0) = 0 := errL_of l1 (by have := Sk.sz; omega) (by have := Sk.dp; omega)
        have hx0 : x.n = 0 := by have := hwf.1.n1; have := hwf.2.1; omega
        have hN := nNode_2 x.kind x.n x.pos hwf.2.1 hwf.1.k2 hx0 hwf.1.p0 hwf.1.p1 k1 l1 heg hek
        rw [(k1.made2 l1 hwf.1 hwf.2.1).2, herr, if_pos rfl] at hN
        simp only [Ex.nodeA, Hd.node, Ex.hd] at hy hP
        clear ih hok hx S P hfs ht hn hs hf hok2 herr hwf htyp hnB q2 q3 k1 k2 k3 k4 l1 l2 l3 l4 Sg Sk heg hek hd2 r1 r2
        generalize Ex.fl 0 (Ex.bin x (foldE g) (foldE k)) = out at *
        generalize Ex.fl 0 (foldE g) = pa at *
        generalize Ex.fl 0 (foldE k) = pb at *
        obtain ⟨kd, nn, xp⟩ := x
        simp only at *
        unfold partsV at hN
        unfold nodesV at *
        refine acall_of (n := 77) (rs := [.tmp 6, .tmp 7]) Try.func43 rfl (by kernel_rfl) rfl rfl rfl ?_; simp only [argsE, Nat.reduceAdd]
        repeat (any_goals (first | (refine aops_cons (fun K' h' => ?_); simp only [go_sem, simprocAttr, Node.cells, h1, hfe, hy, Int.reduceAdd]; (try ((first | refine ⟨_, hP, ?_⟩ | refine ⟨_, fun _ => hP, ?_⟩ | refine ⟨_, hN, ?_⟩ | refine ⟨_, fun _ => hN, ?_⟩ | refine ⟨_, hB1, ?_⟩ | refine ⟨_, fun _ => hB1, ?_⟩ | refine ⟨_, hB2, ?_⟩ | refine ⟨_, fun _ => hB2, ?_⟩); (try simp only [go_sem, simprocAttr, Node.cells, h1, hfe, hy, Int.reduceAdd]))); (try simp (disch := omega) only [wrap_id, getD_map_in, Int.toNat_natCast, Node.cells, h1, hfe, hy, Int.reduceAdd]); (repeat (refine And.intro (by (first | omega | (simp; done) | (simp; omega) | assumption)) ?_)); refine h' _ ?_; clear h' K') | (refine aops_nil (hK _ ?_); clear hK K gs; try simp only [aThen, aBlock]) | (refine aops_consF [] (fun K' h' => ?_); simp only [go_sem, simprocAttr, Node.cells, h1, hfe, hy, Int.reduceAdd]; refine ⟨_, hN, ?_⟩; (try simp only [go_sem, simprocAttr, Node.cells, h1, hfe, hy, Int.reduceAdd]); (repeat (refine And.intro (by (first | omega | (simp; done) | (simp; omega) | assumption)) ?_)); refine h' _ ?_; clear h' K') | (refine aops_consN  (fun K' h' => ?_); simp only [go_sem, simprocAttr, Node.cells, h1, hfe, hy, Int.reduceAdd]; refine ⟨_, _, hCl, ?_⟩; (try simp only [go_sem, simprocAttr, Node.cells, h1, hfe, hy, Int.reduceAdd]); (repeat (refine And.intro (by (first | omega | (simp; done) | (simp; omega) | assumption)) ?_)); refine h' _ ?_; clear h' K') | (refine AWp.sreg  dd43 rfl (fun gs K hgs hK => ?_); clear hgs) | refine AWp.seq ?_ | refine ARounds.step ?_ | refine AWp.block ?_ | refine AWp.label ?_ | (refine AWp.ret ?_; try simp only [aThen, aBlock]) | (refine AWp.skip ?_; try simp only [aThen, aBlock]) | (refine AWp.exit ?_; try simp only [aThen, aBlock, Nat.reduceEqDiff, reduceIte]) | (refine AWp.reg  dd43 rfl (fun gs K hgs hK => ?_); clear hgs) | (refine AWp.cond rfl (fun h => ?_) (fun h => ?_) <;> (try simp only [decide_eq_true_eq, decide_eq_false_iff_not, beq_iff_eq, bne_iff_ne, ne_eq, Bool.not_eq_true', Bool.not_eq_false', beq_eq_false_iff_ne, Bool.true_eq_false, Bool.false_eq_true, Int.not_le, Int.not_lt, Bool.and_eq_true, Bool.and_eq_false_iff, Bool.or_eq_true, Bool.or_eq_false_iff, bne_eq_false_iff_eq, reduceCtorEq] at h) <;> (try first | contradiction | (exfalso; omega) | (exfalso; revert h; simp; done) | (exfalso; revert h; simp; omega)))))
        refine AWp.loopR 3 ?_
        repeat (any_goals (first | (refine aops_cons (fun K' h' => ?_); simp only [go_sem, simprocAttr, Node.cells, h1, hfe, hy, Int.reduceAdd]; (try ((first | refine ⟨_, hP, ?_⟩ | refine ⟨_, fun _ => hP, ?_⟩ | refine ⟨_, hN, ?_⟩ | refine ⟨_, fun _ => hN, ?_⟩ | refine ⟨_, hB1, ?_⟩ | refine ⟨_, fun _ => hB1, ?_⟩ | refine ⟨_, hB2, ?_⟩ | refine ⟨_, fun _ => hB2, ?_⟩); (try simp only [go_sem, simprocAttr, Node.cells, h1, hfe, hy, Int.reduceAdd]))); (try simp (disch := omega) only [wrap_id, getD_map_in, Int.toNat_natCast, Node.cells, h1, hfe, hy, Int.reduceAdd]); (repeat (refine And.intro (by (first | omega | (simp; done) | (simp; omega) | assumption)) ?_)); refine h' _ ?_; clear h' K') | (refine aops_nil (hK _ ?_); clear hK K gs; try simp only [aThen, aBlock]) | (refine aops_consF [] (fun K' h' => ?_); simp only [go_sem, simprocAttr, Node.cells, h1, hfe, hy, Int.reduceAdd]; refine ⟨_, hN, ?_⟩; (try simp only [go_sem, simprocAttr, Node.cells, h1, hfe, hy, Int.reduceAdd]); (repeat (refine And.intro (by (first | omega | (simp; done) | (simp; omega) | assumption)) ?_)); refine h' _ ?_; clear h' K') | (refine aops_consN  (fun K' h' => ?_); simp only [go_sem, simprocAttr, Node.cells, h1, hfe, hy, Int.reduceAdd]; refine ⟨_, _, hCl, ?_⟩; (try simp only [go_sem, simprocAttr, Node.cells, h1, hfe, hy, Int.reduceAdd]); (repeat (refine And.intro (by (first | omega | (simp; done) | (simp; omega) | assumption)) ?_)); refine h' _ ?_; clear h' K') | (refine AWp.sreg  dd43 rfl (fun gs K hgs hK => ?_); clear hgs) | refine AWp.seq ?_ | refine ARounds.step ?_ | refine AWp.block ?_ | refine AWp.label ?_ | (refine AWp.ret ?_; try simp only [aThen, aBlock]) | (refine AWp.skip ?_; try simp only [aThen, aBlock]) | (refine AWp.exit ?_; try simp only [aThen, aBlock, Nat.reduceEqDiff, reduceIte]) | (refine AWp.reg  dd43 rfl (fun gs K hgs hK => ?_); clear hgs) | (refine AWp.cond rfl (fun h => ?_) (fun h => ?_) <;> (try simp only [decide_eq_true_eq, decide_eq_false_iff_not, beq_iff_eq, bne_iff_ne, ne_eq, Bool.not_eq_true', Bool.not_eq_false', beq_eq_false_iff_ne, Bool.true_eq_false, Bool.false_eq_true, Int.not_le, Int.not_lt, Bool.and_eq_true, Bool.and_eq_false_iff, Bool.or_eq_true, Bool.or_eq_false_iff, bne_eq_false_iff_eq, reduceCtorEq] at h) <;> (try first | contradiction | (exfalso; omega) | (exfalso; revert h; simp; done) | (exfalso; revert h; simp; omega)))))
        all_goals simp only [Out, outA, outL, resA, go_sem, simprocAttr]
        all_goals exact AVle.refl _
end Go.Proofs.Yteohklfoggiojaa
