/-
  The law ClausesReplace.
-/
import Derived.Test.YtihlofhnhkhnaaaAbsP
import Derived.Test.YtihlofhnhkhnaaaCJoinL
namespace Go.Proofs.Ytihlofhnhkhnaaa
open Go.AL Go.RowKit
set_option linter.unusedSimpArgs false
set_option linter.unusedVariables false
set_option maxRecDepth 10000
set_option maxHeartbeats 8000000

theorem chkE_win {q : Qry} (h : chkE q = 0) (hj : q.join = false) (w : Win) : chkE { q with win := w } = winE w := by
  obtain ⟨a1, a2, a3, a4, a5, a6, a7⟩ := chkE_0 h
  unfold chkE
  simp only
  rw [if_neg a1, if_neg a2, if_neg a3, if_neg a4, if_neg (fun h => h a5), if_neg (by rw [hj]; simp)]
theorem chkE_src {q : Qry} (h : chkE q = 0) (hj : q.join = false) (l : List Int) : chkE { q with src := l } = srcE l false := by
  obtain ⟨a1, a2, a3, a4, a5, a6, a7⟩ := chkE_0 h
  unfold chkE
  simp only
  rw [if_neg a1, if_neg a2, if_neg a3, if_neg a4, if_neg a6, a7, hj]
  split
  · rfl
  · rename_i h; exact (Classical.not_not.1 h).symm
theorem chkE_wh {q : Qry} (h : chkE q = 0) (x : List Node) : chkE { q with wh := x } = if x.length = 0 then 0 else errL x := by
  obtain ⟨a1, a2, a3, a4, a5, a6, a7⟩ := chkE_0 h
  unfold chkE
  simp only
  rw [if_neg a1, if_neg a2, if_neg a3]
  by_cases hx : x.length = 0
  · rw [if_neg (by omega), if_neg (fun h => h a5), if_neg a6, a7, if_pos hx]
  · rw [if_neg hx]
    by_cases he : errL x = 0
    · rw [if_neg (by rintro ⟨_, h⟩; exact h he), if_neg (fun h => h a5), if_neg a6, a7, he]
    · rw [if_pos ⟨by omega, he⟩]
theorem chkE_arg {q : Qry} (h : chkE q = 0) (x : List Node) : chkE { q with arg := x, agg := 4 } = errL x := by
  obtain ⟨a1, a2, a3, a4, a5, a6, a7⟩ := chkE_0 h
  unfold chkE
  simp only
  rw [if_neg (by omega)]
  by_cases he : errL x = 0
  · rw [if_neg (by rintro ⟨_, h⟩; exact h he), if_neg (by omega), if_neg a4, if_neg (fun h => h a5), if_neg a6, a7, he]
  · rw [if_pos ⟨by omega, he⟩]

def dd5 : Nat → List (List Nat)
  | 0 => [[], [0], [1], [8]]
  | 1 => [[], [], [14], [15], [], [17], [16, 18], [19], [], [21], [22], [20, 23], [24], [], [26], [27], [25, 28], [29], [], [31], [30, 32]]
  | 2 => [[2, 3, 4, 5, 33], [], [34]]
  | 3 => [[33], [], [35], [36]]
  | 4 => [[2, 3, 4, 5, 37], []]
  | 6 => [[], [], [], [], [], [], [42, 46], [], [43, 47], [], [44, 48], [], [45, 49]]
  | 7 => [[], [], [50]]
  | 8 => [[], [], [51], [52]]
  | 10 => [[3, 11, 13, 70], []]
  | 11 => [[70], [3], [71], [72]]
  | 12 => [[13, 73], []]
  | 13 => [[73], [11], [74], [13], [75, 76], [77], [], [78, 79], [80]]
  | _ => []
def fo5 : Nat → List Nat
  | 5 => [2, 3, 5, 9, 10, 11, 12]
  | 9 => [3, 11, 13, 70]
  | _ => []
theorem crepl_law (q : Qry) (w : Win) (l : List Int) (x : List Node) (h1 : q.arg.length ≤ maxLen) (h2 : q.wh.length ≤ maxLen) (h3 : q.src.length ≤ maxLen) (hw : ∀ x ∈ q.src, -9223372036854775808 ≤ x ∧ x ≤ 9223372036854775807)
    (h4 : l.length ≤ maxLen) (hw2 : ∀ x ∈ l, -9223372036854775808 ≤ x ∧ x ≤ 9223372036854775807) (h5 : x.length ≤ maxLen) :
    ACall Try.prog 5 [.agg q.cells, .agg w.cells, intsV l, nodesV x] (.lit (.bool true)) := by
  have hG := greatQ_c q h1 h2 h3
  have hR := rqCheck_c q h1 h2 h3
  have hGx := great_c x
  unfold maxLen at h1 h2 h3 h4 h5
  by_cases hv : greatQ q = false ∧ q.join = false ∧ chkE q = 0 ∧ l.length ≤ 10 ∧ x.length ≤ 70
  · obtain ⟨hg, hj, h0, hl, hx⟩ := hv
    have hg' : q.arg.length ≤ 70 ∧ q.wh.length ≤ 70 ∧ q.src.length ≤ 10 := by
      unfold greatQ at hg
      simp at hg; omega
    have hC := qCheck_c q (by omega) (by omega) (by omega) hw
    have hCa := qCheck_c { q with win := w } (by show q.arg.length ≤ 1000; omega) (by show q.wh.length ≤ 1000; omega) (by show q.src.length ≤ 1000; omega) hw
    have hCb := qCheck_c { q with src := l } (by show q.arg.length ≤ 1000; omega) (by show q.wh.length ≤ 1000; omega) (by show l.length ≤ 1000; omega) hw2
    have hCc := qCheck_c { q with wh := x } (by show q.arg.length ≤ 1000; omega) (by show x.length ≤ 1000; omega) (by show q.src.length ≤ 1000; omega) hw
    have hCd := qCheck_c { q with arg := x, agg := 4 } (by show x.length ≤ 1000; omega) (by show q.wh.length ≤ 1000; omega) (by show q.src.length ≤ 1000; omega) hw
    rw [chkE_win h0 hj] at hCa
    rw [chkE_src h0 hj] at hCb
    rw [chkE_wh h0] at hCc
    rw [chkE_arg h0] at hCd
    have hW := window_c w
    have hS := sources_c l false (by omega) hw2
    have hNx := nCheck_c x (by omega)
    rw [hg] at hG
    rw [h0] at hR hC
    clear hg h0 hw hw2
    obtain ⟨ew, hew⟩ : ∃ ew, (if x.length = 0 then 0 else errL x) = ew := ⟨_, rfl⟩
    rw [hew] at hCc
    generalize errL x = ex at *
    generalize srcE l false = es at *
    generalize winE w = ww at *
    obtain ⟨ag, ar, sr, jn, wh, ⟨kd, sz, ev⟩, bk, lt⟩ := q
    obtain ⟨kd2, sz2, ev2⟩ := w
    simp only at hj hg'
    subst hj
    unfold Qry.cells Win.cells nodesV intsV at *
    simp only at hCa hCb hCc hCd
    refine acall_of (n := 81) (rs := [.tmp 8]) Try.func5 rfl (by kernel_rfl) rfl rfl rfl ?_; simp only [argsE, Nat.reduceAdd]
    repeat (any_goals (first | (refine aops_cons (fun K' h' => ?_); simp only [go_sem, Nat.reduceLT, Nat.reduceLeDiff, Nat.reduceEqDiff, reduceIte, Nat.reduceAdd, Nat.reduceMul, Nat.reduceSub, Int.reduceLT, Int.reduceLE, Int.reduceToNat, Int.reduceNeg, reduceCtorEq, hgs, Option.toArray_none, Option.toArray_some, List.toList_toArray]; (try simp (disch := omega) only [wrap_id, getD_map_in, Int.toNat_natCast, Option.toArray_none, Option.toArray_some, List.toList_toArray]); (repeat (refine And.intro (by (first | omega | (simp; done) | (simp; omega) | assumption)) ?_)); refine h' _ ?_; clear h' K') | (refine aops_nil (hK _ ?_); clear hK K hgs gs; try simp only [aThen, aBlock]) | ((first | refine aops_cons (fun K' h' => ?_) | refine aopsD_cons (fun K' h' => ?_) | refine aopsM_cons (fun K' h' => ?_)); simp only [go_sem, Nat.reduceLT, Nat.reduceLeDiff, Nat.reduceEqDiff, reduceIte, Nat.reduceAdd, Nat.reduceMul, Nat.reduceSub, Int.reduceLT, Int.reduceLE, Int.reduceToNat, Int.reduceNeg, reduceCtorEq, hgs, Option.toArray_none, Option.toArray_some, List.toList_toArray]; (first | refine ⟨_, hG, ?_⟩ | refine ⟨_, fun _ => hG, ?_⟩ | refine ⟨_, hR, ?_⟩ | refine ⟨_, fun _ => hR, ?_⟩ | refine ⟨_, alive8_c, ?_⟩ | refine ⟨_, fun _ => alive8_c, ?_⟩ | refine ⟨_, hGx, ?_⟩ | refine ⟨_, fun _ => hGx, ?_⟩ | refine ⟨_, hC, ?_⟩ | refine ⟨_, fun _ => hC, ?_⟩ | refine ⟨_, hCa, ?_⟩ | refine ⟨_, fun _ => hCa, ?_⟩ | refine ⟨_, hCb, ?_⟩ | refine ⟨_, fun _ => hCb, ?_⟩ | refine ⟨_, hCc, ?_⟩ | refine ⟨_, fun _ => hCc, ?_⟩ | refine ⟨_, hCd, ?_⟩ | refine ⟨_, fun _ => hCd, ?_⟩ | refine ⟨_, hW, ?_⟩ | refine ⟨_, fun _ => hW, ?_⟩ | refine ⟨_, hS, ?_⟩ | refine ⟨_, fun _ => hS, ?_⟩ | refine ⟨_, hNx, ?_⟩ | refine ⟨_, fun _ => hNx, ?_⟩); (try simp only [go_sem, Nat.reduceLT, Nat.reduceLeDiff, Nat.reduceEqDiff, reduceIte, Nat.reduceAdd, Nat.reduceMul, Nat.reduceSub, Int.reduceLT, Int.reduceLE, Int.reduceToNat, Int.reduceNeg, reduceCtorEq, hgs, Option.toArray_none, Option.toArray_some, List.toList_toArray]); (repeat (refine And.intro (by (first | omega | (simp; done) | (simp; omega) | assumption)) ?_)); refine h' _ ?_; clear h' K') | (refine AWp.sreg (id := 1) dd5 rfl (fun gs K hgs hK => ?_); replace hgs : gs 2 = some 16 ∧ gs 6 = some 20 ∧ gs 11 = some 25 ∧ gs 16 = some 30 := ⟨hgs 2, hgs 6, hgs 11, hgs 16⟩) | (refine AWp.sreg (id := 13) dd5 rfl (fun gs K hgs hK => ?_); replace hgs : gs 4 = some 78 := hgs 4) | (refine AWp.reg (id := 1) dd5 rfl (fun gs K hgs hK => ?_); replace hgs : gs 2 = some 16 ∧ gs 6 = some 20 ∧ gs 11 = some 25 ∧ gs 16 = some 30 := ⟨hgs 2, hgs 6, hgs 11, hgs 16⟩) | (refine AWp.reg (id := 13) dd5 rfl (fun gs K hgs hK => ?_); replace hgs : gs 4 = some 78 := hgs 4) | (refine AWp.sreg  dd5 rfl (fun gs K hgs hK => ?_); replace hgs : Nat.succ 0 = 1 := rfl) | refine AWp.seq ?_ | refine ARounds.step ?_ | refine AWp.block ?_ | refine AWp.label ?_ | (refine AWp.ret ?_; try simp only [aThen, aBlock]) | (refine AWp.skip ?_; try simp only [aThen, aBlock]) | (refine AWp.exit ?_; try simp only [aThen, aBlock, Nat.reduceEqDiff, reduceIte]) | (refine AWp.reg  dd5 rfl (fun gs K hgs hK => ?_); replace hgs : Nat.succ 0 = 1 := rfl) | (refine AWp.sregD (id := 9) fo5 mo_fact (by kernel_rfl) (fun gs K hgs hK => ?_); replace hgs : gs 5 = some 58 ∧ gs 12 = some 65 := ⟨hgs 5, hgs 12⟩) | (refine AWp.regD (id := 9) fo5 mo_fact (by kernel_rfl) (fun gs K hgs hK => ?_); replace hgs : gs 5 = some 58 ∧ gs 12 = some 65 := ⟨hgs 5, hgs 12⟩) | (refine aopsD_cons (fun K' h' => ?_); simp only [go_sem, Nat.reduceLT, Nat.reduceLeDiff, Nat.reduceEqDiff, reduceIte, Nat.reduceAdd, Nat.reduceMul, Nat.reduceSub, Int.reduceLT, Int.reduceLE, Int.reduceToNat, Int.reduceNeg, reduceCtorEq, hgs, Option.toArray_none, Option.toArray_some, List.toList_toArray]; (try simp (disch := omega) only [wrap_id, getD_map_in, Int.toNat_natCast, Option.toArray_none, Option.toArray_some, List.toList_toArray]); (repeat (refine And.intro (by (first | omega | (simp; done) | (simp; omega) | assumption)) ?_)); refine h' _ ?_; clear h' K') | (refine aopsD_nil (hK _ ?_); clear hK K hgs gs; simp only [fo5]; simp only [ASt.prune, pruneE, keepB, keepR, Bool.or_false, Bool.or_true, Bool.true_or, Bool.false_or, reduceIte, Bool.or_self, Bool.false_eq_true, aThen, aBlock, Nat.reduceEqDiff]) | (refine AWp.cond rfl (fun h => ?_) (fun h => ?_) <;> (try simp only [decide_eq_true_eq, decide_eq_false_iff_not, beq_iff_eq, bne_iff_ne, ne_eq, Bool.not_eq_true', Bool.not_eq_false', beq_eq_false_iff_ne, Bool.true_eq_false, Bool.false_eq_true, Int.not_le, Int.not_lt, Bool.and_eq_true, Bool.and_eq_false_iff, Bool.or_eq_true, Bool.or_eq_false_iff, bne_eq_false_iff_eq, reduceCtorEq] at h) <;> (try first | contradiction | (exfalso; omega) | (exfalso; revert h; simp; done) | (exfalso; revert h; simp; omega)))))
    refine AWp.frzB ?_
    have hgs : Nat.succ 0 = 1 := rfl
    simp only [go_sem, Nat.reduceLT, Nat.reduceLeDiff, Nat.reduceEqDiff, reduceIte, Nat.reduceAdd, Nat.reduceMul, Nat.reduceSub, Int.reduceLT, Int.reduceLE, Int.reduceToNat, Int.reduceNeg, reduceCtorEq, hgs, Option.toArray_none, Option.toArray_some, List.toList_toArray]
    refine AWp.sregA_perm (id := 5) ⟨[(2, .ro 1 (l.map fun x => [.lit (.int .i64 x)])), (3, .ro 5 (x.map Node.cells)), (5, .rop [.lit (.int .u8 kd2), .lit (.int .i64 sz2), .lit (.int .i64 ev2)]), (9, .bp 0 0), (10, .bp 1 0), (11, .bp 2 0), (12, .bp 3 0)],
      [[.lit (.int .u8 ag), .ro 5 (ar.map Node.cells), .ro 1 (sr.map fun x => [.lit (.int .i64 x)]), .lit (.bool false), .ro 5 (wh.map Node.cells), .lit (.int .u8 kd), .lit (.int .i64 sz), .lit (.int .i64 ev), .lit (.bool bk), .lit (.int .u8 lt)],
       [.lit (.int .u8 ag), .ro 5 (ar.map Node.cells), .ro 1 (sr.map fun x => [.lit (.int .i64 x)]), .lit (.bool false), .ro 5 (wh.map Node.cells), .lit (.int .u8 kd), .lit (.int .i64 sz), .lit (.int .i64 ev), .lit (.bool bk), .lit (.int .u8 lt)],
       [.lit (.int .u8 ag), .ro 5 (ar.map Node.cells), .ro 1 (sr.map fun x => [.lit (.int .i64 x)]), .lit (.bool false), .ro 5 (wh.map Node.cells), .lit (.int .u8 kd), .lit (.int .i64 sz), .lit (.int .i64 ev), .lit (.bool bk), .lit (.int .u8 lt)],
       [.lit (.int .u8 ag), .ro 5 (ar.map Node.cells), .ro 1 (sr.map fun x => [.lit (.int .i64 x)]), .lit (.bool false), .ro 5 (wh.map Node.cells), .lit (.int .u8 kd), .lit (.int .i64 sz), .lit (.int .i64 ev), .lit (.bool bk), .lit (.int .u8 lt)]], []⟩ fo5 4 4 true mo_fact (by kernel_rfl) (by kernel_rfl) (by kernel_rfl) (by kernel_rfl) (fun gs K K1 hgs hK hK1 => ?_) ?_
    · clear hG hR hGx hC hCa hCb hCc hCd hW hS hNx
      (replace hgs : Nat.succ 0 = 1 := rfl; simp only [List.take_succ_cons, List.take_zero, List.drop_succ_cons, List.drop_zero]; (repeat (refine aopsM_cons (fun K' h' => ?_); simp only [go_sem, Nat.reduceLT, Nat.reduceLeDiff, Nat.reduceEqDiff, reduceIte, Nat.reduceAdd, Nat.reduceMul, Nat.reduceSub, Int.reduceLT, Int.reduceLE, Int.reduceToNat, Int.reduceNeg, reduceCtorEq, hgs, Option.toArray_none, Option.toArray_some, List.toList_toArray]; (try simp (disch := omega) only [wrap_id, getD_map_in, Int.toNat_natCast, Option.toArray_none, Option.toArray_some, List.toList_toArray]); (repeat (refine And.intro (by (first | omega | (simp; done) | (simp; omega) | assumption)) ?_)); refine h' _ ?_; clear h' K')); refine aopsM_nil (hK1 _ ?_); clear hK1 K1; (refine aopsA_succ (List.forall_mem_cons.2 ⟨⟨_, rfl, fun K' h' => ?_⟩, (List.forall_mem_cons.2 ⟨⟨_, rfl, fun K' h' => ?_⟩, (List.forall_mem_cons.2 ⟨⟨_, rfl, fun K' h' => ?_⟩, (List.forall_mem_cons.2 ⟨⟨_, rfl, fun K' h' => ?_⟩, (by intro x hx; cases hx)⟩)⟩)⟩)⟩) <;> (simp only [go_sem, Nat.reduceLT, Nat.reduceLeDiff, Nat.reduceEqDiff, reduceIte, Nat.reduceAdd, Nat.reduceMul, Nat.reduceSub, Int.reduceLT, Int.reduceLE, Int.reduceToNat, Int.reduceNeg, reduceCtorEq, hgs, Option.toArray_none, Option.toArray_some, List.toList_toArray]; (try simp (disch := omega) only [wrap_id, getD_map_in, Int.toNat_natCast, Option.toArray_none, Option.toArray_some, List.toList_toArray]); (repeat (refine And.intro (by (first | omega | (simp; done) | (simp; omega) | assumption)) ?_)); refine h' _ ?_; clear h' K'; (refine aopsA_succ (List.forall_mem_cons.2 ⟨⟨_, rfl, fun K' h' => ?_⟩, (List.forall_mem_cons.2 ⟨⟨_, rfl, fun K' h' => ?_⟩, (List.forall_mem_cons.2 ⟨⟨_, rfl, fun K' h' => ?_⟩, (by intro x hx; cases hx)⟩)⟩)⟩) <;> (simp only [go_sem, Nat.reduceLT, Nat.reduceLeDiff, Nat.reduceEqDiff, reduceIte, Nat.reduceAdd, Nat.reduceMul, Nat.reduceSub, Int.reduceLT, Int.reduceLE, Int.reduceToNat, Int.reduceNeg, reduceCtorEq, hgs, Option.toArray_none, Option.toArray_some, List.toList_toArray]; (try simp (disch := omega) only [wrap_id, getD_map_in, Int.toNat_natCast, Option.toArray_none, Option.toArray_some, List.toList_toArray]); (repeat (refine And.intro (by (first | omega | (simp; done) | (simp; omega) | assumption)) ?_)); refine h' _ ?_; clear h' K'; (refine aopsA_succ (List.forall_mem_cons.2 ⟨⟨_, rfl, fun K' h' => ?_⟩, (List.forall_mem_cons.2 ⟨⟨_, rfl, fun K' h' => ?_⟩, (by intro x hx; cases hx)⟩)⟩) <;> (simp only [go_sem, Nat.reduceLT, Nat.reduceLeDiff, Nat.reduceEqDiff, reduceIte, Nat.reduceAdd, Nat.reduceMul, Nat.reduceSub, Int.reduceLT, Int.reduceLE, Int.reduceToNat, Int.reduceNeg, reduceCtorEq, hgs, Option.toArray_none, Option.toArray_some, List.toList_toArray]; (try simp (disch := omega) only [wrap_id, getD_map_in, Int.toNat_natCast, Option.toArray_none, Option.toArray_some, List.toList_toArray]); (repeat (refine And.intro (by (first | omega | (simp; done) | (simp; omega) | assumption)) ?_)); refine h' _ ?_; clear h' K'; (refine aopsA_succ (List.forall_mem_cons.2 ⟨⟨_, rfl, fun K' h' => ?_⟩, (by intro x hx; cases hx)⟩) <;> (simp only [go_sem, Nat.reduceLT, Nat.reduceLeDiff, Nat.reduceEqDiff, reduceIte, Nat.reduceAdd, Nat.reduceMul, Nat.reduceSub, Int.reduceLT, Int.reduceLE, Int.reduceToNat, Int.reduceNeg, reduceCtorEq, hgs, Option.toArray_none, Option.toArray_some, List.toList_toArray]; (try simp (disch := omega) only [wrap_id, getD_map_in, Int.toNat_natCast, Option.toArray_none, Option.toArray_some, List.toList_toArray]); (repeat (refine And.intro (by (first | omega | (simp; done) | (simp; omega) | assumption)) ?_)); refine h' _ ?_; clear h' K'; (refine aopsA_zero ?_; simp only [List.take_succ_cons, List.take_zero, List.drop_succ_cons, List.drop_zero]; (repeat (refine aopsM_cons (fun K' h' => ?_); simp only [go_sem, Nat.reduceLT, Nat.reduceLeDiff, Nat.reduceEqDiff, reduceIte, Nat.reduceAdd, Nat.reduceMul, Nat.reduceSub, Int.reduceLT, Int.reduceLE, Int.reduceToNat, Int.reduceNeg, reduceCtorEq, hgs, Option.toArray_none, Option.toArray_some, List.toList_toArray]; (try simp (disch := omega) only [wrap_id, getD_map_in, Int.toNat_natCast, Option.toArray_none, Option.toArray_some, List.toList_toArray]); (repeat (refine And.intro (by (first | omega | (simp; done) | (simp; omega) | assumption)) ?_)); refine h' _ ?_; clear h' K')); refine aopsM_nil (hK _ ?_); clear hK K; simp only [fo5]; simp only [ASt.prune, pruneE, keepB, keepR, Bool.or_false, Bool.or_true, Bool.true_or, Bool.false_or, reduceIte, Bool.or_self, Bool.false_eq_true, aThen, aBlock, Nat.reduceEqDiff]; (first | (refine Wk.perm [0, 1, 2, 3] [0, 1, 2, 3] (by rfl) ?_ ?_ ?_ <;> (simp [ASt.perm, ASt.prune, pruneE, keepB, renE, AV.ren, renL, subE, eget, keepR]; done)) | (refine Wk.perm [0, 1, 3, 2] [0, 1, 3, 2] (by rfl) ?_ ?_ ?_ <;> (simp [ASt.perm, ASt.prune, pruneE, keepB, renE, AV.ren, renL, subE, eget, keepR]; done)) | (refine Wk.perm [0, 2, 1, 3] [0, 2, 1, 3] (by rfl) ?_ ?_ ?_ <;> (simp [ASt.perm, ASt.prune, pruneE, keepB, renE, AV.ren, renL, subE, eget, keepR]; done)) | (refine Wk.perm [0, 2, 3, 1] [0, 3, 1, 2] (by rfl) ?_ ?_ ?_ <;> (simp [ASt.perm, ASt.prune, pruneE, keepB, renE, AV.ren, renL, subE, eget, keepR]; done)) | (refine Wk.perm [0, 3, 1, 2] [0, 2, 3, 1] (by rfl) ?_ ?_ ?_ <;> (simp [ASt.perm, ASt.prune, pruneE, keepB, renE, AV.ren, renL, subE, eget, keepR]; done)) | (refine Wk.perm [0, 3, 2, 1] [0, 3, 2, 1] (by rfl) ?_ ?_ ?_ <;> (simp [ASt.perm, ASt.prune, pruneE, keepB, renE, AV.ren, renL, subE, eget, keepR]; done)) | (refine Wk.perm [1, 0, 2, 3] [1, 0, 2, 3] (by rfl) ?_ ?_ ?_ <;> (simp [ASt.perm, ASt.prune, pruneE, keepB, renE, AV.ren, renL, subE, eget, keepR]; done)) | (refine Wk.perm [1, 0, 3, 2] [1, 0, 3, 2] (by rfl) ?_ ?_ ?_ <;> (simp [ASt.perm, ASt.prune, pruneE, keepB, renE, AV.ren, renL, subE, eget, keepR]; done)) | (refine Wk.perm [1, 2, 0, 3] [2, 0, 1, 3] (by rfl) ?_ ?_ ?_ <;> (simp [ASt.perm, ASt.prune, pruneE, keepB, renE, AV.ren, renL, subE, eget, keepR]; done)) | (refine Wk.perm [1, 2, 3, 0] [3, 0, 1, 2] (by rfl) ?_ ?_ ?_ <;> (simp [ASt.perm, ASt.prune, pruneE, keepB, renE, AV.ren, renL, subE, eget, keepR]; done)) | (refine Wk.perm [1, 3, 0, 2] [2, 0, 3, 1] (by rfl) ?_ ?_ ?_ <;> (simp [ASt.perm, ASt.prune, pruneE, keepB, renE, AV.ren, renL, subE, eget, keepR]; done)) | (refine Wk.perm [1, 3, 2, 0] [3, 0, 2, 1] (by rfl) ?_ ?_ ?_ <;> (simp [ASt.perm, ASt.prune, pruneE, keepB, renE, AV.ren, renL, subE, eget, keepR]; done)) | (refine Wk.perm [2, 0, 1, 3] [1, 2, 0, 3] (by rfl) ?_ ?_ ?_ <;> (simp [ASt.perm, ASt.prune, pruneE, keepB, renE, AV.ren, renL, subE, eget, keepR]; done)) | (refine Wk.perm [2, 0, 3, 1] [1, 3, 0, 2] (by rfl) ?_ ?_ ?_ <;> (simp [ASt.perm, ASt.prune, pruneE, keepB, renE, AV.ren, renL, subE, eget, keepR]; done)) | (refine Wk.perm [2, 1, 0, 3] [2, 1, 0, 3] (by rfl) ?_ ?_ ?_ <;> (simp [ASt.perm, ASt.prune, pruneE, keepB, renE, AV.ren, renL, subE, eget, keepR]; done)) | (refine Wk.perm [2, 1, 3, 0] [3, 1, 0, 2] (by rfl) ?_ ?_ ?_ <;> (simp [ASt.perm, ASt.prune, pruneE, keepB, renE, AV.ren, renL, subE, eget, keepR]; done)) | (refine Wk.perm [2, 3, 0, 1] [2, 3, 0, 1] (by rfl) ?_ ?_ ?_ <;> (simp [ASt.perm, ASt.prune, pruneE, keepB, renE, AV.ren, renL, subE, eget, keepR]; done)) | (refine Wk.perm [2, 3, 1, 0] [3, 2, 0, 1] (by rfl) ?_ ?_ ?_ <;> (simp [ASt.perm, ASt.prune, pruneE, keepB, renE, AV.ren, renL, subE, eget, keepR]; done)) | (refine Wk.perm [3, 0, 1, 2] [1, 2, 3, 0] (by rfl) ?_ ?_ ?_ <;> (simp [ASt.perm, ASt.prune, pruneE, keepB, renE, AV.ren, renL, subE, eget, keepR]; done)) | (refine Wk.perm [3, 0, 2, 1] [1, 3, 2, 0] (by rfl) ?_ ?_ ?_ <;> (simp [ASt.perm, ASt.prune, pruneE, keepB, renE, AV.ren, renL, subE, eget, keepR]; done)) | (refine Wk.perm [3, 1, 0, 2] [2, 1, 3, 0] (by rfl) ?_ ?_ ?_ <;> (simp [ASt.perm, ASt.prune, pruneE, keepB, renE, AV.ren, renL, subE, eget, keepR]; done)) | (refine Wk.perm [3, 1, 2, 0] [3, 1, 2, 0] (by rfl) ?_ ?_ ?_ <;> (simp [ASt.perm, ASt.prune, pruneE, keepB, renE, AV.ren, renL, subE, eget, keepR]; done)) | (refine Wk.perm [3, 2, 0, 1] [2, 3, 1, 0] (by rfl) ?_ ?_ ?_ <;> (simp [ASt.perm, ASt.prune, pruneE, keepB, renE, AV.ren, renL, subE, eget, keepR]; done)) | (refine Wk.perm [3, 2, 1, 0] [3, 2, 1, 0] (by rfl) ?_ ?_ ?_ <;> (simp [ASt.perm, ASt.prune, pruneE, keepB, renE, AV.ren, renL, subE, eget, keepR]; done)))))))))))))
    · repeat (any_goals (first | (refine aops_cons (fun K' h' => ?_); simp only [go_sem, Nat.reduceLT, Nat.reduceLeDiff, Nat.reduceEqDiff, reduceIte, Nat.reduceAdd, Nat.reduceMul, Nat.reduceSub, Int.reduceLT, Int.reduceLE, Int.reduceToNat, Int.reduceNeg, reduceCtorEq, hgs, Option.toArray_none, Option.toArray_some, List.toList_toArray]; (try simp (disch := omega) only [wrap_id, getD_map_in, Int.toNat_natCast, Option.toArray_none, Option.toArray_some, List.toList_toArray]); (repeat (refine And.intro (by (first | omega | (simp; done) | (simp; omega) | assumption)) ?_)); refine h' _ ?_; clear h' K') | (refine aops_nil (hK _ ?_); clear hK K hgs gs; try simp only [aThen, aBlock]) | ((first | refine aops_cons (fun K' h' => ?_) | refine aopsD_cons (fun K' h' => ?_) | refine aopsM_cons (fun K' h' => ?_)); simp only [go_sem, Nat.reduceLT, Nat.reduceLeDiff, Nat.reduceEqDiff, reduceIte, Nat.reduceAdd, Nat.reduceMul, Nat.reduceSub, Int.reduceLT, Int.reduceLE, Int.reduceToNat, Int.reduceNeg, reduceCtorEq, hgs, Option.toArray_none, Option.toArray_some, List.toList_toArray]; (first | refine ⟨_, hG, ?_⟩ | refine ⟨_, fun _ => hG, ?_⟩ | refine ⟨_, hR, ?_⟩ | refine ⟨_, fun _ => hR, ?_⟩ | refine ⟨_, alive8_c, ?_⟩ | refine ⟨_, fun _ => alive8_c, ?_⟩ | refine ⟨_, hGx, ?_⟩ | refine ⟨_, fun _ => hGx, ?_⟩ | refine ⟨_, hC, ?_⟩ | refine ⟨_, fun _ => hC, ?_⟩ | refine ⟨_, hCa, ?_⟩ | refine ⟨_, fun _ => hCa, ?_⟩ | refine ⟨_, hCb, ?_⟩ | refine ⟨_, fun _ => hCb, ?_⟩ | refine ⟨_, hCc, ?_⟩ | refine ⟨_, fun _ => hCc, ?_⟩ | refine ⟨_, hCd, ?_⟩ | refine ⟨_, fun _ => hCd, ?_⟩ | refine ⟨_, hW, ?_⟩ | refine ⟨_, fun _ => hW, ?_⟩ | refine ⟨_, hS, ?_⟩ | refine ⟨_, fun _ => hS, ?_⟩ | refine ⟨_, hNx, ?_⟩ | refine ⟨_, fun _ => hNx, ?_⟩); (try simp only [go_sem, Nat.reduceLT, Nat.reduceLeDiff, Nat.reduceEqDiff, reduceIte, Nat.reduceAdd, Nat.reduceMul, Nat.reduceSub, Int.reduceLT, Int.reduceLE, Int.reduceToNat, Int.reduceNeg, reduceCtorEq, hgs, Option.toArray_none, Option.toArray_some, List.toList_toArray]); (repeat (refine And.intro (by (first | omega | (simp; done) | (simp; omega) | assumption)) ?_)); refine h' _ ?_; clear h' K') | (refine AWp.sreg (id := 1) dd5 rfl (fun gs K hgs hK => ?_); replace hgs : gs 2 = some 16 ∧ gs 6 = some 20 ∧ gs 11 = some 25 ∧ gs 16 = some 30 := ⟨hgs 2, hgs 6, hgs 11, hgs 16⟩) | (refine AWp.sreg (id := 13) dd5 rfl (fun gs K hgs hK => ?_); replace hgs : gs 4 = some 78 := hgs 4) | (refine AWp.reg (id := 1) dd5 rfl (fun gs K hgs hK => ?_); replace hgs : gs 2 = some 16 ∧ gs 6 = some 20 ∧ gs 11 = some 25 ∧ gs 16 = some 30 := ⟨hgs 2, hgs 6, hgs 11, hgs 16⟩) | (refine AWp.reg (id := 13) dd5 rfl (fun gs K hgs hK => ?_); replace hgs : gs 4 = some 78 := hgs 4) | (refine AWp.sreg  dd5 rfl (fun gs K hgs hK => ?_); replace hgs : Nat.succ 0 = 1 := rfl) | refine AWp.seq ?_ | refine ARounds.step ?_ | refine AWp.block ?_ | refine AWp.label ?_ | (refine AWp.ret ?_; try simp only [aThen, aBlock]) | (refine AWp.skip ?_; try simp only [aThen, aBlock]) | (refine AWp.exit ?_; try simp only [aThen, aBlock, Nat.reduceEqDiff, reduceIte]) | (refine AWp.reg  dd5 rfl (fun gs K hgs hK => ?_); replace hgs : Nat.succ 0 = 1 := rfl) | (refine AWp.sregD (id := 9) fo5 mo_fact (by kernel_rfl) (fun gs K hgs hK => ?_); replace hgs : gs 5 = some 58 ∧ gs 12 = some 65 := ⟨hgs 5, hgs 12⟩) | (refine AWp.regD (id := 9) fo5 mo_fact (by kernel_rfl) (fun gs K hgs hK => ?_); replace hgs : gs 5 = some 58 ∧ gs 12 = some 65 := ⟨hgs 5, hgs 12⟩) | (refine aopsD_cons (fun K' h' => ?_); simp only [go_sem, Nat.reduceLT, Nat.reduceLeDiff, Nat.reduceEqDiff, reduceIte, Nat.reduceAdd, Nat.reduceMul, Nat.reduceSub, Int.reduceLT, Int.reduceLE, Int.reduceToNat, Int.reduceNeg, reduceCtorEq, hgs, Option.toArray_none, Option.toArray_some, List.toList_toArray]; (try simp (disch := omega) only [wrap_id, getD_map_in, Int.toNat_natCast, Option.toArray_none, Option.toArray_some, List.toList_toArray]); (repeat (refine And.intro (by (first | omega | (simp; done) | (simp; omega) | assumption)) ?_)); refine h' _ ?_; clear h' K') | (refine aopsD_nil (hK _ ?_); clear hK K hgs gs; simp only [fo5]; simp only [ASt.prune, pruneE, keepB, keepR, Bool.or_false, Bool.or_true, Bool.true_or, Bool.false_or, reduceIte, Bool.or_self, Bool.false_eq_true, aThen, aBlock, Nat.reduceEqDiff]) | (refine AWp.cond rfl (fun h => ?_) (fun h => ?_) <;> (try simp only [decide_eq_true_eq, decide_eq_false_iff_not, beq_iff_eq, bne_iff_ne, ne_eq, Bool.not_eq_true', Bool.not_eq_false', beq_eq_false_iff_ne, Bool.true_eq_false, Bool.false_eq_true, Int.not_le, Int.not_lt, Bool.and_eq_true, Bool.and_eq_false_iff, Bool.or_eq_true, Bool.or_eq_false_iff, bne_eq_false_iff_eq, reduceCtorEq] at h) <;> (try first | contradiction | (exfalso; omega) | (exfalso; revert h; simp; done) | (exfalso; revert h; simp; omega)))))
      all_goals simp only [Out, outA, outL, resA, go_sem, Nat.reduceLT, Nat.reduceLeDiff, Nat.reduceEqDiff, reduceIte, Nat.reduceAdd, Nat.reduceMul, Nat.reduceSub, Int.reduceLT, Int.reduceLE, Int.reduceToNat, Int.reduceNeg, reduceCtorEq]
      all_goals refine AVle.of_eq (congrArg (fun b => AV.lit (.bool b)) ?_)
      · rw [if_pos (by omega)] at hew
        simp [← hew]
      · rw [if_neg (by omega)] at hew
        simp [hew]
  · have hv' : greatQ q = true ∨ q.join = true ∨ chkE q ≠ 0 ∨ 10 < l.length ∨ 70 < x.length := by
      cases hgr : greatQ q with
      | true => exact .inl rfl
      | false =>
        cases hjn : q.join with
        | true => exact .inr (.inl rfl)
        | false =>
          by_cases hc : chkE q = 0
          · by_cases hl : l.length ≤ 10
            · by_cases hx : x.length ≤ 70
              · exact absurd ⟨hgr, hjn, hc, hl, hx⟩ hv
              · omega
            · omega
          · omega
    clear hv hw hw2
    generalize greatQ q = gq at *
    generalize chkE q = ce at *
    obtain ⟨ag, ar, sr, jn, wh, ⟨kd, sz, ev⟩, bk, lt⟩ := q
    obtain ⟨kd2, sz2, ev2⟩ := w
    simp only at hv'
    unfold Qry.cells Win.cells nodesV intsV at *
    have htt : gq = true ∨ jn = true ∨ ce ≠ 0 ∨ 10 < (l.length : Int) ∨ 70 < (x.length : Int) := by
      rcases hv' with h9 | h9 | h9 | h9 | h9
      · exact .inl h9
      · exact .inr (.inl h9)
      · exact .inr (.inr (.inl h9))
      · exact .inr (.inr (.inr (.inl (by omega))))
      · exact .inr (.inr (.inr (.inr (by omega))))
    refine acall_of (n := 81) (rs := [.tmp 8]) Try.func5 rfl (by kernel_rfl) rfl rfl rfl ?_; simp only [argsE, Nat.reduceAdd]
    repeat (any_goals (first | (refine aops_cons (fun K' h' => ?_); simp only [go_sem, Nat.reduceLT, Nat.reduceLeDiff, Nat.reduceEqDiff, reduceIte, Nat.reduceAdd, Nat.reduceMul, Nat.reduceSub, Int.reduceLT, Int.reduceLE, Int.reduceToNat, Int.reduceNeg, reduceCtorEq, hgs, Option.toArray_none, Option.toArray_some, List.toList_toArray]; (try simp (disch := omega) only [wrap_id, getD_map_in, Int.toNat_natCast, Option.toArray_none, Option.toArray_some, List.toList_toArray]); (repeat (refine And.intro (by (first | omega | (simp; done) | (simp; omega) | assumption)) ?_)); refine h' _ ?_; clear h' K') | (refine aops_nil (hK _ ?_); clear hK K hgs gs; try simp only [aThen, aBlock]) | ((first | refine aops_cons (fun K' h' => ?_) | refine aopsD_cons (fun K' h' => ?_) | refine aopsM_cons (fun K' h' => ?_)); simp only [go_sem, Nat.reduceLT, Nat.reduceLeDiff, Nat.reduceEqDiff, reduceIte, Nat.reduceAdd, Nat.reduceMul, Nat.reduceSub, Int.reduceLT, Int.reduceLE, Int.reduceToNat, Int.reduceNeg, reduceCtorEq, hgs, Option.toArray_none, Option.toArray_some, List.toList_toArray]; (first | refine ⟨_, hG, ?_⟩ | refine ⟨_, fun _ => hG, ?_⟩ | refine ⟨_, hR, ?_⟩ | refine ⟨_, fun _ => hR, ?_⟩ | refine ⟨_, alive8_c, ?_⟩ | refine ⟨_, fun _ => alive8_c, ?_⟩ | refine ⟨_, hGx, ?_⟩ | refine ⟨_, fun _ => hGx, ?_⟩ | refine ⟨_, hC, ?_⟩ | refine ⟨_, fun _ => hC, ?_⟩ | refine ⟨_, hCa, ?_⟩ | refine ⟨_, fun _ => hCa, ?_⟩ | refine ⟨_, hCb, ?_⟩ | refine ⟨_, fun _ => hCb, ?_⟩ | refine ⟨_, hCc, ?_⟩ | refine ⟨_, fun _ => hCc, ?_⟩ | refine ⟨_, hCd, ?_⟩ | refine ⟨_, fun _ => hCd, ?_⟩ | refine ⟨_, hW, ?_⟩ | refine ⟨_, fun _ => hW, ?_⟩ | refine ⟨_, hS, ?_⟩ | refine ⟨_, fun _ => hS, ?_⟩ | refine ⟨_, hNx, ?_⟩ | refine ⟨_, fun _ => hNx, ?_⟩); (try simp only [go_sem, Nat.reduceLT, Nat.reduceLeDiff, Nat.reduceEqDiff, reduceIte, Nat.reduceAdd, Nat.reduceMul, Nat.reduceSub, Int.reduceLT, Int.reduceLE, Int.reduceToNat, Int.reduceNeg, reduceCtorEq, hgs, Option.toArray_none, Option.toArray_some, List.toList_toArray]); (repeat (refine And.intro (by (first | omega | (simp; done) | (simp; omega) | assumption)) ?_)); refine h' _ ?_; clear h' K') | (refine AWp.sreg (id := 1) dd5 rfl (fun gs K hgs hK => ?_); replace hgs : gs 2 = some 16 ∧ gs 6 = some 20 ∧ gs 11 = some 25 ∧ gs 16 = some 30 := ⟨hgs 2, hgs 6, hgs 11, hgs 16⟩) | (refine AWp.sreg (id := 13) dd5 rfl (fun gs K hgs hK => ?_); replace hgs : gs 4 = some 78 := hgs 4) | (refine AWp.reg (id := 1) dd5 rfl (fun gs K hgs hK => ?_); replace hgs : gs 2 = some 16 ∧ gs 6 = some 20 ∧ gs 11 = some 25 ∧ gs 16 = some 30 := ⟨hgs 2, hgs 6, hgs 11, hgs 16⟩) | (refine AWp.reg (id := 13) dd5 rfl (fun gs K hgs hK => ?_); replace hgs : gs 4 = some 78 := hgs 4) | (refine AWp.sreg  dd5 rfl (fun gs K hgs hK => ?_); replace hgs : Nat.succ 0 = 1 := rfl) | refine AWp.seq ?_ | refine ARounds.step ?_ | refine AWp.block ?_ | refine AWp.label ?_ | (refine AWp.ret ?_; try simp only [aThen, aBlock]) | (refine AWp.skip ?_; try simp only [aThen, aBlock]) | (refine AWp.exit ?_; try simp only [aThen, aBlock, Nat.reduceEqDiff, reduceIte]) | (refine AWp.reg  dd5 rfl (fun gs K hgs hK => ?_); replace hgs : Nat.succ 0 = 1 := rfl) | (refine AWp.sregD (id := 9) fo5 mo_fact (by kernel_rfl) (fun gs K hgs hK => ?_); replace hgs : gs 5 = some 58 ∧ gs 12 = some 65 := ⟨hgs 5, hgs 12⟩) | (refine AWp.regD (id := 9) fo5 mo_fact (by kernel_rfl) (fun gs K hgs hK => ?_); replace hgs : gs 5 = some 58 ∧ gs 12 = some 65 := ⟨hgs 5, hgs 12⟩) | (refine aopsD_cons (fun K' h' => ?_); simp only [go_sem, Nat.reduceLT, Nat.reduceLeDiff, Nat.reduceEqDiff, reduceIte, Nat.reduceAdd, Nat.reduceMul, Nat.reduceSub, Int.reduceLT, Int.reduceLE, Int.reduceToNat, Int.reduceNeg, reduceCtorEq, hgs, Option.toArray_none, Option.toArray_some, List.toList_toArray]; (try simp (disch := omega) only [wrap_id, getD_map_in, Int.toNat_natCast, Option.toArray_none, Option.toArray_some, List.toList_toArray]); (repeat (refine And.intro (by (first | omega | (simp; done) | (simp; omega) | assumption)) ?_)); refine h' _ ?_; clear h' K') | (refine aopsD_nil (hK _ ?_); clear hK K hgs gs; simp only [fo5]; simp only [ASt.prune, pruneE, keepB, keepR, Bool.or_false, Bool.or_true, Bool.true_or, Bool.false_or, reduceIte, Bool.or_self, Bool.false_eq_true, aThen, aBlock, Nat.reduceEqDiff]) | (refine AWp.cond rfl (fun h => ?_) (fun h => ?_) <;> (try simp only [decide_eq_true_eq, decide_eq_false_iff_not, beq_iff_eq, bne_iff_ne, ne_eq, Bool.not_eq_true', Bool.not_eq_false', beq_eq_false_iff_ne, Bool.true_eq_false, Bool.false_eq_true, Int.not_le, Int.not_lt, Bool.and_eq_true, Bool.and_eq_false_iff, Bool.or_eq_true, Bool.or_eq_false_iff, bne_eq_false_iff_eq, reduceCtorEq] at h) <;> (try first | contradiction | (exfalso; omega) | (exfalso; revert h; simp; done) | (exfalso; revert h; simp; omega)))))
    all_goals first
      | (exfalso; rcases htt with h9 | h9 | h9 | h9 | h9 <;> simp_all <;> omega)
      | (simp only [Out, outA, outL, resA, go_sem, Nat.reduceLT, Nat.reduceLeDiff, Nat.reduceEqDiff, reduceIte, Nat.reduceAdd, Nat.reduceMul, Nat.reduceSub, Int.reduceLT, Int.reduceLE, Int.reduceToNat, Int.reduceNeg, reduceCtorEq]
         exact AVle.refl _)
theorem crepl_all : ∀ xs, ShpAs Try.prog 8 Try.f5.params.toList xs → ACall Try.prog 5 xs (.lit (.bool true)) := by
  intro xs h
  have hp : Try.f5.params.toList = [43, 23, 24, 41] := by kernel_rfl
  rw [hp] at h
  obtain ⟨a, r, rfl, ha, h1⟩ := h
  obtain ⟨b, r, rfl, hb, h2⟩ := h1
  obtain ⟨c, r, rfl, hc, h3⟩ := h2
  obtain ⟨d, r, rfl, hd, h4⟩ := h3
  obtain rfl : r = [] := h4
  obtain ⟨q, rfl, h1, h2, h3, hw⟩ := qry_shape ha
  obtain ⟨w, rfl, _⟩ := win_shape hb
  obtain ⟨l, rfl, h4, hw2⟩ := ints_shape hc
  obtain ⟨x, e, h5⟩ := nodesQ_shape (shpA_one (by kernel_rfl) hd)
  obtain rfl : d = nodesV x := by simpa [nodesV] using e
  exact crepl_law q w l x h1 h2 h3 hw h4 hw2 h5
end Go.Proofs.Ytihlofhnhkhnaaa
