/-
  The walks over the reference of filters.
-/
import Derived.Test.YtmooelhocanlnaaGreatFltE
namespace Go.Proofs.YtmooelhocanlnaaGreat
open Go.AL Go.RowKit
set_option linter.unusedSimpArgs false
set_option linter.unusedVariables false
set_option maxRecDepth 10000
set_option maxHeartbeats 8000000
def dd10 : Nat → List (List Nat)
  | 0 => [[], [], [3]]
  | 1 => [[], [], [4], [5], [], [7], [6, 8]]
  | 2 => [[0, 9], [], [10], []]
  | 3 => [[9], [0], [11], [], [12, 13], [14], []]
  | _ => []
theorem newF29_c (n : Int) : ACall Tryz.prog 10 [.lit (.int .i64 n)] (.tup [.agg (newFT n).cells, .lit (.int .i64 (newFE n))]) := by
  by_cases h : n < 0 ∨ 4 ≤ n
  case' pos =>
    have hE : newFE n = 2 := if_pos h
    have hT : newFT n = zeroT := by unfold newFT; rw [hE, if_neg (by decide)]
    rw [hE, hT]
    clear hE hT
  case' neg =>
    have hE : newFE n = 0 := if_neg h
    have hT : newFT n = filtT n (-9223372036854775808) [] := by unfold newFT; rw [hE, if_pos rfl]
    rw [hE, hT]
    clear hE hT
  all_goals
    refine acall_of (n := 15) (rs := [.cell 2 37, .tmp 3]) Tryz.func10 rfl (by kernel_rfl) rfl rfl rfl ?_; simp only [argsE, Nat.reduceAdd]
  repeat (any_goals (first | (refine aops_cons (fun K' h' => ?_); simp only [go_sem, Nat.reduceLT, Nat.reduceLeDiff, Nat.reduceEqDiff, reduceIte, Nat.reduceAdd, Nat.reduceMul, Nat.reduceSub, Int.reduceLT, Int.reduceLE, Int.reduceToNat, Int.reduceNeg, reduceCtorEq, hgs, aopG, bne_self_eq_false, Bool.not_false, beq_self_eq_true]; (try simp (disch := omega) only [wrap_id, getD_map_in, Int.toNat_natCast, aopG, bne_self_eq_false, Bool.not_false, beq_self_eq_true]); (repeat (refine And.intro (by (first | omega | (simp; done) | (simp; omega) | assumption)) ?_)); refine h' _ ?_; clear h' K') | (refine aops_nil (hK _ ?_); clear hK K hgs gs; try simp only [aThen, aBlock]) | ((first | refine AWp.sreg (id := 1) dd10 rfl (fun gs K hgs hK => ?_) | refine AWp.reg (id := 1) dd10 rfl (fun gs K hgs hK => ?_)); replace hgs : gs 2 = some 6 := hgs 2) | (refine AWp.sreg  dd10 rfl (fun gs K hgs hK => ?_); replace hgs : Nat.succ 0 = 1 := rfl) | refine AWp.seq ?_ | refine ARounds.step ?_ | refine AWp.block ?_ | refine AWp.label ?_ | (refine AWp.ret ?_; try simp only [aThen, aBlock]) | (refine AWp.skip ?_; try simp only [aThen, aBlock]) | (refine AWp.exit ?_; try simp only [aThen, aBlock, Nat.reduceEqDiff, reduceIte]) | (refine AWp.reg  dd10 rfl (fun gs K hgs hK => ?_); replace hgs : Nat.succ 0 = 1 := rfl) | (refine aops_consG (fun K' h' => ?_); simp only [go_sem, Nat.reduceLT, Nat.reduceLeDiff, Nat.reduceEqDiff, reduceIte, Nat.reduceAdd, Nat.reduceMul, Nat.reduceSub, Int.reduceLT, Int.reduceLE, Int.reduceToNat, Int.reduceNeg, reduceCtorEq, hgs, aopG, bne_self_eq_false, Bool.not_false, beq_self_eq_true]; (try simp (disch := omega) only [wrap_id, getD_map_in, Int.toNat_natCast, aopG, bne_self_eq_false, Bool.not_false, beq_self_eq_true]); (repeat (refine And.intro (by (first | omega | (simp; done) | (simp; omega) | assumption)) ?_)); refine h' _ ?_; clear h' K') | (refine AWp.cond rfl (fun h => ?_) (fun h => ?_) <;> (try simp only [decide_eq_true_eq, decide_eq_false_iff_not, beq_iff_eq, bne_iff_ne, ne_eq, Bool.not_eq_true', Bool.not_eq_false', beq_eq_false_iff_ne, Bool.true_eq_false, Bool.false_eq_true, Int.not_le, Int.not_lt, Bool.and_eq_true, Bool.and_eq_false_iff, Bool.or_eq_true, Bool.or_eq_false_iff, bne_eq_false_iff_eq, reduceCtorEq] at h) <;> (try first | contradiction | (exfalso; omega) | (exfalso; revert h; simp; done) | (exfalso; revert h; simp; omega)))))
  all_goals first
    | (exfalso; omega)
    | skip
  all_goals simp only [Out, outA, outL, resA, go_sem, Nat.reduceLT, Nat.reduceLeDiff, Nat.reduceEqDiff, reduceIte, Nat.reduceAdd, Nat.reduceMul, Nat.reduceSub, Int.reduceLT, Int.reduceLE, Int.reduceToNat, Int.reduceNeg, reduceCtorEq]
  all_goals first
    | exact AVle.tup ⟨zeroT_le, AVle.refl _, trivial⟩
    | exact AVle.tup ⟨filtT_le _ _, AVle.refl _, trivial⟩
def dd21 : Nat → List (List Nat)
  | 0 => [[], [0], [1], [2], []]
  | 1 => [[], [], [10], [], [11]]
  | 2 => [[], [], [12], [13]]
  | 4 => [[21], [], [22], [], [24], [23], [25, 26]]
  | 5 => [[], [], [27], [5], [29], [30], [28, 31], [], [32, 33]]
  | 6 => [[5, 21], [7], [34]]
  | 8 => [[42], [3], [43], [44]]
  | 9 => [[45], [], [46], [5], [48], [49], [50], [51], [47, 52], [], [53, 54]]
  | 10 => [[5, 45], [7], [55]]
  | 11 => [[42], [3], [5], [58], [57, 59], [60], [], [56], [], [61], [62]]
  | 12 => [[], [9]]
  | 13 => [[63], [], [64], [8], [66], [67], [68], [65, 69], [], [70, 71]]
  | 14 => [[8, 63], [7], [72]]
  | _ => []
def fo21 : Nat → List Nat
  | 3 => [5, 6, 7, 21]
  | 7 => [3, 5, 6, 7, 42]
  | _ => []
theorem taken29_c (q : Qry) (n tn mk : Int) (m : Msg) (hq : q.fit) (hr : m.rcd.B) (hk : m.kind = 1 ∨ m.kind = 2) :
    ACall Tryz.prog 21 [.agg q.cells, .agg (Tsk.mk 2 n tn [] [mk] [] [] [] []).cells, .agg m.cells] (.agg (Tsk.mk 2 n tn (fouts q mk m) [fmark mk m] [] [] [] []).cells) := by
  have hTw := twinT_n (Tsk.mk 2 n tn [] [mk] [] [] [] []) (by simp) (by simp) (by simp) (by simp) (by simp) (by simp)
  rcases hk with hk | hk
  · have ho : fouts q mk m = if m.rt < mk then (if q.late ≠ 2 then [] else [⟨1, lateM m.rcd⟩]) else if passB q m.rcd = true then [⟨0, recM (projR q m.rcd)⟩] else [] := by unfold fouts; rw [if_neg (by omega)]
    have hf : fmark mk m = mk := by unfold fmark; rw [if_neg (by omega)]
    have hPj := projected_c q m.rcd hq hr
    rw [hf, ho]
    generalize projR q m.rcd = pr at *
    generalize passB q m.rcd = pb at *
    clear ho hf hq hr
    obtain ⟨x1, x2, x3⟩ := pr
    obtain ⟨ag, ar, sr, jn, wh, ⟨kd, sz, ev⟩, bk, lt⟩ := q
    obtain ⟨kdm, k, rt, v, tt, r1, r2, r3, r4, r5⟩ := m
    simp only at hk ⊢
    subst hk
    unfold Qry.cells Msg.cells Tsk.cells nodesV intsV sndsV mksV entsV evsV rowsV rcdsV Rcd.cells Msg.rcd lateM recM at *
    simp only [List.map_nil, List.map_cons, List.length_nil, List.length_cons, Nat.zero_add, intC] at *
    by_cases hl : rt < mk
    case' neg =>
      cases pb
      all_goals simp only [hl, Bool.false_eq_true, reduceIte]
    case' pos =>
      by_cases h2 : lt = 2
      all_goals simp only [hl, h2, not_true_eq_false, not_false_eq_true, ne_eq, Bool.false_eq_true, reduceIte]
      all_goals clear hPj
    all_goals
      refine acall_of (n := 73) (rs := [.cell 6 37]) Tryz.func21 rfl (by kernel_rfl) rfl rfl rfl ?_; simp only [argsE, Nat.reduceAdd]
    repeat (any_goals (first | ((first | refine aops_cons (fun K' h' => ?_) | refine aopsD_cons (fun K' h' => ?_)); simp only [go_sem, Nat.reduceLT, Nat.reduceLeDiff, Nat.reduceEqDiff, reduceIte, Nat.reduceAdd, Nat.reduceMul, Nat.reduceSub, Int.reduceLT, Int.reduceLE, Int.reduceToNat, Int.reduceNeg, reduceCtorEq, aopG, bne_self_eq_false, Bool.not_false, beq_self_eq_true]; (try ((first | refine ⟨_, hPj, ?_⟩ | refine ⟨_, fun _ => hPj, ?_⟩); (try simp only [go_sem, Nat.reduceLT, Nat.reduceLeDiff, Nat.reduceEqDiff, reduceIte, Nat.reduceAdd, Nat.reduceMul, Nat.reduceSub, Int.reduceLT, Int.reduceLE, Int.reduceToNat, Int.reduceNeg, reduceCtorEq, aopG, bne_self_eq_false, Bool.not_false, beq_self_eq_true]))); (try simp (disch := omega) only [wrap_id, getD_map_in, Int.toNat_natCast, aopG, bne_self_eq_false, Bool.not_false, beq_self_eq_true]); (repeat (refine And.intro (by (first | omega | (simp; done) | (simp; omega) | assumption)) ?_)); refine h' _ ?_; clear h' K') | (refine aops_nil (hK _ ?_); clear hK K gs; try simp only [aThen, aBlock]) | (refine aops_consN  (fun K' h' => ?_); simp only [go_sem, Nat.reduceLT, Nat.reduceLeDiff, Nat.reduceEqDiff, reduceIte, Nat.reduceAdd, Nat.reduceMul, Nat.reduceSub, Int.reduceLT, Int.reduceLE, Int.reduceToNat, Int.reduceNeg, reduceCtorEq, aopG, bne_self_eq_false, Bool.not_false, beq_self_eq_true]; refine ⟨_, _, hTw, ?_⟩; (try simp only [go_sem, Nat.reduceLT, Nat.reduceLeDiff, Nat.reduceEqDiff, reduceIte, Nat.reduceAdd, Nat.reduceMul, Nat.reduceSub, Int.reduceLT, Int.reduceLE, Int.reduceToNat, Int.reduceNeg, reduceCtorEq, aopG, bne_self_eq_false, Bool.not_false, beq_self_eq_true]); (repeat (refine And.intro (by (first | omega | (simp; done) | (simp; omega) | assumption)) ?_)); refine h' _ ?_; clear h' K') | (refine AWp.sreg  dd21 rfl (fun gs K hgs hK => ?_); clear hgs) | refine AWp.seq ?_ | refine ARounds.step ?_ | refine AWp.block ?_ | refine AWp.label ?_ | (refine AWp.ret ?_; try simp only [aThen, aBlock]) | (refine AWp.skip ?_; try simp only [aThen, aBlock]) | (refine AWp.exit ?_; try simp only [aThen, aBlock, Nat.reduceEqDiff, reduceIte]) | (refine AWp.reg  dd21 rfl (fun gs K hgs hK => ?_); clear hgs) | ((first | refine AWp.sregD  fo21 mo_fact (by kernel_rfl) (fun gs K hgs hK => ?_) | refine AWp.regD  fo21 mo_fact (by kernel_rfl) (fun gs K hgs hK => ?_)); clear hgs) | (refine aopsD_nil (hK _ ?_); clear hK K gs; simp only [fo21]; simp only [ASt.prune, pruneE, keepB, keepR, Bool.or_false, Bool.or_true, Bool.true_or, Bool.false_or, reduceIte, Bool.or_self, Bool.false_eq_true, aThen, aBlock, Nat.reduceEqDiff]) | (refine AWp.cond rfl (fun h => ?_) (fun h => ?_) <;> (try simp only [decide_eq_true_eq, decide_eq_false_iff_not, beq_iff_eq, bne_iff_ne, ne_eq, Bool.not_eq_true', Bool.not_eq_false', beq_eq_false_iff_ne, Bool.true_eq_false, Bool.false_eq_true, Int.not_le, Int.not_lt, Bool.and_eq_true, Bool.and_eq_false_iff, Bool.or_eq_true, Bool.or_eq_false_iff, bne_eq_false_iff_eq, reduceCtorEq] at h) <;> (try first | contradiction | (exfalso; omega) | (exfalso; revert h; simp; done) | (exfalso; revert h; simp; omega)))))
    all_goals first
      | (exfalso; omega)
      | skip
    all_goals simp only [Out, outA, outL, resA, go_sem, Nat.reduceLT, Nat.reduceLeDiff, Nat.reduceEqDiff, reduceIte, Nat.reduceAdd, Nat.reduceMul, Nat.reduceSub, Int.reduceLT, Int.reduceLE, Int.reduceToNat, Int.reduceNeg, reduceCtorEq]
    all_goals first
      | exact AVle.refl _
      | exact AVle.of_eq (by simp [Snd.cells, Msg.cells])
  · have ho : fouts q mk m = if m.time ≤ mk then [] else [⟨0, m⟩] := by unfold fouts; rw [if_pos hk]
    have hf : fmark mk m = if m.time ≤ mk then mk else m.time := by unfold fmark; rw [if_pos hk]
    rw [hf, ho]
    clear ho hf hq hr
    obtain ⟨ag, ar, sr, jn, wh, ⟨kd, sz, ev⟩, bk, lt⟩ := q
    obtain ⟨kdm, k, rt, v, tt, r1, r2, r3, r4, r5⟩ := m
    simp only at hk ⊢
    subst hk
    unfold Qry.cells Msg.cells Tsk.cells nodesV intsV sndsV mksV entsV evsV rowsV rcdsV at *
    simp only [List.map_nil, List.map_cons, List.length_nil, List.length_cons, Nat.zero_add, intC] at *
    by_cases hl : tt ≤ mk
    all_goals simp only [hl, reduceIte]
    all_goals
      refine acall_of (n := 73) (rs := [.cell 6 37]) Tryz.func21 rfl (by kernel_rfl) rfl rfl rfl ?_; simp only [argsE, Nat.reduceAdd]
    repeat (any_goals (first | ((first | refine aops_cons (fun K' h' => ?_) | refine aopsD_cons (fun K' h' => ?_)); simp only [go_sem, Nat.reduceLT, Nat.reduceLeDiff, Nat.reduceEqDiff, reduceIte, Nat.reduceAdd, Nat.reduceMul, Nat.reduceSub, Int.reduceLT, Int.reduceLE, Int.reduceToNat, Int.reduceNeg, reduceCtorEq, aopG, bne_self_eq_false, Bool.not_false, beq_self_eq_true]; (try ((first | refine ⟨_, hPj, ?_⟩ | refine ⟨_, fun _ => hPj, ?_⟩); (try simp only [go_sem, Nat.reduceLT, Nat.reduceLeDiff, Nat.reduceEqDiff, reduceIte, Nat.reduceAdd, Nat.reduceMul, Nat.reduceSub, Int.reduceLT, Int.reduceLE, Int.reduceToNat, Int.reduceNeg, reduceCtorEq, aopG, bne_self_eq_false, Bool.not_false, beq_self_eq_true]))); (try simp (disch := omega) only [wrap_id, getD_map_in, Int.toNat_natCast, aopG, bne_self_eq_false, Bool.not_false, beq_self_eq_true]); (repeat (refine And.intro (by (first | omega | (simp; done) | (simp; omega) | assumption)) ?_)); refine h' _ ?_; clear h' K') | (refine aops_nil (hK _ ?_); clear hK K gs; try simp only [aThen, aBlock]) | (refine aops_consN  (fun K' h' => ?_); simp only [go_sem, Nat.reduceLT, Nat.reduceLeDiff, Nat.reduceEqDiff, reduceIte, Nat.reduceAdd, Nat.reduceMul, Nat.reduceSub, Int.reduceLT, Int.reduceLE, Int.reduceToNat, Int.reduceNeg, reduceCtorEq, aopG, bne_self_eq_false, Bool.not_false, beq_self_eq_true]; refine ⟨_, _, hTw, ?_⟩; (try simp only [go_sem, Nat.reduceLT, Nat.reduceLeDiff, Nat.reduceEqDiff, reduceIte, Nat.reduceAdd, Nat.reduceMul, Nat.reduceSub, Int.reduceLT, Int.reduceLE, Int.reduceToNat, Int.reduceNeg, reduceCtorEq, aopG, bne_self_eq_false, Bool.not_false, beq_self_eq_true]); (repeat (refine And.intro (by (first | omega | (simp; done) | (simp; omega) | assumption)) ?_)); refine h' _ ?_; clear h' K') | (refine AWp.sreg  dd21 rfl (fun gs K hgs hK => ?_); clear hgs) | refine AWp.seq ?_ | refine ARounds.step ?_ | refine AWp.block ?_ | refine AWp.label ?_ | (refine AWp.ret ?_; try simp only [aThen, aBlock]) | (refine AWp.skip ?_; try simp only [aThen, aBlock]) | (refine AWp.exit ?_; try simp only [aThen, aBlock, Nat.reduceEqDiff, reduceIte]) | (refine AWp.reg  dd21 rfl (fun gs K hgs hK => ?_); clear hgs) | ((first | refine AWp.sregD  fo21 mo_fact (by kernel_rfl) (fun gs K hgs hK => ?_) | refine AWp.regD  fo21 mo_fact (by kernel_rfl) (fun gs K hgs hK => ?_)); clear hgs) | (refine aopsD_nil (hK _ ?_); clear hK K gs; simp only [fo21]; simp only [ASt.prune, pruneE, keepB, keepR, Bool.or_false, Bool.or_true, Bool.true_or, Bool.false_or, reduceIte, Bool.or_self, Bool.false_eq_true, aThen, aBlock, Nat.reduceEqDiff]) | (refine AWp.cond rfl (fun h => ?_) (fun h => ?_) <;> (try simp only [decide_eq_true_eq, decide_eq_false_iff_not, beq_iff_eq, bne_iff_ne, ne_eq, Bool.not_eq_true', Bool.not_eq_false', beq_eq_false_iff_ne, Bool.true_eq_false, Bool.false_eq_true, Int.not_le, Int.not_lt, Bool.and_eq_true, Bool.and_eq_false_iff, Bool.or_eq_true, Bool.or_eq_false_iff, bne_eq_false_iff_eq, reduceCtorEq] at h) <;> (try first | contradiction | (exfalso; omega) | (exfalso; revert h; simp; done) | (exfalso; revert h; simp; omega)))))
    all_goals first
      | (exfalso; omega)
      | skip
    all_goals simp only [Out, outA, outL, resA, go_sem, Nat.reduceLT, Nat.reduceLeDiff, Nat.reduceEqDiff, reduceIte, Nat.reduceAdd, Nat.reduceMul, Nat.reduceSub, Int.reduceLT, Int.reduceLE, Int.reduceToNat, Int.reduceNeg, reduceCtorEq]
    all_goals first
      | exact AVle.refl _
      | exact AVle.of_eq (by simp [Snd.cells, Msg.cells])
def dd8 : Nat → List (List Nat)
  | 0 => [[], [0], [1], [2], [], [7]]
  | 1 => [[], [], [9], [10]]
  | 2 => [[3, 4, 5, 11], [], [12], []]
  | 3 => [[11], [], [13], [14]]
  | 4 => [[], [], [15]]
  | 5 => [[3, 4, 5, 16], [], [8], [17], [18]]
  | 6 => [[8, 16], [], [19], [20], [21]]
  | 7 => [[3, 4, 5, 22], [], [23], []]
  | 8 => [[22], [], [24], [25]]
  | 9 => [[3, 4, 5, 26], [], [27], []]
  | 10 => [[26], [], [28], [29], [30]]
  | 11 => [[3, 4, 5, 31], [], [32], []]
  | 12 => [[31], [3], [4], [5], [33, 34, 35], [36], []]
  | _ => []
theorem take29_c (q : Qry) (t : Tsk) (m : Msg) (hq : q.fit) (hok : t.ok) (hr : m.rcd.B) : ACall Tryz.prog 8 [.agg q.cells, .agg t.cells, .agg m.cells] (.tup [.agg (tkT q t m).cells, .lit (.int .i64 (tkE q t m))]) := by
  have hAc := accepted29_c q hq
  have hCk := tCheck27_c t hok
  have hCr := carrF_c m
  by_cases hgood : tkE q t m = 0
  · obtain ⟨a1, a2, a3, a4, a5⟩ := tkE_good hgood
    obtain ⟨mk, e⟩ := tk_shape a2 a3 a5
    have hT : tkT q t m = ⟨2, t.n, t.turn, fouts q mk m, [fmark mk m], [], [], [], []⟩ := by
      unfold tkT
      rw [if_pos hgood, e]
      rfl
    have hTk := taken29_c q t.n t.turn mk m hq hr (carrF_yes a4).2
    rw [hT, hgood]
    rw [a2, e] at hCk
    rw [a1] at hAc
    rw [a4] at hCr
    rw [e]
    simp only
    generalize t.n = tnn at *
    generalize t.turn = tnt at *
    generalize fouts q mk m = fo at *
    generalize fmark mk m = fm at *
    clear hT a1 a2 a3 a4 a5 e hgood hq hok hr
    obtain ⟨ag, ar, sr, jn, wh, ⟨kd, sz, ev⟩, bk, lt⟩ := q
    obtain ⟨kdm, k, rt, v, tt, r1, r2, r3, r4, r5⟩ := m
    unfold Qry.cells Msg.cells Tsk.cells nodesV intsV sndsV mksV entsV evsV rowsV rcdsV at *
    simp only [List.map_nil, List.map_cons, List.length_nil, List.length_cons, intC] at *
    refine acall_of (n := 37) (rs := [.cell 6 37, .tmp 7]) Tryz.func8 rfl (by kernel_rfl) rfl rfl rfl ?_; simp only [argsE, Nat.reduceAdd]
    repeat (any_goals (first | (refine aops_cons (fun K' h' => ?_); simp only [go_sem, Nat.reduceLT, Nat.reduceLeDiff, Nat.reduceEqDiff, reduceIte, Nat.reduceAdd, Nat.reduceMul, Nat.reduceSub, Int.reduceLT, Int.reduceLE, Int.reduceToNat, Int.reduceNeg, reduceCtorEq, aopG, bne_self_eq_false, Bool.not_false, beq_self_eq_true]; (try ((first | refine ⟨_, hAc, ?_⟩ | refine ⟨_, fun _ => hAc, ?_⟩ | refine ⟨_, hCk, ?_⟩ | refine ⟨_, fun _ => hCk, ?_⟩ | refine ⟨_, hCr, ?_⟩ | refine ⟨_, fun _ => hCr, ?_⟩ | refine ⟨_, hTk, ?_⟩ | refine ⟨_, fun _ => hTk, ?_⟩); (try simp only [go_sem, Nat.reduceLT, Nat.reduceLeDiff, Nat.reduceEqDiff, reduceIte, Nat.reduceAdd, Nat.reduceMul, Nat.reduceSub, Int.reduceLT, Int.reduceLE, Int.reduceToNat, Int.reduceNeg, reduceCtorEq, aopG, bne_self_eq_false, Bool.not_false, beq_self_eq_true]))); (try simp (disch := omega) only [wrap_id, getD_map_in, Int.toNat_natCast, aopG, bne_self_eq_false, Bool.not_false, beq_self_eq_true]); (repeat (refine And.intro (by (first | omega | (simp; done) | (simp; omega) | assumption)) ?_)); refine h' _ ?_; clear h' K') | (refine aops_nil (hK _ ?_); clear hK K gs; try simp only [aThen, aBlock]) | (refine AWp.sreg  dd8 rfl (fun gs K hgs hK => ?_); clear hgs) | refine AWp.seq ?_ | refine ARounds.step ?_ | refine AWp.block ?_ | refine AWp.label ?_ | (refine AWp.ret ?_; try simp only [aThen, aBlock]) | (refine AWp.skip ?_; try simp only [aThen, aBlock]) | (refine AWp.exit ?_; try simp only [aThen, aBlock, Nat.reduceEqDiff, reduceIte]) | (refine AWp.reg  dd8 rfl (fun gs K hgs hK => ?_); clear hgs) | (refine AWp.cond rfl (fun h => ?_) (fun h => ?_) <;> (try simp only [decide_eq_true_eq, decide_eq_false_iff_not, beq_iff_eq, bne_iff_ne, ne_eq, Bool.not_eq_true', Bool.not_eq_false', beq_eq_false_iff_ne, Bool.true_eq_false, Bool.false_eq_true, Int.not_le, Int.not_lt, Bool.and_eq_true, Bool.and_eq_false_iff, Bool.or_eq_true, Bool.or_eq_false_iff, bne_eq_false_iff_eq, reduceCtorEq] at h) <;> (try first | contradiction | (exfalso; omega) | (exfalso; revert h; simp; done) | (exfalso; revert h; simp; omega)))))
    all_goals first
      | (exfalso; omega)
      | skip
    all_goals simp only [Out, outA, outL, resA, go_sem, Nat.reduceLT, Nat.reduceLeDiff, Nat.reduceEqDiff, reduceIte, Nat.reduceAdd, Nat.reduceMul, Nat.reduceSub, Int.reduceLT, Int.reduceLE, Int.reduceToNat, Int.reduceNeg, reduceCtorEq]
    all_goals exact AVle.refl _
  · have hT : tkT q t m = zeroT := by unfold tkT; rw [if_neg hgood]
    have hE : tkE q t m = if accE q ≠ 0 then 8 else if tskE t ≠ 0 then tskE t else if t.kind ≠ 2 then 2 else if carrF m = false then 8 else if 0 < t.pend.length then 18 else 0 := rfl
    have hz := zeroT_le
    rw [hT]
    clear hT hq hr
    obtain ⟨R, hR⟩ : ∃ R, R = AV.tup [.agg zeroT.cells, .lit (.int .i64 (tkE q t m))] := ⟨_, rfl⟩
    rw [← hR]
    generalize tkE q t m = te at *
    generalize accE q = ac at *
    generalize tskE t = ts at *
    generalize carrF m = cm at *
    generalize zeroT = zt at *
    obtain ⟨h1, -, -, -, -, -⟩ := hok
    obtain ⟨ag, ar, sr, jn, wh, ⟨kd, sz, ev⟩, bk, lt⟩ := q
    obtain ⟨tk, n, tn, pe, mks, st, evs, rw_, lat⟩ := t
    obtain ⟨kdm, k, rt, v, tt, r1, r2, r3, r4, r5⟩ := m
    unfold maxLen at h1
    unfold Qry.cells Msg.cells nodesV intsV at *
    rw [show (Tsk.mk tk n tn pe mks st evs rw_ lat).cells = [.lit (.int .u8 tk), .lit (.int .i64 n), .lit (.int .i64 tn), .ro 11 (pe.map Snd.cells), .ro 1 (mks.map intC), .ro 11 (st.map Ent.cells), .ro 5 (evs.map Ev.cells), .ro 5 (rw_.map RowT.cells), .ro 3 (lat.map Rcd.cells)] from rfl] at *
    simp only at *
    obtain ⟨db, hdb⟩ : ∃ b, decide (ac = 0) = b := ⟨_, rfl⟩
    rw [hdb] at hAc
    have key : (db = false ∧ te = 8) ∨ (db = true ∧ ts ≠ 0 ∧ te = ts) ∨ (db = true ∧ ts = 0 ∧ tk ≠ 2 ∧ te = 2) ∨ (db = true ∧ ts = 0 ∧ tk = 2 ∧ cm = false ∧ te = 8) ∨ (db = true ∧ ts = 0 ∧ tk = 2 ∧ cm = true ∧ 0 < pe.length ∧ te = 18) := by
      rw [← hdb]
      by_cases c1 : ac = 0
      · rw [if_neg (fun h => h c1)] at hE
        by_cases c2 : ts = 0
        · rw [if_neg (fun h => h c2)] at hE
          by_cases c3 : tk = 2
          · rw [if_neg (fun h => h c3)] at hE
            cases cm
            · rw [if_pos rfl] at hE
              exact .inr (.inr (.inr (.inl ⟨decide_eq_true c1, c2, c3, rfl, hE⟩)))
            · rw [if_neg (by simp)] at hE
              have hp : 0 < pe.length := by
                split at hE
                · assumption
                · exact absurd hE hgood
              rw [if_pos hp] at hE
              exact .inr (.inr (.inr (.inr ⟨decide_eq_true c1, c2, c3, rfl, hp, hE⟩)))
          · rw [if_pos c3] at hE
            exact .inr (.inr (.inl ⟨decide_eq_true c1, c2, c3, hE⟩))
        · rw [if_pos c2] at hE
          exact .inr (.inl ⟨decide_eq_true c1, c2, hE⟩)
      · rw [if_pos c1] at hE
        exact .inl ⟨decide_eq_false c1, hE⟩
    clear hE hdb
    rcases key with ⟨rfl, rfl⟩ | ⟨rfl, c2, rfl⟩ | ⟨rfl, rfl, c3, rfl⟩ | ⟨rfl, rfl, rfl, rfl, rfl⟩ | ⟨rfl, rfl, rfl, rfl, hp, rfl⟩
    all_goals
      refine acall_of (n := 37) (rs := [.cell 6 37, .tmp 7]) Tryz.func8 rfl (by kernel_rfl) rfl rfl rfl ?_; simp only [argsE, Nat.reduceAdd]
    repeat (any_goals (first | (refine aops_cons (fun K' h' => ?_); simp only [go_sem, Nat.reduceLT, Nat.reduceLeDiff, Nat.reduceEqDiff, reduceIte, Nat.reduceAdd, Nat.reduceMul, Nat.reduceSub, Int.reduceLT, Int.reduceLE, Int.reduceToNat, Int.reduceNeg, reduceCtorEq, aopG, bne_self_eq_false, Bool.not_false, beq_self_eq_true]; (try ((first | refine ⟨_, hAc, ?_⟩ | refine ⟨_, fun _ => hAc, ?_⟩ | refine ⟨_, hCk, ?_⟩ | refine ⟨_, fun _ => hCk, ?_⟩ | refine ⟨_, hCr, ?_⟩ | refine ⟨_, fun _ => hCr, ?_⟩ | refine ⟨_, hTk, ?_⟩ | refine ⟨_, fun _ => hTk, ?_⟩); (try simp only [go_sem, Nat.reduceLT, Nat.reduceLeDiff, Nat.reduceEqDiff, reduceIte, Nat.reduceAdd, Nat.reduceMul, Nat.reduceSub, Int.reduceLT, Int.reduceLE, Int.reduceToNat, Int.reduceNeg, reduceCtorEq, aopG, bne_self_eq_false, Bool.not_false, beq_self_eq_true]))); (try simp (disch := omega) only [wrap_id, getD_map_in, Int.toNat_natCast, aopG, bne_self_eq_false, Bool.not_false, beq_self_eq_true]); (repeat (refine And.intro (by (first | omega | (simp; done) | (simp; omega) | assumption)) ?_)); refine h' _ ?_; clear h' K') | (refine aops_nil (hK _ ?_); clear hK K gs; try simp only [aThen, aBlock]) | (refine AWp.sreg  dd8 rfl (fun gs K hgs hK => ?_); clear hgs) | refine AWp.seq ?_ | refine ARounds.step ?_ | refine AWp.block ?_ | refine AWp.label ?_ | (refine AWp.ret ?_; try simp only [aThen, aBlock]) | (refine AWp.skip ?_; try simp only [aThen, aBlock]) | (refine AWp.exit ?_; try simp only [aThen, aBlock, Nat.reduceEqDiff, reduceIte]) | (refine AWp.reg  dd8 rfl (fun gs K hgs hK => ?_); clear hgs) | (refine AWp.cond rfl (fun h => ?_) (fun h => ?_) <;> (try simp only [decide_eq_true_eq, decide_eq_false_iff_not, beq_iff_eq, bne_iff_ne, ne_eq, Bool.not_eq_true', Bool.not_eq_false', beq_eq_false_iff_ne, Bool.true_eq_false, Bool.false_eq_true, Int.not_le, Int.not_lt, Bool.and_eq_true, Bool.and_eq_false_iff, Bool.or_eq_true, Bool.or_eq_false_iff, bne_eq_false_iff_eq, reduceCtorEq] at h) <;> (try first | contradiction | (exfalso; omega) | (exfalso; revert h; simp; done) | (exfalso; revert h; simp; omega)))))
    all_goals first
      | (exfalso; omega)
      | (simp only [Out, outA, outL, resA, go_sem, Nat.reduceLT, Nat.reduceLeDiff, Nat.reduceEqDiff, reduceIte, Nat.reduceAdd, Nat.reduceMul, Nat.reduceSub, Int.reduceLT, Int.reduceLE, Int.reduceToNat, Int.reduceNeg, reduceCtorEq]
         rw [hR]
         exact AVle.tup ⟨hz, AVle.refl _, trivial⟩)
end Go.Proofs.YtmooelhocanlnaaGreat
