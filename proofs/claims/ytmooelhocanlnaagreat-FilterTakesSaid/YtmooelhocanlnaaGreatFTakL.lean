/-
  The law FilterTakes.
-/
import Derived.Test.YtmooelhocanlnaaGreatFltR
import Derived.Test.YtmooelhocanlnaaGreatFShp
import Derived.Test.YtmooelhocanlnaaGreatTskS
namespace Go.Proofs.YtmooelhocanlnaaGreat
open Go.AL Go.RowKit
set_option linter.unusedSimpArgs false
set_option linter.unusedVariables false
set_option maxRecDepth 10000
set_option maxHeartbeats 8000000
theorem great_few3 {t : Tsk} (hok : t.ok) (h : greatT t = false) : t.few := by
  unfold greatT gN at h
  simp only [Bool.or_eq_false_iff, decide_eq_false_iff_not] at h
  obtain ⟨h1, h2, h3, h4, h5, h6⟩ := h
  exact ⟨by omega, by omega, by omega, by omega, by omega, by omega⟩
theorem zeroT_ok : zeroT.ok := ⟨by simp [zeroT], by simp [zeroT], by simp [zeroT], by simp [zeroT], by simp [zeroT], by simp [zeroT]⟩
theorem newFT_ok (n : Int) : (newFT n).ok := by
  unfold newFT
  split
  · exact ⟨by simp [filtT], by simp [filtT, maxLen], by simp [filtT], by simp [filtT], by simp [filtT], by simp [filtT]⟩
  · exact zeroT_ok
theorem fouts_len (q : Qry) (mk : Int) (m : Msg) : (fouts q mk m).length ≤ 1 := by
  unfold fouts
  repeat' split
  all_goals simp
theorem tkT_ok {q : Qry} {t : Tsk} {m : Msg} (hok : t.ok) : (tkT q t m).ok := by
  unfold tkT
  split
  · refine ⟨?_, ?_, hok.s, hok.e, hok.r, hok.l⟩
    · have := fouts_len q (t.marks.getD 0 default) m
      unfold maxLen
      simp only
      omega
    · simp [maxLen]
  · exact zeroT_ok
theorem fit_of {q : Qry} (h : greatF q = false) (hb : ∀ x ∈ q.src, -9223372036854775808 ≤ x ∧ x ≤ 9223372036854775807) (n1 : nodesB q.arg) (n2 : nodesB q.wh) : q.fit := by
  unfold greatF at h
  simp only [Bool.or_eq_false_iff, decide_eq_false_iff_not] at h
  exact ⟨by omega, by omega, by omega, hb, n1, n2⟩
def dd3 : Nat → List (List Nat)
  | 0 => [[], [0], [1], [2], [8]]
  | 1 => [[], [], [18], [19], [], [21], [20, 22]]
  | 2 => [[3, 4, 5, 6, 23], []]
  | 3 => [[23], [], [24], [], [25]]
  | 4 => [[], [], [], [], [27, 28, 29], [30], [], [26], [], [31], [32]]
  | 5 => [[], [4], [], [6], [34, 35, 36], [37], [], [33], [], [38], [39]]
  | 6 => [[], [], [41], [42], [], [40], [], [43], [44]]
  | 7 => [[], [3], [46], [47], [], [45], [], [48], [49]]
  | 8 => [[], [10], [12], [50, 51], [52], [11], [13], [54, 55], [53, 56], [57], [14], [16], [59, 60], [58, 61], [62], [15], [17], [64, 65], [63, 66], [67], [5], [9], [69, 70], [68, 71], [72]]
  | _ => []
theorem ftakes_law (q : Qry) (t : Tsk) (m : Msg) (n : Int) (h1 : q.arg.length ≤ maxLen) (h2 : q.wh.length ≤ maxLen) (h3 : q.src.length ≤ maxLen) (hb : ∀ x ∈ q.src, -9223372036854775808 ≤ x ∧ x ≤ 9223372036854775807) (n1 : nodesB q.arg) (n2 : nodesB q.wh) (hok : t.ok) (hr : m.rcd.B) :
    ACall Tryz.prog 3 [.agg q.cells, .agg t.cells, .agg m.cells, .lit (.int .i64 n)] (.lit (.bool true)) := by
  have hGq := greatF_c q h1 h2 h3
  have hGr := greatT_c t hok
  by_cases hall : greatF q = false ∧ greatT t = false
  · obtain ⟨hg1, hg2⟩ := hall
    have hq := fit_of hg1 hb n1 n2
    have hf := great_few3 hok hg2
    rw [hg1] at hGq
    rw [hg2] at hGr
    have hTw := (fun (f : t.few) => match f with | ⟨f1, f2, f3, f4, f5, f6⟩ => twinT_c t f1 f2 f3 f4 f5 f6) hf
    have hN1 := newF_c n
    have hN2 := newF29_c n
    have hT1 := takeF_c q t m hq hok hr
    have hT2 := take29_c q t m hq hok hr
    have hS1 := sameT_c (newFT n) (newFT n) (newFT_ok n) (newFT_ok n)
    have hS2 := sameT_c (tkT q t m) (tkT q t m) (tkT_ok hok) (tkT_ok hok)
    have hS3 := sameT_c t t hok hok
    rw [decide_eq_true rfl] at hS1 hS2 hS3
    generalize newFT n = tn at *
    generalize newFE n = xn at *
    generalize tkT q t m = tt at *
    generalize tkE q t m = et at *
    clear hg1 hg2 hq hf hok hr hb n1 n2
    obtain ⟨ag, ar, sr, jn, wh, ⟨kd, sz, ev⟩, bk, lt⟩ := q
    obtain ⟨kd1, nn1, tn1, pe1, mk1, st1, ev1, rw_1, lt1⟩ := t
    obtain ⟨kd2, nn2, tn2, pe2, mk2, st2, ev2, rw_2, lt2⟩ := tn
    obtain ⟨kd3, nn3, tn3, pe3, mk3, st3, ev3, rw_3, lt3⟩ := tt
    obtain ⟨mkd, mkk, mrt, mvv, mtt, p1, p2, p3, p4, p5⟩ := m
    unfold Qry.cells nodesV intsV Msg.cells at *
    unfold Tsk.cells sndsV mksV entsV evsV rowsV rcdsV at *
    simp only at *
    refine acall_of (n := 73) (rs := [.tmp 8]) Tryz.func3 rfl (by kernel_rfl) rfl rfl rfl ?_; simp only [argsE, Nat.reduceAdd]
    repeat (any_goals (first | (refine aops_cons (fun K' h' => ?_); simp only [go_sem, Nat.reduceLT, Nat.reduceLeDiff, Nat.reduceEqDiff, reduceIte, Nat.reduceAdd, Nat.reduceMul, Nat.reduceSub, Int.reduceLT, Int.reduceLE, Int.reduceToNat, Int.reduceNeg, reduceCtorEq, hgs, aopG, bne_self_eq_false, Bool.not_false, beq_self_eq_true]; (try ((first | refine ⟨_, hGq, ?_⟩ | refine ⟨_, fun _ => hGq, ?_⟩ | refine ⟨_, hGr, ?_⟩ | refine ⟨_, fun _ => hGr, ?_⟩ | refine ⟨_, hTw, ?_⟩ | refine ⟨_, fun _ => hTw, ?_⟩ | refine ⟨_, hT1, ?_⟩ | refine ⟨_, fun _ => hT1, ?_⟩ | refine ⟨_, hT2, ?_⟩ | refine ⟨_, fun _ => hT2, ?_⟩ | refine ⟨_, hN1, ?_⟩ | refine ⟨_, fun _ => hN1, ?_⟩ | refine ⟨_, hN2, ?_⟩ | refine ⟨_, fun _ => hN2, ?_⟩ | refine ⟨_, hS1, ?_⟩ | refine ⟨_, fun _ => hS1, ?_⟩ | refine ⟨_, hS2, ?_⟩ | refine ⟨_, fun _ => hS2, ?_⟩ | refine ⟨_, hS3, ?_⟩ | refine ⟨_, fun _ => hS3, ?_⟩); (try simp only [go_sem, Nat.reduceLT, Nat.reduceLeDiff, Nat.reduceEqDiff, reduceIte, Nat.reduceAdd, Nat.reduceMul, Nat.reduceSub, Int.reduceLT, Int.reduceLE, Int.reduceToNat, Int.reduceNeg, reduceCtorEq, hgs, aopG, bne_self_eq_false, Bool.not_false, beq_self_eq_true]))); (try simp (disch := omega) only [wrap_id, getD_map_in, Int.toNat_natCast, aopG, bne_self_eq_false, Bool.not_false, beq_self_eq_true]); (repeat (refine And.intro (by (first | omega | (simp; done) | (simp; omega) | assumption)) ?_)); refine h' _ ?_; clear h' K') | (refine aops_nil (hK _ ?_); clear hK K hgs gs; try simp only [aThen, aBlock]) | ((first | refine AWp.sreg (id := 1) dd3 rfl (fun gs K hgs hK => ?_) | refine AWp.reg (id := 1) dd3 rfl (fun gs K hgs hK => ?_)); replace hgs : gs 2 = some 20 := hgs 2) | ((first | refine AWp.sreg (id := 8) dd3 rfl (fun gs K hgs hK => ?_) | refine AWp.reg (id := 8) dd3 rfl (fun gs K hgs hK => ?_)); replace hgs : gs 3 = some 53 ∧ gs 8 = some 58 ∧ gs 13 = some 63 ∧ gs 18 = some 68 := ⟨hgs 3, hgs 8, hgs 13, hgs 18⟩) | (refine AWp.sreg  dd3 rfl (fun gs K hgs hK => ?_); replace hgs : Nat.succ 0 = 1 := rfl) | refine AWp.seq ?_ | refine ARounds.step ?_ | refine AWp.block ?_ | refine AWp.label ?_ | (refine AWp.ret ?_; try simp only [aThen, aBlock]) | (refine AWp.skip ?_; try simp only [aThen, aBlock]) | (refine AWp.exit ?_; try simp only [aThen, aBlock, Nat.reduceEqDiff, reduceIte]) | (refine AWp.reg  dd3 rfl (fun gs K hgs hK => ?_); replace hgs : Nat.succ 0 = 1 := rfl) | (refine aops_consG (fun K' h' => ?_); simp only [go_sem, Nat.reduceLT, Nat.reduceLeDiff, Nat.reduceEqDiff, reduceIte, Nat.reduceAdd, Nat.reduceMul, Nat.reduceSub, Int.reduceLT, Int.reduceLE, Int.reduceToNat, Int.reduceNeg, reduceCtorEq, hgs, aopG, bne_self_eq_false, Bool.not_false, beq_self_eq_true]; (try simp (disch := omega) only [wrap_id, getD_map_in, Int.toNat_natCast, aopG, bne_self_eq_false, Bool.not_false, beq_self_eq_true]); (repeat (refine And.intro (by (first | omega | (simp; done) | (simp; omega) | assumption)) ?_)); refine h' _ ?_; clear h' K') | (refine AWp.cond rfl (fun h => ?_) (fun h => ?_) <;> (try simp only [decide_eq_true_eq, decide_eq_false_iff_not, beq_iff_eq, bne_iff_ne, ne_eq, Bool.not_eq_true', Bool.not_eq_false', beq_eq_false_iff_ne, Bool.true_eq_false, Bool.false_eq_true, Int.not_le, Int.not_lt, Bool.and_eq_true, Bool.and_eq_false_iff, Bool.or_eq_true, Bool.or_eq_false_iff, bne_eq_false_iff_eq, reduceCtorEq] at h) <;> (try first | contradiction | (exfalso; omega) | (exfalso; revert h; simp; done) | (exfalso; revert h; simp; omega)))))
    all_goals simp only [Out, outA, outL, resA, go_sem, Nat.reduceLT, Nat.reduceLeDiff, Nat.reduceEqDiff, reduceIte, Nat.reduceAdd, Nat.reduceMul, Nat.reduceSub, Int.reduceLT, Int.reduceLE, Int.reduceToNat, Int.reduceNeg, reduceCtorEq]
    all_goals exact AVle.of_eq (by simp)
  · obtain ⟨g1, e1⟩ : ∃ g, greatF q = g := ⟨_, rfl⟩
    obtain ⟨g2, e2⟩ : ∃ g, greatT t = g := ⟨_, rfl⟩
    rw [e1, e2] at hall
    rw [e1] at hGq
    rw [e2] at hGr
    clear e1 e2 hb n1 n2 hok hr
    obtain ⟨ag, ar, sr, jn, wh, ⟨kd, sz, ev⟩, bk, lt⟩ := q
    obtain ⟨kd1, nn1, tn1, pe1, mk1, st1, ev1, rw_1, lt1⟩ := t
    obtain ⟨mkd, mkk, mrt, mvv, mtt, p1, p2, p3, p4, p5⟩ := m
    unfold Qry.cells nodesV intsV Msg.cells at *
    unfold Tsk.cells sndsV mksV entsV evsV rowsV rcdsV at *
    simp only at *
    cases g1 <;> cases g2
    all_goals first
      | exact absurd ⟨rfl, rfl⟩ hall
      | skip
    all_goals
      refine acall_of (n := 73) (rs := [.tmp 8]) Tryz.func3 rfl (by kernel_rfl) rfl rfl rfl ?_; simp only [argsE, Nat.reduceAdd]
      repeat (any_goals (first | (refine aops_cons (fun K' h' => ?_); simp only [go_sem, Nat.reduceLT, Nat.reduceLeDiff, Nat.reduceEqDiff, reduceIte, Nat.reduceAdd, Nat.reduceMul, Nat.reduceSub, Int.reduceLT, Int.reduceLE, Int.reduceToNat, Int.reduceNeg, reduceCtorEq, hgs, aopG, bne_self_eq_false, Bool.not_false, beq_self_eq_true]; (try ((first | refine ⟨_, hGq, ?_⟩ | refine ⟨_, fun _ => hGq, ?_⟩ | refine ⟨_, hGr, ?_⟩ | refine ⟨_, fun _ => hGr, ?_⟩ | refine ⟨_, hTw, ?_⟩ | refine ⟨_, fun _ => hTw, ?_⟩ | refine ⟨_, hT1, ?_⟩ | refine ⟨_, fun _ => hT1, ?_⟩ | refine ⟨_, hT2, ?_⟩ | refine ⟨_, fun _ => hT2, ?_⟩ | refine ⟨_, hN1, ?_⟩ | refine ⟨_, fun _ => hN1, ?_⟩ | refine ⟨_, hN2, ?_⟩ | refine ⟨_, fun _ => hN2, ?_⟩ | refine ⟨_, hS1, ?_⟩ | refine ⟨_, fun _ => hS1, ?_⟩ | refine ⟨_, hS2, ?_⟩ | refine ⟨_, fun _ => hS2, ?_⟩ | refine ⟨_, hS3, ?_⟩ | refine ⟨_, fun _ => hS3, ?_⟩); (try simp only [go_sem, Nat.reduceLT, Nat.reduceLeDiff, Nat.reduceEqDiff, reduceIte, Nat.reduceAdd, Nat.reduceMul, Nat.reduceSub, Int.reduceLT, Int.reduceLE, Int.reduceToNat, Int.reduceNeg, reduceCtorEq, hgs, aopG, bne_self_eq_false, Bool.not_false, beq_self_eq_true]))); (try simp (disch := omega) only [wrap_id, getD_map_in, Int.toNat_natCast, aopG, bne_self_eq_false, Bool.not_false, beq_self_eq_true]); (repeat (refine And.intro (by (first | omega | (simp; done) | (simp; omega) | assumption)) ?_)); refine h' _ ?_; clear h' K') | (refine aops_nil (hK _ ?_); clear hK K hgs gs; try simp only [aThen, aBlock]) | ((first | refine AWp.sreg (id := 1) dd3 rfl (fun gs K hgs hK => ?_) | refine AWp.reg (id := 1) dd3 rfl (fun gs K hgs hK => ?_)); replace hgs : gs 2 = some 20 := hgs 2) | ((first | refine AWp.sreg (id := 8) dd3 rfl (fun gs K hgs hK => ?_) | refine AWp.reg (id := 8) dd3 rfl (fun gs K hgs hK => ?_)); replace hgs : gs 3 = some 53 ∧ gs 8 = some 58 ∧ gs 13 = some 63 ∧ gs 18 = some 68 := ⟨hgs 3, hgs 8, hgs 13, hgs 18⟩) | (refine AWp.sreg  dd3 rfl (fun gs K hgs hK => ?_); replace hgs : Nat.succ 0 = 1 := rfl) | refine AWp.seq ?_ | refine ARounds.step ?_ | refine AWp.block ?_ | refine AWp.label ?_ | (refine AWp.ret ?_; try simp only [aThen, aBlock]) | (refine AWp.skip ?_; try simp only [aThen, aBlock]) | (refine AWp.exit ?_; try simp only [aThen, aBlock, Nat.reduceEqDiff, reduceIte]) | (refine AWp.reg  dd3 rfl (fun gs K hgs hK => ?_); replace hgs : Nat.succ 0 = 1 := rfl) | (refine aops_consG (fun K' h' => ?_); simp only [go_sem, Nat.reduceLT, Nat.reduceLeDiff, Nat.reduceEqDiff, reduceIte, Nat.reduceAdd, Nat.reduceMul, Nat.reduceSub, Int.reduceLT, Int.reduceLE, Int.reduceToNat, Int.reduceNeg, reduceCtorEq, hgs, aopG, bne_self_eq_false, Bool.not_false, beq_self_eq_true]; (try simp (disch := omega) only [wrap_id, getD_map_in, Int.toNat_natCast, aopG, bne_self_eq_false, Bool.not_false, beq_self_eq_true]); (repeat (refine And.intro (by (first | omega | (simp; done) | (simp; omega) | assumption)) ?_)); refine h' _ ?_; clear h' K') | (refine AWp.cond rfl (fun h => ?_) (fun h => ?_) <;> (try simp only [decide_eq_true_eq, decide_eq_false_iff_not, beq_iff_eq, bne_iff_ne, ne_eq, Bool.not_eq_true', Bool.not_eq_false', beq_eq_false_iff_ne, Bool.true_eq_false, Bool.false_eq_true, Int.not_le, Int.not_lt, Bool.and_eq_true, Bool.and_eq_false_iff, Bool.or_eq_true, Bool.or_eq_false_iff, bne_eq_false_iff_eq, reduceCtorEq] at h) <;> (try first | contradiction | (exfalso; omega) | (exfalso; revert h; simp; done) | (exfalso; revert h; simp; omega)))))
      all_goals simp only [Out, outA, outL, resA, go_sem, Nat.reduceLT, Nat.reduceLeDiff, Nat.reduceEqDiff, reduceIte, Nat.reduceAdd, Nat.reduceMul, Nat.reduceSub, Int.reduceLT, Int.reduceLE, Int.reduceToNat, Int.reduceNeg, reduceCtorEq]
      all_goals exact AVle.refl _
theorem msgB_shape2 {a : AV} (h : ShpA Tryz.prog 8 46 a) : ∃ m : Msg, a = .agg m.cells ∧ m.rcd.B := by
  obtain ⟨cs, rfl, hs⟩ := shpA_st (ts := [5, 39, 2, 44]) (by kernel_rfl) h
  obtain ⟨a, r, rfl, ha, g1⟩ := hs
  obtain ⟨b, r, rfl, hb, g2⟩ := g1
  obtain ⟨c, r, rfl, hc, g3⟩ := g2
  obtain ⟨e, r, rfl, he, g4⟩ := g3
  obtain rfl : r = [] := g4
  obtain ⟨xa, rfl⟩ := sh_u8 ha
  obtain ⟨b1, r, rfl, hb1, g5⟩ := shp_st (ts := [2, 2, 2]) (by kernel_rfl) hb
  obtain ⟨b2, r, rfl, hb2, g6⟩ := g5
  obtain ⟨b3, r, rfl, hb3, g7⟩ := g6
  obtain rfl : r = [] := g7
  obtain ⟨x, rfl, w1⟩ := shp_in (k := .i64) (by kernel_rfl) hb1
  obtain ⟨y, rfl, w2⟩ := shp_in (k := .i64) (by kernel_rfl) hb2
  obtain ⟨z, rfl, w3⟩ := shp_in (k := .i64) (by kernel_rfl) hb3
  obtain ⟨xt, rfl⟩ := sh_i64 hc
  obtain ⟨⟨r1, r2, r3, r4, r5⟩, rfl⟩ := sh_row he
  exact ⟨⟨xa, x, y, z, xt, r1, r2, r3, r4, r5⟩, rfl, wf_i64 w1, wf_i64 w2, wf_i64 w3⟩
theorem ftakes_all : ∀ xs, ShpAs Tryz.prog 8 Tryz.f3.params.toList xs → ACall Tryz.prog 3 xs (.lit (.bool true)) := by
  intro xs h
  have hp : Tryz.f3.params.toList = [27, 37, 46, 3] := by kernel_rfl
  rw [hp] at h
  obtain ⟨a, r, rfl, ha, h⟩ := h
  obtain ⟨b, r, rfl, hb, h⟩ := h
  obtain ⟨c, r, rfl, hc, h⟩ := h
  obtain ⟨d, r, rfl, hd, h⟩ := h
  obtain rfl : r = [] := h
  obtain ⟨q, rfl, h1, h2, h3, h4, h5, h6⟩ := qryB_shape ha
  obtain ⟨t, rfl, hok⟩ := tsk_shape hb
  obtain ⟨m, rfl, hr⟩ := msgB_shape2 hc
  obtain ⟨n, rfl, _⟩ := int_shape2 hd (by kernel_rfl) (by kernel_rfl)
  exact ftakes_law q t m n h1 h2 h3 h4 h5 h6 hok hr
end Go.Proofs.YtmooelhocanlnaaGreat
