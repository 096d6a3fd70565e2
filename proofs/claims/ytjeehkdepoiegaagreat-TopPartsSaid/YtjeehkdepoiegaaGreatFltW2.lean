/-
  The walks over filters: New, Take.
-/
import Derived.Test.YtjeehkdepoiegaaGreatFltWP
import Derived.Test.YtjeehkdepoiegaaGreatTskW67
namespace Go.Proofs.YtjeehkdepoiegaaGreat
open Go.AL Go.RowKit
set_option linter.unusedSimpArgs false
set_option linter.unusedVariables false
set_option maxRecDepth 10000
set_option maxHeartbeats 8000000
def carrF (m : Msg) : Bool := validM m && (m.kind == 1 || m.kind == 2)
def dd29 : Nat → List (List Nat)
  | 0 => [[], [], [3]]
  | 1 => [[], [], [4], [5], [], [7], [6, 8]]
  | 2 => [[0, 9], [], [10], []]
  | 3 => [[9], [0], [11], [], [12, 13], [14], []]
  | _ => []
def lateM (r : Rcd) : Msg := ⟨4, r.key, r.t, r.v, 0, 0, 0, 0, 0, 0⟩
def recM (r : Rcd) : Msg := ⟨1, r.key, r.t, r.v, 0, 0, 0, 0, 0, 0⟩
def Msg.rcd (m : Msg) : Rcd := ⟨m.key, m.rt, m.value⟩
def fmark (mk : Int) (m : Msg) : Int := if m.kind = 2 then (if m.time ≤ mk then mk else m.time) else mk
noncomputable def fouts (q : Qry) (mk : Int) (m : Msg) : List Snd :=
  if m.kind = 2 then (if m.time ≤ mk then [] else [⟨0, m⟩])
  else if m.rt < mk then (if q.late ≠ 2 then [] else [⟨1, lateM m.rcd⟩])
  else if passB q m.rcd = true then [⟨0, recM (projR q m.rcd)⟩] else []
theorem filt_good {n tn mk : Int} (h : tskE ⟨2, n, tn, [], [mk], [], [], [], []⟩ = 0) : (0 ≤ tn ∧ tn < 20 ∧ 0 ≤ n ∧ n < 4) ∧ lowB mk = true := by
  obtain ⟨hg, -, -⟩ := goodT_few h
  unfold goodT at hg
  simp only [Bool.and_eq_true, decide_eq_true_eq] at hg
  obtain ⟨a1, -, -, -, -, a6, -⟩ := hg
  unfold numsB at a1
  unfold listsB at a6
  simp only [Bool.and_eq_true, allL_all, List.all_cons, List.all_nil] at a6
  exact ⟨of_decide_eq_true a1, a6.1.1⟩
theorem filt_ok {n tn mk : Int} (l : List Snd) (h : 0 ≤ tn ∧ tn < 20 ∧ 0 ≤ n ∧ n < 4) (hm : lowB mk = true) (hl : l.length ≤ 4000) (hs : allL l sendB = true) : tskE ⟨2, n, tn, l, [mk], [], [], [], []⟩ = 0 := by
  have : goodT ⟨2, n, tn, l, [mk], [], [], [], []⟩ = true := by
    unfold goodT
    simp only [Bool.and_eq_true, decide_eq_true_eq]
    refine ⟨decide_eq_true h, hl, decide_eq_true (.inr (.inl ⟨rfl, rfl, rfl, rfl, rfl, rfl⟩)), hs, rfl, ?_, rfl⟩
    unfold listsB
    simp only [Bool.and_eq_true, allL_all, List.all_cons, List.all_nil]
    exact ⟨⟨hm, trivial⟩, trivial, trivial, trivial⟩
  unfold tskE
  rw [if_pos this]
theorem pend_filt {n tn mk : Int} (l : List Snd) (h : tskE ⟨2, n, tn, [], [mk], [], [], [], []⟩ = 0) (hs : allL l sendB = true) (hl : l.length ≤ 4000) :
    pendE ⟨2, n, tn, [], [mk], [], [], [], []⟩ l = 0 ∧ pendT ⟨2, n, tn, [], [mk], [], [], [], []⟩ l = ⟨2, n, tn, l, [mk], [], [], [], []⟩ := by
  have h0 : pendE ⟨2, n, tn, [], [mk], [], [], [], []⟩ l = 0 := by
    unfold pendE
    rw [if_neg (fun g => g h), if_neg (by rw [hs]; simp), if_neg (by simp; omega)]
  refine ⟨h0, ?_⟩
  unfold pendT
  rw [if_pos h0]
  rfl
theorem carrF_valid {m : Msg} (h : carrF m = true) : validM m = true ∧ (m.kind = 1 ∨ m.kind = 2) := by
  unfold carrF at h; simp at h; exact h
theorem mark_low {m : Msg} (h : validM m = true) (hk : m.kind = 2) : lowB m.time = true := by
  unfold validM at h
  unfold lowB
  obtain ⟨kd, k, rt, v, t, r1, r2, r3, r4, r5⟩ := m
  simp only at hk
  subst hk
  simp at h ⊢
  exact .inr h.1
theorem rec_time {m : Msg} (h : validM m = true) (hk : m.kind = 1) : isTimeB m.rt = true := by
  unfold validM at h
  obtain ⟨kd, k, rt, v, t, r1, r2, r3, r4, r5⟩ := m
  simp only at hk
  subst hk
  simp at h ⊢
  exact h.1
def dd32 : Nat → List (List Nat)
  | 0 => [[], [0], [1], [2], [], [7]]
  | 1 => [[], [], [13], [14]]
  | 2 => [[3, 4, 5, 15], [], [16], []]
  | 3 => [[15], [], [17], [18]]
  | 4 => [[], [], [19]]
  | 5 => [[3, 4, 5, 20], [], [8], [21], [22]]
  | 6 => [[8, 20], [], [24], [25], [26], [27]]
  | 7 => [[3, 4, 5, 23], [], [28], []]
  | 8 => [[23], [], [30], [31], [32], [], [34], [35], [36], [], [38], [39], [37, 40], [33, 41], [42]]
  | 9 => [[3, 4, 5, 29], [], [43], []]
  | 10 => [[29], [], [45], [46], [47], [48]]
  | 11 => [[3, 4, 5, 44], [], [49], []]
  | 12 => [[44], [], [50], [51], [52], [53]]
  | 13 => [[], [], [54], [55]]
  | 14 => [[3, 56], [], [57], [9], [58, 59]]
  | 15 => [[5, 60], [4], [61], [], [62], [63], [64]]
  | 16 => [[60], [], [65], [66], [], [67, 68]]
  | 17 => [[], [], [69], [], [71], [70], [72, 73]]
  | 18 => [[], [4], [5], [75], [76], [74, 77], [], [78], [79], [80]]
  | 19 => [[56], [], [81], [82], [9], [83, 84]]
  | 20 => [[85], [3], [86], [87]]
  | 21 => [[5, 88], [4], [89], [], [90], [91], [92]]
  | 22 => [[88], [4], [5], [94], [95], [96], [97], [93, 98], [], [99], [100], [101]]
  | 23 => [[85], [3], [5], [104], [103, 105], [106], [], [], [102], [], [107], [108], [12, 109]]
  | 24 => [[], [11], [110]]
  | 25 => [[10, 111], [4], [112], [], [113], [114], [115]]
  | 26 => [[111], [4], [10], [117], [118], [119], [116, 120], [], [121], [122], [123]]
  | _ => []
theorem takeF_good (q : Qry) (n tn mk : Int) (m : Msg) (hq : q.fit) (hr : m.rcd.B) (ha : accE q = 0) (ht : tskE ⟨2, n, tn, [], [mk], [], [], [], []⟩ = 0) (hm : carrF m = true) :
    ACall Tryz.prog 32 [.agg q.cells, .agg (Tsk.mk 2 n tn [] [mk] [] [] [] []).cells, .agg m.cells] (.tup [.agg (Tsk.mk 2 n tn (fouts q mk m) [fmark mk m] [] [] [] []).cells, .lit (.int .i64 0)]) := by
  have hok : ∀ (l : List Snd) (x : Int), l.length ≤ 10 → (Tsk.mk 2 n tn l [x] [] [] [] []).ok := fun l x h => ⟨by simp [maxLen]; omega, by simp [maxLen], by simp [maxLen], by simp [maxLen], by simp [maxLen], by simp [maxLen]⟩
  have hAc := accepted_c q hq
  rw [decide_eq_true ha] at hAc
  have hCk := tCheck_c _ (hok [] mk (by simp))
  rw [ht] at hCk
  obtain ⟨hv, hk⟩ := carrF_valid hm
  have hM := mCheck_c m
  rw [show errM m = 0 by unfold errM; rw [if_pos hv]] at hM
  obtain ⟨hnum, hlow⟩ := filt_good ht
  have hNil := (pend_c _ [] (hok [] mk (by simp)) (by simp [maxLen])).mono (args' := [.agg (Tsk.mk 2 n tn [] [mk] [] [] [] []).cells, .lit (.slice none 0 0)]) (.cons (.refl _) (.cons (AVle.nil 11) (.refl _))) (AVle.refl _)
  obtain ⟨e1, e2⟩ := pend_filt [] ht rfl (by simp)
  rw [e1, e2] at hNil
  clear e1 e2
  rcases hk with hk | hk
  · have ho : fouts q mk m = if m.rt < mk then (if q.late ≠ 2 then [] else [⟨1, lateM m.rcd⟩]) else if passB q m.rcd = true then [⟨0, recM (projR q m.rcd)⟩] else [] := by unfold fouts; rw [if_neg (by omega)]
    have hf : fmark mk m = mk := by unfold fmark; rw [if_neg (by omega)]
    have htm := rec_time hv hk
    have hPj := project_c q m.rcd hq hr
    have p1 : prjE q m.rcd = 0 := if_pos ⟨ha, htm⟩
    have p2 : prjB q m.rcd = passB q m.rcd := by unfold prjB; rw [if_pos p1]
    have p3 : prjR q m.rcd = projR q m.rcd := by unfold prjR; rw [if_pos p1]
    rw [p1, p2, p3] at hPj
    rw [hf, ho]
    have hpt : (projR q m.rcd).t = m.rt ∨ passB q m.rcd = false := by
      cases hp : passB q m.rcd
      · exact .inr rfl
      · refine .inl ?_
        unfold projR
        rw [if_pos hp]
        rfl
    by_cases hl : m.rt < mk
    case' neg =>
      rw [if_neg hl]
      cases hp : passB q m.rcd
      case' false =>
        rw [if_neg (by simp)]
        rw [hp] at hPj
        have hPd := hNil
        clear hNil p1 p2 p3 hpt ho hf hok hnum hlow ht ha hv hm hq hr hp
        generalize projR q m.rcd = pr at *
        obtain ⟨x1, x2, x3⟩ := pr
        obtain ⟨ag, ar, sr, jn, wh, ⟨kd, sz, ev⟩, bk, lt⟩ := q
        obtain ⟨kdm, k, rt, v, tt, r1, r2, r3, r4, r5⟩ := m
        simp only at hk hl htm
        subst hk
        unfold Qry.cells Msg.cells Tsk.cells nodesV intsV sndsV mksV entsV evsV rowsV rcdsV Rcd.cells Msg.rcd at *
        simp only [List.map_nil, List.map_cons, intC] at *
      case' true =>
        rw [if_pos rfl]
        rw [hp] at hPj
        have hpt : (projR q m.rcd).t = m.rt := by
          rcases hpt with h | h
          · exact h
          · rw [hp] at h; cases h
        have hlv : validM (recM (projR q m.rcd)) = true := by unfold validM recM; simp [hpt, htm]
        have hs : allL [⟨0, recM (projR q m.rcd)⟩] sendB = true := by simp [allL_all, sendB, hlv]
        have hPd := pend_c (Tsk.mk 2 n tn [] [mk] [] [] [] []) [⟨0, recM (projR q m.rcd)⟩] (hok [] mk (by simp)) (by simp [maxLen])
        obtain ⟨e1, e2⟩ := pend_filt [⟨0, recM (projR q m.rcd)⟩] ht hs (by simp)
        rw [e1, e2] at hPd
        clear hNil p1 p2 p3 hpt ho hf hok hnum hlow ht ha hv hm hq hr hp e1 e2 hs hlv
        generalize projR q m.rcd = pr at *
        obtain ⟨x1, x2, x3⟩ := pr
        obtain ⟨ag, ar, sr, jn, wh, ⟨kd, sz, ev⟩, bk, lt⟩ := q
        obtain ⟨kdm, k, rt, v, tt, r1, r2, r3, r4, r5⟩ := m
        simp only at hk hl htm
        subst hk
        unfold Qry.cells Msg.cells Tsk.cells nodesV intsV sndsV mksV entsV evsV rowsV rcdsV Rcd.cells Msg.rcd recM at *
        simp only [List.map_nil, List.map_cons, intC, Snd.cells, Msg.cells] at *
    case' pos =>
      rw [if_pos hl]
      by_cases h2 : q.late ≠ 2
      case' pos =>
        rw [if_pos h2]
        have hPd := hNil
        clear hNil hPj p1 p2 p3 hpt ho hf hok hnum hlow ht ha hv hm hq hr
        obtain ⟨ag, ar, sr, jn, wh, ⟨kd, sz, ev⟩, bk, lt⟩ := q
        obtain ⟨kdm, k, rt, v, tt, r1, r2, r3, r4, r5⟩ := m
        simp only at hk hl h2 htm
        subst hk
        unfold Qry.cells Msg.cells Tsk.cells nodesV intsV sndsV mksV entsV evsV rowsV rcdsV at *
        simp only [List.map_nil, List.map_cons, intC] at *
      case' neg =>
        rw [if_neg h2]
        have hlv : validM (lateM m.rcd) = true := by unfold validM lateM Msg.rcd; simp [htm]
        have hs : allL [⟨1, lateM m.rcd⟩] sendB = true := by simp [allL_all, sendB, hlv]
        have hPd := pend_c (Tsk.mk 2 n tn [] [mk] [] [] [] []) [⟨1, lateM m.rcd⟩] (hok [] mk (by simp)) (by simp [maxLen])
        obtain ⟨e1, e2⟩ := pend_filt [⟨1, lateM m.rcd⟩] ht hs (by simp)
        rw [e1, e2] at hPd
        clear hNil hPj p1 p2 p3 hpt ho hf hok hnum hlow ht ha hv hm hq hr e1 e2 hs hlv
        obtain ⟨ag, ar, sr, jn, wh, ⟨kd, sz, ev⟩, bk, lt⟩ := q
        obtain ⟨kdm, k, rt, v, tt, r1, r2, r3, r4, r5⟩ := m
        simp only at hk hl h2 htm
        subst hk
        unfold Qry.cells Msg.cells Tsk.cells nodesV intsV sndsV mksV entsV evsV rowsV rcdsV lateM Msg.rcd at *
        simp only [List.map_nil, List.map_cons, intC, Snd.cells, Msg.cells] at *
    all_goals
      refine acall_of (n := 124) (rs := [.cell 6 39, .tmp 7]) Tryz.func32 rfl (by kernel_rfl) rfl rfl rfl ?_; simp only [argsE, Nat.reduceAdd]
    repeat (any_goals (first | (refine aops_cons (fun K' h' => ?_); simp only [go_sem, Nat.reduceLT, Nat.reduceLeDiff, Nat.reduceEqDiff, reduceIte, Nat.reduceAdd, Nat.reduceMul, Nat.reduceSub, Int.reduceLT, Int.reduceLE, Int.reduceToNat, Int.reduceNeg, reduceCtorEq, hgs, aopG, bne_self_eq_false, Bool.not_false, beq_self_eq_true]; (try ((first | refine ⟨_, hAc, ?_⟩ | refine ⟨_, hCk, ?_⟩ | refine ⟨_, hM, ?_⟩ | refine ⟨_, hPd, ?_⟩ | refine ⟨_, hPj, ?_⟩); (try simp only [go_sem, Nat.reduceLT, Nat.reduceLeDiff, Nat.reduceEqDiff, reduceIte, Nat.reduceAdd, Nat.reduceMul, Nat.reduceSub, Int.reduceLT, Int.reduceLE, Int.reduceToNat, Int.reduceNeg, reduceCtorEq, hgs, aopG, bne_self_eq_false, Bool.not_false, beq_self_eq_true]))); (try simp (disch := omega) only [wrap_id, getD_map_in, Int.toNat_natCast, aopG, bne_self_eq_false, Bool.not_false, beq_self_eq_true]); (repeat (refine And.intro (by (omega)) ?_)); refine h' _ ?_; clear h' K') | (refine aops_nil (hK _ ?_); clear hK K hgs gs; try simp only [aThen, aBlock]) | (refine aops_consF [] (fun K' h' => ?_); simp only [go_sem, Nat.reduceLT, Nat.reduceLeDiff, Nat.reduceEqDiff, reduceIte, Nat.reduceAdd, Nat.reduceMul, Nat.reduceSub, Int.reduceLT, Int.reduceLE, Int.reduceToNat, Int.reduceNeg, reduceCtorEq, hgs, aopG, bne_self_eq_false, Bool.not_false, beq_self_eq_true]; refine ⟨_, hPd, ?_⟩; (try simp only [go_sem, Nat.reduceLT, Nat.reduceLeDiff, Nat.reduceEqDiff, reduceIte, Nat.reduceAdd, Nat.reduceMul, Nat.reduceSub, Int.reduceLT, Int.reduceLE, Int.reduceToNat, Int.reduceNeg, reduceCtorEq, hgs, aopG, bne_self_eq_false, Bool.not_false, beq_self_eq_true]); (repeat (refine And.intro (by (omega)) ?_)); refine h' _ ?_; clear h' K') | ((refine AWp.sreg (id := 8) dd32 rfl (fun gs K hgs hK => ?_)); replace hgs : gs 3 = some 33 ∧ gs 7 = some 37 := ⟨hgs 3, hgs 7⟩) | (refine AWp.sreg  dd32 rfl (fun gs K hgs hK => ?_); replace hgs : Nat.succ 0 = 1 := rfl) | refine AWp.seq ?_ | refine AWp.block ?_ | (refine AWp.ret ?_; try simp only [aThen, aBlock]) | (refine AWp.skip ?_; try simp only [aThen, aBlock]) | (refine AWp.cond rfl (fun h => ?_) (fun h => ?_) <;> (try simp only [decide_eq_true_eq, decide_eq_false_iff_not, beq_iff_eq, bne_iff_ne, ne_eq, Bool.not_eq_true', Bool.not_eq_false', beq_eq_false_iff_ne, Bool.true_eq_false, Bool.false_eq_true, Int.not_le, Int.not_lt, Bool.and_eq_true, Bool.and_eq_false_iff, Bool.or_eq_true, Bool.or_eq_false_iff, bne_eq_false_iff_eq, reduceCtorEq] at h) <;> (try first | contradiction | (exfalso; omega)))))
    all_goals first
      | (exfalso; omega)
      | skip
    all_goals simp only [Out, outA, outL, resA, go_sem, Nat.reduceLT, Nat.reduceLeDiff, Nat.reduceEqDiff, reduceIte, Nat.reduceAdd, Nat.reduceMul, Nat.reduceSub, Int.reduceLT, Int.reduceLE, Int.reduceToNat, Int.reduceNeg, reduceCtorEq]
    all_goals exact AVle.refl _
  · have ho : fouts q mk m = if m.time ≤ mk then [] else [⟨0, m⟩] := by unfold fouts; rw [if_pos hk]
    have hf : fmark mk m = if m.time ≤ mk then mk else m.time := by unfold fmark; rw [if_pos hk]
    rw [hf, ho]
    by_cases hl : m.time ≤ mk
    case' pos =>
      rw [if_pos hl, if_pos hl]
      have hPd := hNil
      clear hNil ho hf hok hnum hlow ht ha hv hm hq hr
      obtain ⟨ag, ar, sr, jn, wh, ⟨kd, sz, ev⟩, bk, lt⟩ := q
      obtain ⟨kdm, k, rt, v, tt, r1, r2, r3, r4, r5⟩ := m
      simp only at hk hl
      subst hk
      unfold Qry.cells Msg.cells Tsk.cells nodesV intsV sndsV mksV entsV evsV rowsV rcdsV at *
      simp only [List.map_nil, List.map_cons, intC] at *
    case' neg =>
      rw [if_neg hl, if_neg hl]
      have hCl := cloneMk_n [mk] (by simp)
      have hs : allL [⟨0, m⟩] sendB = true := by simp [allL_all, sendB, hv]
      have ht2 := filt_ok [] hnum (mark_low hv hk) (by simp) rfl
      have hPd := pend_c (Tsk.mk 2 n tn [] [m.time] [] [] [] []) [⟨0, m⟩] (hok [] m.time (by simp)) (by simp [maxLen])
      obtain ⟨e1, e2⟩ := pend_filt [⟨0, m⟩] ht2 hs (by simp)
      rw [e1, e2] at hPd
      clear hNil ho hf hok hnum hlow ht ha hv hm hq hr e1 e2 hs ht2
      obtain ⟨ag, ar, sr, jn, wh, ⟨kd, sz, ev⟩, bk, lt⟩ := q
      obtain ⟨kdm, k, rt, v, tt, r1, r2, r3, r4, r5⟩ := m
      simp only at hk hl
      subst hk
      unfold Qry.cells Msg.cells Tsk.cells nodesV intsV sndsV mksV entsV evsV rowsV rcdsV at *
      simp only [List.map_nil, List.map_cons, intC, Snd.cells, Msg.cells, List.length_cons, List.length_nil] at *
    all_goals
      refine acall_of (n := 124) (rs := [.cell 6 39, .tmp 7]) Tryz.func32 rfl (by kernel_rfl) rfl rfl rfl ?_; simp only [argsE, Nat.reduceAdd]
    repeat (any_goals (first | (refine aops_cons (fun K' h' => ?_); simp only [go_sem, Nat.reduceLT, Nat.reduceLeDiff, Nat.reduceEqDiff, reduceIte, Nat.reduceAdd, Nat.reduceMul, Nat.reduceSub, Int.reduceLT, Int.reduceLE, Int.reduceToNat, Int.reduceNeg, reduceCtorEq, hgs, aopG, bne_self_eq_false, Bool.not_false, beq_self_eq_true]; (try ((first | refine ⟨_, hAc, ?_⟩ | refine ⟨_, hCk, ?_⟩ | refine ⟨_, hM, ?_⟩ | refine ⟨_, hPd, ?_⟩); (try simp only [go_sem, Nat.reduceLT, Nat.reduceLeDiff, Nat.reduceEqDiff, reduceIte, Nat.reduceAdd, Nat.reduceMul, Nat.reduceSub, Int.reduceLT, Int.reduceLE, Int.reduceToNat, Int.reduceNeg, reduceCtorEq, hgs, aopG, bne_self_eq_false, Bool.not_false, beq_self_eq_true]))); (try simp (disch := omega) only [wrap_id, getD_map_in, Int.toNat_natCast, aopG, bne_self_eq_false, Bool.not_false, beq_self_eq_true]); (repeat (refine And.intro (by (omega)) ?_)); refine h' _ ?_; clear h' K') | (refine aops_nil (hK _ ?_); clear hK K hgs gs; try simp only [aThen, aBlock]) | (refine aops_consF [] (fun K' h' => ?_); simp only [go_sem, Nat.reduceLT, Nat.reduceLeDiff, Nat.reduceEqDiff, reduceIte, Nat.reduceAdd, Nat.reduceMul, Nat.reduceSub, Int.reduceLT, Int.reduceLE, Int.reduceToNat, Int.reduceNeg, reduceCtorEq, hgs, aopG, bne_self_eq_false, Bool.not_false, beq_self_eq_true]; refine ⟨_, hPd, ?_⟩; (try simp only [go_sem, Nat.reduceLT, Nat.reduceLeDiff, Nat.reduceEqDiff, reduceIte, Nat.reduceAdd, Nat.reduceMul, Nat.reduceSub, Int.reduceLT, Int.reduceLE, Int.reduceToNat, Int.reduceNeg, reduceCtorEq, hgs, aopG, bne_self_eq_false, Bool.not_false, beq_self_eq_true]); (repeat (refine And.intro (by (omega)) ?_)); refine h' _ ?_; clear h' K') | (refine aops_consN  (fun K' h' => ?_); simp only [go_sem, Nat.reduceLT, Nat.reduceLeDiff, Nat.reduceEqDiff, reduceIte, Nat.reduceAdd, Nat.reduceMul, Nat.reduceSub, Int.reduceLT, Int.reduceLE, Int.reduceToNat, Int.reduceNeg, reduceCtorEq, hgs, aopG, bne_self_eq_false, Bool.not_false, beq_self_eq_true]; refine ⟨_, _, hCl, ?_⟩; (try simp only [go_sem, Nat.reduceLT, Nat.reduceLeDiff, Nat.reduceEqDiff, reduceIte, Nat.reduceAdd, Nat.reduceMul, Nat.reduceSub, Int.reduceLT, Int.reduceLE, Int.reduceToNat, Int.reduceNeg, reduceCtorEq, hgs, aopG, bne_self_eq_false, Bool.not_false, beq_self_eq_true]); (repeat (refine And.intro (by (omega)) ?_)); refine h' _ ?_; clear h' K') | ((refine AWp.sreg (id := 8) dd32 rfl (fun gs K hgs hK => ?_)); replace hgs : gs 3 = some 33 ∧ gs 7 = some 37 := ⟨hgs 3, hgs 7⟩) | (refine AWp.sreg  dd32 rfl (fun gs K hgs hK => ?_); replace hgs : Nat.succ 0 = 1 := rfl) | refine AWp.seq ?_ | refine AWp.block ?_ | (refine AWp.ret ?_; try simp only [aThen, aBlock]) | (refine AWp.skip ?_; try simp only [aThen, aBlock]) | (refine AWp.cond rfl (fun h => ?_) (fun h => ?_) <;> (try simp only [decide_eq_true_eq, decide_eq_false_iff_not, beq_iff_eq, bne_iff_ne, ne_eq, Bool.not_eq_true', Bool.not_eq_false', beq_eq_false_iff_ne, Bool.true_eq_false, Bool.false_eq_true, Int.not_le, Int.not_lt, Bool.and_eq_true, Bool.and_eq_false_iff, Bool.or_eq_true, Bool.or_eq_false_iff, bne_eq_false_iff_eq, reduceCtorEq] at h) <;> (try first | contradiction | (exfalso; omega)))))
    all_goals first
      | (exfalso; omega)
      | skip
    all_goals simp only [Out, outA, outL, resA, go_sem, Nat.reduceLT, Nat.reduceLeDiff, Nat.reduceEqDiff, reduceIte, Nat.reduceAdd, Nat.reduceMul, Nat.reduceSub, Int.reduceLT, Int.reduceLE, Int.reduceToNat, Int.reduceNeg, reduceCtorEq]
    all_goals exact AVle.refl _
end Go.Proofs.YtjeehkdepoiegaaGreat
