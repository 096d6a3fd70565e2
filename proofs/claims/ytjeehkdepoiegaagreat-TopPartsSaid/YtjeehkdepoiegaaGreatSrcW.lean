/-
  The walks over what a source sends: of the program and of the reference.
-/
import Derived.Test.YtjeehkdepoiegaaGreatTskW67
import Derived.Test.YtjeehkdepoiegaaGreatAbsRV
namespace Go.Proofs.YtjeehkdepoiegaaGreat
open Go.AL Go.RowKit
set_option linter.unusedSimpArgs false
set_option linter.unusedVariables false
set_option maxRecDepth 10000
set_option maxHeartbeats 8000000
def askE (t : Tsk) : Int := if tskE t ≠ 0 then tskE t else if t.kind ≠ 1 then 2 else 0
def told (e : Ev) : Msg := if e.mark = true then ⟨2, 0, 0, 0, e.time, 0, 0, 0, 0, 0⟩ else ⟨1, e.key, e.rt, e.value, 0, 0, 0, 0, 0, 0⟩
theorem told_ok {e : Ev} (h : okE e = true) : msgE e = told e := by unfold msgE told; rw [if_pos h]
def sentL (t : Tsk) : List Msg := t.pend.map Snd.m ++ t.evs.map told
def sentR (t : Tsk) : List Msg := if askE t = 0 then sentL t else []
def dd20 : Nat → List (List Nat)
  | 0 => [[], [0], [2]]
  | 1 => [[], [], [4], [5]]
  | 2 => [[], [], [6]]
  | 3 => [[1, 7], [3], [8]]
  | 4 => [[3, 7], [1], [9], [10], [11]]
  | 5 => [[12], []]
  | 6 => [[12], []]
  | _ => []
theorem asked_c (t : Tsk) (hok : t.ok) : ACall Tryz.prog 20 [.agg t.cells] (.lit (.int .i64 (askE t))) := by
  have hCk := tCheck_c t hok
  unfold askE
  generalize tskE t = e at *
  clear hok
  obtain ⟨kd, n, tn, pe, mk, st, ev, rw_, lt⟩ := t
  unfold Tsk.cells sndsV mksV entsV evsV rowsV rcdsV at *
  simp only at *
  refine acall_of (n := 13) (rs := [.tmp 2]) Tryz.func20 rfl (by kernel_rfl) rfl rfl rfl ?_; simp only [argsE, Nat.reduceAdd]
  repeat (any_goals (first | (refine aops_cons (fun K' h' => ?_); simp only [go_sem, Nat.reduceLT, Nat.reduceLeDiff, Nat.reduceEqDiff, reduceIte, Nat.reduceAdd, Nat.reduceMul, Nat.reduceSub, Int.reduceLT, Int.reduceLE, Int.reduceToNat, Int.reduceNeg, reduceCtorEq]; (try ((refine ⟨_, hCk, ?_⟩); (try simp only [go_sem, Nat.reduceLT, Nat.reduceLeDiff, Nat.reduceEqDiff, reduceIte, Nat.reduceAdd, Nat.reduceMul, Nat.reduceSub, Int.reduceLT, Int.reduceLE, Int.reduceToNat, Int.reduceNeg, reduceCtorEq]))); (try simp (disch := omega) only [wrap_id, getD_map_in, Int.toNat_natCast]); (repeat (refine And.intro (by (omega)) ?_)); refine h' _ ?_; clear h' K') | (refine aops_nil (hK _ ?_); clear hK K gs; try simp only [aThen, aBlock]) | (refine AWp.sreg  dd20 rfl (fun gs K hgs hK => ?_); clear hgs) | refine AWp.seq ?_ | (refine AWp.ret ?_; try simp only [aThen, aBlock]) | (refine AWp.skip ?_; try simp only [aThen, aBlock]) | (refine AWp.cond rfl (fun h => ?_) (fun h => ?_) <;> (try simp only [decide_eq_true_eq, decide_eq_false_iff_not, beq_iff_eq, bne_iff_ne, ne_eq, Bool.not_eq_true', Bool.not_eq_false', beq_eq_false_iff_ne, Bool.true_eq_false, Bool.false_eq_true, Int.not_le, Int.not_lt, Bool.and_eq_true, Bool.and_eq_false_iff, Bool.or_eq_true, Bool.or_eq_false_iff, bne_eq_false_iff_eq, reduceCtorEq] at h))))
  all_goals simp only [Out, outA, outL, resA, go_sem, Nat.reduceLT, Nat.reduceLeDiff, Nat.reduceEqDiff, reduceIte, Nat.reduceAdd, Nat.reduceMul, Nat.reduceSub, Int.reduceLT, Int.reduceLE, Int.reduceToNat, Int.reduceNeg, reduceCtorEq]
  all_goals refine AVle.of_eq (congrArg (fun n => AV.lit (.int .i64 n)) ?_)
  all_goals (repeat' split) <;> first | omega | simp_all
theorem askE_0 {t : Tsk} (h : askE t = 0) : tskE t = 0 ∧ t.kind = 1 := by
  unfold askE at h
  split at h
  · omega
  · split at h
    · omega
    · exact ⟨by omega, by omega⟩
theorem take_snocS {α β : Type} [Inhabited α] {f : α → β} {l : List α} {k : Nat} {y : α} (hk : k < l.length) (hy : l.getD k default = y) : (l.take (k + 1)).map f = (l.take k).map f ++ [f y] := by
  rw [List.take_add_one, List.map_append, List.getElem?_eq_getElem hk]
  rw [List.getD_eq_getElem?_getD, List.getElem?_eq_getElem hk] at hy
  rw [show l[k] = y from hy]; rfl
def mc (s : Snd) : List AV := s.m.cells
def tc (e : Ev) : List AV := (told e).cells
theorem sentL_cells (t : Tsk) : (sentL t).map Msg.cells = t.pend.map mc ++ t.evs.map tc := by
  unfold sentL
  rw [List.map_append, List.map_map, List.map_map]; rfl
def dd21 : Nat → List (List Nat)
  | 0 => [[], [0]]
  | 1 => [[], [2], [6], [7], [], [5], [], [8], [4, 9]]
  | 2 => [[], [], [3], [11], [10, 12], [1, 13]]
  | _ => []
def dd7 : Nat → List (List Nat)
  | 0 => [[], [0], [2], [3]]
  | 1 => [[], [], [11], [12]]
  | 2 => [[], [], [13]]
  | 3 => [[1, 14], [4], [], [15]]
  | 4 => [[4, 14], []]
  | 5 => [[], [], [16], [], []]
  | 6 => [[], []]
  | 7 => [[20], [], [21], [], [22]]
  | 8 => [[], [], [7], [24], [25], [23, 26], [27]]
  | 9 => [[], [19], [28]]
  | 10 => [[17, 18, 19, 20], [], [29]]
  | 11 => [[], [1], [30], [], []]
  | 12 => [[], []]
  | 13 => [[34], [], [35], [], [36]]
  | 14 => [[], [], [10], [37, 38, 39]]
  | 15 => [[], [33], [40]]
  | 16 => [[8, 31, 32, 33, 34], [5], [41], []]
  | _ => []
theorem sent_c (t : Tsk) (hok : t.ok) : ACall Tryz.prog 7 [.agg t.cells] (.tup [.ro 10 ((sentR t).map Msg.cells), .lit (.int .i64 (askE t))]) := by
  have hAk := asked_c t hok
  by_cases h0 : askE t = 0
  · obtain ⟨h1, h2⟩ := askE_0 h0
    obtain ⟨hg, hf, hp⟩ := goodT_few h1
    have hev : t.evs.length ≤ 4100 := by obtain ⟨f1, f2, f3, f4, f5, f6⟩ := hf; exact f4
    have hoke : ∀ k, k < t.evs.length → okE (t.evs.getD k default) = true := by
      unfold goodT listsB at hg
      simp only [Bool.and_eq_true] at hg
      exact fun k hk => allN_spec hg.2.2.2.2.2.1.2.1 k hk
    unfold sentR
    rw [if_pos h0, sentL_cells]
    rw [h0] at hAk ⊢
    clear h0 h1 h2 hf hok hg
    obtain ⟨kd, n, tn, pe, mk, st, ev, rw_, lt⟩ := t
    unfold Tsk.cells sndsV mksV entsV evsV rowsV rcdsV at *
    simp only at *
    refine acall_of (n := 42) (rs := [.tmp 2, .tmp 3]) Tryz.func7 rfl (by kernel_rfl) rfl rfl rfl ?_; simp only [argsE, Nat.reduceAdd]
    repeat (any_goals (first | (refine aops_cons (fun K' h' => ?_); simp only [go_sem, Nat.reduceLT, Nat.reduceLeDiff, Nat.reduceEqDiff, reduceIte, Nat.reduceAdd, Nat.reduceMul, Nat.reduceSub, Int.reduceLT, Int.reduceLE, Int.reduceToNat, Int.reduceNeg, reduceCtorEq]; (try ((refine ⟨_, hAk, ?_⟩); (try simp only [go_sem, Nat.reduceLT, Nat.reduceLeDiff, Nat.reduceEqDiff, reduceIte, Nat.reduceAdd, Nat.reduceMul, Nat.reduceSub, Int.reduceLT, Int.reduceLE, Int.reduceToNat, Int.reduceNeg, reduceCtorEq]))); (try simp (disch := omega) only [wrap_id, getD_map_in, Int.toNat_natCast]); (repeat (refine And.intro (by (omega)) ?_)); refine h' _ ?_; clear h' K') | (refine aops_nil (hK _ ?_); clear hK K gs; try simp only [aThen, aBlock]) | (refine AWp.sreg  dd7 rfl (fun gs K hgs hK => ?_); clear hgs) | refine AWp.seq ?_ | refine AWp.block ?_ | (refine AWp.skip ?_; try simp only [aThen, aBlock]) | (refine AWp.cond rfl (fun h => ?_) (fun h => ?_) <;> (try simp only [decide_eq_true_eq, decide_eq_false_iff_not, beq_iff_eq, bne_iff_ne, ne_eq, Bool.not_eq_true', Bool.not_eq_false', beq_eq_false_iff_ne, Bool.true_eq_false, Bool.false_eq_true, Int.not_le, Int.not_lt, Bool.and_eq_true, Bool.and_eq_false_iff, Bool.or_eq_true, Bool.or_eq_false_iff, bne_eq_false_iff_eq, reduceCtorEq] at h) <;> (try first | contradiction))))
    refine AWp.loopN pe.length (fun _ => True) (fun k => ⟨[(1, .bp 0 0), (5, .bp 1 0), (17, .ro 11 (pe.map Snd.cells)), (18, .lit (.int .i64 (pe.length : Int))), (19, .lit (.int .i64 (k : Int)))], [[AV.lit (.int .u8 kd), .lit (.int .i64 n), .lit (.int .i64 tn), .ro 11 (pe.map Snd.cells), .ro 1 (mk.map intC), .ro 11 (st.map Ent.cells), .ro 5 (ev.map Ev.cells), .ro 5 (rw_.map RowT.cells), .ro 3 (lt.map Rcd.cells)], [.own 0 10 0 k]], [some ⟨62, 10, (pe.take k).map mc⟩]⟩) ?_ ?_
    · refine (Wk.nilBox 1 0 62 10 rfl rfl (by simp)).trans (Wk.of rfl rfl ?_)
      simp [subE, eget, ASt.drop, dropE, keepR, lowE, AV.lowB, lowL, Nat.blt, Nat.ble]
    · intro k hk _
      repeat ((first | (refine aops_cons (fun K' h' => ?_); simp only [go_sem, Nat.reduceLT, Nat.reduceLeDiff, Nat.reduceEqDiff, reduceIte, Nat.reduceAdd, Nat.reduceMul, Nat.reduceSub, Int.reduceLT, Int.reduceLE, Int.reduceToNat, Int.reduceNeg, reduceCtorEq]; (try simp (disch := omega) only [wrap_id, getD_map_in, Int.toNat_natCast]); (repeat (refine And.intro (by (omega)) ?_)); refine h' _ ?_; clear h' K') | (refine aops_nil (hK _ ?_); clear hK K gs; try simp only [aThen, aBlock]) | (refine AWp.sreg  dd7 rfl (fun gs K hgs hK => ?_); clear hgs) | refine AWp.seq ?_))
      (refine AWp.cond rfl (fun h => ?_) (fun h => ?_) <;> (try simp only [decide_eq_true_eq, decide_eq_false_iff_not, beq_iff_eq, bne_iff_ne, ne_eq, Bool.not_eq_true', Bool.not_eq_false', beq_eq_false_iff_ne, Bool.true_eq_false, Bool.false_eq_true, Int.not_le, Int.not_lt, Bool.and_eq_true, Bool.and_eq_false_iff, Bool.or_eq_true, Bool.or_eq_false_iff, bne_eq_false_iff_eq, reduceCtorEq] at h))
      · obtain ⟨y, hy⟩ : ∃ y, pe.getD k default = y := ⟨_, rfl⟩
        have hst := take_snocS (f := mc) (by omega) hy
        have htk : List.take k ((pe.take k).map mc) = (pe.take k).map mc := List.take_of_length_le (by simp; omega)
        obtain ⟨o, mkd, mkk, mrt, mvv, mtt, p1, p2, p3, p4, p5⟩ := y
        repeat (any_goals (first | (refine aops_cons (fun K' h' => ?_); simp only [go_sem, Nat.reduceLT, Nat.reduceLeDiff, Nat.reduceEqDiff, reduceIte, Nat.reduceAdd, Nat.reduceMul, Nat.reduceSub, Int.reduceLT, Int.reduceLE, Int.reduceToNat, Int.reduceNeg, reduceCtorEq, hy, htk, Snd.cells, Msg.cells]; (try simp (disch := omega) only [wrap_id, getD_map_in, Int.toNat_natCast, hy, htk, Snd.cells, Msg.cells]); (repeat (refine And.intro (by (omega)) ?_)); refine h' _ ?_; clear h' K') | (refine aops_nil (hK _ ?_); clear hK K gs; try simp only [aThen, aBlock]) | (refine AWp.sreg  dd7 rfl (fun gs K hgs hK => ?_); clear hgs) | refine AWp.seq ?_ | refine AWp.block ?_ | (refine AWp.skip ?_; try simp only [aThen, aBlock]) | (refine AWp.reg  dd7 rfl (fun gs K hgs hK => ?_); clear hgs)))
        refine ⟨by omega, trivial, Wk.ofCut 2 1 rfl ?_ ?_⟩
        · simp only [ASt.drop, List.take_succ_cons, List.take_zero, htk, hst, List.append_assoc, Msg.cells, mc]
        · first
            | (simp [subE, eget, ASt.drop, dropE, keepR, lowE, AV.lowB, lowL, Nat.blt, Nat.ble]; done)
            | (simp [subE, eget, ASt.drop, dropE, keepR, lowE, AV.lowB, lowL, Nat.blt, Nat.ble]; omega)
      · have hk2 : k = pe.length := by omega
        subst hk2
        rw [List.take_of_length_le (Nat.le_refl _)]
        repeat (any_goals (first | (refine aops_cons (fun K' h' => ?_); simp only [go_sem, Nat.reduceLT, Nat.reduceLeDiff, Nat.reduceEqDiff, reduceIte, Nat.reduceAdd, Nat.reduceMul, Nat.reduceSub, Int.reduceLT, Int.reduceLE, Int.reduceToNat, Int.reduceNeg, reduceCtorEq]; (try simp (disch := omega) only [wrap_id, getD_map_in, Int.toNat_natCast]); (repeat (refine And.intro (by (omega)) ?_)); refine h' _ ?_; clear h' K') | (refine aops_nil (hK _ ?_); clear hK K gs; try simp only [aThen, aBlock]) | (refine AWp.sreg  dd7 rfl (fun gs K hgs hK => ?_); clear hgs) | refine AWp.seq ?_ | refine AWp.block ?_ | (refine AWp.exit ?_; try simp only [aThen, aBlock, Nat.reduceEqDiff, reduceIte])))
        refine AWp.loopN ev.length (fun _ => True) (fun k => ⟨[(5, .bp 1 0), (8, .fn 21 [.bp 1 0]), (31, .ro 5 (ev.map Ev.cells)), (32, .lit (.int .i64 (ev.length : Int))), (33, .lit (.int .i64 (k : Int)))], [[AV.lit (.int .u8 kd), .lit (.int .i64 n), .lit (.int .i64 tn), .ro 11 (pe.map Snd.cells), .ro 1 (mk.map intC), .ro 11 (st.map Ent.cells), .ro 5 (ev.map Ev.cells), .ro 5 (rw_.map RowT.cells), .ro 3 (lt.map Rcd.cells)], [.own 0 10 0 (pe.length + k)]], [some ⟨62, 10, pe.map mc ++ (ev.take k).map tc⟩]⟩) ?_ ?_
        · refine Wk.of (by simp [ASt.drop]) (by simp [ASt.drop]) ?_
          simp [subE, eget, ASt.drop, dropE, keepR, lowE, AV.lowB, lowL, Nat.blt, Nat.ble]
        · intro k hk _
          repeat ((first | (refine aops_cons (fun K' h' => ?_); simp only [go_sem, Nat.reduceLT, Nat.reduceLeDiff, Nat.reduceEqDiff, reduceIte, Nat.reduceAdd, Nat.reduceMul, Nat.reduceSub, Int.reduceLT, Int.reduceLE, Int.reduceToNat, Int.reduceNeg, reduceCtorEq]; (try simp (disch := omega) only [wrap_id, getD_map_in, Int.toNat_natCast]); (repeat (refine And.intro (by (omega)) ?_)); refine h' _ ?_; clear h' K') | (refine aops_nil (hK _ ?_); clear hK K gs; try simp only [aThen, aBlock]) | (refine AWp.sreg  dd7 rfl (fun gs K hgs hK => ?_); clear hgs) | refine AWp.seq ?_))
          (refine AWp.cond rfl (fun h => ?_) (fun h => ?_) <;> (try simp only [decide_eq_true_eq, decide_eq_false_iff_not, beq_iff_eq, bne_iff_ne, ne_eq, Bool.not_eq_true', Bool.not_eq_false', beq_eq_false_iff_ne, Bool.true_eq_false, Bool.false_eq_true, Int.not_le, Int.not_lt, Bool.and_eq_true, Bool.and_eq_false_iff, Bool.or_eq_true, Bool.or_eq_false_iff, bne_eq_false_iff_eq, reduceCtorEq] at h))
          · obtain ⟨y, hy⟩ : ∃ y, ev.getD k default = y := ⟨_, rfl⟩
            have hst := take_snocS (f := tc) (by omega) hy
            have hOf := of_c y
            rw [told_ok (hy ▸ hoke k (by omega))] at hOf
            have htk : List.take (pe.length + k) (pe.map mc ++ (ev.take k).map tc) = pe.map mc ++ (ev.take k).map tc := List.take_of_length_le (by simp; omega)
            have htc : tc y = (told y).cells := rfl
            rw [htc] at hst
            generalize told y = x at *
            generalize errE y = er at *
            obtain ⟨mkd, mkk, mrt, mvv, mtt, p1, p2, p3, p4, p5⟩ := x
            clear htc
            obtain ⟨y1, y2, y3, y4, y5⟩ := y
            unfold Ev.cells Msg.cells at hOf
            simp only at hOf
            repeat (first | (refine AWp.skip ?_; try simp only [aThen, aBlock]) | refine AWp.seq ?_ | refine AWp.block ?_)
            refine AWp.reg dd7 rfl (fun gs K hgs hK => ?_); clear hgs
            repeat (refine aops_cons (fun K' h' => ?_); simp only [go_sem, Nat.reduceLT, Nat.reduceLeDiff, Nat.reduceEqDiff, reduceIte, Nat.reduceAdd, Nat.reduceMul, Nat.reduceSub, Int.reduceLT, Int.reduceLE, Int.reduceToNat, Int.reduceNeg, reduceCtorEq, hy, Ev.cells, htk]; (try simp (disch := omega) only [wrap_id, getD_map_in, Int.toNat_natCast, hy, Ev.cells, htk]); (repeat (refine And.intro (by (omega)) ?_)); refine h' _ ?_; clear h' K')
            refine aops_nil (hK _ ?_); clear hK K gs
            simp only [aThen, aBlock]
            refine AWp.inlineF0 (cs := [.bp 1 0]) (m := 14) [_, _] [[], []] _ [] rfl Tryz.func21 rfl (by kernel_rfl) rfl rfl (by simp [dok]) ?_
            generalize gslot _ = gs
            iterate 2 (refine aops_cons (fun K' h' => ?_); simp only [go_sem, Nat.reduceLT, Nat.reduceLeDiff, Nat.reduceEqDiff, reduceIte, Nat.reduceAdd, Nat.reduceMul, Nat.reduceSub, Int.reduceLT, Int.reduceLE, Int.reduceToNat, Int.reduceNeg, reduceCtorEq, hy, Ev.cells, htk]; (try simp (disch := omega) only [wrap_id, getD_map_in, Int.toNat_natCast, hy, Ev.cells, htk]); (repeat (refine And.intro (by (omega)) ?_)); refine h' _ ?_; clear h' K')
            refine aops_nil ?_
            refine ⟨trivial, rfl, ⟨trivial, trivial⟩, rfl, fun w0 S0 G hm => ?_⟩
            simp only [go_sem, Nat.reduceLT, Nat.reduceLeDiff, Nat.reduceEqDiff, reduceIte, Nat.reduceAdd, Nat.reduceMul, Nat.reduceSub, Int.reduceLT, Int.reduceLE, Int.reduceToNat, Int.reduceNeg, reduceCtorEq, hy, Ev.cells, htk]
            repeat (any_goals (first | (refine aops_cons (fun K' h' => ?_); simp only [go_sem, Nat.reduceLT, Nat.reduceLeDiff, Nat.reduceEqDiff, reduceIte, Nat.reduceAdd, Nat.reduceMul, Nat.reduceSub, Int.reduceLT, Int.reduceLE, Int.reduceToNat, Int.reduceNeg, reduceCtorEq, hy, Ev.cells, htk]; (try ((refine ⟨_, hOf, ?_⟩); (try simp only [go_sem, Nat.reduceLT, Nat.reduceLeDiff, Nat.reduceEqDiff, reduceIte, Nat.reduceAdd, Nat.reduceMul, Nat.reduceSub, Int.reduceLT, Int.reduceLE, Int.reduceToNat, Int.reduceNeg, reduceCtorEq, hy, Ev.cells, htk]))); (try simp (disch := omega) only [wrap_id, getD_map_in, Int.toNat_natCast, hy, Ev.cells, htk]); (repeat (refine And.intro (by (omega)) ?_)); refine h' _ ?_; clear h' K') | (refine aops_nil (hK _ ?_); clear hK K gs; try simp only [aThen, aBlock]) | (refine J.AWp.sreg  dd21 rfl (fun gs K hgs hK => ?_); clear hgs) | (refine J.AWp.reg  dd21 rfl (fun gs K hgs hK => ?_); clear hgs)))
            refine ⟨.inl trivial, ?_⟩
            clear hm G S0 w0
            refine aops_nil ?_
            simp only [ASt.back, backE, ASt.put, eput, eget, Nat.reduceAdd, Nat.reduceSub, Nat.reduceLeDiff, reduceIte, Nat.reduceEqDiff, ASt.drop, dropE, keepR, Nat.beq, List.any_nil, List.any_cons, cond_true, cond_false, Bool.false_eq_true, Bool.or_false, Bool.or_true, Bool.true_or, Bool.or_self]
            try simp only [aThen, aBlock]
            repeat (any_goals (first | (refine aops_cons (fun K' h' => ?_); simp only [go_sem, Nat.reduceLT, Nat.reduceLeDiff, Nat.reduceEqDiff, reduceIte, Nat.reduceAdd, Nat.reduceMul, Nat.reduceSub, Int.reduceLT, Int.reduceLE, Int.reduceToNat, Int.reduceNeg, reduceCtorEq, hy, Ev.cells, htk]; (try simp (disch := omega) only [wrap_id, getD_map_in, Int.toNat_natCast, hy, Ev.cells, htk]); (repeat (refine And.intro (by (omega)) ?_)); refine h' _ ?_; clear h' K') | (refine aops_nil (hK _ ?_); clear hK K gs; try simp only [aThen, aBlock]) | (refine AWp.reg  dd7 rfl (fun gs K hgs hK => ?_); clear hgs)))
            refine ⟨by omega, Wk.ofCut 2 1 rfl ?_ ?_⟩
            · simp only [ASt.drop, List.take_succ_cons, List.take_zero, htk, hst, List.append_assoc, Msg.cells]
            · first
                | (simp [subE, eget, ASt.drop, dropE, keepR, lowE, AV.lowB, lowL, Nat.blt, Nat.ble]; done)
                | (simp [subE, eget, ASt.drop, dropE, keepR, lowE, AV.lowB, lowL, Nat.blt, Nat.ble]; omega)
          · have hk2 : k = ev.length := by omega
            subst hk2
            rw [List.take_of_length_le (Nat.le_refl _)]
            have htk : List.take (pe.length + ev.length) (pe.map mc ++ ev.map tc) = pe.map mc ++ ev.map tc := List.take_of_length_le (by simp)
            repeat (any_goals (first | (refine aops_cons (fun K' h' => ?_); simp only [go_sem, Nat.reduceLT, Nat.reduceLeDiff, Nat.reduceEqDiff, reduceIte, Nat.reduceAdd, Nat.reduceMul, Nat.reduceSub, Int.reduceLT, Int.reduceLE, Int.reduceToNat, Int.reduceNeg, reduceCtorEq]; (try simp (disch := omega) only [wrap_id, getD_map_in, Int.toNat_natCast]); (repeat (refine And.intro (by (omega)) ?_)); refine h' _ ?_; clear h' K') | (refine aops_nil (hK _ ?_); clear hK K gs; try simp only [aThen, aBlock]) | (refine AWp.sreg  dd7 rfl (fun gs K hgs hK => ?_); clear hgs) | (refine AWp.ret ?_; try simp only [aThen, aBlock]) | (refine AWp.exit ?_; try simp only [aThen, aBlock, Nat.reduceEqDiff, reduceIte])))
            simp only [Out, outA, outL, resA, go_sem, Nat.reduceLT, Nat.reduceLeDiff, Nat.reduceEqDiff, reduceIte, Nat.reduceAdd, Nat.reduceMul, Nat.reduceSub, Int.reduceLT, Int.reduceLE, Int.reduceToNat, Int.reduceNeg, reduceCtorEq]
            rw [htk]
            exact AVle.refl _
  · have hR : AV.tup [.ro 10 ((sentR t).map Msg.cells), .lit (.int .i64 (askE t))] = .tup [.ro 10 [], .lit (.int .i64 (askE t))] := by unfold sentR; rw [if_neg h0]; rfl
    rw [hR]
    clear hR hok
    generalize askE t = e at *
    obtain ⟨kd, n, tn, pe, mk, st, ev, rw_, lt⟩ := t
    unfold Tsk.cells sndsV mksV entsV evsV rowsV rcdsV at *
    simp only at *
    refine acall_of (n := 42) (rs := [.tmp 2, .tmp 3]) Tryz.func7 rfl (by kernel_rfl) rfl rfl rfl ?_; simp only [argsE, Nat.reduceAdd]
    repeat (any_goals (first | (refine aops_cons (fun K' h' => ?_); simp only [go_sem, Nat.reduceLT, Nat.reduceLeDiff, Nat.reduceEqDiff, reduceIte, Nat.reduceAdd, Nat.reduceMul, Nat.reduceSub, Int.reduceLT, Int.reduceLE, Int.reduceToNat, Int.reduceNeg, reduceCtorEq]; (try ((refine ⟨_, hAk, ?_⟩); (try simp only [go_sem, Nat.reduceLT, Nat.reduceLeDiff, Nat.reduceEqDiff, reduceIte, Nat.reduceAdd, Nat.reduceMul, Nat.reduceSub, Int.reduceLT, Int.reduceLE, Int.reduceToNat, Int.reduceNeg, reduceCtorEq]))); (try simp (disch := omega) only [wrap_id, getD_map_in, Int.toNat_natCast]); (repeat (refine And.intro (by (omega)) ?_)); refine h' _ ?_; clear h' K') | (refine aops_nil (hK _ ?_); clear hK K gs; try simp only [aThen, aBlock]) | (refine AWp.sreg  dd7 rfl (fun gs K hgs hK => ?_); clear hgs) | refine AWp.seq ?_ | (refine AWp.ret ?_; try simp only [aThen, aBlock]) | (refine AWp.cond rfl (fun h => ?_) (fun h => ?_) <;> (try simp only [decide_eq_true_eq, decide_eq_false_iff_not, beq_iff_eq, bne_iff_ne, ne_eq, Bool.not_eq_true', Bool.not_eq_false', beq_eq_false_iff_ne, Bool.true_eq_false, Bool.false_eq_true, Int.not_le, Int.not_lt, Bool.and_eq_true, Bool.and_eq_false_iff, Bool.or_eq_true, Bool.or_eq_false_iff, bne_eq_false_iff_eq, reduceCtorEq] at h) <;> (try first | contradiction))))
    simp only [Out, outA, outL, resA, go_sem, Nat.reduceLT, Nat.reduceLeDiff, Nat.reduceEqDiff, reduceIte, Nat.reduceAdd, Nat.reduceMul, Nat.reduceSub, Int.reduceLT, Int.reduceLE, Int.reduceToNat, Int.reduceNeg, reduceCtorEq]
    exact AVle.tup ⟨AVle.nil 10, AVle.refl _, trivial⟩
end Go.Proofs.YtjeehkdepoiegaaGreat
