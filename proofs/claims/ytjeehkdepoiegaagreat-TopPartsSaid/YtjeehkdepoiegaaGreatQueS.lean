/-
  The walks over tasks and queues: Send, of the program and of the reference.
-/
import Derived.Test.YtjeehkdepoiegaaGreatQueXY
namespace Go.Proofs.YtjeehkdepoiegaaGreat
open Go.AL Go.RowKit
set_option linter.unusedSimpArgs false
set_option linter.unusedVariables false
set_option maxRecDepth 10000
set_option maxHeartbeats 8000000
theorem send_cases (t : Tsk) (outs : List Que) : (askQ t [] outs ≠ 0 ∧ sendE t outs = askQ t [] outs ∧ sendT t outs = zeroT ∧ sendL t outs = []) ∨
    (askQ t [] outs = 0 ∧ t.pend = [] ∧ sendE t outs = 6 ∧ sendT t outs = zeroT ∧ sendL t outs = []) ∨
    (askQ t [] outs = 0 ∧ ∃ s l, t.pend = s :: l ∧ (((outs.length : Int) ≤ s.out ∧ sendE t outs = 2 ∧ sendT t outs = zeroT ∧ sendL t outs = []) ∨
      (s.out < (outs.length : Int) ∧ putE (outs.getD s.out.toNat default) s.m = 18 ∧ putR (outs.getD s.out.toNat default) s.m = zeroQ ∧ sendE t outs = 18 ∧ sendT t outs = zeroT ∧ sendL t outs = []) ∨
      (s.out < (outs.length : Int) ∧ putE (outs.getD s.out.toNat default) s.m = 0 ∧ putR (outs.getD s.out.toNat default) s.m = putQ (outs.getD s.out.toNat default) s.m ∧ sendE t outs = 0 ∧ sendT t outs = { t with pend := l } ∧
        sendL t outs = outs.set s.out.toNat (putQ (outs.getD s.out.toNat default) s.m)))) := by
  by_cases h0 : askQ t [] outs = 0
  · cases hp : t.pend with
    | nil =>
      have : sendE t outs = 6 := by unfold sendE; rw [if_neg (by simp [h0]), hp]
      exact .inr (.inl ⟨h0, rfl, this, by unfold sendT; rw [this]; rfl, by unfold sendL; rw [this]; rfl⟩)
    | cons s l =>
      refine .inr (.inr ⟨h0, s, l, rfl, ?_⟩)
      have e1 : sendE t outs = if (outs.length : Int) ≤ s.out then 2 else if roomB (outs.getD s.out.toNat default) = true then 0 else 18 := by unfold sendE; rw [if_neg (by simp [h0]), hp]
      obtain ⟨q1, _, _, _, q5⟩ := askQ_0 h0
      obtain ⟨_, _, g3⟩ := goodT_turn q1
      obtain ⟨p1, p2, p3⟩ := g3 s (by rw [hp]; simp)
      by_cases h1 : (outs.length : Int) ≤ s.out
      · rw [if_pos h1] at e1
        exact .inl ⟨h1, e1, by unfold sendT; rw [e1]; rfl, by unfold sendL; rw [e1]; rfl⟩
      · rw [if_neg h1] at e1
        have hgx := q5 (outs.getD s.out.toNat default) (getQ_mem (by omega))
        have hqx : queE (outs.getD s.out.toNat default) = 0 := by unfold queE; rw [if_pos hgx]
        have hbd := queE_bd hqx
        by_cases h2 : roomB (outs.getD s.out.toNat default) = true
        · rw [if_pos h2] at e1
          unfold roomB at h2
          have h2 := of_decide_eq_true h2
          have e2 : putE (outs.getD s.out.toNat default) s.m = 0 := by unfold putE; rw [if_neg (fun h => h hqx), if_neg (by simp [p3]), if_neg (by omega)]
          refine .inr (.inr ⟨by omega, e2, by unfold putR; rw [if_pos e2], e1, by unfold sendT; rw [if_pos e1, hp]; rfl, by unfold sendL; rw [if_pos e1, hp]⟩)
        · rw [if_neg h2] at e1
          unfold roomB at h2
          have h2 : ¬ ((outs.getD s.out.toNat default).list.length : Int) < (outs.getD s.out.toNat default).room := by simpa using h2
          have e2 : putE (outs.getD s.out.toNat default) s.m = 18 := by unfold putE; rw [if_neg (fun h => h hqx), if_neg (by simp [p3]), if_pos (by omega)]
          refine .inr (.inl ⟨by omega, e2, by unfold putR; rw [e2]; rfl, e1, by unfold sendT; rw [e1]; rfl, by unfold sendL; rw [e1]; rfl⟩)
  · have : sendE t outs = askQ t [] outs := by unfold sendE; rw [if_pos h0]
    exact .inl ⟨h0, this, by unfold sendT; rw [this, if_neg h0], by unfold sendL; rw [this, if_neg h0]⟩
theorem nil2_le : AVle (.lit (.slice none 0 0)) (quesV []) := AVle.nil 2
def dd10 : Nat → List (List Nat)
  | 0 => [[], [0], [], [5], [6]]
  | 1 => [[], [], [], [13, 14], [15]]
  | 2 => [[], [], [16]]
  | 3 => [[1, 2, 17], [], [7], [18], [], [19]]
  | 4 => [[7, 17], [], [20], [21], [22]]
  | 5 => [[1, 2, 23], [], [24], [], []]
  | 6 => [[23], [], [25], [26], [27], [], [28]]
  | 7 => [[], [], [29], [], [31], [30, 32]]
  | 8 => [[1, 2, 8, 33], [], [34], [], []]
  | 10 => [[], [], [46]]
  | 11 => [[1, 2, 8, 9, 47], [], [10], [48], [], [49]]
  | 12 => [[10, 47], [1], [50], [51]]
  | 13 => [[], [], [52], []]
  | 14 => [[], []]
  | 15 => [[55], [], [56]]
  | 16 => [[], [], [], [], [12], [59, 60], [61], [62], [63], [57, 58], [65], [64, 66]]
  | 17 => [[], [54], [67]]
  | 18 => [[53, 54, 55], [], [8], [69], [9], [68, 70], [71, 72]]
  | 19 => [[], [], [73], [74]]
  | 20 => [[], [], [75], [76], [], [77, 78]]
  | 21 => [[], [2], [11], [79], [80], []]
  | _ => []
def fo10 : Nat → List Nat
  | 9 => [1, 2, 4, 8, 9, 10]
  | _ => []
theorem send_c (t : Tsk) (outs : List Que) (hok : t.ok) (ho : outs.length ≤ maxLen) : ACall Tryz.prog 10 [.agg t.cells, quesV outs] (.tup [.agg (sendT t outs).cells, quesV (sendL t outs), .lit (.int .i64 (sendE t outs))]) := by
  have hAk : ACall Tryz.prog 24 [.agg t.cells, .lit (.slice none 0 0), quesV outs] (.lit (.int .i64 (askQ t [] outs))) := (askedQ_c t [] outs hok (by simp [maxLen]) ho).mono ⟨AVle.refl _, AVle.nil 2, AVle.refl _, trivial⟩ (AVle.refl _)
  rcases send_cases t outs with ⟨h1, h2, h3, h4⟩ | ⟨h1, h2, h3, h4, h5⟩ | ⟨h1, s, l, hpe, h2⟩
  · rw [h2, h3, h4]
    generalize askQ t [] outs = aq at *
    clear hok h2 h3 h4
    obtain ⟨kd, n, tn, pe, mk, st, ev, rw_, lt⟩ := t
    rw [show quesV outs = .ro 2 (outs.map Que.cells) from rfl] at *
    rw [show (Tsk.mk kd n tn pe mk st ev rw_ lt).cells = [.lit (.int .u8 kd), .lit (.int .i64 n), .lit (.int .i64 tn), .ro 11 (pe.map Snd.cells), .ro 1 (mk.map intC), .ro 11 (st.map Ent.cells), .ro 5 (ev.map Ev.cells), .ro 5 (rw_.map RowT.cells), .ro 3 (lt.map Rcd.cells)] from rfl] at *
    refine acall_of (n := 81) (rs := [.cell 4 39, .tmp 5, .tmp 6]) Tryz.func10 rfl (by kernel_rfl) rfl rfl rfl ?_; simp only [argsE, Nat.reduceAdd]
    repeat (any_goals (first | ((refine aops_cons (fun K' h' => ?_)); simp only [go_sem, Nat.reduceLT, Nat.reduceLeDiff, Nat.reduceEqDiff, reduceIte, Nat.reduceAdd, Nat.reduceMul, Nat.reduceSub, Int.reduceLT, Int.reduceLE, Int.reduceToNat, Int.reduceNeg, reduceCtorEq, Que.cells]; (try ((refine ⟨_, hAk, ?_⟩); (try simp only [go_sem, Nat.reduceLT, Nat.reduceLeDiff, Nat.reduceEqDiff, reduceIte, Nat.reduceAdd, Nat.reduceMul, Nat.reduceSub, Int.reduceLT, Int.reduceLE, Int.reduceToNat, Int.reduceNeg, reduceCtorEq, Que.cells]))); (try simp (disch := omega) only [wrap_id, getD_map_in, Int.toNat_natCast, Que.cells]); (repeat (refine And.intro (by (omega)) ?_)); refine h' _ ?_; clear h' K') | (refine aops_nil (hK _ ?_); clear hK K gs; try simp only [aThen, aBlock]) | (refine AWp.sreg  dd10 rfl (fun gs K hgs hK => ?_); clear hgs) | refine AWp.seq ?_ | (refine AWp.ret ?_; try simp only [aThen, aBlock]) | (refine AWp.cond rfl (fun h => ?_) (fun h => ?_) <;> (try simp only [decide_eq_true_eq, decide_eq_false_iff_not, beq_iff_eq, bne_iff_ne, ne_eq, Bool.not_eq_true', Bool.not_eq_false', beq_eq_false_iff_ne, Bool.true_eq_false, Bool.false_eq_true, Int.not_le, Int.not_lt, Bool.and_eq_true, Bool.and_eq_false_iff, Bool.or_eq_true, Bool.or_eq_false_iff, bne_eq_false_iff_eq, reduceCtorEq] at h) <;> (try first | contradiction))))
    simp only [Out, outA, outL, resA, go_sem, Nat.reduceLT, Nat.reduceLeDiff, Nat.reduceEqDiff, reduceIte, Nat.reduceAdd, Nat.reduceMul, Nat.reduceSub, Int.reduceLT, Int.reduceLE, Int.reduceToNat, Int.reduceNeg, reduceCtorEq]
    exact AVle.tup ⟨zeroT_le, nil2_le, AVle.refl _, trivial⟩
  · rw [h3, h4, h5]
    rw [h1] at hAk
    clear hok h1 h3 h4 h5
    obtain ⟨kd, n, tn, pe, mk, st, ev, rw_, lt⟩ := t
    simp only at h2
    subst h2
    rw [show quesV outs = .ro 2 (outs.map Que.cells) from rfl] at *
    rw [show (Tsk.mk kd n tn [] mk st ev rw_ lt).cells = [.lit (.int .u8 kd), .lit (.int .i64 n), .lit (.int .i64 tn), .ro 11 [], .ro 1 (mk.map intC), .ro 11 (st.map Ent.cells), .ro 5 (ev.map Ev.cells), .ro 5 (rw_.map RowT.cells), .ro 3 (lt.map Rcd.cells)] from rfl] at *
    refine acall_of (n := 81) (rs := [.cell 4 39, .tmp 5, .tmp 6]) Tryz.func10 rfl (by kernel_rfl) rfl rfl rfl ?_; simp only [argsE, Nat.reduceAdd]
    repeat (any_goals (first | ((refine aops_cons (fun K' h' => ?_)); simp only [go_sem, Nat.reduceLT, Nat.reduceLeDiff, Nat.reduceEqDiff, reduceIte, Nat.reduceAdd, Nat.reduceMul, Nat.reduceSub, Int.reduceLT, Int.reduceLE, Int.reduceToNat, Int.reduceNeg, reduceCtorEq, Que.cells]; (try ((refine ⟨_, hAk, ?_⟩); (try simp only [go_sem, Nat.reduceLT, Nat.reduceLeDiff, Nat.reduceEqDiff, reduceIte, Nat.reduceAdd, Nat.reduceMul, Nat.reduceSub, Int.reduceLT, Int.reduceLE, Int.reduceToNat, Int.reduceNeg, reduceCtorEq, Que.cells]))); (try simp (disch := omega) only [wrap_id, getD_map_in, Int.toNat_natCast, Que.cells]); (repeat (refine And.intro (by (omega)) ?_)); refine h' _ ?_; clear h' K') | (refine aops_nil (hK _ ?_); clear hK K gs; try simp only [aThen, aBlock]) | (refine AWp.sreg  dd10 rfl (fun gs K hgs hK => ?_); clear hgs) | refine AWp.seq ?_ | (refine AWp.ret ?_; try simp only [aThen, aBlock]) | (refine AWp.skip ?_; try simp only [aThen, aBlock]) | (refine AWp.cond rfl (fun h => ?_) (fun h => ?_) <;> (try simp only [decide_eq_true_eq, decide_eq_false_iff_not, beq_iff_eq, bne_iff_ne, ne_eq, Bool.not_eq_true', Bool.not_eq_false', beq_eq_false_iff_ne, Bool.true_eq_false, Bool.false_eq_true, Int.not_le, Int.not_lt, Bool.and_eq_true, Bool.and_eq_false_iff, Bool.or_eq_true, Bool.or_eq_false_iff, bne_eq_false_iff_eq, reduceCtorEq] at h) <;> (try first | contradiction))))
    simp only [Out, outA, outL, resA, go_sem, Nat.reduceLT, Nat.reduceLeDiff, Nat.reduceEqDiff, reduceIte, Nat.reduceAdd, Nat.reduceMul, Nat.reduceSub, Int.reduceLT, Int.reduceLE, Int.reduceToNat, Int.reduceNeg, reduceCtorEq]
    exact AVle.tup ⟨zeroT_le, nil2_le, AVle.refl _, trivial⟩
  · obtain ⟨q1, _, q3, _, q5⟩ := askQ_0 h1
    obtain ⟨_, _, g3⟩ := goodT_turn q1
    obtain ⟨_, hf, hp⟩ := goodT_few q1
    obtain ⟨p1, p2, p3⟩ := g3 s (by rw [hpe]; simp)
    have hCl := cloneT_n t hf
    rw [h1] at hAk
    have hCq := cloneQue_n outs (by omega)
    have hlq : ∀ k, k < outs.length → (outs.getD k default).list.length ≤ 8 := fun k hk => by
      have := goodQ_bd (q5 _ (getQ_mem hk))
      omega
    clear hok h1 q1 hf g3 q5
    obtain ⟨kd, n, tn, pe, mk, st, ev, rw_, lt⟩ := t
    simp only at hpe hp hCl
    subst hpe
    unfold mksV entsV evsV rowsV rcdsV at hCl
    rw [show quesV outs = .ro 2 (outs.map Que.cells) from rfl] at *
    obtain ⟨ou, kd', k1, rt, v, tt, r1, r2, r3, r4, r5⟩ := s
    rw [show (Tsk.mk kd n tn (Snd.mk ou (Msg.mk kd' k1 rt v tt r1 r2 r3 r4 r5) :: l) mk st ev rw_ lt).cells = [.lit (.int .u8 kd), .lit (.int .i64 n), .lit (.int .i64 tn), .ro 11 ((Snd.mk ou (Msg.mk kd' k1 rt v tt r1 r2 r3 r4 r5) :: l).map Snd.cells), .ro 1 (mk.map intC), .ro 11 (st.map Ent.cells), .ro 5 (ev.map Ev.cells), .ro 5 (rw_.map RowT.cells), .ro 3 (lt.map Rcd.cells)] from rfl] at *
    simp only [List.map_cons, Snd.cells, Msg.cells, List.length_cons] at hAk hCl hp p1 p2 h2 ⊢
    rcases h2 with ⟨c1, c2, c3, c4⟩ | ⟨c1, c2, c3, c4, c5, c6⟩ | ⟨c1, c2, c3, c4, c5, c6⟩
    · rw [c2, c3, c4]
      clear c2 c3 c4 hCl hCq hlq
      refine acall_of (n := 81) (rs := [.cell 4 39, .tmp 5, .tmp 6]) Tryz.func10 rfl (by kernel_rfl) rfl rfl rfl ?_; simp only [argsE, Nat.reduceAdd]
      repeat (any_goals (first | ((refine aops_cons (fun K' h' => ?_)); simp only [go_sem, Nat.reduceLT, Nat.reduceLeDiff, Nat.reduceEqDiff, reduceIte, Nat.reduceAdd, Nat.reduceMul, Nat.reduceSub, Int.reduceLT, Int.reduceLE, Int.reduceToNat, Int.reduceNeg, reduceCtorEq, Que.cells]; (try ((refine ⟨_, hAk, ?_⟩); (try simp only [go_sem, Nat.reduceLT, Nat.reduceLeDiff, Nat.reduceEqDiff, reduceIte, Nat.reduceAdd, Nat.reduceMul, Nat.reduceSub, Int.reduceLT, Int.reduceLE, Int.reduceToNat, Int.reduceNeg, reduceCtorEq, Que.cells]))); (try simp (disch := omega) only [wrap_id, getD_map_in, Int.toNat_natCast, Que.cells]); (repeat (refine And.intro (by (omega)) ?_)); refine h' _ ?_; clear h' K') | (refine aops_nil (hK _ ?_); clear hK K gs; try simp only [aThen, aBlock]) | (refine AWp.sreg  dd10 rfl (fun gs K hgs hK => ?_); clear hgs) | refine AWp.seq ?_ | (refine AWp.ret ?_; try simp only [aThen, aBlock]) | (refine AWp.skip ?_; try simp only [aThen, aBlock]) | (refine AWp.cond rfl (fun h => ?_) (fun h => ?_) <;> (try simp only [decide_eq_true_eq, decide_eq_false_iff_not, beq_iff_eq, bne_iff_ne, ne_eq, Bool.not_eq_true', Bool.not_eq_false', beq_eq_false_iff_ne, Bool.true_eq_false, Bool.false_eq_true, Int.not_le, Int.not_lt, Bool.and_eq_true, Bool.and_eq_false_iff, Bool.or_eq_true, Bool.or_eq_false_iff, bne_eq_false_iff_eq, reduceCtorEq] at h) <;> (try first | contradiction | (exfalso; omega)))))
      simp only [Out, outA, outL, resA, go_sem, Nat.reduceLT, Nat.reduceLeDiff, Nat.reduceEqDiff, reduceIte, Nat.reduceAdd, Nat.reduceMul, Nat.reduceSub, Int.reduceLT, Int.reduceLE, Int.reduceToNat, Int.reduceNeg, reduceCtorEq]
      exact AVle.tup ⟨zeroT_le, nil2_le, AVle.refl _, trivial⟩
    · have hPu := put_c (outs.getD ou.toNat default) ⟨kd', k1, rt, v, tt, r1, r2, r3, r4, r5⟩
      rw [c2, c3] at hPu
      rw [c4, c5, c6]
      clear c2 c3 c4 c5 c6 hCl hCq
      obtain ⟨x, hx⟩ : ∃ x, outs.getD ou.toNat default = x := ⟨_, rfl⟩
      rw [hx] at hPu
      obtain ⟨ra, la⟩ := x
      rw [show Msg.cells ⟨kd', k1, rt, v, tt, r1, r2, r3, r4, r5⟩ = [AV.lit (Value.int IntKind.u8 kd'), AV.lit (Value.int IntKind.i64 k1), AV.lit (Value.int IntKind.i64 rt), AV.lit (Value.int IntKind.i64 v), AV.lit (Value.int IntKind.i64 tt), AV.lit (Value.int IntKind.i64 r1), AV.lit (Value.int IntKind.i64 r2), AV.lit (Value.int IntKind.i64 r3), AV.lit (Value.int IntKind.i64 r4), AV.lit (Value.int IntKind.i64 r5)] from rfl] at hPu
      unfold Que.cells zeroQ at hPu
      simp only [List.map_nil] at hPu
      refine acall_of (n := 81) (rs := [.cell 4 39, .tmp 5, .tmp 6]) Tryz.func10 rfl (by kernel_rfl) rfl rfl rfl ?_; simp only [argsE, Nat.reduceAdd]
      repeat (any_goals (first | ((first | refine aops_cons (fun K' h' => ?_) | refine aopsM_cons (fun K' h' => ?_)); simp only [go_sem, Nat.reduceLT, Nat.reduceLeDiff, Nat.reduceEqDiff, reduceIte, Nat.reduceAdd, Nat.reduceMul, Nat.reduceSub, Int.reduceLT, Int.reduceLE, Int.reduceToNat, Int.reduceNeg, reduceCtorEq, Que.cells, hx]; (try ((first | refine ⟨_, hAk, ?_⟩ | refine ⟨_, hPu, ?_⟩); (try simp only [go_sem, Nat.reduceLT, Nat.reduceLeDiff, Nat.reduceEqDiff, reduceIte, Nat.reduceAdd, Nat.reduceMul, Nat.reduceSub, Int.reduceLT, Int.reduceLE, Int.reduceToNat, Int.reduceNeg, reduceCtorEq, Que.cells, hx]))); (try simp (disch := omega) only [wrap_id, getD_map_in, Int.toNat_natCast, Que.cells, hx]); (repeat (refine And.intro (by (first | omega | (simp; done))) ?_)); refine h' _ ?_; clear h' K') | (refine aops_nil (hK _ ?_); clear hK K gs; try simp only [aThen, aBlock]) | (refine AWp.sreg  dd10 rfl (fun gs K hgs hK => ?_); clear hgs) | refine AWp.seq ?_ | (refine AWp.ret ?_; try simp only [aThen, aBlock]) | (refine AWp.skip ?_; try simp only [aThen, aBlock]) | ((refine AWp.regM (id := 9) fo10 (true, false) mo_fact (by kernel_rfl) (by kernel_rfl) (fun gs K hgs hK => ?_)); clear hgs) | (refine aopsM_nil (hK _ ?_); clear hK K gs; simp only [fo10]; simp only [ASt.prune, pruneE, keepB, keepR, Bool.or_false, Bool.or_true, Bool.true_or, Bool.false_or, reduceIte, Bool.or_self, Bool.false_eq_true, aThen, aBlock, Nat.reduceEqDiff]) | (refine AWp.cond rfl (fun h => ?_) (fun h => ?_) <;> (try simp only [decide_eq_true_eq, decide_eq_false_iff_not, beq_iff_eq, bne_iff_ne, ne_eq, Bool.not_eq_true', Bool.not_eq_false', beq_eq_false_iff_ne, Bool.true_eq_false, Bool.false_eq_true, Int.not_le, Int.not_lt, Bool.and_eq_true, Bool.and_eq_false_iff, Bool.or_eq_true, Bool.or_eq_false_iff, bne_eq_false_iff_eq, reduceCtorEq] at h) <;> (try first | contradiction | (exfalso; omega)))))
      simp only [Out, outA, outL, resA, go_sem, Nat.reduceLT, Nat.reduceLeDiff, Nat.reduceEqDiff, reduceIte, Nat.reduceAdd, Nat.reduceMul, Nat.reduceSub, Int.reduceLT, Int.reduceLE, Int.reduceToNat, Int.reduceNeg, reduceCtorEq]
      exact AVle.tup ⟨zeroT_le, nil2_le, AVle.refl _, trivial⟩
    · have hPu := put_c (outs.getD ou.toNat default) ⟨kd', k1, rt, v, tt, r1, r2, r3, r4, r5⟩
      rw [c2, c3] at hPu
      rw [c4, c5, c6]
      clear c2 c3 c4 c5 c6
      obtain ⟨x, hx⟩ : ∃ x, outs.getD ou.toNat default = x := ⟨_, rfl⟩
      rw [hx] at hPu ⊢
      obtain ⟨Y, hY⟩ : ∃ Y, putQ x ⟨kd', k1, rt, v, tt, r1, r2, r3, r4, r5⟩ = Y := ⟨_, rfl⟩
      rw [hY] at hPu ⊢
      clear hY
      obtain ⟨ra, la⟩ := x
      obtain ⟨ry, ly⟩ := Y
      rw [show Msg.cells ⟨kd', k1, rt, v, tt, r1, r2, r3, r4, r5⟩ = [AV.lit (Value.int IntKind.u8 kd'), AV.lit (Value.int IntKind.i64 k1), AV.lit (Value.int IntKind.i64 rt), AV.lit (Value.int IntKind.i64 v), AV.lit (Value.int IntKind.i64 tt), AV.lit (Value.int IntKind.i64 r1), AV.lit (Value.int IntKind.i64 r2), AV.lit (Value.int IntKind.i64 r3), AV.lit (Value.int IntKind.i64 r4), AV.lit (Value.int IntKind.i64 r5)] from rfl] at hPu
      unfold Que.cells at hPu
      simp only at hPu
      obtain ⟨B, hB⟩ : ∃ B : List AV, B = [AV.lit (Value.int IntKind.u8 kd), AV.lit (Value.int IntKind.i64 n), AV.lit (Value.int IntKind.i64 tn), AV.ro 11 ([AV.lit (Value.int IntKind.i64 ou), AV.lit (Value.int IntKind.u8 kd'), AV.lit (Value.int IntKind.i64 k1), AV.lit (Value.int IntKind.i64 rt), AV.lit (Value.int IntKind.i64 v), AV.lit (Value.int IntKind.i64 tt), AV.lit (Value.int IntKind.i64 r1), AV.lit (Value.int IntKind.i64 r2), AV.lit (Value.int IntKind.i64 r3), AV.lit (Value.int IntKind.i64 r4), AV.lit (Value.int IntKind.i64 r5)] :: l.map Snd.cells), AV.ro 1 (mk.map intC), AV.ro 11 (st.map Ent.cells), AV.ro 5 (ev.map Ev.cells), AV.ro 5 (rw_.map RowT.cells), AV.ro 3 (lt.map Rcd.cells)] := ⟨_, rfl⟩
      obtain ⟨Z, hZ⟩ : ∃ B : List AV, B = [AV.lit (Value.int IntKind.u8 0), AV.lit (Value.int IntKind.i64 0), AV.lit (Value.int IntKind.i64 0), AV.lit (Value.slice none 0 0), AV.lit (Value.slice none 0 0), AV.lit (Value.slice none 0 0), AV.lit (Value.slice none 0 0), AV.lit (Value.slice none 0 0), AV.lit (Value.slice none 0 0)] := ⟨_, rfl⟩
      obtain ⟨S8, hS8⟩ : ∃ B : List AV, B = [AV.lit (Value.int IntKind.i64 ou), AV.lit (Value.int IntKind.u8 kd'), AV.lit (Value.int IntKind.i64 k1), AV.lit (Value.int IntKind.i64 rt), AV.lit (Value.int IntKind.i64 v), AV.lit (Value.int IntKind.i64 tt), AV.lit (Value.int IntKind.i64 r1), AV.lit (Value.int IntKind.i64 r2), AV.lit (Value.int IntKind.i64 r3), AV.lit (Value.int IntKind.i64 r4), AV.lit (Value.int IntKind.i64 r5)] := ⟨_, rfl⟩
      obtain ⟨Q9, hQ9⟩ : ∃ B : List AV, B = [AV.lit (Value.int IntKind.i64 ry), AV.ro 10 (ly.map Msg.cells)] := ⟨_, rfl⟩
      refine acall_of (n := 81) (rs := [.cell 4 39, .tmp 5, .tmp 6]) Tryz.func10 rfl (by kernel_rfl) rfl rfl rfl ?_; simp only [argsE, Nat.reduceAdd]
      repeat (any_goals (first | ((first | refine aops_cons (fun K' h' => ?_) | refine aopsM_cons (fun K' h' => ?_)); simp only [go_sem, Nat.reduceLT, Nat.reduceLeDiff, Nat.reduceEqDiff, reduceIte, Nat.reduceAdd, Nat.reduceMul, Nat.reduceSub, Int.reduceLT, Int.reduceLE, Int.reduceToNat, Int.reduceNeg, reduceCtorEq, Que.cells, hx]; (try ((first | refine ⟨_, hAk, ?_⟩ | refine ⟨_, hPu, ?_⟩); (try simp only [go_sem, Nat.reduceLT, Nat.reduceLeDiff, Nat.reduceEqDiff, reduceIte, Nat.reduceAdd, Nat.reduceMul, Nat.reduceSub, Int.reduceLT, Int.reduceLE, Int.reduceToNat, Int.reduceNeg, reduceCtorEq, Que.cells, hx]))); (try simp (disch := omega) only [wrap_id, getD_map_in, Int.toNat_natCast, Que.cells, hx]); (repeat (refine And.intro (by (first | omega | (simp; done))) ?_)); refine h' _ ?_; clear h' K') | (refine aops_nil (hK _ ?_); clear hK K gs; try simp only [aThen, aBlock]) | (refine aops_consN  (fun K' h' => ?_); simp only [go_sem, Nat.reduceLT, Nat.reduceLeDiff, Nat.reduceEqDiff, reduceIte, Nat.reduceAdd, Nat.reduceMul, Nat.reduceSub, Int.reduceLT, Int.reduceLE, Int.reduceToNat, Int.reduceNeg, reduceCtorEq, Que.cells, hx]; refine ⟨_, _, hCq, ?_⟩; (try simp only [go_sem, Nat.reduceLT, Nat.reduceLeDiff, Nat.reduceEqDiff, reduceIte, Nat.reduceAdd, Nat.reduceMul, Nat.reduceSub, Int.reduceLT, Int.reduceLE, Int.reduceToNat, Int.reduceNeg, reduceCtorEq, Que.cells, hx]); (repeat (refine And.intro (by (omega)) ?_)); refine h' _ ?_; clear h' K') | (refine AWp.sreg  dd10 rfl (fun gs K hgs hK => ?_); clear hgs) | refine AWp.seq ?_ | refine AWp.block ?_ | (refine AWp.skip ?_; try simp only [aThen, aBlock]) | ((refine AWp.regM (id := 9) fo10 (true, false) mo_fact (by kernel_rfl) (by kernel_rfl) (fun gs K hgs hK => ?_)); clear hgs) | (refine aopsM_nil (hK _ ?_); clear hK K gs; simp only [fo10]; simp only [ASt.prune, pruneE, keepB, keepR, Bool.or_false, Bool.or_true, Bool.true_or, Bool.false_or, reduceIte, Bool.or_self, Bool.false_eq_true, aThen, aBlock, Nat.reduceEqDiff]) | (refine AWp.cond rfl (fun h => ?_) (fun h => ?_) <;> (try simp only [decide_eq_true_eq, decide_eq_false_iff_not, beq_iff_eq, bne_iff_ne, ne_eq, Bool.not_eq_true', Bool.not_eq_false', beq_eq_false_iff_ne, Bool.true_eq_false, Bool.false_eq_true, Int.not_le, Int.not_lt, Bool.and_eq_true, Bool.and_eq_false_iff, Bool.or_eq_true, Bool.or_eq_false_iff, bne_eq_false_iff_eq, reduceCtorEq] at h) <;> (try first | contradiction | (exfalso; omega)))))
      refine AWp.loopN outs.length (fun _ => True) (fun k => ⟨[(2, .bp 0 0), (4, .bp 1 0), (8, .bp 2 0), (9, .bp 3 0), (11, .own 0 2 0 outs.length), (53, .lit (.int .i64 (outs.length : Int))), (54, .lit (.int .i64 (k : Int)))], [B, Z, S8, Q9], [some ⟨47, 2, outs.map Que.cells⟩]⟩) ?_ ?_
      · subst hB
        subst hZ
        subst hS8
        subst hQ9
        refine Wk.of rfl rfl ?_
        simp [subE, eget, ASt.drop, dropE, keepR, lowE, AV.lowB, lowL, Nat.blt, Nat.ble]
      · intro k hk _
        repeat ((first | ((refine aops_cons (fun K' h' => ?_)); simp only [go_sem, Nat.reduceLT, Nat.reduceLeDiff, Nat.reduceEqDiff, reduceIte, Nat.reduceAdd, Nat.reduceMul, Nat.reduceSub, Int.reduceLT, Int.reduceLE, Int.reduceToNat, Int.reduceNeg, reduceCtorEq, Que.cells]; (try simp (disch := omega) only [wrap_id, getD_map_in, Int.toNat_natCast, Que.cells]); (repeat (refine And.intro (by (omega)) ?_)); refine h' _ ?_; clear h' K') | (refine aops_nil (hK _ ?_); clear hK K gs; try simp only [aThen, aBlock]) | (refine AWp.sreg  dd10 rfl (fun gs K hgs hK => ?_); clear hgs) | refine AWp.seq ?_))
        (refine AWp.cond rfl (fun h => ?_) (fun h => ?_) <;> (try simp only [decide_eq_true_eq, decide_eq_false_iff_not, beq_iff_eq, bne_iff_ne, ne_eq, Bool.not_eq_true', Bool.not_eq_false', beq_eq_false_iff_ne, Bool.true_eq_false, Bool.false_eq_true, Int.not_le, Int.not_lt, Bool.and_eq_true, Bool.and_eq_false_iff, Bool.or_eq_true, Bool.or_eq_false_iff, bne_eq_false_iff_eq, reduceCtorEq] at h))
        · obtain ⟨w, hw⟩ : ∃ w, outs.getD k default = w := ⟨_, rfl⟩
          have hl8 := hlq k (by omega)
          rw [hw] at hl8
          have hCm := cloneMsg_c w.list (by omega)
          have hset : (outs.map Que.cells).set k w.cells = outs.map Que.cells := by
            apply List.ext_getElem?
            intro j
            by_cases hj : j = k
            · subst hj
              rw [List.getElem?_set_self (by simp; omega), List.getElem?_map, List.getElem?_eq_getElem (by omega)]
              rw [List.getD_eq_getElem?_getD, List.getElem?_eq_getElem (by omega)] at hw
              rw [show outs[j] = w from hw]; rfl
            · rw [List.getElem?_set_ne (fun e => hj e.symm)]
          clear hlq
          obtain ⟨rw', lw⟩ := w
          rw [show Que.cells ⟨rw', lw⟩ = [.lit (.int .i64 rw'), .ro 10 (lw.map Msg.cells)] from rfl] at hset
          simp only at hCm hl8
          repeat (any_goals (first | ((refine aops_cons (fun K' h' => ?_)); simp only [go_sem, Nat.reduceLT, Nat.reduceLeDiff, Nat.reduceEqDiff, reduceIte, Nat.reduceAdd, Nat.reduceMul, Nat.reduceSub, Int.reduceLT, Int.reduceLE, Int.reduceToNat, Int.reduceNeg, reduceCtorEq, Que.cells, hw, hset]; (try ((refine ⟨_, hCm, ?_⟩); (try simp only [go_sem, Nat.reduceLT, Nat.reduceLeDiff, Nat.reduceEqDiff, reduceIte, Nat.reduceAdd, Nat.reduceMul, Nat.reduceSub, Int.reduceLT, Int.reduceLE, Int.reduceToNat, Int.reduceNeg, reduceCtorEq, Que.cells, hw, hset]))); (try simp (disch := omega) only [wrap_id, getD_map_in, Int.toNat_natCast, Que.cells, hw, hset]); (repeat (refine And.intro (by (first | omega | (simp; done))) ?_)); refine h' _ ?_; clear h' K') | (refine aops_nil (hK _ ?_); clear hK K gs; try simp only [aThen, aBlock]) | (refine AWp.sreg  dd10 rfl (fun gs K hgs hK => ?_); clear hgs) | refine AWp.seq ?_ | refine AWp.block ?_ | (refine AWp.skip ?_; try simp only [aThen, aBlock]) | (refine AWp.reg  dd10 rfl (fun gs K hgs hK => ?_); clear hgs)))
          refine ⟨by omega, trivial, Wk.of rfl ?_ ?_⟩
          · simp only [ASt.drop, hset]
          · first
              | (simp [subE, eget, ASt.drop, dropE, keepR, lowE, AV.lowB, lowL, Nat.blt, Nat.ble]; done)
              | (simp [subE, eget, ASt.drop, dropE, keepR, lowE, AV.lowB, lowL, Nat.blt, Nat.ble]; omega)
        · subst hB
          subst hZ
          subst hS8
          subst hQ9
          clear hlq
          have hset : (outs.map Que.cells).set ou.toNat [AV.lit (Value.int IntKind.i64 ry), AV.ro 10 (ly.map Msg.cells)] = (outs.set ou.toNat ⟨ry, ly⟩).map Que.cells := by
            rw [List.map_set]
            rfl
          have htk : ∀ m, (outs.set ou.toNat ⟨ry, ly⟩).length ≤ m → List.take m ((outs.set ou.toNat ⟨ry, ly⟩).map Que.cells) = (outs.set ou.toNat ⟨ry, ly⟩).map Que.cells := fun m h => List.take_of_length_le (by simpa using h)
          repeat (any_goals (first | ((refine aops_cons (fun K' h' => ?_)); simp only [go_sem, Nat.reduceLT, Nat.reduceLeDiff, Nat.reduceEqDiff, reduceIte, Nat.reduceAdd, Nat.reduceMul, Nat.reduceSub, Int.reduceLT, Int.reduceLE, Int.reduceToNat, Int.reduceNeg, reduceCtorEq, Que.cells, hx, hset]; (try simp (disch := omega) only [wrap_id, getD_map_in, Int.toNat_natCast, Que.cells, hx, hset]); (repeat (refine And.intro (by (omega)) ?_)); refine h' _ ?_; clear h' K') | (refine aops_nil (hK _ ?_); clear hK K gs; try simp only [aThen, aBlock]) | (refine aops_consN  (fun K' h' => ?_); simp only [go_sem, Nat.reduceLT, Nat.reduceLeDiff, Nat.reduceEqDiff, reduceIte, Nat.reduceAdd, Nat.reduceMul, Nat.reduceSub, Int.reduceLT, Int.reduceLE, Int.reduceToNat, Int.reduceNeg, reduceCtorEq, Que.cells, hx, hset]; refine ⟨_, _, hCl, ?_⟩; (try simp only [go_sem, Nat.reduceLT, Nat.reduceLeDiff, Nat.reduceEqDiff, reduceIte, Nat.reduceAdd, Nat.reduceMul, Nat.reduceSub, Int.reduceLT, Int.reduceLE, Int.reduceToNat, Int.reduceNeg, reduceCtorEq, Que.cells, hx, hset]); (repeat (refine And.intro (by (omega)) ?_)); refine h' _ ?_; clear h' K') | (refine AWp.sreg  dd10 rfl (fun gs K hgs hK => ?_); clear hgs) | (refine AWp.ret ?_; try simp only [aThen, aBlock]) | (refine AWp.exit ?_; try simp only [aThen, aBlock, Nat.reduceEqDiff, reduceIte])))
          simp only [Out, outA, outL, resA, go_sem, Nat.reduceLT, Nat.reduceLeDiff, Nat.reduceEqDiff, reduceIte, Nat.reduceAdd, Nat.reduceMul, Nat.reduceSub, Int.reduceLT, Int.reduceLE, Int.reduceToNat, Int.reduceNeg, reduceCtorEq]
          refine AVle.of_eq ?_
          simp [Tsk.cells, sndsV, mksV, entsV, evsV, rowsV, rcdsV, quesV, List.take_of_length_le, htk]
end Go.Proofs.YtjeehkdepoiegaaGreat
