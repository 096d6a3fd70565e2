/-
  All tasks that are not valid are refused.
-/
import Derived.Test.YtlpmgkillalhbaaTNamW
namespace Go.Proofs.Ytlpmgkillalhbaa
open Go.AL Go.RowKit
set_option linter.unusedSimpArgs false
set_option linter.unusedVariables false
set_option maxRecDepth 10000
set_option maxHeartbeats 8000000

def leE : List (Nat × AV) → List (Nat × AV) → Prop
  | [], [] => True
  | (k, v) :: t, (k', v') :: t' => k = k' ∧ AVle v v' ∧ leE t t'
  | _, _ => False
theorem leE_get : ∀ {a b : List (Nat × AV)}, leE a b → ∀ s, AVle (eget a s) (eget b s)
  | [], [], _, s => AVle.refl _
  | (k, v) :: t, (k', v') :: t', h, s => by
    obtain ⟨rfl, h1, h2⟩ := h
    simp only [eget]
    split
    · exact h1
    · exact leE_get h2 s
  | [], _ :: _, h, _ => h.elim
  | _ :: _, [], h, _ => h.elim
theorem Wk.le {st : ASt} {env' : List (Nat × AV)} (h : leE st.env env') : Wk st ⟨env', st.boxes, st.rows⟩ := fun w0 S0 n a w ⟨S, γ, ρ, hr⟩ =>
  ⟨S, γ, ρ, hr.below, hr.s0, hr.sw, hr.heap, hr.size, hr.defs, fun s => leE_get h s _ _ _ _ _ _ (hr.env s)⟩

def lowM : Int := -9223372036854775808
def zRow : RowT := ⟨0, 0, 0, 0, 0⟩
def zEnt : Ent := ⟨0, 0, 0, 0, 0, 0, 0, 0, 0, 0, 0⟩
def wrongT : List Tsk := [⟨0, 0, 0, [], [], [], [], [], []⟩, ⟨8, 0, 0, [], [], [], [], [], []⟩, ⟨3, 4, 0, [], [], [], [], [], []⟩, ⟨3, -1, 0, [], [], [], [], [], []⟩, ⟨3, 0, 20, [], [], [], [], [], []⟩, ⟨3, 0, -1, [], [], [], [], [], []⟩,
  ⟨3, 0, 0, [], [lowM], [], [], [], []⟩, ⟨2, 0, 0, [], [], [], [], [], []⟩, ⟨2, 0, 0, [], [-9223372036854775807], [], [], [], []⟩, ⟨2, 0, 0, [], [lowM], [], [], [zRow], []⟩, ⟨4, 0, 0, [], [], [], [], [], []⟩, ⟨4, 0, 0, [], List.replicate 5 0, [], [], [], []⟩,
  ⟨5, 0, 0, [], [lowM], [], [], [], []⟩, ⟨1, 0, 0, [], [], [], List.replicate 61 ⟨false, 0, 0, 0, 0⟩, [], []⟩, ⟨1, 0, 0, [], [], [], [⟨false, 1, 0, 0, 0⟩], [], []⟩, ⟨6, 0, 0, [], [], [], [], [zRow], []⟩, ⟨6, 0, 0, [], [], [], [], [], [⟨0, 0, 0⟩]⟩,
  ⟨7, 0, 0, [], [], [], [], [], [⟨0, 9223372036854775807, 0⟩]⟩, ⟨2, 0, 0, [], [lowM], [zEnt], [], [], []⟩, ⟨4, 0, 0, [], [lowM], [zEnt], [], [], []⟩, filT [⟨3, mk27 1⟩], filT [⟨-1, mk27 1⟩], filT [⟨0, ⟨0, 0, 0, 0, 0, 0, 0, 0, 0, 0⟩⟩]]
theorem wrongT_bad : ∀ t ∈ wrongT, tskE t ≠ 0 := by decide
theorem wrongT_ok : ∀ t ∈ wrongT, t.pend.length ≤ 100 ∧ t.marks.length ≤ 100 ∧ t.store.length ≤ 100 ∧ t.evs.length ≤ 100 ∧ t.rows.length ≤ 100 ∧ t.late.length ≤ 100 := by decide
theorem wrongT_at (j : Nat) (hj : j < 23) : ∃ t : Tsk, wrongT.getD j default = t ∧ t.ok ∧ tskE t ≠ 0 := by
  have hm : wrongT.getD j default ∈ wrongT := by
    rw [List.getD_eq_getElem?_getD, List.getElem?_eq_getElem (by exact hj)]
    exact List.getElem_mem _
  obtain ⟨f1, f2, f3, f4, f5, f6⟩ := wrongT_ok _ hm
  exact ⟨_, rfl, ⟨by unfold maxLen; omega, by unfold maxLen; omega, by unfold maxLen; omega, by unfold maxLen; omega, by unfold maxLen; omega, by unfold maxLen; omega⟩, wrongT_bad _ hm⟩
def sC : List AV := [.lit (.int .i64 0), .lit (.int .u8 2), .lit (.int .i64 0), .lit (.int .i64 0), .lit (.int .i64 0), .lit (.int .i64 1), .lit (.int .i64 0), .lit (.int .i64 0), .lit (.int .i64 0), .lit (.int .i64 0), .lit (.int .i64 0)]

def leLL : List (List AV) → List (List AV) → Prop
  | [], [] => True
  | x :: xs, y :: ys => AVleL x y ∧ leLL xs ys
  | _, _ => False
theorem leLL_spec : ∀ {xs ys : List (List AV)}, leLL xs ys → xs.length = ys.length ∧ ∀ (i : Nat) (x y : List AV), xs[i]? = some x → ys[i]? = some y → AVleL x y
  | [], [], _ => ⟨rfl, fun i x y h => by simp at h⟩
  | x :: xs, y :: ys, h => by
    obtain ⟨e1, e2⟩ := leLL_spec h.2
    refine ⟨by simp [e1], fun i a b h1 h2 => ?_⟩
    cases i with
    | zero =>
      simp at h1 h2
      subst h1
      subst h2
      exact h.1
    | succ i => exact e2 i a b (by simpa using h1) (by simpa using h2)
  | [], _ :: _, h => h.elim
  | _ :: _, [], h => h.elim
theorem ro_leLL {sz : Nat} {xs ys : List (List AV)} (h : leLL xs ys) : AVle (.ro sz xs) (.ro sz ys) := ro_le (leLL_spec h).1 (leLL_spec h).2
theorem refused_le (t : Tsk) (C : List AV) (hok : t.ok) (h : tskE t ≠ 0) (hC : AVleL C t.cells) : ACall Try.prog 65 [.agg C] (.lit (.bool true)) := (refused_c t hok h).mono ⟨AVle.agg hC, trivial⟩ (AVle.refl _)
def mk1 : Snd := ⟨0, mk27 1⟩
theorem many_bad {M : Nat} (hM : 4000 < M) : tskE (filT (List.replicate M mk1)) ≠ 0 := by
  have : decide ((filT (List.replicate M mk1)).pend.length ≤ 4000) = false := by
    rw [show (filT (List.replicate M mk1)).pend.length = M from List.length_replicate]
    simpa using hM
  unfold tskE goodT
  rw [this, if_neg]
  · decide
  · simp
@[go_sem] theorem apT_task : apT Try.prog 119 = some (31, 9, 168) := by kernel_rfl
def dd35 : Nat → List (List Nat)
  | 0 => [[], [0]]
  | 1 => [[], [], [7], [], [8]]
  | 2 => [[], [], [9]]
  | 4 => [[], [], [], [78]]
  | 5 => [[], []]
  | 6 => [[], [], [79]]
  | 7 => [[], [5], [81], [82]]
  | 8 => [[80], [], [83], [], [85], [84, 86], [], [87, 88]]
  | 9 => [[1, 5, 80], []]
  | 10 => [[], [], [], [90], [89, 91]]
  | 11 => [[100], [6], [93], [94]]
  | 12 => [[92], [], [], [95, 96], [97], [98], [99]]
  | 13 => [[3, 4, 6, 100], []]
  | 14 => [[3, 6, 92], [4], [101], [102]]
  | _ => []
def fo35 : Nat → List Nat
  | 3 => [1, 3]
  | _ => []
theorem wrong_c : ACall Try.prog 35 [] (.lit (.bool true)) := by
  have hF1 := filterL_c [⟨3, mk27 1⟩]
  have hF2 := filterL_c [⟨-1, mk27 1⟩]
  have hF3 := filterL_c [⟨0, ⟨0, 0, 0, 0, 0, 0, 0, 0, 0, 0⟩⟩]
  have hF0 : ACall Try.prog 32 [.lit (.slice none 0 0)] (.agg [.lit (.int .u8 2), .lit (.int .i64 0), .lit (.int .i64 0), .lit (.slice none 0 0), .ro 1 [[.lit (.int .i64 (-9223372036854775808))]], .lit (.slice none 0 0), .lit (.slice none 0 0), .lit (.slice none 0 0), .lit (.slice none 0 0)]) := by
    refine acall_of (n := 7) (rs := [.cell 2 31]) Try.func32 rfl (by kernel_rfl) rfl rfl rfl ?_; simp only [argsE, Nat.reduceAdd]
    repeat (any_goals (first | (refine aops_cons (fun K' h' => ?_); simp only [go_sem, Nat.reduceLT, Nat.reduceLeDiff, Nat.reduceEqDiff, reduceIte, Nat.reduceAdd, Nat.reduceMul, Nat.reduceSub, Int.reduceLT, Int.reduceLE, Int.reduceToNat, Int.reduceNeg, reduceCtorEq, aopG, beq_self_eq_true, amem, Int.reduceToNat]; (try simp (disch := omega) only [wrap_id, getD_map_in, Int.toNat_natCast, aopG, beq_self_eq_true, amem, Int.reduceToNat]); (repeat (refine And.intro (by (first | omega | (simp; done) | (simp; omega) | assumption)) ?_)); refine h' _ ?_; clear h' K') | (refine aops_nil (hK _ ?_); clear hK K gs; try simp only [aThen, aBlock]) | (refine AWp.sreg  dd32 rfl (fun gs K hgs hK => ?_); clear hgs) | refine AWp.seq ?_ | refine ARounds.step ?_ | refine AWp.block ?_ | refine AWp.label ?_ | (refine AWp.ret ?_; try simp only [aThen, aBlock]) | (refine AWp.skip ?_; try simp only [aThen, aBlock]) | (refine AWp.exit ?_; try simp only [aThen, aBlock, Nat.reduceEqDiff, reduceIte]) | (refine AWp.reg  dd32 rfl (fun gs K hgs hK => ?_); clear hgs) | (refine AWp.cond rfl (fun h => ?_) (fun h => ?_) <;> (try simp only [decide_eq_true_eq, decide_eq_false_iff_not, beq_iff_eq, bne_iff_ne, ne_eq, Bool.not_eq_true', Bool.not_eq_false', beq_eq_false_iff_ne, Bool.true_eq_false, Bool.false_eq_true, Int.not_le, Int.not_lt, Bool.and_eq_true, Bool.and_eq_false_iff, Bool.or_eq_true, Bool.or_eq_false_iff, bne_eq_false_iff_eq, reduceCtorEq] at h) <;> (try first | contradiction | (exfalso; omega) | (exfalso; revert h; simp; done) | (exfalso; revert h; simp; omega)))))
    simp only [Out, outA, outL, resA, go_sem, Nat.reduceLT, Nat.reduceLeDiff, Nat.reduceEqDiff, reduceIte, Nat.reduceAdd, Nat.reduceMul, Nat.reduceSub, Int.reduceLT, Int.reduceLE, Int.reduceToNat, Int.reduceNeg, reduceCtorEq]
    exact AVle.refl _
  simp only [filT, mk27, Tsk.cells, sndsV, mksV, entsV, evsV, rowsV, rcdsV, Snd.cells, Msg.cells, intC, List.map_cons, List.map_nil] at hF1 hF2 hF3
  refine acall_of (n := 103) (rs := [.tmp 0]) Try.func35 rfl (by kernel_rfl) rfl rfl rfl ?_; simp only [argsE, Nat.reduceAdd]
  repeat (any_goals (first | ((first | refine aops_cons (fun K' h' => ?_) | refine aopsD_cons (fun K' h' => ?_) | refine aopsM_cons (fun K' h' => ?_)); simp only [go_sem, Nat.reduceLT, Nat.reduceLeDiff, Nat.reduceEqDiff, reduceIte, Nat.reduceAdd, Nat.reduceMul, Nat.reduceSub, Int.reduceLT, Int.reduceLE, Int.reduceToNat, Int.reduceNeg, reduceCtorEq, aopG, beq_self_eq_true, amem, Int.reduceToNat]; (try ((first | refine ⟨_, mark27_c _, ?_⟩ | refine ⟨_, fun _ => mark27_c _, ?_⟩ | refine ⟨_, hF1, ?_⟩ | refine ⟨_, fun _ => hF1, ?_⟩ | refine ⟨_, hF2, ?_⟩ | refine ⟨_, fun _ => hF2, ?_⟩ | refine ⟨_, hF3, ?_⟩ | refine ⟨_, fun _ => hF3, ?_⟩ | refine ⟨_, hF0, ?_⟩ | refine ⟨_, fun _ => hF0, ?_⟩ | refine ⟨_, hRf, ?_⟩ | refine ⟨_, fun _ => hRf, ?_⟩); (try simp only [go_sem, Nat.reduceLT, Nat.reduceLeDiff, Nat.reduceEqDiff, reduceIte, Nat.reduceAdd, Nat.reduceMul, Nat.reduceSub, Int.reduceLT, Int.reduceLE, Int.reduceToNat, Int.reduceNeg, reduceCtorEq, aopG, beq_self_eq_true, amem, Int.reduceToNat]))); (try simp (disch := omega) only [wrap_id, getD_map_in, Int.toNat_natCast, aopG, beq_self_eq_true, amem, Int.reduceToNat]); (repeat (refine And.intro (by (first | omega | (simp; done) | (simp; omega) | assumption)) ?_)); refine h' _ ?_; clear h' K') | (refine aops_nil (hK _ ?_); clear hK K gs; try simp only [aThen, aBlock]) | (refine AWp.sreg  dd35 rfl (fun gs K hgs hK => ?_); clear hgs) | refine AWp.seq ?_ | refine ARounds.step ?_ | refine AWp.block ?_ | refine AWp.label ?_ | (refine AWp.ret ?_; try simp only [aThen, aBlock]) | (refine AWp.skip ?_; try simp only [aThen, aBlock]) | (refine AWp.exit ?_; try simp only [aThen, aBlock, Nat.reduceEqDiff, reduceIte]) | (refine AWp.reg  dd35 rfl (fun gs K hgs hK => ?_); clear hgs) | (refine AWp.cond rfl (fun h => ?_) (fun h => ?_) <;> (try simp only [decide_eq_true_eq, decide_eq_false_iff_not, beq_iff_eq, bne_iff_ne, ne_eq, Bool.not_eq_true', Bool.not_eq_false', beq_eq_false_iff_ne, Bool.true_eq_false, Bool.false_eq_true, Int.not_le, Int.not_lt, Bool.and_eq_true, Bool.and_eq_false_iff, Bool.or_eq_true, Bool.or_eq_false_iff, bne_eq_false_iff_eq, reduceCtorEq] at h) <;> (try first | contradiction | (exfalso; omega) | (exfalso; revert h; simp; done) | (exfalso; revert h; simp; omega)))))
  refine AWp.frz [] ?_
  simp only [ASt.freeze, frzE, frzL, frzRows, AV.frz, keepR, getRow, go_sem]
  repeat (any_goals (first | ((first | refine aops_cons (fun K' h' => ?_) | refine aopsD_cons (fun K' h' => ?_) | refine aopsM_cons (fun K' h' => ?_)); simp only [go_sem, Nat.reduceLT, Nat.reduceLeDiff, Nat.reduceEqDiff, reduceIte, Nat.reduceAdd, Nat.reduceMul, Nat.reduceSub, Int.reduceLT, Int.reduceLE, Int.reduceToNat, Int.reduceNeg, reduceCtorEq, aopG, beq_self_eq_true, amem, Int.reduceToNat]; (try ((first | refine ⟨_, mark27_c _, ?_⟩ | refine ⟨_, fun _ => mark27_c _, ?_⟩ | refine ⟨_, hF1, ?_⟩ | refine ⟨_, fun _ => hF1, ?_⟩ | refine ⟨_, hF2, ?_⟩ | refine ⟨_, fun _ => hF2, ?_⟩ | refine ⟨_, hF3, ?_⟩ | refine ⟨_, fun _ => hF3, ?_⟩ | refine ⟨_, hF0, ?_⟩ | refine ⟨_, fun _ => hF0, ?_⟩ | refine ⟨_, hRf, ?_⟩ | refine ⟨_, fun _ => hRf, ?_⟩); (try simp only [go_sem, Nat.reduceLT, Nat.reduceLeDiff, Nat.reduceEqDiff, reduceIte, Nat.reduceAdd, Nat.reduceMul, Nat.reduceSub, Int.reduceLT, Int.reduceLE, Int.reduceToNat, Int.reduceNeg, reduceCtorEq, aopG, beq_self_eq_true, amem, Int.reduceToNat]))); (try simp (disch := omega) only [wrap_id, getD_map_in, Int.toNat_natCast, aopG, beq_self_eq_true, amem, Int.reduceToNat]); (repeat (refine And.intro (by (first | omega | (simp; done) | (simp; omega) | assumption)) ?_)); refine h' _ ?_; clear h' K') | (refine aops_nil (hK _ ?_); clear hK K gs; try simp only [aThen, aBlock]) | (refine AWp.sreg  dd35 rfl (fun gs K hgs hK => ?_); clear hgs) | refine AWp.seq ?_ | refine ARounds.step ?_ | refine AWp.block ?_ | refine AWp.label ?_ | (refine AWp.ret ?_; try simp only [aThen, aBlock]) | (refine AWp.skip ?_; try simp only [aThen, aBlock]) | (refine AWp.exit ?_; try simp only [aThen, aBlock, Nat.reduceEqDiff, reduceIte]) | (refine AWp.reg  dd35 rfl (fun gs K hgs hK => ?_); clear hgs) | ((first | refine AWp.sregM (id := 3) fo35 (false, false) mo_fact (by kernel_rfl) (by kernel_rfl) (fun gs K hgs hK => ?_) | refine AWp.regM (id := 3) fo35 (false, false) mo_fact (by kernel_rfl) (by kernel_rfl) (fun gs K hgs hK => ?_)); clear hgs) | (refine aopsM_nil (hK _ ?_); clear hK K gs; simp only [fo35]; simp only [ASt.prune, pruneE, keepB, keepR, Bool.or_false, Bool.or_true, Bool.true_or, Bool.false_or, reduceIte, Bool.or_self, Bool.false_eq_true, aThen, aBlock, Nat.reduceEqDiff]) | (refine AWp.cond rfl (fun h => ?_) (fun h => ?_) <;> (try simp only [decide_eq_true_eq, decide_eq_false_iff_not, beq_iff_eq, bne_iff_ne, ne_eq, Bool.not_eq_true', Bool.not_eq_false', beq_eq_false_iff_ne, Bool.true_eq_false, Bool.false_eq_true, Int.not_le, Int.not_lt, Bool.and_eq_true, Bool.and_eq_false_iff, Bool.or_eq_true, Bool.or_eq_false_iff, bne_eq_false_iff_eq, reduceCtorEq] at h) <;> (try first | contradiction | (exfalso; omega) | (exfalso; revert h; simp; done) | (exfalso; revert h; simp; omega)))))
  obtain ⟨RR, hRR, hbad, hRl⟩ : ∃ RR, RR = wrongT ∧ (∀ j, j < 23 → ∃ t : Tsk, RR.getD j default = t ∧ t.ok ∧ tskE t ≠ 0) ∧ RR.length = 23 := ⟨_, rfl, wrongT_at, rfl⟩
  obtain ⟨M, hM⟩ : ∃ M : Nat, M = 4001 := ⟨_, rfl⟩
  refine AWp.loopN M (fun _ => True) (fun k => ⟨[(1, .bp 0 0), (3, .ro 9 (RR.map Tsk.cells)), (4, .bp 1 0), (5, .lit (.int .i64 (k : Int)))], [[.lit (.int .i64 0), .lit (.int .u8 2), .lit (.int .i64 0), .lit (.int .i64 0), .lit (.int .i64 0), .lit (.int .i64 1), .lit (.int .i64 0), .lit (.int .i64 0), .lit (.int .i64 0), .lit (.int .i64 0), .lit (.int .i64 0)], [.lit (.int .u8 2), .lit (.int .i64 0), .lit (.int .i64 0), .own 1 11 0 k, .ro 1 [[.lit (.int .i64 (-9223372036854775808))]], .lit (.slice none 0 0), .lit (.slice none 0 0), .lit (.slice none 0 0), .lit (.slice none 0 0)]], [none, some ⟨68, 11, List.replicate k sC⟩]⟩) ?_ ?_
  · subst hRR
    refine (Wk.le (env' := [(1, .bp 0 0), (3, .ro 9 (wrongT.map Tsk.cells)), (4, .bp 1 0), (5, .lit (.int .i64 0))]) ?_).trans ?_
    · simp only [ASt.drop]
      refine ⟨rfl, AVle.refl _, rfl, ?_, rfl, AVle.refl _, rfl, AVle.refl _, trivial⟩
      refine ro_leLL ?_
      simp only [wrongT, filT, List.map_cons, List.map_nil, Tsk.cells, sndsV, mksV, entsV, evsV, rowsV, rcdsV]
      repeat' first
        | exact trivial
        | exact AVle.refl _
        | exact AVle.nil _
        | refine And.intro ?_ ?_
    · simp only [ASt.drop]
      refine (Wk.nilBox 1 3 68 11 rfl rfl (by simp)).trans (Wk.of rfl rfl ?_)
      simp [subE, eget, ASt.drop, dropE, keepR, lowE, AV.lowB, lowL, Nat.blt, Nat.ble]
  · clear hRR
    intro k hk _
    repeat ((first | ((first | refine aops_cons (fun K' h' => ?_) | refine aopsD_cons (fun K' h' => ?_) | refine aopsM_cons (fun K' h' => ?_)); simp only [go_sem, Nat.reduceLT, Nat.reduceLeDiff, Nat.reduceEqDiff, reduceIte, Nat.reduceAdd, Nat.reduceMul, Nat.reduceSub, Int.reduceLT, Int.reduceLE, Int.reduceToNat, Int.reduceNeg, reduceCtorEq, aopG, beq_self_eq_true, amem, Int.reduceToNat]; (try ((first | refine ⟨_, mark27_c _, ?_⟩ | refine ⟨_, fun _ => mark27_c _, ?_⟩ | refine ⟨_, hF1, ?_⟩ | refine ⟨_, fun _ => hF1, ?_⟩ | refine ⟨_, hF2, ?_⟩ | refine ⟨_, fun _ => hF2, ?_⟩ | refine ⟨_, hF3, ?_⟩ | refine ⟨_, fun _ => hF3, ?_⟩ | refine ⟨_, hF0, ?_⟩ | refine ⟨_, fun _ => hF0, ?_⟩ | refine ⟨_, hRf, ?_⟩ | refine ⟨_, fun _ => hRf, ?_⟩); (try simp only [go_sem, Nat.reduceLT, Nat.reduceLeDiff, Nat.reduceEqDiff, reduceIte, Nat.reduceAdd, Nat.reduceMul, Nat.reduceSub, Int.reduceLT, Int.reduceLE, Int.reduceToNat, Int.reduceNeg, reduceCtorEq, aopG, beq_self_eq_true, amem, Int.reduceToNat]))); (try simp (disch := omega) only [wrap_id, getD_map_in, Int.toNat_natCast, aopG, beq_self_eq_true, amem, Int.reduceToNat]); (repeat (refine And.intro (by (first | omega | (simp; done) | (simp; omega) | assumption)) ?_)); refine h' _ ?_; clear h' K') | (refine aops_nil (hK _ ?_); clear hK K gs; try simp only [aThen, aBlock]) | (refine AWp.sreg  dd35 rfl (fun gs K hgs hK => ?_); clear hgs) | refine AWp.seq ?_ | refine ARounds.step ?_ | refine AWp.block ?_ | refine AWp.label ?_ | (refine AWp.ret ?_; try simp only [aThen, aBlock]) | (refine AWp.skip ?_; try simp only [aThen, aBlock]) | (refine AWp.exit ?_; try simp only [aThen, aBlock, Nat.reduceEqDiff, reduceIte]) | (refine AWp.reg  dd35 rfl (fun gs K hgs hK => ?_); clear hgs) | ((first | refine AWp.sregM (id := 3) fo35 (false, false) mo_fact (by kernel_rfl) (by kernel_rfl) (fun gs K hgs hK => ?_) | refine AWp.regM (id := 3) fo35 (false, false) mo_fact (by kernel_rfl) (by kernel_rfl) (fun gs K hgs hK => ?_)); clear hgs) | (refine aopsM_nil (hK _ ?_); clear hK K gs; simp only [fo35]; simp only [ASt.prune, pruneE, keepB, keepR, Bool.or_false, Bool.or_true, Bool.true_or, Bool.false_or, reduceIte, Bool.or_self, Bool.false_eq_true, aThen, aBlock, Nat.reduceEqDiff])))
    refine AWp.cond rfl (fun h => ?_) (fun h => ?_)
    all_goals simp only [decide_eq_true_eq, decide_eq_false_iff_not, Int.not_lt] at h
    · have htk : List.take k (List.replicate k sC) = List.replicate k sC := List.take_of_length_le (by simp)
      have hrep : List.replicate (k + 1) sC = List.replicate k sC ++ [[.lit (.int .i64 0), .lit (.int .u8 2), .lit (.int .i64 0), .lit (.int .i64 0), .lit (.int .i64 0), .lit (.int .i64 1), .lit (.int .i64 0), .lit (.int .i64 0), .lit (.int .i64 0), .lit (.int .i64 0), .lit (.int .i64 0)]] := List.replicate_succ'
      repeat (any_goals (first | ((first | refine aops_cons (fun K' h' => ?_) | refine aopsD_cons (fun K' h' => ?_) | refine aopsM_cons (fun K' h' => ?_)); simp only [go_sem, Nat.reduceLT, Nat.reduceLeDiff, Nat.reduceEqDiff, reduceIte, Nat.reduceAdd, Nat.reduceMul, Nat.reduceSub, Int.reduceLT, Int.reduceLE, Int.reduceToNat, Int.reduceNeg, reduceCtorEq, aopG, beq_self_eq_true, amem, Int.reduceToNat, htk]; (try ((first | refine ⟨_, mark27_c _, ?_⟩ | refine ⟨_, fun _ => mark27_c _, ?_⟩ | refine ⟨_, hF1, ?_⟩ | refine ⟨_, fun _ => hF1, ?_⟩ | refine ⟨_, hF2, ?_⟩ | refine ⟨_, fun _ => hF2, ?_⟩ | refine ⟨_, hF3, ?_⟩ | refine ⟨_, fun _ => hF3, ?_⟩ | refine ⟨_, hF0, ?_⟩ | refine ⟨_, fun _ => hF0, ?_⟩ | refine ⟨_, hRf, ?_⟩ | refine ⟨_, fun _ => hRf, ?_⟩); (try simp only [go_sem, Nat.reduceLT, Nat.reduceLeDiff, Nat.reduceEqDiff, reduceIte, Nat.reduceAdd, Nat.reduceMul, Nat.reduceSub, Int.reduceLT, Int.reduceLE, Int.reduceToNat, Int.reduceNeg, reduceCtorEq, aopG, beq_self_eq_true, amem, Int.reduceToNat, htk]))); (try simp (disch := omega) only [wrap_id, getD_map_in, Int.toNat_natCast, aopG, beq_self_eq_true, amem, Int.reduceToNat, htk]); (repeat (refine And.intro (by (first | omega | (simp; done) | (simp; omega) | assumption)) ?_)); refine h' _ ?_; clear h' K') | (refine aops_nil (hK _ ?_); clear hK K gs; try simp only [aThen, aBlock]) | (refine AWp.sreg  dd35 rfl (fun gs K hgs hK => ?_); clear hgs) | refine AWp.seq ?_ | refine ARounds.step ?_ | refine AWp.block ?_ | refine AWp.label ?_ | (refine AWp.ret ?_; try simp only [aThen, aBlock]) | (refine AWp.skip ?_; try simp only [aThen, aBlock]) | (refine AWp.exit ?_; try simp only [aThen, aBlock, Nat.reduceEqDiff, reduceIte]) | (refine AWp.reg  dd35 rfl (fun gs K hgs hK => ?_); clear hgs) | ((first | refine AWp.sregM (id := 3) fo35 (false, false) mo_fact (by kernel_rfl) (by kernel_rfl) (fun gs K hgs hK => ?_) | refine AWp.regM (id := 3) fo35 (false, false) mo_fact (by kernel_rfl) (by kernel_rfl) (fun gs K hgs hK => ?_)); clear hgs) | (refine aopsM_nil (hK _ ?_); clear hK K gs; simp only [fo35]; simp only [ASt.prune, pruneE, keepB, keepR, Bool.or_false, Bool.or_true, Bool.true_or, Bool.false_or, reduceIte, Bool.or_self, Bool.false_eq_true, aThen, aBlock, Nat.reduceEqDiff]) | (refine AWp.cond rfl (fun h => ?_) (fun h => ?_) <;> (try simp only [decide_eq_true_eq, decide_eq_false_iff_not, beq_iff_eq, bne_iff_ne, ne_eq, Bool.not_eq_true', Bool.not_eq_false', beq_eq_false_iff_ne, Bool.true_eq_false, Bool.false_eq_true, Int.not_le, Int.not_lt, Bool.and_eq_true, Bool.and_eq_false_iff, Bool.or_eq_true, Bool.or_eq_false_iff, bne_eq_false_iff_eq, reduceCtorEq] at h) <;> (try first | contradiction | (exfalso; omega) | (exfalso; revert h; simp; done) | (exfalso; revert h; simp; omega)))))
      refine ⟨by omega, trivial, Wk.ofCut 2 2 ?_ ?_ ?_⟩
      · rfl
      · simp only [ASt.drop, hrep, List.take_succ_cons, List.take_zero]
      · first
        | (simp [subE, eget, ASt.drop, dropE, keepR, lowE, AV.lowB, lowL, Nat.blt, Nat.ble]; done)
        | (simp [subE, eget, ASt.drop, dropE, keepR, lowE, AV.lowB, lowL, Nat.blt, Nat.ble]; omega)
    · have hkM : k = M := by omega
      subst hkM
      have htk : List.take k (List.replicate k sC) = List.replicate k sC := List.take_of_length_le (by simp)
      have hMany := refused_le (filT (List.replicate k mk1)) [.lit (.int .u8 2), .lit (.int .i64 0), .lit (.int .i64 0), .ro 11 (List.replicate k sC), .ro 1 [[.lit (.int .i64 (-9223372036854775808))]], .lit (.slice none 0 0), .lit (.slice none 0 0), .lit (.slice none 0 0), .lit (.slice none 0 0)] (filT_ok _ (by simp [maxLen]; omega)) (many_bad (by omega)) (by
        refine ⟨AVle.refl _, AVle.refl _, AVle.refl _, AVle.of_eq ?_, AVle.refl _, AVle.nil 11, AVle.nil 5, AVle.nil 5, AVle.nil 3, trivial⟩
        unfold sndsV filT
        simp only [List.map_replicate]
        rfl)
      clear hF0 hF1 hF2 hF3
      repeat (any_goals (first | ((first | refine aops_cons (fun K' h' => ?_) | refine aopsD_cons (fun K' h' => ?_) | refine aopsM_cons (fun K' h' => ?_)); simp only [go_sem, Nat.reduceLT, Nat.reduceLeDiff, Nat.reduceEqDiff, reduceIte, Nat.reduceAdd, Nat.reduceMul, Nat.reduceSub, Int.reduceLT, Int.reduceLE, Int.reduceToNat, Int.reduceNeg, reduceCtorEq, aopG, beq_self_eq_true, amem, Int.reduceToNat]; (try ((first | refine ⟨_, mark27_c _, ?_⟩ | refine ⟨_, fun _ => mark27_c _, ?_⟩ | refine ⟨_, hF1, ?_⟩ | refine ⟨_, fun _ => hF1, ?_⟩ | refine ⟨_, hF2, ?_⟩ | refine ⟨_, fun _ => hF2, ?_⟩ | refine ⟨_, hF3, ?_⟩ | refine ⟨_, fun _ => hF3, ?_⟩ | refine ⟨_, hF0, ?_⟩ | refine ⟨_, fun _ => hF0, ?_⟩ | refine ⟨_, hRf, ?_⟩ | refine ⟨_, fun _ => hRf, ?_⟩); (try simp only [go_sem, Nat.reduceLT, Nat.reduceLeDiff, Nat.reduceEqDiff, reduceIte, Nat.reduceAdd, Nat.reduceMul, Nat.reduceSub, Int.reduceLT, Int.reduceLE, Int.reduceToNat, Int.reduceNeg, reduceCtorEq, aopG, beq_self_eq_true, amem, Int.reduceToNat]))); (try simp (disch := omega) only [wrap_id, getD_map_in, Int.toNat_natCast, aopG, beq_self_eq_true, amem, Int.reduceToNat]); (repeat (refine And.intro (by (first | omega | (simp; done) | (simp; omega) | assumption)) ?_)); refine h' _ ?_; clear h' K') | (refine aops_nil (hK _ ?_); clear hK K gs; try simp only [aThen, aBlock]) | (refine AWp.sreg  dd35 rfl (fun gs K hgs hK => ?_); clear hgs) | refine AWp.seq ?_ | refine ARounds.step ?_ | refine AWp.block ?_ | refine AWp.label ?_ | (refine AWp.ret ?_; try simp only [aThen, aBlock]) | (refine AWp.skip ?_; try simp only [aThen, aBlock]) | (refine AWp.exit ?_; try simp only [aThen, aBlock, Nat.reduceEqDiff, reduceIte]) | (refine AWp.reg  dd35 rfl (fun gs K hgs hK => ?_); clear hgs) | ((first | refine AWp.sregM (id := 3) fo35 (false, false) mo_fact (by kernel_rfl) (by kernel_rfl) (fun gs K hgs hK => ?_) | refine AWp.regM (id := 3) fo35 (false, false) mo_fact (by kernel_rfl) (by kernel_rfl) (fun gs K hgs hK => ?_)); clear hgs) | (refine aopsM_nil (hK _ ?_); clear hK K gs; simp only [fo35]; simp only [ASt.prune, pruneE, keepB, keepR, Bool.or_false, Bool.or_true, Bool.true_or, Bool.false_or, reduceIte, Bool.or_self, Bool.false_eq_true, aThen, aBlock, Nat.reduceEqDiff]) | (refine AWp.cond rfl (fun h => ?_) (fun h => ?_) <;> (try simp only [decide_eq_true_eq, decide_eq_false_iff_not, beq_iff_eq, bne_iff_ne, ne_eq, Bool.not_eq_true', Bool.not_eq_false', beq_eq_false_iff_ne, Bool.true_eq_false, Bool.false_eq_true, Int.not_le, Int.not_lt, Bool.and_eq_true, Bool.and_eq_false_iff, Bool.or_eq_true, Bool.or_eq_false_iff, bne_eq_false_iff_eq, reduceCtorEq] at h) <;> (try first | contradiction | (exfalso; omega) | (exfalso; revert h; simp; done) | (exfalso; revert h; simp; omega)))))
      refine AWp.loopN 23 (fun _ => True) (fun j => ⟨[(3, .ro 9 (RR.map Tsk.cells)), (4, .bp 1 0), (6, .lit (.int .i64 (j : Int)))], [[.lit (.int .i64 0), .lit (.int .u8 2), .lit (.int .i64 0), .lit (.int .i64 0), .lit (.int .i64 0), .lit (.int .i64 1), .lit (.int .i64 0), .lit (.int .i64 0), .lit (.int .i64 0), .lit (.int .i64 0), .lit (.int .i64 0)], [.lit (.int .u8 2), .lit (.int .i64 0), .lit (.int .i64 0), .own 1 11 0 k, .ro 1 [[.lit (.int .i64 (-9223372036854775808))]], .lit (.slice none 0 0), .lit (.slice none 0 0), .lit (.slice none 0 0), .lit (.slice none 0 0)]], [none, some ⟨68, 11, List.replicate k sC⟩]⟩) ?_ ?_
      · refine Wk.of rfl rfl ?_
        simp [subE, eget, ASt.drop, dropE, keepR, lowE, AV.lowB, lowL, Nat.blt, Nat.ble]
      · intro j hj _
        repeat ((first | ((first | refine aops_cons (fun K' h' => ?_) | refine aopsD_cons (fun K' h' => ?_) | refine aopsM_cons (fun K' h' => ?_)); simp only [go_sem, Nat.reduceLT, Nat.reduceLeDiff, Nat.reduceEqDiff, reduceIte, Nat.reduceAdd, Nat.reduceMul, Nat.reduceSub, Int.reduceLT, Int.reduceLE, Int.reduceToNat, Int.reduceNeg, reduceCtorEq, aopG, beq_self_eq_true, amem, Int.reduceToNat]; (try ((first | refine ⟨_, mark27_c _, ?_⟩ | refine ⟨_, fun _ => mark27_c _, ?_⟩ | refine ⟨_, hF1, ?_⟩ | refine ⟨_, fun _ => hF1, ?_⟩ | refine ⟨_, hF2, ?_⟩ | refine ⟨_, fun _ => hF2, ?_⟩ | refine ⟨_, hF3, ?_⟩ | refine ⟨_, fun _ => hF3, ?_⟩ | refine ⟨_, hF0, ?_⟩ | refine ⟨_, fun _ => hF0, ?_⟩ | refine ⟨_, hRf, ?_⟩ | refine ⟨_, fun _ => hRf, ?_⟩); (try simp only [go_sem, Nat.reduceLT, Nat.reduceLeDiff, Nat.reduceEqDiff, reduceIte, Nat.reduceAdd, Nat.reduceMul, Nat.reduceSub, Int.reduceLT, Int.reduceLE, Int.reduceToNat, Int.reduceNeg, reduceCtorEq, aopG, beq_self_eq_true, amem, Int.reduceToNat]))); (try simp (disch := omega) only [wrap_id, getD_map_in, Int.toNat_natCast, aopG, beq_self_eq_true, amem, Int.reduceToNat]); (repeat (refine And.intro (by (first | omega | (simp; done) | (simp; omega) | assumption)) ?_)); refine h' _ ?_; clear h' K') | (refine aops_nil (hK _ ?_); clear hK K gs; try simp only [aThen, aBlock]) | (refine AWp.sreg  dd35 rfl (fun gs K hgs hK => ?_); clear hgs) | refine AWp.seq ?_ | refine ARounds.step ?_ | refine AWp.block ?_ | refine AWp.label ?_ | (refine AWp.ret ?_; try simp only [aThen, aBlock]) | (refine AWp.skip ?_; try simp only [aThen, aBlock]) | (refine AWp.exit ?_; try simp only [aThen, aBlock, Nat.reduceEqDiff, reduceIte]) | (refine AWp.reg  dd35 rfl (fun gs K hgs hK => ?_); clear hgs) | ((first | refine AWp.sregM (id := 3) fo35 (false, false) mo_fact (by kernel_rfl) (by kernel_rfl) (fun gs K hgs hK => ?_) | refine AWp.regM (id := 3) fo35 (false, false) mo_fact (by kernel_rfl) (by kernel_rfl) (fun gs K hgs hK => ?_)); clear hgs) | (refine aopsM_nil (hK _ ?_); clear hK K gs; simp only [fo35]; simp only [ASt.prune, pruneE, keepB, keepR, Bool.or_false, Bool.or_true, Bool.true_or, Bool.false_or, reduceIte, Bool.or_self, Bool.false_eq_true, aThen, aBlock, Nat.reduceEqDiff])))
        (refine AWp.cond rfl (fun h => ?_) (fun h => ?_) <;> (try simp only [decide_eq_true_eq, decide_eq_false_iff_not, beq_iff_eq, bne_iff_ne, ne_eq, Bool.not_eq_true', Bool.not_eq_false', beq_eq_false_iff_ne, Bool.true_eq_false, Bool.false_eq_true, Int.not_le, Int.not_lt, Bool.and_eq_true, Bool.and_eq_false_iff, Bool.or_eq_true, Bool.or_eq_false_iff, bne_eq_false_iff_eq, reduceCtorEq] at h) <;> (try first | contradiction | (exfalso; omega) | (exfalso; revert h; simp; done) | (exfalso; revert h; simp; omega)))
        · obtain ⟨t, ht, hok, hb⟩ := hbad j (by omega)
          have hRf := refused_c t hok hb
          clear hok hb hbad hMany
          obtain ⟨kd, n, tn, pe, mk, st, ev, rw_, lt⟩ := t
          unfold Tsk.cells sndsV mksV entsV evsV rowsV rcdsV at hRf
          simp only at hRf
          repeat (any_goals (first | ((first | refine aops_cons (fun K' h' => ?_) | refine aopsD_cons (fun K' h' => ?_) | refine aopsM_cons (fun K' h' => ?_)); simp only [go_sem, Nat.reduceLT, Nat.reduceLeDiff, Nat.reduceEqDiff, reduceIte, Nat.reduceAdd, Nat.reduceMul, Nat.reduceSub, Int.reduceLT, Int.reduceLE, Int.reduceToNat, Int.reduceNeg, reduceCtorEq, aopG, beq_self_eq_true, amem, Int.reduceToNat, ht, Tsk.cells, sndsV, mksV, entsV, evsV, rowsV, rcdsV]; (try ((first | refine ⟨_, mark27_c _, ?_⟩ | refine ⟨_, fun _ => mark27_c _, ?_⟩ | refine ⟨_, hF1, ?_⟩ | refine ⟨_, fun _ => hF1, ?_⟩ | refine ⟨_, hF2, ?_⟩ | refine ⟨_, fun _ => hF2, ?_⟩ | refine ⟨_, hF3, ?_⟩ | refine ⟨_, fun _ => hF3, ?_⟩ | refine ⟨_, hF0, ?_⟩ | refine ⟨_, fun _ => hF0, ?_⟩ | refine ⟨_, hRf, ?_⟩ | refine ⟨_, fun _ => hRf, ?_⟩); (try simp only [go_sem, Nat.reduceLT, Nat.reduceLeDiff, Nat.reduceEqDiff, reduceIte, Nat.reduceAdd, Nat.reduceMul, Nat.reduceSub, Int.reduceLT, Int.reduceLE, Int.reduceToNat, Int.reduceNeg, reduceCtorEq, aopG, beq_self_eq_true, amem, Int.reduceToNat, ht, Tsk.cells, sndsV, mksV, entsV, evsV, rowsV, rcdsV]))); (try simp (disch := omega) only [wrap_id, getD_map_in, Int.toNat_natCast, aopG, beq_self_eq_true, amem, Int.reduceToNat, ht, Tsk.cells, sndsV, mksV, entsV, evsV, rowsV, rcdsV]); (repeat (refine And.intro (by (first | omega | (simp; done) | (simp; omega) | assumption)) ?_)); refine h' _ ?_; clear h' K') | (refine aops_nil (hK _ ?_); clear hK K gs; try simp only [aThen, aBlock]) | (refine AWp.sreg  dd35 rfl (fun gs K hgs hK => ?_); clear hgs) | refine AWp.seq ?_ | refine ARounds.step ?_ | refine AWp.block ?_ | refine AWp.label ?_ | (refine AWp.ret ?_; try simp only [aThen, aBlock]) | (refine AWp.skip ?_; try simp only [aThen, aBlock]) | (refine AWp.exit ?_; try simp only [aThen, aBlock, Nat.reduceEqDiff, reduceIte]) | (refine AWp.reg  dd35 rfl (fun gs K hgs hK => ?_); clear hgs) | ((first | refine AWp.sregM (id := 3) fo35 (false, false) mo_fact (by kernel_rfl) (by kernel_rfl) (fun gs K hgs hK => ?_) | refine AWp.regM (id := 3) fo35 (false, false) mo_fact (by kernel_rfl) (by kernel_rfl) (fun gs K hgs hK => ?_)); clear hgs) | (refine aopsM_nil (hK _ ?_); clear hK K gs; simp only [fo35]; simp only [ASt.prune, pruneE, keepB, keepR, Bool.or_false, Bool.or_true, Bool.true_or, Bool.false_or, reduceIte, Bool.or_self, Bool.false_eq_true, aThen, aBlock, Nat.reduceEqDiff]) | (refine AWp.cond rfl (fun h => ?_) (fun h => ?_) <;> (try simp only [decide_eq_true_eq, decide_eq_false_iff_not, beq_iff_eq, bne_iff_ne, ne_eq, Bool.not_eq_true', Bool.not_eq_false', beq_eq_false_iff_ne, Bool.true_eq_false, Bool.false_eq_true, Int.not_le, Int.not_lt, Bool.and_eq_true, Bool.and_eq_false_iff, Bool.or_eq_true, Bool.or_eq_false_iff, bne_eq_false_iff_eq, reduceCtorEq] at h) <;> (try first | contradiction | (exfalso; omega) | (exfalso; revert h; simp; done) | (exfalso; revert h; simp; omega)))))
          refine ⟨by omega, trivial, Wk.of rfl rfl ?_⟩
          first
            | (simp [subE, eget, ASt.drop, dropE, keepR, lowE, AV.lowB, lowL, Nat.blt, Nat.ble]; done)
            | (simp [subE, eget, ASt.drop, dropE, keepR, lowE, AV.lowB, lowL, Nat.blt, Nat.ble]; omega)
        · have hRf := hMany
          clear hMany hbad
          repeat (any_goals (first | ((first | refine aops_cons (fun K' h' => ?_) | refine aopsD_cons (fun K' h' => ?_) | refine aopsM_cons (fun K' h' => ?_)); simp only [go_sem, Nat.reduceLT, Nat.reduceLeDiff, Nat.reduceEqDiff, reduceIte, Nat.reduceAdd, Nat.reduceMul, Nat.reduceSub, Int.reduceLT, Int.reduceLE, Int.reduceToNat, Int.reduceNeg, reduceCtorEq, aopG, beq_self_eq_true, amem, Int.reduceToNat, htk]; (try ((first | refine ⟨_, mark27_c _, ?_⟩ | refine ⟨_, fun _ => mark27_c _, ?_⟩ | refine ⟨_, hF1, ?_⟩ | refine ⟨_, fun _ => hF1, ?_⟩ | refine ⟨_, hF2, ?_⟩ | refine ⟨_, fun _ => hF2, ?_⟩ | refine ⟨_, hF3, ?_⟩ | refine ⟨_, fun _ => hF3, ?_⟩ | refine ⟨_, hF0, ?_⟩ | refine ⟨_, fun _ => hF0, ?_⟩ | refine ⟨_, hRf, ?_⟩ | refine ⟨_, fun _ => hRf, ?_⟩); (try simp only [go_sem, Nat.reduceLT, Nat.reduceLeDiff, Nat.reduceEqDiff, reduceIte, Nat.reduceAdd, Nat.reduceMul, Nat.reduceSub, Int.reduceLT, Int.reduceLE, Int.reduceToNat, Int.reduceNeg, reduceCtorEq, aopG, beq_self_eq_true, amem, Int.reduceToNat, htk]))); (try simp (disch := omega) only [wrap_id, getD_map_in, Int.toNat_natCast, aopG, beq_self_eq_true, amem, Int.reduceToNat, htk]); (repeat (refine And.intro (by (first | omega | (simp; done) | (simp; omega) | assumption)) ?_)); refine h' _ ?_; clear h' K') | (refine aops_nil (hK _ ?_); clear hK K gs; try simp only [aThen, aBlock]) | (refine AWp.sreg  dd35 rfl (fun gs K hgs hK => ?_); clear hgs) | refine AWp.seq ?_ | refine ARounds.step ?_ | refine AWp.block ?_ | refine AWp.label ?_ | (refine AWp.ret ?_; try simp only [aThen, aBlock]) | (refine AWp.skip ?_; try simp only [aThen, aBlock]) | (refine AWp.exit ?_; try simp only [aThen, aBlock, Nat.reduceEqDiff, reduceIte]) | (refine AWp.reg  dd35 rfl (fun gs K hgs hK => ?_); clear hgs) | ((first | refine AWp.sregM (id := 3) fo35 (false, false) mo_fact (by kernel_rfl) (by kernel_rfl) (fun gs K hgs hK => ?_) | refine AWp.regM (id := 3) fo35 (false, false) mo_fact (by kernel_rfl) (by kernel_rfl) (fun gs K hgs hK => ?_)); clear hgs) | (refine aopsM_nil (hK _ ?_); clear hK K gs; simp only [fo35]; simp only [ASt.prune, pruneE, keepB, keepR, Bool.or_false, Bool.or_true, Bool.true_or, Bool.false_or, reduceIte, Bool.or_self, Bool.false_eq_true, aThen, aBlock, Nat.reduceEqDiff]) | (refine AWp.cond rfl (fun h => ?_) (fun h => ?_) <;> (try simp only [decide_eq_true_eq, decide_eq_false_iff_not, beq_iff_eq, bne_iff_ne, ne_eq, Bool.not_eq_true', Bool.not_eq_false', beq_eq_false_iff_ne, Bool.true_eq_false, Bool.false_eq_true, Int.not_le, Int.not_lt, Bool.and_eq_true, Bool.and_eq_false_iff, Bool.or_eq_true, Bool.or_eq_false_iff, bne_eq_false_iff_eq, reduceCtorEq] at h) <;> (try first | contradiction | (exfalso; omega) | (exfalso; revert h; simp; done) | (exfalso; revert h; simp; omega)))))
          simp only [Out, outA, outL, resA, go_sem, Nat.reduceLT, Nat.reduceLeDiff, Nat.reduceEqDiff, reduceIte, Nat.reduceAdd, Nat.reduceMul, Nat.reduceSub, Int.reduceLT, Int.reduceLE, Int.reduceToNat, Int.reduceNeg, reduceCtorEq]
          exact AVle.refl _
end Go.Proofs.Ytlpmgkillalhbaa
