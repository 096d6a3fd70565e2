/-
  The walks over tasks and queues: turns and sends.
-/
import Derived.Test.YtlpmgkillalhbaaQueY
namespace Go.Proofs.Ytlpmgkillalhbaa
open Go.AL Go.RowKit
set_option linter.unusedSimpArgs false
set_option linter.unusedVariables false
set_option maxRecDepth 10000
set_option maxHeartbeats 8000000

theorem turn_cases (t : Tsk) (ins : List Que) : (askQ t ins [] ≠ 0 ∧ turnE t ins = askQ t ins [] ∧ turnK t ins = 0 ∧ turnT t ins = zeroT) ∨
    (askQ t ins [] = 0 ∧ (firstQ t.turn ins < 0 ∨ 0 < t.pend.length) ∧ turnE t ins = 6 ∧ turnK t ins = 0 ∧ turnT t ins = zeroT) ∨
    (askQ t ins [] = 0 ∧ 0 ≤ firstQ t.turn ins ∧ t.pend = [] ∧ turnE t ins = 0 ∧ turnK t ins = firstQ t.turn ins ∧ turnT t ins = { t with turn := (firstQ t.turn ins + 1) % (ins.length : Int) }) := by
  by_cases h0 : askQ t ins [] = 0
  · by_cases h1 : firstQ t.turn ins < 0 ∨ 0 < t.pend.length
    · have : turnE t ins = 6 := by unfold turnE; rw [if_neg (by simp [h0]), if_pos h1]
      exact .inr (.inl ⟨h0, h1, this, by unfold turnK; rw [this]; rfl, by unfold turnT; rw [this]; rfl⟩)
    · have : turnE t ins = 0 := by unfold turnE; rw [if_neg (by simp [h0]), if_neg h1]
      exact .inr (.inr ⟨h0, by omega, List.eq_nil_of_length_eq_zero (by omega), this, by unfold turnK; rw [if_pos this], by unfold turnT; rw [if_pos this]⟩)
  · have : turnE t ins = askQ t ins [] := by unfold turnE; rw [if_pos h0]
    exact .inl ⟨h0, this, by unfold turnK; rw [this, if_neg h0], by unfold turnT; rw [this, if_neg h0]⟩

theorem modQ {fq : Int} {n : Nat} (h : 0 ≤ fq) : (fq + 1).tmod (n : Int) = (fq + 1) % (n : Int) := Int.tmod_eq_emod_of_nonneg (by omega)

def dd16 : Nat → List (List Nat)
  | 0 => [[], [0], [4], [], [6]]
  | 1 => [[], [], [], [9, 10], [11]]
  | 2 => [[], [], [12]]
  | 3 => [[1, 2, 13], [], [7], [], [14], [15]]
  | 4 => [[7, 13], [], [16], [], [17, 18], [19]]
  | 5 => [[], [], [20], [21], [], [23], [24], [25], [22, 26]]
  | 6 => [[1, 2, 8, 27], [], [], [28], []]
  | 7 => [[27], [], [29], [30]]
  | 8 => [[], [], [31], [1], [33], [32, 34], [], [35, 36]]
  | _ => []
def fo16 : Nat → List Nat
  | 9 => [4, 5, 6]
  | _ => []
theorem turn_c (t : Tsk) (ins : List Que) (hok : t.ok) (hi : ins.length ≤ maxLen) : ACall Try.prog 16 [.agg t.cells, quesV ins] (.tup [.lit (.int .i64 (turnK t ins)), .agg (turnT t ins).cells, .lit (.int .i64 (turnE t ins))]) := by
  have hAk : ACall Try.prog 38 [.agg t.cells, quesV ins, .lit (.slice none 0 0)] (.lit (.int .i64 (askQ t ins []))) := (askedQ_c t ins [] hok hi (by simp [maxLen])).mono ⟨AVle.refl _, AVle.refl _, AVle.nil 2, trivial⟩ (AVle.refl _)
  rcases turn_cases t ins with ⟨h1, h2, h3, h4⟩ | ⟨h1, h2, h3, h4, h5⟩ | ⟨h1, h2, h3, h4, h5, h6⟩
  · rw [h2, h3, h4]
    generalize askQ t ins [] = aq at *
    clear hok h2 h3 h4
    obtain ⟨kd, n, tn, pe, mk, st, ev, rw_, lt⟩ := t
    unfold quesV at *
    rw [show (Tsk.mk kd n tn pe mk st ev rw_ lt).cells = [.lit (.int .u8 kd), .lit (.int .i64 n), .lit (.int .i64 tn), .ro 11 (pe.map Snd.cells), .ro 1 (mk.map intC), .ro 11 (st.map Ent.cells), .ro 5 (ev.map Ev.cells), .ro 5 (rw_.map RowT.cells), .ro 3 (lt.map Rcd.cells)] from rfl] at *
    refine acall_of (n := 39) (rs := [.tmp 4, .cell 5 31, .tmp 6]) Try.func16 rfl (by kernel_rfl) rfl rfl rfl ?_; simp only [argsE, Nat.reduceAdd]
    repeat (any_goals (first | ((first | refine aops_cons (fun K' h' => ?_) | refine aopsD_cons (fun K' h' => ?_) | refine aopsM_cons (fun K' h' => ?_)); simp only [go_sem, Nat.reduceLT, Nat.reduceLeDiff, Nat.reduceEqDiff, reduceIte, Nat.reduceAdd, Nat.reduceMul, Nat.reduceSub, Int.reduceLT, Int.reduceLE, Int.reduceToNat, Int.reduceNeg, reduceCtorEq, hgs, Que.cells]; (try ((first | refine ⟨_, hAk, ?_⟩ | refine ⟨_, fun _ => hAk, ?_⟩ | refine ⟨_, hFi, ?_⟩ | refine ⟨_, fun _ => hFi, ?_⟩); (try simp only [go_sem, Nat.reduceLT, Nat.reduceLeDiff, Nat.reduceEqDiff, reduceIte, Nat.reduceAdd, Nat.reduceMul, Nat.reduceSub, Int.reduceLT, Int.reduceLE, Int.reduceToNat, Int.reduceNeg, reduceCtorEq, hgs, Que.cells]))); (try simp (disch := omega) only [wrap_id, getD_map_in, Int.toNat_natCast, Que.cells]); (repeat (refine And.intro (by (first | omega | (simp; done) | (simp; omega) | assumption)) ?_)); refine h' _ ?_; clear h' K') | (refine aops_nil (hK _ ?_); clear hK K hgs gs; try simp only [aThen, aBlock]) | (refine aops_consN  (fun K' h' => ?_); simp only [go_sem, Nat.reduceLT, Nat.reduceLeDiff, Nat.reduceEqDiff, reduceIte, Nat.reduceAdd, Nat.reduceMul, Nat.reduceSub, Int.reduceLT, Int.reduceLE, Int.reduceToNat, Int.reduceNeg, reduceCtorEq, hgs, Que.cells]; refine ⟨_, _, hCl, ?_⟩; (try simp only [go_sem, Nat.reduceLT, Nat.reduceLeDiff, Nat.reduceEqDiff, reduceIte, Nat.reduceAdd, Nat.reduceMul, Nat.reduceSub, Int.reduceLT, Int.reduceLE, Int.reduceToNat, Int.reduceNeg, reduceCtorEq, hgs, Que.cells]); (repeat (refine And.intro (by (first | omega | (simp; done) | (simp; omega) | assumption)) ?_)); refine h' _ ?_; clear h' K') | ((first | refine AWp.sreg (id := 5) dd16 rfl (fun gs K hgs hK => ?_) | refine AWp.reg (id := 5) dd16 rfl (fun gs K hgs hK => ?_)); replace hgs : gs 2 = some 22 := hgs 2) | (refine AWp.sreg  dd16 rfl (fun gs K hgs hK => ?_); replace hgs : Nat.succ 0 = 1 := rfl) | refine AWp.seq ?_ | refine ARounds.step ?_ | refine AWp.block ?_ | refine AWp.label ?_ | (refine AWp.ret ?_; try simp only [aThen, aBlock]) | (refine AWp.skip ?_; try simp only [aThen, aBlock]) | (refine AWp.exit ?_; try simp only [aThen, aBlock, Nat.reduceEqDiff, reduceIte]) | (refine AWp.reg  dd16 rfl (fun gs K hgs hK => ?_); replace hgs : Nat.succ 0 = 1 := rfl) | ((first | refine AWp.sregM (id := 9) fo16 (false, false) mo_fact (by kernel_rfl) (by kernel_rfl) (fun gs K hgs hK => ?_) | refine AWp.regM (id := 9) fo16 (false, false) mo_fact (by kernel_rfl) (by kernel_rfl) (fun gs K hgs hK => ?_)); replace hgs : Nat.succ 0 = 1 := rfl) | (refine aopsM_nil (hK _ ?_); clear hK K hgs gs; simp only [fo16]; simp only [ASt.prune, pruneE, keepB, keepR, Bool.or_false, Bool.or_true, Bool.true_or, Bool.false_or, reduceIte, Bool.or_self, Bool.false_eq_true, aThen, aBlock, Nat.reduceEqDiff]) | (refine aops_consG (fun K' h' => ?_); simp only [go_sem, Nat.reduceLT, Nat.reduceLeDiff, Nat.reduceEqDiff, reduceIte, Nat.reduceAdd, Nat.reduceMul, Nat.reduceSub, Int.reduceLT, Int.reduceLE, Int.reduceToNat, Int.reduceNeg, reduceCtorEq, hgs, Que.cells]; (try simp (disch := omega) only [wrap_id, getD_map_in, Int.toNat_natCast, Que.cells]); (repeat (refine And.intro (by (first | omega | (simp; done) | (simp; omega) | assumption)) ?_)); refine h' _ ?_; clear h' K') | (refine AWp.cond rfl (fun h => ?_) (fun h => ?_) <;> (try simp only [decide_eq_true_eq, decide_eq_false_iff_not, beq_iff_eq, bne_iff_ne, ne_eq, Bool.not_eq_true', Bool.not_eq_false', beq_eq_false_iff_ne, Bool.true_eq_false, Bool.false_eq_true, Int.not_le, Int.not_lt, Bool.and_eq_true, Bool.and_eq_false_iff, Bool.or_eq_true, Bool.or_eq_false_iff, bne_eq_false_iff_eq, reduceCtorEq] at h) <;> (try first | contradiction | (exfalso; omega) | (exfalso; revert h; simp; done) | (exfalso; revert h; simp; omega)))))
    simp only [Out, outA, outL, resA, go_sem, Nat.reduceLT, Nat.reduceLeDiff, Nat.reduceEqDiff, reduceIte, Nat.reduceAdd, Nat.reduceMul, Nat.reduceSub, Int.reduceLT, Int.reduceLE, Int.reduceToNat, Int.reduceNeg, reduceCtorEq]
    exact AVle.tup ⟨AVle.refl _, zeroT_le, AVle.refl _, trivial⟩
  · obtain ⟨q1, q2, _, _, _⟩ := askQ_0 h1
    obtain ⟨b1, b2, _⟩ := goodT_turn q1
    obtain ⟨_, hf, hp⟩ := goodT_few q1
    have hFi := first_c t.turn ins b1 q2
    rw [h3, h4, h5]
    rw [h1] at hAk
    clear hok h1 h3 h4 h5 q1 hf
    obtain ⟨kd, n, tn, pe, mk, st, ev, rw_, lt⟩ := t
    simp only at h2 hFi b1 b2 hp
    unfold quesV at *
    rw [show (Tsk.mk kd n tn pe mk st ev rw_ lt).cells = [.lit (.int .u8 kd), .lit (.int .i64 n), .lit (.int .i64 tn), .ro 11 (pe.map Snd.cells), .ro 1 (mk.map intC), .ro 11 (st.map Ent.cells), .ro 5 (ev.map Ev.cells), .ro 5 (rw_.map RowT.cells), .ro 3 (lt.map Rcd.cells)] from rfl] at *
    generalize firstQ tn ins = fq at *
    refine acall_of (n := 39) (rs := [.tmp 4, .cell 5 31, .tmp 6]) Try.func16 rfl (by kernel_rfl) rfl rfl rfl ?_; simp only [argsE, Nat.reduceAdd]
    repeat (any_goals (first | ((first | refine aops_cons (fun K' h' => ?_) | refine aopsD_cons (fun K' h' => ?_) | refine aopsM_cons (fun K' h' => ?_)); simp only [go_sem, Nat.reduceLT, Nat.reduceLeDiff, Nat.reduceEqDiff, reduceIte, Nat.reduceAdd, Nat.reduceMul, Nat.reduceSub, Int.reduceLT, Int.reduceLE, Int.reduceToNat, Int.reduceNeg, reduceCtorEq, hgs, Que.cells]; (try ((first | refine ⟨_, hAk, ?_⟩ | refine ⟨_, fun _ => hAk, ?_⟩ | refine ⟨_, hFi, ?_⟩ | refine ⟨_, fun _ => hFi, ?_⟩); (try simp only [go_sem, Nat.reduceLT, Nat.reduceLeDiff, Nat.reduceEqDiff, reduceIte, Nat.reduceAdd, Nat.reduceMul, Nat.reduceSub, Int.reduceLT, Int.reduceLE, Int.reduceToNat, Int.reduceNeg, reduceCtorEq, hgs, Que.cells]))); (try simp (disch := omega) only [wrap_id, getD_map_in, Int.toNat_natCast, Que.cells]); (repeat (refine And.intro (by (first | omega | (simp; done) | (simp; omega) | assumption)) ?_)); refine h' _ ?_; clear h' K') | (refine aops_nil (hK _ ?_); clear hK K hgs gs; try simp only [aThen, aBlock]) | (refine aops_consN  (fun K' h' => ?_); simp only [go_sem, Nat.reduceLT, Nat.reduceLeDiff, Nat.reduceEqDiff, reduceIte, Nat.reduceAdd, Nat.reduceMul, Nat.reduceSub, Int.reduceLT, Int.reduceLE, Int.reduceToNat, Int.reduceNeg, reduceCtorEq, hgs, Que.cells]; refine ⟨_, _, hCl, ?_⟩; (try simp only [go_sem, Nat.reduceLT, Nat.reduceLeDiff, Nat.reduceEqDiff, reduceIte, Nat.reduceAdd, Nat.reduceMul, Nat.reduceSub, Int.reduceLT, Int.reduceLE, Int.reduceToNat, Int.reduceNeg, reduceCtorEq, hgs, Que.cells]); (repeat (refine And.intro (by (first | omega | (simp; done) | (simp; omega) | assumption)) ?_)); refine h' _ ?_; clear h' K') | ((first | refine AWp.sreg (id := 5) dd16 rfl (fun gs K hgs hK => ?_) | refine AWp.reg (id := 5) dd16 rfl (fun gs K hgs hK => ?_)); replace hgs : gs 2 = some 22 := hgs 2) | (refine AWp.sreg  dd16 rfl (fun gs K hgs hK => ?_); replace hgs : Nat.succ 0 = 1 := rfl) | refine AWp.seq ?_ | refine ARounds.step ?_ | refine AWp.block ?_ | refine AWp.label ?_ | (refine AWp.ret ?_; try simp only [aThen, aBlock]) | (refine AWp.skip ?_; try simp only [aThen, aBlock]) | (refine AWp.exit ?_; try simp only [aThen, aBlock, Nat.reduceEqDiff, reduceIte]) | (refine AWp.reg  dd16 rfl (fun gs K hgs hK => ?_); replace hgs : Nat.succ 0 = 1 := rfl) | ((first | refine AWp.sregM (id := 9) fo16 (false, false) mo_fact (by kernel_rfl) (by kernel_rfl) (fun gs K hgs hK => ?_) | refine AWp.regM (id := 9) fo16 (false, false) mo_fact (by kernel_rfl) (by kernel_rfl) (fun gs K hgs hK => ?_)); replace hgs : Nat.succ 0 = 1 := rfl) | (refine aopsM_nil (hK _ ?_); clear hK K hgs gs; simp only [fo16]; simp only [ASt.prune, pruneE, keepB, keepR, Bool.or_false, Bool.or_true, Bool.true_or, Bool.false_or, reduceIte, Bool.or_self, Bool.false_eq_true, aThen, aBlock, Nat.reduceEqDiff]) | (refine aops_consG (fun K' h' => ?_); simp only [go_sem, Nat.reduceLT, Nat.reduceLeDiff, Nat.reduceEqDiff, reduceIte, Nat.reduceAdd, Nat.reduceMul, Nat.reduceSub, Int.reduceLT, Int.reduceLE, Int.reduceToNat, Int.reduceNeg, reduceCtorEq, hgs, Que.cells]; (try simp (disch := omega) only [wrap_id, getD_map_in, Int.toNat_natCast, Que.cells]); (repeat (refine And.intro (by (first | omega | (simp; done) | (simp; omega) | assumption)) ?_)); refine h' _ ?_; clear h' K') | (refine AWp.cond rfl (fun h => ?_) (fun h => ?_) <;> (try simp only [decide_eq_true_eq, decide_eq_false_iff_not, beq_iff_eq, bne_iff_ne, ne_eq, Bool.not_eq_true', Bool.not_eq_false', beq_eq_false_iff_ne, Bool.true_eq_false, Bool.false_eq_true, Int.not_le, Int.not_lt, Bool.and_eq_true, Bool.and_eq_false_iff, Bool.or_eq_true, Bool.or_eq_false_iff, bne_eq_false_iff_eq, reduceCtorEq] at h) <;> (try first | contradiction | (exfalso; omega) | (exfalso; revert h; simp; done) | (exfalso; revert h; simp; omega)))))
    simp only [Out, outA, outL, resA, go_sem, Nat.reduceLT, Nat.reduceLeDiff, Nat.reduceEqDiff, reduceIte, Nat.reduceAdd, Nat.reduceMul, Nat.reduceSub, Int.reduceLT, Int.reduceLE, Int.reduceToNat, Int.reduceNeg, reduceCtorEq]
    exact AVle.tup ⟨AVle.refl _, zeroT_le, AVle.refl _, trivial⟩
  · obtain ⟨q1, q2, _, _, _⟩ := askQ_0 h1
    obtain ⟨b1, b2, _⟩ := goodT_turn q1
    obtain ⟨_, hf, hp⟩ := goodT_few q1
    have hFi := first_c t.turn ins b1 q2
    have hCl := cloneT_n t hf
    have hlt := @firstQ_lt t.turn ins
    have hmod := modQ (n := ins.length) h2
    rw [h4, h5, h6]
    rw [h1] at hAk
    clear hok h1 h4 h5 h6 q1 hf
    obtain ⟨kd, n, tn, pe, mk, st, ev, rw_, lt⟩ := t
    simp only at h2 h3 hFi b1 b2 hp hCl hlt hmod
    subst h3
    unfold quesV at *
    unfold mksV entsV evsV rowsV rcdsV at hCl
    rw [show (Tsk.mk kd n tn [] mk st ev rw_ lt).cells = [.lit (.int .u8 kd), .lit (.int .i64 n), .lit (.int .i64 tn), .ro 11 [], .ro 1 (mk.map intC), .ro 11 (st.map Ent.cells), .ro 5 (ev.map Ev.cells), .ro 5 (rw_.map RowT.cells), .ro 3 (lt.map Rcd.cells)] from rfl] at *
    simp only [List.map_nil, List.length_nil] at hCl
    generalize firstQ tn ins = fq at *
    refine acall_of (n := 39) (rs := [.tmp 4, .cell 5 31, .tmp 6]) Try.func16 rfl (by kernel_rfl) rfl rfl rfl ?_; simp only [argsE, Nat.reduceAdd]
    repeat (any_goals (first | ((first | refine aops_cons (fun K' h' => ?_) | refine aopsD_cons (fun K' h' => ?_) | refine aopsM_cons (fun K' h' => ?_)); simp only [go_sem, Nat.reduceLT, Nat.reduceLeDiff, Nat.reduceEqDiff, reduceIte, Nat.reduceAdd, Nat.reduceMul, Nat.reduceSub, Int.reduceLT, Int.reduceLE, Int.reduceToNat, Int.reduceNeg, reduceCtorEq, hgs, Que.cells, hmod]; (try ((first | refine ⟨_, hAk, ?_⟩ | refine ⟨_, fun _ => hAk, ?_⟩ | refine ⟨_, hFi, ?_⟩ | refine ⟨_, fun _ => hFi, ?_⟩); (try simp only [go_sem, Nat.reduceLT, Nat.reduceLeDiff, Nat.reduceEqDiff, reduceIte, Nat.reduceAdd, Nat.reduceMul, Nat.reduceSub, Int.reduceLT, Int.reduceLE, Int.reduceToNat, Int.reduceNeg, reduceCtorEq, hgs, Que.cells, hmod]))); (try simp (disch := omega) only [wrap_id, getD_map_in, Int.toNat_natCast, Que.cells, hmod]); (repeat (refine And.intro (by (first | omega | (simp; done) | (simp; omega) | assumption)) ?_)); refine h' _ ?_; clear h' K') | (refine aops_nil (hK _ ?_); clear hK K hgs gs; try simp only [aThen, aBlock]) | (refine aops_consN  (fun K' h' => ?_); simp only [go_sem, Nat.reduceLT, Nat.reduceLeDiff, Nat.reduceEqDiff, reduceIte, Nat.reduceAdd, Nat.reduceMul, Nat.reduceSub, Int.reduceLT, Int.reduceLE, Int.reduceToNat, Int.reduceNeg, reduceCtorEq, hgs, Que.cells, hmod]; refine ⟨_, _, hCl, ?_⟩; (try simp only [go_sem, Nat.reduceLT, Nat.reduceLeDiff, Nat.reduceEqDiff, reduceIte, Nat.reduceAdd, Nat.reduceMul, Nat.reduceSub, Int.reduceLT, Int.reduceLE, Int.reduceToNat, Int.reduceNeg, reduceCtorEq, hgs, Que.cells, hmod]); (repeat (refine And.intro (by (first | omega | (simp; done) | (simp; omega) | assumption)) ?_)); refine h' _ ?_; clear h' K') | ((first | refine AWp.sreg (id := 5) dd16 rfl (fun gs K hgs hK => ?_) | refine AWp.reg (id := 5) dd16 rfl (fun gs K hgs hK => ?_)); replace hgs : gs 2 = some 22 := hgs 2) | (refine AWp.sreg  dd16 rfl (fun gs K hgs hK => ?_); replace hgs : Nat.succ 0 = 1 := rfl) | refine AWp.seq ?_ | refine ARounds.step ?_ | refine AWp.block ?_ | refine AWp.label ?_ | (refine AWp.ret ?_; try simp only [aThen, aBlock]) | (refine AWp.skip ?_; try simp only [aThen, aBlock]) | (refine AWp.exit ?_; try simp only [aThen, aBlock, Nat.reduceEqDiff, reduceIte]) | (refine AWp.reg  dd16 rfl (fun gs K hgs hK => ?_); replace hgs : Nat.succ 0 = 1 := rfl) | ((first | refine AWp.sregM (id := 9) fo16 (false, false) mo_fact (by kernel_rfl) (by kernel_rfl) (fun gs K hgs hK => ?_) | refine AWp.regM (id := 9) fo16 (false, false) mo_fact (by kernel_rfl) (by kernel_rfl) (fun gs K hgs hK => ?_)); replace hgs : Nat.succ 0 = 1 := rfl) | (refine aopsM_nil (hK _ ?_); clear hK K hgs gs; simp only [fo16]; simp only [ASt.prune, pruneE, keepB, keepR, Bool.or_false, Bool.or_true, Bool.true_or, Bool.false_or, reduceIte, Bool.or_self, Bool.false_eq_true, aThen, aBlock, Nat.reduceEqDiff]) | (refine aops_consG (fun K' h' => ?_); simp only [go_sem, Nat.reduceLT, Nat.reduceLeDiff, Nat.reduceEqDiff, reduceIte, Nat.reduceAdd, Nat.reduceMul, Nat.reduceSub, Int.reduceLT, Int.reduceLE, Int.reduceToNat, Int.reduceNeg, reduceCtorEq, hgs, Que.cells, hmod]; (try simp (disch := omega) only [wrap_id, getD_map_in, Int.toNat_natCast, Que.cells, hmod]); (repeat (refine And.intro (by (first | omega | (simp; done) | (simp; omega) | assumption)) ?_)); refine h' _ ?_; clear h' K') | (refine AWp.cond rfl (fun h => ?_) (fun h => ?_) <;> (try simp only [decide_eq_true_eq, decide_eq_false_iff_not, beq_iff_eq, bne_iff_ne, ne_eq, Bool.not_eq_true', Bool.not_eq_false', beq_eq_false_iff_ne, Bool.true_eq_false, Bool.false_eq_true, Int.not_le, Int.not_lt, Bool.and_eq_true, Bool.and_eq_false_iff, Bool.or_eq_true, Bool.or_eq_false_iff, bne_eq_false_iff_eq, reduceCtorEq] at h) <;> (try first | contradiction | (exfalso; omega) | (exfalso; revert h; simp; done) | (exfalso; revert h; simp; omega)))))
    simp only [Out, outA, outL, resA, go_sem, Nat.reduceLT, Nat.reduceLeDiff, Nat.reduceEqDiff, reduceIte, Nat.reduceAdd, Nat.reduceMul, Nat.reduceSub, Int.reduceLT, Int.reduceLE, Int.reduceToNat, Int.reduceNeg, reduceCtorEq]
    exact AVle.of_eq (by simp [Tsk.cells, sndsV, mksV, entsV, evsV, rowsV, rcdsV])

end Go.Proofs.Ytlpmgkillalhbaa
