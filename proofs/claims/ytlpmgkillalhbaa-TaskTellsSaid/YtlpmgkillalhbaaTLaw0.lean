/-
  The chapter's example of tasks; the shapes of queues.
-/
import Derived.Test.YtlpmgkillalhbaaQueT
import Derived.Test.YtlpmgkillalhbaaQueS
import Derived.Test.YtlpmgkillalhbaaTskS
namespace Go.Proofs.Ytlpmgkillalhbaa
open Go.AL Go.RowKit
set_option linter.unusedSimpArgs false
set_option linter.unusedVariables false
set_option maxRecDepth 10000
set_option maxHeartbeats 8000000

theorem sh_que {cs : List AV} {d : Nat} (h : Shp Try.prog (d + 6) 41 cs) : ∃ q : { q : Que // q.list.length ≤ maxLen }, cs = q.1.cells := by
  obtain ⟨a, r, rfl, ha, g1⟩ := shp_st (ts := [3, 39]) (by kernel_rfl) h
  obtain ⟨b, r, rfl, hb, g2⟩ := g1
  obtain rfl : r = [] := g2
  obtain ⟨n, rfl⟩ := sh_int ha
  obtain ⟨l, rfl, hm⟩ := sh_list (f := Msg.cells) (q := (66, 10)) (by kernel_rfl) hb fun x hx => sh_msg hx
  exact ⟨⟨⟨n, l⟩, hm⟩, by simp [Que.cells]⟩
theorem ques_shape {a : AV} (h : ShpA Try.prog 8 32 a) : ∃ l : List Que, a = quesV l ∧ l.length ≤ maxLen ∧ ∀ q ∈ l, q.ok := by
  obtain ⟨l, e, hm⟩ := sh_list (f := fun q : { q : Que // q.list.length ≤ maxLen } => q.1.cells) (q := (41, 2)) (by kernel_rfl) (shpA_one (by kernel_rfl) h) fun x hx => sh_que hx
  refine ⟨l.map (·.1), ?_, by simpa using hm, fun q hq => ?_⟩
  · have : a = .ro 2 (l.map fun q => q.1.cells) := by simpa using e
    rw [this]
    unfold quesV
    rw [List.map_map]
    rfl
  · obtain ⟨x, _, rfl⟩ := List.mem_map.1 hq
    exact x.2
theorem snds_shape {a : AV} (h : ShpA Try.prog 8 24 a) : ∃ l : List Snd, a = sndsV l ∧ l.length ≤ maxLen := by
  obtain ⟨l, e, hm⟩ := sh_list (f := Snd.cells) (q := (68, 11)) (by kernel_rfl) (shpA_one (by kernel_rfl) h) fun x hx => sh_snd hx
  exact ⟨l, by simpa [sndsV] using e, hm⟩

def dd33 : Nat → List (List Nat)
  | 0 => [[], []]
  | 1 => [[], [0], [3], [4]]
  | _ => []
theorem mark27_c (t : Int) : ACall Try.prog 33 [.lit (.int .i64 t)] (.agg [.lit (.int .u8 2), .lit (.int .i64 0), .lit (.int .i64 0), .lit (.int .i64 0), .lit (.int .i64 t), .lit (.int .i64 0), .lit (.int .i64 0), .lit (.int .i64 0), .lit (.int .i64 0), .lit (.int .i64 0)]) := by
  refine acall_of (n := 5) (rs := [.cell 2 66]) Try.func33 rfl (by kernel_rfl) rfl rfl rfl ?_; simp only [argsE, Nat.reduceAdd]
  repeat (any_goals (first | (refine aops_cons (fun K' h' => ?_); simp only [go_sem, Nat.reduceLT, Nat.reduceLeDiff, Nat.reduceEqDiff, reduceIte, Nat.reduceAdd, Nat.reduceMul, Nat.reduceSub, Int.reduceLT, Int.reduceLE, Int.reduceToNat, Int.reduceNeg, reduceCtorEq, aopG, beq_self_eq_true]; (try simp (disch := omega) only [wrap_id, getD_map_in, Int.toNat_natCast, aopG, beq_self_eq_true]); (repeat (refine And.intro (by (first | omega | (simp; done) | (simp; omega) | assumption)) ?_)); refine h' _ ?_; clear h' K') | (refine aops_nil (hK _ ?_); clear hK K gs; try simp only [aThen, aBlock]) | (refine AWp.sreg  dd33 rfl (fun gs K hgs hK => ?_); clear hgs) | refine AWp.seq ?_ | refine ARounds.step ?_ | refine AWp.block ?_ | refine AWp.label ?_ | (refine AWp.ret ?_; try simp only [aThen, aBlock]) | (refine AWp.skip ?_; try simp only [aThen, aBlock]) | (refine AWp.exit ?_; try simp only [aThen, aBlock, Nat.reduceEqDiff, reduceIte]) | (refine AWp.reg  dd33 rfl (fun gs K hgs hK => ?_); clear hgs) | (refine AWp.cond rfl (fun h => ?_) (fun h => ?_) <;> (try simp only [decide_eq_true_eq, decide_eq_false_iff_not, beq_iff_eq, bne_iff_ne, ne_eq, Bool.not_eq_true', Bool.not_eq_false', beq_eq_false_iff_ne, Bool.true_eq_false, Bool.false_eq_true, Int.not_le, Int.not_lt, Bool.and_eq_true, Bool.and_eq_false_iff, Bool.or_eq_true, Bool.or_eq_false_iff, bne_eq_false_iff_eq, reduceCtorEq] at h) <;> (try first | contradiction | (exfalso; omega) | (exfalso; revert h; simp; done) | (exfalso; revert h; simp; omega)))))
  simp only [Out, outA, outL, resA, go_sem, Nat.reduceLT, Nat.reduceLeDiff, Nat.reduceEqDiff, reduceIte, Nat.reduceAdd, Nat.reduceMul, Nat.reduceSub, Int.reduceLT, Int.reduceLE, Int.reduceToNat, Int.reduceNeg, reduceCtorEq]
  exact AVle.refl _
def dd34 : Nat → List (List Nat)
  | 0 => [[], []]
  | 1 => [[], [0], [3], [4]]
  | _ => []
theorem queueL_c (l : List Msg) : ACall Try.prog 34 [.ro 10 (l.map Msg.cells)] (.agg [.lit (.int .i64 2), .ro 10 (l.map Msg.cells)]) := by
  refine acall_of (n := 5) (rs := [.cell 2 41]) Try.func34 rfl (by kernel_rfl) rfl rfl rfl ?_; simp only [argsE, Nat.reduceAdd]
  repeat (any_goals (first | (refine aops_cons (fun K' h' => ?_); simp only [go_sem, Nat.reduceLT, Nat.reduceLeDiff, Nat.reduceEqDiff, reduceIte, Nat.reduceAdd, Nat.reduceMul, Nat.reduceSub, Int.reduceLT, Int.reduceLE, Int.reduceToNat, Int.reduceNeg, reduceCtorEq, aopG, beq_self_eq_true]; (try simp (disch := omega) only [wrap_id, getD_map_in, Int.toNat_natCast, aopG, beq_self_eq_true]); (repeat (refine And.intro (by (first | omega | (simp; done) | (simp; omega) | assumption)) ?_)); refine h' _ ?_; clear h' K') | (refine aops_nil (hK _ ?_); clear hK K gs; try simp only [aThen, aBlock]) | (refine AWp.sreg  dd34 rfl (fun gs K hgs hK => ?_); clear hgs) | refine AWp.seq ?_ | refine ARounds.step ?_ | refine AWp.block ?_ | refine AWp.label ?_ | (refine AWp.ret ?_; try simp only [aThen, aBlock]) | (refine AWp.skip ?_; try simp only [aThen, aBlock]) | (refine AWp.exit ?_; try simp only [aThen, aBlock, Nat.reduceEqDiff, reduceIte]) | (refine AWp.reg  dd34 rfl (fun gs K hgs hK => ?_); clear hgs) | (refine AWp.cond rfl (fun h => ?_) (fun h => ?_) <;> (try simp only [decide_eq_true_eq, decide_eq_false_iff_not, beq_iff_eq, bne_iff_ne, ne_eq, Bool.not_eq_true', Bool.not_eq_false', beq_eq_false_iff_ne, Bool.true_eq_false, Bool.false_eq_true, Int.not_le, Int.not_lt, Bool.and_eq_true, Bool.and_eq_false_iff, Bool.or_eq_true, Bool.or_eq_false_iff, bne_eq_false_iff_eq, reduceCtorEq] at h) <;> (try first | contradiction | (exfalso; omega) | (exfalso; revert h; simp; done) | (exfalso; revert h; simp; omega)))))
  simp only [Out, outA, outL, resA, go_sem, Nat.reduceLT, Nat.reduceLeDiff, Nat.reduceEqDiff, reduceIte, Nat.reduceAdd, Nat.reduceMul, Nat.reduceSub, Int.reduceLT, Int.reduceLE, Int.reduceToNat, Int.reduceNeg, reduceCtorEq]
  exact AVle.refl _
def filT (l : List Snd) : Tsk := ⟨2, 0, 0, l, [-9223372036854775808], [], [], [], []⟩
def dd32 : Nat → List (List Nat)
  | 0 => [[], []]
  | 1 => [[], [], [], [0], [3, 4, 5], [6]]
  | _ => []
theorem filterL_c (l : List Snd) : ACall Try.prog 32 [.ro 11 (l.map Snd.cells)] (.agg (filT l).cells) := by
  refine acall_of (n := 7) (rs := [.cell 2 31]) Try.func32 rfl (by kernel_rfl) rfl rfl rfl ?_; simp only [argsE, Nat.reduceAdd]
  repeat (any_goals (first | (refine aops_cons (fun K' h' => ?_); simp only [go_sem, Nat.reduceLT, Nat.reduceLeDiff, Nat.reduceEqDiff, reduceIte, Nat.reduceAdd, Nat.reduceMul, Nat.reduceSub, Int.reduceLT, Int.reduceLE, Int.reduceToNat, Int.reduceNeg, reduceCtorEq, aopG, beq_self_eq_true]; (try simp (disch := omega) only [wrap_id, getD_map_in, Int.toNat_natCast, aopG, beq_self_eq_true]); (repeat (refine And.intro (by (first | omega | (simp; done) | (simp; omega) | assumption)) ?_)); refine h' _ ?_; clear h' K') | (refine aops_nil (hK _ ?_); clear hK K gs; try simp only [aThen, aBlock]) | (refine AWp.sreg  dd32 rfl (fun gs K hgs hK => ?_); clear hgs) | refine AWp.seq ?_ | refine ARounds.step ?_ | refine AWp.block ?_ | refine AWp.label ?_ | (refine AWp.ret ?_; try simp only [aThen, aBlock]) | (refine AWp.skip ?_; try simp only [aThen, aBlock]) | (refine AWp.exit ?_; try simp only [aThen, aBlock, Nat.reduceEqDiff, reduceIte]) | (refine AWp.reg  dd32 rfl (fun gs K hgs hK => ?_); clear hgs) | (refine AWp.cond rfl (fun h => ?_) (fun h => ?_) <;> (try simp only [decide_eq_true_eq, decide_eq_false_iff_not, beq_iff_eq, bne_iff_ne, ne_eq, Bool.not_eq_true', Bool.not_eq_false', beq_eq_false_iff_ne, Bool.true_eq_false, Bool.false_eq_true, Int.not_le, Int.not_lt, Bool.and_eq_true, Bool.and_eq_false_iff, Bool.or_eq_true, Bool.or_eq_false_iff, bne_eq_false_iff_eq, reduceCtorEq] at h) <;> (try first | contradiction | (exfalso; omega) | (exfalso; revert h; simp; done) | (exfalso; revert h; simp; omega)))))
  simp only [Out, outA, outL, resA, go_sem, Nat.reduceLT, Nat.reduceLeDiff, Nat.reduceEqDiff, reduceIte, Nat.reduceAdd, Nat.reduceMul, Nat.reduceSub, Int.reduceLT, Int.reduceLE, Int.reduceToNat, Int.reduceNeg, reduceCtorEq]
  exact AVle.agg ⟨AVle.refl _, AVle.refl _, AVle.refl _, AVle.refl _, AVle.refl _, AVle.nil 11, AVle.nil 5, AVle.nil 5, AVle.nil 3, trivial⟩
def dd36 : Nat → List (List Nat)
  | 0 => [[], [0], [8]]
  | 1 => [[], [4], [1], [2], [12, 13, 14], [15], [], [11], [16], [17]]
  | 2 => [[], [10], [18], [19], [9], [3], [21, 22], [20, 23], [24]]
  | _ => []
theorem ableL_c (t : Tsk) (ins outs : List Que) (want : Bool) (hok : t.ok) (hi : ins.length ≤ maxLen) (ho : outs.length ≤ maxLen) :
    ACall Try.prog 36 [.agg t.cells, quesV ins, quesV outs, .lit (.bool want)] (.lit (.bool (enaE t ins outs == 0 && enaB t ins outs == want))) := by
  have hEn := ena_c t ins outs hok hi ho
  generalize enaE t ins outs = e at *
  generalize enaB t ins outs = b at *
  clear hok
  obtain ⟨kd, n, tn, pe, mk, st, ev, rw_, lt⟩ := t
  rw [show (Tsk.mk kd n tn pe mk st ev rw_ lt).cells = [.lit (.int .u8 kd), .lit (.int .i64 n), .lit (.int .i64 tn), .ro 11 (pe.map Snd.cells), .ro 1 (mk.map intC), .ro 11 (st.map Ent.cells), .ro 5 (ev.map Ev.cells), .ro 5 (rw_.map RowT.cells), .ro 3 (lt.map Rcd.cells)] from rfl] at *
  unfold quesV at *
  refine acall_of (n := 25) (rs := [.tmp 8]) Try.func36 rfl (by kernel_rfl) rfl rfl rfl ?_; simp only [argsE, Nat.reduceAdd]
  repeat (any_goals (first | (refine aops_cons (fun K' h' => ?_); simp only [go_sem, Nat.reduceLT, Nat.reduceLeDiff, Nat.reduceEqDiff, reduceIte, Nat.reduceAdd, Nat.reduceMul, Nat.reduceSub, Int.reduceLT, Int.reduceLE, Int.reduceToNat, Int.reduceNeg, reduceCtorEq, hgs, aopG, beq_self_eq_true]; (try ((first | refine ⟨_, hEn, ?_⟩ | refine ⟨_, fun _ => hEn, ?_⟩); (try simp only [go_sem, Nat.reduceLT, Nat.reduceLeDiff, Nat.reduceEqDiff, reduceIte, Nat.reduceAdd, Nat.reduceMul, Nat.reduceSub, Int.reduceLT, Int.reduceLE, Int.reduceToNat, Int.reduceNeg, reduceCtorEq, hgs, aopG, beq_self_eq_true]))); (try simp (disch := omega) only [wrap_id, getD_map_in, Int.toNat_natCast, aopG, beq_self_eq_true]); (repeat (refine And.intro (by (first | omega | (simp; done) | (simp; omega) | assumption)) ?_)); refine h' _ ?_; clear h' K') | (refine aops_nil (hK _ ?_); clear hK K hgs gs; try simp only [aThen, aBlock]) | ((first | refine AWp.sreg (id := 2) dd36 rfl (fun gs K hgs hK => ?_) | refine AWp.reg (id := 2) dd36 rfl (fun gs K hgs hK => ?_)); replace hgs : gs 2 = some 20 := hgs 2) | (refine AWp.sreg  dd36 rfl (fun gs K hgs hK => ?_); replace hgs : Nat.succ 0 = 1 := rfl) | refine AWp.seq ?_ | refine ARounds.step ?_ | refine AWp.block ?_ | refine AWp.label ?_ | (refine AWp.ret ?_; try simp only [aThen, aBlock]) | (refine AWp.skip ?_; try simp only [aThen, aBlock]) | (refine AWp.exit ?_; try simp only [aThen, aBlock, Nat.reduceEqDiff, reduceIte]) | (refine AWp.reg  dd36 rfl (fun gs K hgs hK => ?_); replace hgs : Nat.succ 0 = 1 := rfl) | (refine aops_consG (fun K' h' => ?_); simp only [go_sem, Nat.reduceLT, Nat.reduceLeDiff, Nat.reduceEqDiff, reduceIte, Nat.reduceAdd, Nat.reduceMul, Nat.reduceSub, Int.reduceLT, Int.reduceLE, Int.reduceToNat, Int.reduceNeg, reduceCtorEq, hgs, aopG, beq_self_eq_true]; (try simp (disch := omega) only [wrap_id, getD_map_in, Int.toNat_natCast, aopG, beq_self_eq_true]); (repeat (refine And.intro (by (first | omega | (simp; done) | (simp; omega) | assumption)) ?_)); refine h' _ ?_; clear h' K') | (refine AWp.cond rfl (fun h => ?_) (fun h => ?_) <;> (try simp only [decide_eq_true_eq, decide_eq_false_iff_not, beq_iff_eq, bne_iff_ne, ne_eq, Bool.not_eq_true', Bool.not_eq_false', beq_eq_false_iff_ne, Bool.true_eq_false, Bool.false_eq_true, Int.not_le, Int.not_lt, Bool.and_eq_true, Bool.and_eq_false_iff, Bool.or_eq_true, Bool.or_eq_false_iff, bne_eq_false_iff_eq, reduceCtorEq] at h) <;> (try first | contradiction | (exfalso; omega) | (exfalso; revert h; simp; done) | (exfalso; revert h; simp; omega)))))
  simp only [Out, outA, outL, resA, go_sem, Nat.reduceLT, Nat.reduceLeDiff, Nat.reduceEqDiff, reduceIte, Nat.reduceAdd, Nat.reduceMul, Nat.reduceSub, Int.reduceLT, Int.reduceLE, Int.reduceToNat, Int.reduceNeg, reduceCtorEq]
  exact AVle.of_eq (by cases h : (e == 0) <;> simp_all)

def mk27 (t : Int) : Msg := ⟨2, 0, 0, 0, t, 0, 0, 0, 0, 0⟩
theorem filT_ok (l : List Snd) (h : l.length ≤ maxLen) : (filT l).ok := ⟨h, by simp [filT, maxLen], by simp [filT], by simp [filT], by simp [filT], by simp [filT]⟩
def dd10 : Nat → List (List Nat)
  | 0 => [[], [0]]
  | 1 => [[], [], [], [4, 5], [6], [7], [8]]
  | 2 => [[], [], [], [9, 10], [11], [12], [], [14], [15], [16], [13], [17]]
  | 3 => [[], [], [], [], [18, 19, 20], [21], [], [23], [24], [25], [], [2], [26, 27, 28], [22, 29], [30], [], [32], [33], [34], [1], [3], [35, 36, 37], [31, 38], [39]]
  | _ => []
theorem alive27_c : ACall Try.prog 10 [] (.lit (.bool true)) := by
  have hQa := queueL_c [mk27 1, mk27 2]
  have hQb := queueL_c [mk27 3, mk27 4]
  have hQc := queueL_c [mk27 3]
  have hF0 : ACall Try.prog 32 [.lit (.slice none 0 0)] (.agg (filT []).cells) := (filterL_c []).mono ⟨AVle.nil 11, trivial⟩ (AVle.refl _)
  have hF1 := filterL_c [⟨0, mk27 5⟩]
  have hA1 := ableL_c (filT []) [⟨2, [mk27 1, mk27 2]⟩] [⟨2, [mk27 3, mk27 4]⟩] true (filT_ok _ (by simp [maxLen])) (by simp [maxLen]) (by simp [maxLen])
  have hA2 := ableL_c (filT [⟨0, mk27 5⟩]) [⟨2, [mk27 1, mk27 2]⟩] [⟨2, [mk27 3, mk27 4]⟩] false (filT_ok _ (by simp [maxLen])) (by simp [maxLen]) (by simp [maxLen])
  have hA3 := ableL_c (filT [⟨0, mk27 5⟩]) [⟨2, [mk27 1, mk27 2]⟩] [⟨2, [mk27 3]⟩] true (filT_ok _ (by simp [maxLen])) (by simp [maxLen]) (by simp [maxLen])
  rw [show (enaE (filT []) [⟨2, [mk27 1, mk27 2]⟩] [⟨2, [mk27 3, mk27 4]⟩] == 0 && enaB (filT []) [⟨2, [mk27 1, mk27 2]⟩] [⟨2, [mk27 3, mk27 4]⟩] == true) = true by decide] at hA1
  rw [show (enaE (filT [⟨0, mk27 5⟩]) [⟨2, [mk27 1, mk27 2]⟩] [⟨2, [mk27 3, mk27 4]⟩] == 0 && enaB (filT [⟨0, mk27 5⟩]) [⟨2, [mk27 1, mk27 2]⟩] [⟨2, [mk27 3, mk27 4]⟩] == false) = true by decide] at hA2
  rw [show (enaE (filT [⟨0, mk27 5⟩]) [⟨2, [mk27 1, mk27 2]⟩] [⟨2, [mk27 3]⟩] == 0 && enaB (filT [⟨0, mk27 5⟩]) [⟨2, [mk27 1, mk27 2]⟩] [⟨2, [mk27 3]⟩] == true) = true by decide] at hA3
  simp only [filT, mk27, Tsk.cells, sndsV, mksV, entsV, evsV, rowsV, rcdsV, quesV, Que.cells, Snd.cells, Msg.cells, intC, List.map_cons, List.map_nil] at hQa hQb hQc hF0 hF1 hA1 hA2 hA3
  refine acall_of (n := 40) (rs := [.tmp 0]) Try.func10 rfl (by kernel_rfl) rfl rfl rfl ?_; simp only [argsE, Nat.reduceAdd]
  repeat (any_goals (first | (refine aops_cons (fun K' h' => ?_); simp only [go_sem, Nat.reduceLT, Nat.reduceLeDiff, Nat.reduceEqDiff, reduceIte, Nat.reduceAdd, Nat.reduceMul, Nat.reduceSub, Int.reduceLT, Int.reduceLE, Int.reduceToNat, Int.reduceNeg, reduceCtorEq, hgs, aopG, beq_self_eq_true]; (try ((first | refine ⟨_, mark27_c _, ?_⟩ | refine ⟨_, fun _ => mark27_c _, ?_⟩ | refine ⟨_, hF0, ?_⟩ | refine ⟨_, fun _ => hF0, ?_⟩ | refine ⟨_, hA1, ?_⟩ | refine ⟨_, fun _ => hA1, ?_⟩ | refine ⟨_, hA2, ?_⟩ | refine ⟨_, fun _ => hA2, ?_⟩ | refine ⟨_, hA3, ?_⟩ | refine ⟨_, fun _ => hA3, ?_⟩); (try simp only [go_sem, Nat.reduceLT, Nat.reduceLeDiff, Nat.reduceEqDiff, reduceIte, Nat.reduceAdd, Nat.reduceMul, Nat.reduceSub, Int.reduceLT, Int.reduceLE, Int.reduceToNat, Int.reduceNeg, reduceCtorEq, hgs, aopG, beq_self_eq_true]))); (try simp (disch := omega) only [wrap_id, getD_map_in, Int.toNat_natCast, aopG, beq_self_eq_true]); (repeat (refine And.intro (by (first | omega | (simp; done) | (simp; omega) | assumption)) ?_)); refine h' _ ?_; clear h' K') | (refine aops_nil (hK _ ?_); clear hK K hgs gs; try simp only [aThen, aBlock]) | (refine aops_consF [] (fun K' h' => ?_); simp only [go_sem, Nat.reduceLT, Nat.reduceLeDiff, Nat.reduceEqDiff, reduceIte, Nat.reduceAdd, Nat.reduceMul, Nat.reduceSub, Int.reduceLT, Int.reduceLE, Int.reduceToNat, Int.reduceNeg, reduceCtorEq, hgs, aopG, beq_self_eq_true]; refine ⟨_, hQa, ?_⟩; (try simp only [go_sem, Nat.reduceLT, Nat.reduceLeDiff, Nat.reduceEqDiff, reduceIte, Nat.reduceAdd, Nat.reduceMul, Nat.reduceSub, Int.reduceLT, Int.reduceLE, Int.reduceToNat, Int.reduceNeg, reduceCtorEq, hgs, aopG, beq_self_eq_true]); (repeat (refine And.intro (by (first | omega | (simp; done) | (simp; omega) | assumption)) ?_)); refine h' _ ?_; clear h' K') | (refine aops_consF [] (fun K' h' => ?_); simp only [go_sem, Nat.reduceLT, Nat.reduceLeDiff, Nat.reduceEqDiff, reduceIte, Nat.reduceAdd, Nat.reduceMul, Nat.reduceSub, Int.reduceLT, Int.reduceLE, Int.reduceToNat, Int.reduceNeg, reduceCtorEq, hgs, aopG, beq_self_eq_true]; refine ⟨_, hQb, ?_⟩; (try simp only [go_sem, Nat.reduceLT, Nat.reduceLeDiff, Nat.reduceEqDiff, reduceIte, Nat.reduceAdd, Nat.reduceMul, Nat.reduceSub, Int.reduceLT, Int.reduceLE, Int.reduceToNat, Int.reduceNeg, reduceCtorEq, hgs, aopG, beq_self_eq_true]); (repeat (refine And.intro (by (first | omega | (simp; done) | (simp; omega) | assumption)) ?_)); refine h' _ ?_; clear h' K') | (refine aops_consF [] (fun K' h' => ?_); simp only [go_sem, Nat.reduceLT, Nat.reduceLeDiff, Nat.reduceEqDiff, reduceIte, Nat.reduceAdd, Nat.reduceMul, Nat.reduceSub, Int.reduceLT, Int.reduceLE, Int.reduceToNat, Int.reduceNeg, reduceCtorEq, hgs, aopG, beq_self_eq_true]; refine ⟨_, hQc, ?_⟩; (try simp only [go_sem, Nat.reduceLT, Nat.reduceLeDiff, Nat.reduceEqDiff, reduceIte, Nat.reduceAdd, Nat.reduceMul, Nat.reduceSub, Int.reduceLT, Int.reduceLE, Int.reduceToNat, Int.reduceNeg, reduceCtorEq, hgs, aopG, beq_self_eq_true]); (repeat (refine And.intro (by (first | omega | (simp; done) | (simp; omega) | assumption)) ?_)); refine h' _ ?_; clear h' K') | (refine aops_consF [] (fun K' h' => ?_); simp only [go_sem, Nat.reduceLT, Nat.reduceLeDiff, Nat.reduceEqDiff, reduceIte, Nat.reduceAdd, Nat.reduceMul, Nat.reduceSub, Int.reduceLT, Int.reduceLE, Int.reduceToNat, Int.reduceNeg, reduceCtorEq, hgs, aopG, beq_self_eq_true]; refine ⟨_, hF1, ?_⟩; (try simp only [go_sem, Nat.reduceLT, Nat.reduceLeDiff, Nat.reduceEqDiff, reduceIte, Nat.reduceAdd, Nat.reduceMul, Nat.reduceSub, Int.reduceLT, Int.reduceLE, Int.reduceToNat, Int.reduceNeg, reduceCtorEq, hgs, aopG, beq_self_eq_true]); (repeat (refine And.intro (by (first | omega | (simp; done) | (simp; omega) | assumption)) ?_)); refine h' _ ?_; clear h' K') | ((first | refine AWp.sreg (id := 3) dd10 rfl (fun gs K hgs hK => ?_) | refine AWp.reg (id := 3) dd10 rfl (fun gs K hgs hK => ?_)); replace hgs : gs 4 = some 22 ∧ gs 13 = some 31 := ⟨hgs 4, hgs 13⟩) | (refine AWp.sreg  dd10 rfl (fun gs K hgs hK => ?_); replace hgs : Nat.succ 0 = 1 := rfl) | refine AWp.seq ?_ | refine ARounds.step ?_ | refine AWp.block ?_ | refine AWp.label ?_ | (refine AWp.ret ?_; try simp only [aThen, aBlock]) | (refine AWp.skip ?_; try simp only [aThen, aBlock]) | (refine AWp.exit ?_; try simp only [aThen, aBlock, Nat.reduceEqDiff, reduceIte]) | (refine AWp.reg  dd10 rfl (fun gs K hgs hK => ?_); replace hgs : Nat.succ 0 = 1 := rfl) | (refine aops_consG (fun K' h' => ?_); simp only [go_sem, Nat.reduceLT, Nat.reduceLeDiff, Nat.reduceEqDiff, reduceIte, Nat.reduceAdd, Nat.reduceMul, Nat.reduceSub, Int.reduceLT, Int.reduceLE, Int.reduceToNat, Int.reduceNeg, reduceCtorEq, hgs, aopG, beq_self_eq_true]; (try simp (disch := omega) only [wrap_id, getD_map_in, Int.toNat_natCast, aopG, beq_self_eq_true]); (repeat (refine And.intro (by (first | omega | (simp; done) | (simp; omega) | assumption)) ?_)); refine h' _ ?_; clear h' K') | (refine AWp.cond rfl (fun h => ?_) (fun h => ?_) <;> (try simp only [decide_eq_true_eq, decide_eq_false_iff_not, beq_iff_eq, bne_iff_ne, ne_eq, Bool.not_eq_true', Bool.not_eq_false', beq_eq_false_iff_ne, Bool.true_eq_false, Bool.false_eq_true, Int.not_le, Int.not_lt, Bool.and_eq_true, Bool.and_eq_false_iff, Bool.or_eq_true, Bool.or_eq_false_iff, bne_eq_false_iff_eq, reduceCtorEq] at h) <;> (try first | contradiction | (exfalso; omega) | (exfalso; revert h; simp; done) | (exfalso; revert h; simp; omega)))))
  all_goals simp only [Out, outA, outL, resA, go_sem, Nat.reduceLT, Nat.reduceLeDiff, Nat.reduceEqDiff, reduceIte, Nat.reduceAdd, Nat.reduceMul, Nat.reduceSub, Int.reduceLT, Int.reduceLE, Int.reduceToNat, Int.reduceNeg, reduceCtorEq]
  all_goals exact AVle.refl _
end Go.Proofs.Ytlpmgkillalhbaa
