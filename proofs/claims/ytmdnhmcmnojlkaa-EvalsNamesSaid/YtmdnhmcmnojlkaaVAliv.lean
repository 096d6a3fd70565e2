/-
  The chapter's examples of values.
-/
import Derived.Test.YtmdnhmcmnojlkaaEvalW
import Derived.Test.YtmdnhmcmnojlkaaMadeR
namespace Go.Proofs.Ytmdnhmcmnojlkaa
open Go.AL Go.RowKit
set_option linter.unusedSimpArgs false
set_option linter.unusedVariables false
set_option maxRecDepth 10000
set_option maxHeartbeats 4000000

def dd16 : Nat → List (List Nat)
  | 0 => [[], [4]]
  | 1 => [[], [0], [1], [5, 6], [7], [8]]
  | _ => []
theorem leaf_c (k n : Int) : ACall Try.prog 16 [.lit (.int .u8 k), .lit (.int .i64 n)] (.ro 5 [[.lit (.int .u8 k), .lit (.int .i64 n), .lit (.int .i64 0), .lit (.int .i64 0), .lit (.int .i64 0)]]) := by
  refine acall_of (n := 9) (rs := [.tmp 4]) Try.func16 rfl (by kernel_rfl) rfl rfl rfl ?_; simp only [argsE, Nat.reduceAdd]
  repeat (any_goals (first | (refine aops_cons (fun K' h' => ?_); simp only [go_sem, Nat.reduceLT, Nat.reduceLeDiff, Nat.reduceEqDiff, reduceIte, Nat.reduceAdd, Nat.reduceMul, Nat.reduceSub, Int.reduceLT, Int.reduceLE, Int.reduceToNat, Int.reduceNeg, reduceCtorEq, Node.cells, aopG, beq_self_eq_true, Option.toArray_none, Option.toArray_some, List.toList_toArray]; (try simp (disch := omega) only [wrap_id, getD_map_in, Int.toNat_natCast, Node.cells, aopG, beq_self_eq_true, Option.toArray_none, Option.toArray_some, List.toList_toArray]); (repeat (refine And.intro (by (first | omega | (simp; done) | (simp; omega) | assumption)) ?_)); refine h' _ ?_; clear h' K') | (refine aops_nil (hK _ ?_); clear hK K gs; try simp only [aThen, aBlock]) | (refine AWp.sreg  dd16 rfl (fun gs K hgs hK => ?_); clear hgs) | refine AWp.seq ?_ | refine ARounds.step ?_ | refine AWp.block ?_ | refine AWp.label ?_ | (refine AWp.ret ?_; try simp only [aThen, aBlock]) | (refine AWp.skip ?_; try simp only [aThen, aBlock]) | (refine AWp.exit ?_; try simp only [aThen, aBlock, Nat.reduceEqDiff, reduceIte]) | (refine AWp.reg  dd16 rfl (fun gs K hgs hK => ?_); clear hgs) | (refine AWp.cond rfl (fun h => ?_) (fun h => ?_) <;> (try simp only [decide_eq_true_eq, decide_eq_false_iff_not, beq_iff_eq, bne_iff_ne, ne_eq, Bool.not_eq_true', Bool.not_eq_false', beq_eq_false_iff_ne, Bool.true_eq_false, Bool.false_eq_true, Int.not_le, Int.not_lt, Bool.and_eq_true, Bool.and_eq_false_iff, Bool.or_eq_true, Bool.or_eq_false_iff, bne_eq_false_iff_eq, reduceCtorEq] at h) <;> (try first | contradiction | (exfalso; omega) | (exfalso; revert h; simp; done) | (exfalso; revert h; simp; omega)))))
  simp only [Out, outA, outL, resA, go_sem, Nat.reduceLT, Nat.reduceLeDiff, Nat.reduceEqDiff, reduceIte, Nat.reduceAdd, Nat.reduceMul, Nat.reduceSub, Int.reduceLT, Int.reduceLE, Int.reduceToNat, Int.reduceNeg, reduceCtorEq]
  exact AVle.refl _

def dd15 : Nat → List (List Nat)
  | 0 => [[], [6]]
  | 1 => [[], [0], [1], [2], [8, 9], [7, 10], [11]]
  | _ => []
theorem two_c (k : Int) (a b : List Node) (hla : a.length ≤ 100) (hla0 : 0 < a.length) (ha : NodeB a) (hlb : b.length ≤ 100) (hlb0 : 0 < b.length) (hb : NodeB b) :
    ACall Try.prog 15 [.lit (.int .u8 k), nodesV a, nodesV b] (nodesV (made2 k 0 0 a b)) := by
  have hM := rMade_2 k 0 0 a b hla hla0 ha hlb hlb0 hb
  generalize made2 k 0 0 a b = m at *
  unfold nodesV at *
  refine acall_of (n := 12) (rs := [.tmp 6]) Try.func15 rfl (by kernel_rfl) rfl rfl rfl ?_; simp only [argsE, Nat.reduceAdd]
  repeat (any_goals (first | (refine aops_cons (fun K' h' => ?_); simp only [go_sem, Nat.reduceLT, Nat.reduceLeDiff, Nat.reduceEqDiff, reduceIte, Nat.reduceAdd, Nat.reduceMul, Nat.reduceSub, Int.reduceLT, Int.reduceLE, Int.reduceToNat, Int.reduceNeg, reduceCtorEq, Node.cells, aopG, beq_self_eq_true, Option.toArray_none, Option.toArray_some, List.toList_toArray]; (try simp (disch := omega) only [wrap_id, getD_map_in, Int.toNat_natCast, Node.cells, aopG, beq_self_eq_true, Option.toArray_none, Option.toArray_some, List.toList_toArray]); (repeat (refine And.intro (by (first | omega | (simp; done) | (simp; omega) | assumption)) ?_)); refine h' _ ?_; clear h' K') | (refine aops_nil (hK _ ?_); clear hK K gs; try simp only [aThen, aBlock]) | ((first | refine aops_cons (fun K' h' => ?_) | refine aopsD_cons (fun K' h' => ?_)); simp only [go_sem, Nat.reduceLT, Nat.reduceLeDiff, Nat.reduceEqDiff, reduceIte, Nat.reduceAdd, Nat.reduceMul, Nat.reduceSub, Int.reduceLT, Int.reduceLE, Int.reduceToNat, Int.reduceNeg, reduceCtorEq, Node.cells, aopG, beq_self_eq_true, Option.toArray_none, Option.toArray_some, List.toList_toArray]; (first | refine ⟨_, hM, ?_⟩ | refine ⟨_, fun _ => hM, ?_⟩); (try simp only [go_sem, Nat.reduceLT, Nat.reduceLeDiff, Nat.reduceEqDiff, reduceIte, Nat.reduceAdd, Nat.reduceMul, Nat.reduceSub, Int.reduceLT, Int.reduceLE, Int.reduceToNat, Int.reduceNeg, reduceCtorEq, Node.cells, aopG, beq_self_eq_true, Option.toArray_none, Option.toArray_some, List.toList_toArray]); (repeat (refine And.intro (by (first | omega | (simp; done) | (simp; omega) | assumption)) ?_)); refine h' _ ?_; clear h' K') | (refine aops_consF [] (fun K' h' => ?_); simp only [go_sem, Nat.reduceLT, Nat.reduceLeDiff, Nat.reduceEqDiff, reduceIte, Nat.reduceAdd, Nat.reduceMul, Nat.reduceSub, Int.reduceLT, Int.reduceLE, Int.reduceToNat, Int.reduceNeg, reduceCtorEq, Node.cells, aopG, beq_self_eq_true, Option.toArray_none, Option.toArray_some, List.toList_toArray]; refine ⟨_, hM, ?_⟩; (try simp only [go_sem, Nat.reduceLT, Nat.reduceLeDiff, Nat.reduceEqDiff, reduceIte, Nat.reduceAdd, Nat.reduceMul, Nat.reduceSub, Int.reduceLT, Int.reduceLE, Int.reduceToNat, Int.reduceNeg, reduceCtorEq, Node.cells, aopG, beq_self_eq_true, Option.toArray_none, Option.toArray_some, List.toList_toArray]); (repeat (refine And.intro (by (first | omega | (simp; done) | (simp; omega) | assumption)) ?_)); refine h' _ ?_; clear h' K') | (refine AWp.sreg  dd15 rfl (fun gs K hgs hK => ?_); clear hgs) | refine AWp.seq ?_ | refine ARounds.step ?_ | refine AWp.block ?_ | refine AWp.label ?_ | (refine AWp.ret ?_; try simp only [aThen, aBlock]) | (refine AWp.skip ?_; try simp only [aThen, aBlock]) | (refine AWp.exit ?_; try simp only [aThen, aBlock, Nat.reduceEqDiff, reduceIte]) | (refine AWp.reg  dd15 rfl (fun gs K hgs hK => ?_); clear hgs) | (refine AWp.cond rfl (fun h => ?_) (fun h => ?_) <;> (try simp only [decide_eq_true_eq, decide_eq_false_iff_not, beq_iff_eq, bne_iff_ne, ne_eq, Bool.not_eq_true', Bool.not_eq_false', beq_eq_false_iff_ne, Bool.true_eq_false, Bool.false_eq_true, Int.not_le, Int.not_lt, Bool.and_eq_true, Bool.and_eq_false_iff, Bool.or_eq_true, Bool.or_eq_false_iff, bne_eq_false_iff_eq, reduceCtorEq] at h) <;> (try first | contradiction | (exfalso; omega) | (exfalso; revert h; simp; done) | (exfalso; revert h; simp; omega)))))
  simp only [Out, outA, outL, resA, go_sem, Nat.reduceLT, Nat.reduceLeDiff, Nat.reduceEqDiff, reduceIte, Nat.reduceAdd, Nat.reduceMul, Nat.reduceSub, Int.reduceLT, Int.reduceLE, Int.reduceToNat, Int.reduceNeg, reduceCtorEq]
  exact AVle.refl _

def exR : Rcd := ⟨3, 10, -4⟩
theorem exR_B : exR.B := ⟨⟨by decide, by decide⟩, ⟨by decide, by decide⟩, ⟨by decide, by decide⟩⟩
def dd18 : Nat → List (List Nat)
  | 0 => [[], [4]]
  | 1 => [[], [0], [], [8, 9], [10], [], [7], [11], [12]]
  | 2 => [[], [6], [13], [14], [5], [1], [16, 17], [15, 18], [19]]
  | _ => []
theorem is_c (l : List Node) (w : Int) (hl : l.length ≤ 1000) (hn : nodesB l) : ACall Try.prog 18 [nodesV l, .lit (.int .i64 w)] (.lit (.bool (decide (ofE l = 0) && (ofV exR l == w)))) := by
  have hO := eOf_c l exR hl exR_B hn
  rw [show exR.cells = [.lit (.int .i64 3), .lit (.int .i64 10), .lit (.int .i64 (-4))] from rfl] at hO
  generalize ofV exR l = v at *
  generalize ofE l = e at *
  unfold nodesV at *
  refine acall_of (n := 20) (rs := [.tmp 4]) Try.func18 rfl (by kernel_rfl) rfl rfl rfl ?_; simp only [argsE, Nat.reduceAdd]
  repeat (any_goals (first | (refine aops_cons (fun K' h' => ?_); simp only [go_sem, Nat.reduceLT, Nat.reduceLeDiff, Nat.reduceEqDiff, reduceIte, Nat.reduceAdd, Nat.reduceMul, Nat.reduceSub, Int.reduceLT, Int.reduceLE, Int.reduceToNat, Int.reduceNeg, reduceCtorEq, hgs, Node.cells, aopG, beq_self_eq_true, Option.toArray_none, Option.toArray_some, List.toList_toArray]; (try simp (disch := omega) only [wrap_id, getD_map_in, Int.toNat_natCast, Node.cells, aopG, beq_self_eq_true, Option.toArray_none, Option.toArray_some, List.toList_toArray]); (repeat (refine And.intro (by (first | omega | (simp; done) | (simp; omega) | assumption)) ?_)); refine h' _ ?_; clear h' K') | (refine aops_nil (hK _ ?_); clear hK K hgs gs; try simp only [aThen, aBlock]) | ((first | refine aops_cons (fun K' h' => ?_) | refine aopsD_cons (fun K' h' => ?_)); simp only [go_sem, Nat.reduceLT, Nat.reduceLeDiff, Nat.reduceEqDiff, reduceIte, Nat.reduceAdd, Nat.reduceMul, Nat.reduceSub, Int.reduceLT, Int.reduceLE, Int.reduceToNat, Int.reduceNeg, reduceCtorEq, hgs, Node.cells, aopG, beq_self_eq_true, Option.toArray_none, Option.toArray_some, List.toList_toArray]; (first | refine ⟨_, hO, ?_⟩ | refine ⟨_, fun _ => hO, ?_⟩); (try simp only [go_sem, Nat.reduceLT, Nat.reduceLeDiff, Nat.reduceEqDiff, reduceIte, Nat.reduceAdd, Nat.reduceMul, Nat.reduceSub, Int.reduceLT, Int.reduceLE, Int.reduceToNat, Int.reduceNeg, reduceCtorEq, hgs, Node.cells, aopG, beq_self_eq_true, Option.toArray_none, Option.toArray_some, List.toList_toArray]); (repeat (refine And.intro (by (first | omega | (simp; done) | (simp; omega) | assumption)) ?_)); refine h' _ ?_; clear h' K') | (refine AWp.sreg (id := 2) dd18 rfl (fun gs K hgs hK => ?_); replace hgs : gs 2 = some 15 := hgs 2) | (refine AWp.reg (id := 2) dd18 rfl (fun gs K hgs hK => ?_); replace hgs : gs 2 = some 15 := hgs 2) | (refine AWp.sreg  dd18 rfl (fun gs K hgs hK => ?_); replace hgs : Nat.succ 0 = 1 := rfl) | refine AWp.seq ?_ | refine ARounds.step ?_ | refine AWp.block ?_ | refine AWp.label ?_ | (refine AWp.ret ?_; try simp only [aThen, aBlock]) | (refine AWp.skip ?_; try simp only [aThen, aBlock]) | (refine AWp.exit ?_; try simp only [aThen, aBlock, Nat.reduceEqDiff, reduceIte]) | (refine AWp.reg  dd18 rfl (fun gs K hgs hK => ?_); replace hgs : Nat.succ 0 = 1 := rfl) | (refine AWp.cond rfl (fun h => ?_) (fun h => ?_) <;> (try simp only [decide_eq_true_eq, decide_eq_false_iff_not, beq_iff_eq, bne_iff_ne, ne_eq, Bool.not_eq_true', Bool.not_eq_false', beq_eq_false_iff_ne, Bool.true_eq_false, Bool.false_eq_true, Int.not_le, Int.not_lt, Bool.and_eq_true, Bool.and_eq_false_iff, Bool.or_eq_true, Bool.or_eq_false_iff, bne_eq_false_iff_eq, reduceCtorEq] at h) <;> (try first | contradiction | (exfalso; omega) | (exfalso; revert h; simp; done) | (exfalso; revert h; simp; omega)))))
  all_goals simp only [Out, outA, outL, resA, go_sem, Nat.reduceLT, Nat.reduceLeDiff, Nat.reduceEqDiff, reduceIte, Nat.reduceAdd, Nat.reduceMul, Nat.reduceSub, Int.reduceLT, Int.reduceLE, Int.reduceToNat, Int.reduceNeg, reduceCtorEq]
  all_goals refine AVle.of_eq (congrArg (fun b => AV.lit (.bool b)) ?_)
  all_goals simp [Bool.beq_eq_decide_eq]

theorem ofE_of {l : List Node} {e : Ex} (hx : IsEx l e) (h1 : e.sz ≤ 60) (h2 : e.dp ≤ 20) (hw : wrongL l = l.length) : ofE l = 0 := by
  unfold ofE
  rw [errL_of hx h1 h2, hw]
  simp
def nd (k n a b : Int) : Node := ⟨k, n, a, b, 0⟩
def lf (k n : Int) : Ex := .leaf ⟨k, n, 0⟩
def bi (k : Int) (e f : Ex) : Ex := .bin ⟨k, 0, 0⟩ e f
def l1 : List Node := [nd 4 0 0 0, nd 1 0 0 0, nd 12 0 0 1]
def l2 : List Node := [nd 1 2 0 0, nd 2 0 0 0, nd 7 0 0 1]
def l3 : List Node := [nd 4 0 0 0, nd 1 2 0 0, nd 2 0 0 0, nd 7 0 1 2, nd 8 0 0 3]
def l4 : List Node := [nd 3 0 0 0, nd 1 1 0 0, nd 11 0 0 1]
def l5 : List Node := [nd 4 0 0 0, nd 2 0 0 0, nd 12 0 0 1]
def l6 : List Node := [nd 4 0 0 0, nd 1 0 0 0, nd 12 0 0 1, nd 6 0 2 0]
def okHd (x : Hd) : Bool := decide (1 ≤ x.kind) && decide (x.kind ≤ 19) && decide (0 ≤ x.n) && (x.n == 0 || x.kind == 1) && decide (0 ≤ x.pos) && decide (x.pos ≤ 400)
theorem okHd_ok {x : Hd} (h : okHd x = true) : x.ok := by
  unfold okHd at h
  simp only [Bool.and_eq_true, Bool.or_eq_true, decide_eq_true_eq, beq_iff_eq] at h
  obtain ⟨⟨⟨⟨⟨h1, h2⟩, h3⟩, h4⟩, h5⟩, h6⟩ := h
  exact ⟨h1, h2, h3, h4, h5, h6⟩
def okEx : Ex → Bool
  | .leaf x => okHd x && decide (x.kind ≤ 4)
  | .un x e => okHd x && decide (4 < x.kind) && decide (x.kind ≤ 6) && okEx e
  | .bin x e f => okHd x && decide (6 < x.kind) && okEx e && okEx f
theorem okEx_wf : ∀ {e : Ex}, okEx e = true → e.wf
  | .leaf x, h => by
    simp only [okEx, Bool.and_eq_true, decide_eq_true_eq] at h
    exact ⟨okHd_ok h.1, h.2⟩
  | .un x e, h => by
    simp only [okEx, Bool.and_eq_true, decide_eq_true_eq] at h
    exact ⟨okHd_ok h.1.1.1, h.1.1.2, h.1.2, okEx_wf h.2⟩
  | .bin x e f, h => by
    simp only [okEx, Bool.and_eq_true, decide_eq_true_eq] at h
    exact ⟨okHd_ok h.1.1.1, h.1.1.2, okEx_wf h.1.2, okEx_wf h.2⟩
/-- a list that is told to be an expression, with its tree -/
theorem exE {l : List Node} (e : Ex) (h : okEx e = true) (hl : l = e.fl 0) (h1 : e.sz ≤ 60) (h2 : e.dp ≤ 20) (hw : wrongL l = l.length) : ofE l = 0 := ofE_of ⟨okEx_wf h, hl⟩ h1 h2 hw
theorem exV {r : Rcd} {l : List Node} (h : ofE l = 0) {v : Int} (hv : valAt r l (l.length - 1) = v) : ofV r l = v := by unfold ofV; rw [if_pos h, hv]
theorem e3 : ofE l3 = 0 := exE (bi 8 (lf 4 0) (bi 7 (lf 1 2) (lf 2 0))) (by decide) (by decide) (by decide) (by decide) (by decide)
theorem e4 : ofE l4 = 0 := exE (bi 11 (lf 3 0) (lf 1 1)) (by decide) (by decide) (by decide) (by decide) (by decide)
theorem e5 : ofE l5 = 0 := exE (bi 12 (lf 4 0) (lf 2 0)) (by decide) (by decide) (by decide) (by decide) (by decide)
theorem e6 : ofE l6 = 0 := exE (.un ⟨6, 0, 0⟩ (bi 12 (lf 4 0) (lf 1 0))) (by decide) (by decide) (by decide) (by decide) (by decide)
theorem isT {l : List Node} {w : Int} (hl : l.length ≤ 1000) (hn : nodesB l) (h : ofE l = 0) (hv : valAt exR l (l.length - 1) = w) : ACall Try.prog 18 [nodesV l, .lit (.int .i64 w)] (.lit (.bool true)) := by
  have := is_c l w hl hn
  rw [exV h hv, h] at this
  simpa using this
theorem small_B {l : List Node} (h : l.all (fun x => decide (-1000 ≤ x.n) && decide (x.n ≤ 1000)) = true) : nodesB l := fun x hx => by
  have := List.all_eq_true.1 h x hx
  simp only [Bool.and_eq_true, decide_eq_true_eq] at this
  unfold i64B
  omega

def dd10 : Nat → List (List Nat)
  | 0 => [[], [0]]
  | 1 => [[], [], [], [3, 4], [5]]
  | 2 => [[], [1], [6], [7], [8]]
  | 3 => [[], [], [], [], [10, 11], [9, 12], [13], [14], [], [], [16, 17], [18], [15, 19], [20], [2], [22], [21, 23], [24], [], [], [26, 27], [28], [25, 29], [30]]
  | _ => []
theorem alive7_c : ACall Try.prog 10 [] (.lit (.bool true)) := by
  have nb : ∀ {l : List Node}, (l.all fun x => decide (-2000 ≤ x.a) && decide (x.a ≤ 2000) && decide (-2000 ≤ x.b) && decide (x.b ≤ 2000) && decide (1 ≤ x.kind) && decide (x.kind ≤ 19)) = true → NodeB l := fun {l} h x hx => by
    have := List.all_eq_true.1 h x hx
    simp only [Bool.and_eq_true, decide_eq_true_eq] at this
    omega
  have hT1 := two_c 12 [nd 4 0 0 0] [nd 1 0 0 0] (by decide) (by decide) (nb (by decide)) (by decide) (by decide) (nb (by decide))
  have hT2 := two_c 7 [nd 1 2 0 0] [nd 2 0 0 0] (by decide) (by decide) (nb (by decide)) (by decide) (by decide) (nb (by decide))
  have hT3 := two_c 8 [nd 4 0 0 0] l2 (by decide) (by decide) (nb (by decide)) (by decide) (by decide) (nb (by decide))
  have hT4 := two_c 11 [nd 3 0 0 0] [nd 1 1 0 0] (by decide) (by decide) (nb (by decide)) (by decide) (by decide) (nb (by decide))
  have hT5 := two_c 12 [nd 4 0 0 0] [nd 2 0 0 0] (by decide) (by decide) (nb (by decide)) (by decide) (by decide) (nb (by decide))
  have hM := rMade_1 6 0 0 l1 (by decide) (by decide) (nb (by decide))
  rw [show made2 12 0 0 [nd 4 0 0 0] [nd 1 0 0 0] = l1 by decide] at hT1
  rw [show made2 7 0 0 [nd 1 2 0 0] [nd 2 0 0 0] = l2 by decide] at hT2
  rw [show made2 8 0 0 [nd 4 0 0 0] l2 = l3 by decide] at hT3
  rw [show made2 11 0 0 [nd 3 0 0 0] [nd 1 1 0 0] = l4 by decide] at hT4
  rw [show made2 12 0 0 [nd 4 0 0 0] [nd 2 0 0 0] = l5 by decide] at hT5
  rw [show made1 6 0 0 l1 = l6 by decide] at hM
  have hI1 := isT (l := l3) (w := 2) (by decide) (small_B (by decide)) e3 (by decide)
  have hI2 := isT (l := l4) (w := 5) (by decide) (small_B (by decide)) e4 (by decide)
  have hI3 := isT (l := l6) (w := 0) (by decide) (small_B (by decide)) e6 (by decide)
  have hI4 := isT (l := l5) (w := 1) (by decide) (small_B (by decide)) e5 (by decide)
  clear nb
  simp only [nodesV, l1, l2, l3, l4, l5, l6, nd, List.map_cons, List.map_nil, Node.cells] at *
  refine acall_of (n := 31) (rs := [.tmp 0]) Try.func10 rfl (by kernel_rfl) rfl rfl rfl ?_; simp only [argsE, Nat.reduceAdd]
  repeat (any_goals (first | (refine aops_cons (fun K' h' => ?_); simp only [go_sem, Nat.reduceLT, Nat.reduceLeDiff, Nat.reduceEqDiff, reduceIte, Nat.reduceAdd, Nat.reduceMul, Nat.reduceSub, Int.reduceLT, Int.reduceLE, Int.reduceToNat, Int.reduceNeg, reduceCtorEq, hgs, Node.cells, aopG, beq_self_eq_true, Option.toArray_none, Option.toArray_some, List.toList_toArray]; (try simp (disch := omega) only [wrap_id, getD_map_in, Int.toNat_natCast, Node.cells, aopG, beq_self_eq_true, Option.toArray_none, Option.toArray_some, List.toList_toArray]); (repeat (refine And.intro (by (first | omega | (simp; done) | (simp; omega) | assumption)) ?_)); refine h' _ ?_; clear h' K') | (refine aops_nil (hK _ ?_); clear hK K hgs gs; try simp only [aThen, aBlock]) | ((first | refine aops_cons (fun K' h' => ?_) | refine aopsD_cons (fun K' h' => ?_)); simp only [go_sem, Nat.reduceLT, Nat.reduceLeDiff, Nat.reduceEqDiff, reduceIte, Nat.reduceAdd, Nat.reduceMul, Nat.reduceSub, Int.reduceLT, Int.reduceLE, Int.reduceToNat, Int.reduceNeg, reduceCtorEq, hgs, Node.cells, aopG, beq_self_eq_true, Option.toArray_none, Option.toArray_some, List.toList_toArray]; (first | refine ⟨_, hM, ?_⟩ | refine ⟨_, fun _ => hM, ?_⟩ | refine ⟨_, leaf_c _ _, ?_⟩ | refine ⟨_, fun _ => leaf_c _ _, ?_⟩ | refine ⟨_, hT1, ?_⟩ | refine ⟨_, fun _ => hT1, ?_⟩ | refine ⟨_, hT2, ?_⟩ | refine ⟨_, fun _ => hT2, ?_⟩ | refine ⟨_, hT3, ?_⟩ | refine ⟨_, fun _ => hT3, ?_⟩ | refine ⟨_, hT4, ?_⟩ | refine ⟨_, fun _ => hT4, ?_⟩ | refine ⟨_, hT5, ?_⟩ | refine ⟨_, fun _ => hT5, ?_⟩ | refine ⟨_, hI1, ?_⟩ | refine ⟨_, fun _ => hI1, ?_⟩ | refine ⟨_, hI2, ?_⟩ | refine ⟨_, fun _ => hI2, ?_⟩ | refine ⟨_, hI3, ?_⟩ | refine ⟨_, fun _ => hI3, ?_⟩ | refine ⟨_, hI4, ?_⟩ | refine ⟨_, fun _ => hI4, ?_⟩); (try simp only [go_sem, Nat.reduceLT, Nat.reduceLeDiff, Nat.reduceEqDiff, reduceIte, Nat.reduceAdd, Nat.reduceMul, Nat.reduceSub, Int.reduceLT, Int.reduceLE, Int.reduceToNat, Int.reduceNeg, reduceCtorEq, hgs, Node.cells, aopG, beq_self_eq_true, Option.toArray_none, Option.toArray_some, List.toList_toArray]); (repeat (refine And.intro (by (first | omega | (simp; done) | (simp; omega) | assumption)) ?_)); refine h' _ ?_; clear h' K') | (refine aops_consF [] (fun K' h' => ?_); simp only [go_sem, Nat.reduceLT, Nat.reduceLeDiff, Nat.reduceEqDiff, reduceIte, Nat.reduceAdd, Nat.reduceMul, Nat.reduceSub, Int.reduceLT, Int.reduceLE, Int.reduceToNat, Int.reduceNeg, reduceCtorEq, hgs, Node.cells, aopG, beq_self_eq_true, Option.toArray_none, Option.toArray_some, List.toList_toArray]; refine ⟨_, hM, ?_⟩; (try simp only [go_sem, Nat.reduceLT, Nat.reduceLeDiff, Nat.reduceEqDiff, reduceIte, Nat.reduceAdd, Nat.reduceMul, Nat.reduceSub, Int.reduceLT, Int.reduceLE, Int.reduceToNat, Int.reduceNeg, reduceCtorEq, hgs, Node.cells, aopG, beq_self_eq_true, Option.toArray_none, Option.toArray_some, List.toList_toArray]); (repeat (refine And.intro (by (first | omega | (simp; done) | (simp; omega) | assumption)) ?_)); refine h' _ ?_; clear h' K') | (refine AWp.sreg (id := 3) dd10 rfl (fun gs K hgs hK => ?_); replace hgs : gs 6 = some 15 ∧ gs 12 = some 21 ∧ gs 16 = some 25 := ⟨hgs 6, hgs 12, hgs 16⟩) | (refine AWp.reg (id := 3) dd10 rfl (fun gs K hgs hK => ?_); replace hgs : gs 6 = some 15 ∧ gs 12 = some 21 ∧ gs 16 = some 25 := ⟨hgs 6, hgs 12, hgs 16⟩) | (refine AWp.sreg  dd10 rfl (fun gs K hgs hK => ?_); replace hgs : Nat.succ 0 = 1 := rfl) | refine AWp.seq ?_ | refine ARounds.step ?_ | refine AWp.block ?_ | refine AWp.label ?_ | (refine AWp.ret ?_; try simp only [aThen, aBlock]) | (refine AWp.skip ?_; try simp only [aThen, aBlock]) | (refine AWp.exit ?_; try simp only [aThen, aBlock, Nat.reduceEqDiff, reduceIte]) | (refine AWp.reg  dd10 rfl (fun gs K hgs hK => ?_); replace hgs : Nat.succ 0 = 1 := rfl) | (refine aops_consG (fun K' h' => ?_); simp only [go_sem, Nat.reduceLT, Nat.reduceLeDiff, Nat.reduceEqDiff, reduceIte, Nat.reduceAdd, Nat.reduceMul, Nat.reduceSub, Int.reduceLT, Int.reduceLE, Int.reduceToNat, Int.reduceNeg, reduceCtorEq, hgs, Node.cells, aopG, beq_self_eq_true, Option.toArray_none, Option.toArray_some, List.toList_toArray]; (try simp (disch := omega) only [wrap_id, getD_map_in, Int.toNat_natCast, Node.cells, aopG, beq_self_eq_true, Option.toArray_none, Option.toArray_some, List.toList_toArray]); (repeat (refine And.intro (by (first | omega | (simp; done) | (simp; omega) | assumption)) ?_)); refine h' _ ?_; clear h' K') | (refine AWp.cond rfl (fun h => ?_) (fun h => ?_) <;> (try simp only [decide_eq_true_eq, decide_eq_false_iff_not, beq_iff_eq, bne_iff_ne, ne_eq, Bool.not_eq_true', Bool.not_eq_false', beq_eq_false_iff_ne, Bool.true_eq_false, Bool.false_eq_true, Int.not_le, Int.not_lt, Bool.and_eq_true, Bool.and_eq_false_iff, Bool.or_eq_true, Bool.or_eq_false_iff, bne_eq_false_iff_eq, reduceCtorEq] at h) <;> (try first | contradiction | (exfalso; omega) | (exfalso; revert h; simp; done) | (exfalso; revert h; simp; omega)))))
  simp only [Out, outA, outL, resA, go_sem, Nat.reduceLT, Nat.reduceLeDiff, Nat.reduceEqDiff, reduceIte, Nat.reduceAdd, Nat.reduceMul, Nat.reduceSub, Int.reduceLT, Int.reduceLE, Int.reduceToNat, Int.reduceNeg, reduceCtorEq]
  exact AVle.refl _
end Go.Proofs.Ytmdnhmcmnojlkaa
