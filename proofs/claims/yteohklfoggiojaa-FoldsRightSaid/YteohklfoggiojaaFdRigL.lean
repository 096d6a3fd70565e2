/-
  The law FoldsRight.
-/
import Derived.Test.YteohklfoggiojaaFdQ
import Derived.Test.YteohklfoggiojaaAbsO
import Derived.Test.YteohklfoggiojaaQRefW
import Derived.Test.YteohklfoggiojaaFShp
namespace Go.Proofs.Yteohklfoggiojaa
open Go.AL Go.RowKit
set_option linter.unusedSimpArgs false
set_option linter.unusedVariables false
set_option maxRecDepth 10000
set_option maxHeartbeats 8000000
theorem greatQ_not {q : Qry} (h : greatQ q = false) : q.arg.length ≤ 70 ∧ q.wh.length ≤ 70 ∧ q.src.length ≤ 10 := by
  unfold greatQ at h
  simp at h; omega
theorem alikeQ_self (q : Qry) : alikeQ q q = true := by
  unfold alikeQ
  simp [sameN]
def dd38 : Nat → List (List Nat)
  | 0 => [[], [4]]
  | 1 => [[], [], [6], [], [8], [7, 9]]
  | 2 => [[0, 1, 10], []]
  | 3 => [[10], []]
  | 4 => [[], [], [], [12], [11, 13]]
  | 5 => [[25], [5], [15], [16]]
  | 7 => [[0, 1, 5, 25], []]
  | 8 => [[0, 1, 5, 14], []]
  | _ => []
def fo38 : Nat → List Nat
  | 6 => [0, 1, 5, 25]
  | _ => []
theorem same7F_c (a b : List Int) (ha : a.length ≤ 1000) (hb : b.length ≤ 1000) : ACall Try.prog 38 [.ro 1 (a.map intC), .ro 1 (b.map intC)] (.lit (.bool (decide (a = b)))) := by
  refine acall_of (n := 26) (rs := [.tmp 4]) Try.func38 rfl (by kernel_rfl) rfl rfl rfl ?_; simp only [argsE, Nat.reduceAdd]
  repeat (any_goals (first | ((first | refine aops_cons (fun K' h' => ?_) | refine aopsD_cons (fun K' h' => ?_)); simp only [go_sem, simprocAttr, Node.cells, intC, aopG, beq_self_eq_true, bne_self_eq_false, Bool.not_false]; (try simp (disch := omega) only [wrap_id, getD_map_in, Int.toNat_natCast, Node.cells, intC, aopG, beq_self_eq_true, bne_self_eq_false, Bool.not_false]); (repeat (refine And.intro (by (first | omega | (simp; done) | (simp; omega) | assumption)) ?_)); refine h' _ ?_; clear h' K') | (refine aops_nil (hK _ ?_); clear hK K gs; try simp only [aThen, aBlock]) | (refine AWp.sreg  dd38 rfl (fun gs K hgs hK => ?_); clear hgs) | refine AWp.seq ?_ | refine ARounds.step ?_ | refine AWp.block ?_ | refine AWp.label ?_ | (refine AWp.ret ?_; try simp only [aThen, aBlock]) | (refine AWp.skip ?_; try simp only [aThen, aBlock]) | (refine AWp.exit ?_; try simp only [aThen, aBlock, Nat.reduceEqDiff, reduceIte]) | (refine AWp.reg  dd38 rfl (fun gs K hgs hK => ?_); clear hgs) | ((first | refine AWp.sregD  fo38 mo_fact (by kernel_rfl) (fun gs K hgs hK => ?_) | refine AWp.regD  fo38 mo_fact (by kernel_rfl) (fun gs K hgs hK => ?_)); clear hgs) | (refine aopsD_nil (hK _ ?_); clear hK K gs; simp only [fo38]; simp only [ASt.prune, pruneE, keepB, keepR, Bool.or_false, Bool.or_true, Bool.true_or, Bool.false_or, reduceIte, Bool.or_self, Bool.false_eq_true, aThen, aBlock, Nat.reduceEqDiff]) | (refine AWp.cond rfl (fun h => ?_) (fun h => ?_) <;> (try simp only [decide_eq_true_eq, decide_eq_false_iff_not, beq_iff_eq, bne_iff_ne, ne_eq, Bool.not_eq_true', Bool.not_eq_false', beq_eq_false_iff_ne, Bool.true_eq_false, Bool.false_eq_true, Int.not_le, Int.not_lt, Bool.and_eq_true, Bool.and_eq_false_iff, Bool.or_eq_true, Bool.or_eq_false_iff, bne_eq_false_iff_eq, reduceCtorEq] at h) <;> (try first | contradiction | (exfalso; omega) | (exfalso; revert h; simp; done) | (exfalso; revert h; simp; omega)))))
  · simp only [Out, outA, outL, resA, go_sem, simprocAttr]
    refine AVle.of_eq (congrArg (fun b => AV.lit (.bool b)) ?_)
    have : a ≠ b := fun h => by subst h; omega
    simp [this]
  · have hab : a.length = b.length := by omega
    refine AWp.loopN a.length (fun k => a.getD k default = b.getD k default) (fun k => ⟨[(0, .ro 1 (a.map intC)), (1, .ro 1 (b.map intC)), (5, .lit (.int .i64 (k : Int)))], [], []⟩) ?_ ?_
    · refine Wk.ofCut 0 0 rfl rfl ?_
      simp [subE, eget, ASt.drop, dropE, keepR, lowE, AV.lowB, lowL, Nat.blt, Nat.ble]
    · intro k hk hall
      obtain ⟨x, hx⟩ : ∃ x, a.getD k default = x := ⟨_, rfl⟩
      obtain ⟨y, hy⟩ : ∃ y, b.getD k default = y := ⟨_, rfl⟩
      repeat (any_goals (first | ((first | refine aops_cons (fun K' h' => ?_) | refine aopsD_cons (fun K' h' => ?_)); simp only [go_sem, simprocAttr, Node.cells, intC, aopG, beq_self_eq_true, bne_self_eq_false, Bool.not_false, hx, hy]; (try simp (disch := omega) only [wrap_id, getD_map_in, Int.toNat_natCast, Node.cells, intC, aopG, beq_self_eq_true, bne_self_eq_false, Bool.not_false, hx, hy]); (repeat (refine And.intro (by (first | omega | (simp; done) | (simp; omega) | assumption)) ?_)); refine h' _ ?_; clear h' K') | (refine aops_nil (hK _ ?_); clear hK K gs; try simp only [aThen, aBlock]) | (refine AWp.sreg  dd38 rfl (fun gs K hgs hK => ?_); clear hgs) | refine AWp.seq ?_ | refine ARounds.step ?_ | refine AWp.block ?_ | refine AWp.label ?_ | (refine AWp.ret ?_; try simp only [aThen, aBlock]) | (refine AWp.skip ?_; try simp only [aThen, aBlock]) | (refine AWp.exit ?_; try simp only [aThen, aBlock, Nat.reduceEqDiff, reduceIte]) | (refine AWp.reg  dd38 rfl (fun gs K hgs hK => ?_); clear hgs) | ((first | refine AWp.sregD  fo38 mo_fact (by kernel_rfl) (fun gs K hgs hK => ?_) | refine AWp.regD  fo38 mo_fact (by kernel_rfl) (fun gs K hgs hK => ?_)); clear hgs) | (refine aopsD_nil (hK _ ?_); clear hK K gs; simp only [fo38]; simp only [ASt.prune, pruneE, keepB, keepR, Bool.or_false, Bool.or_true, Bool.true_or, Bool.false_or, reduceIte, Bool.or_self, Bool.false_eq_true, aThen, aBlock, Nat.reduceEqDiff]) | (refine AWp.cond rfl (fun h => ?_) (fun h => ?_) <;> (try simp only [decide_eq_true_eq, decide_eq_false_iff_not, beq_iff_eq, bne_iff_ne, ne_eq, Bool.not_eq_true', Bool.not_eq_false', beq_eq_false_iff_ne, Bool.true_eq_false, Bool.false_eq_true, Int.not_le, Int.not_lt, Bool.and_eq_true, Bool.and_eq_false_iff, Bool.or_eq_true, Bool.or_eq_false_iff, bne_eq_false_iff_eq, reduceCtorEq] at h) <;> (try first | contradiction | (exfalso; omega) | (exfalso; revert h; simp; done) | (exfalso; revert h; simp; omega)))))
      · simp only [Out, outA, outL, resA, go_sem, simprocAttr]
        refine AVle.of_eq (congrArg (fun b => AV.lit (.bool b)) ?_)
        have : a ≠ b := fun h => by subst h; rw [hx] at hy; simp_all
        simp [this]
      · refine ⟨by omega, by rw [hx, hy]; simp_all, Wk.ofCut 0 0 rfl rfl ?_⟩
        simp [subE, eget, ASt.drop, dropE, keepR, lowE, AV.lowB, lowL, Nat.blt, Nat.ble]
      · simp only [Out, outA, outL, resA, go_sem, simprocAttr]
        refine AVle.of_eq (congrArg (fun b => AV.lit (.bool b)) ?_)
        have : a = b := List.ext_getElem hab fun j q1 q2 => by
          have := hall j (by omega)
          simpa [List.getD_eq_getElem?_getD, List.getElem?_eq_getElem q1, List.getElem?_eq_getElem q2] using this
        simp [this]
def dd10 : Nat → List (List Nat)
  | 0 => [[], [0], [1], [4]]
  | 1 => [[], [], [20]]
  | 2 => [[2, 3, 21], [], [22]]
  | 3 => [[21], [], [24], [25], [], [23], [5, 26], [27]]
  | 4 => [[], [6], [28]]
  | 5 => [[2, 3, 29], [], [30]]
  | 6 => [[29], [], [32], [33], [], [31], [], [34], [35]]
  | 7 => [[], [], [37], [38], [], [36], [9, 39], [40]]
  | 8 => [[], [8], [41], [42], [10], [44], [43, 45]]
  | 9 => [[2, 3, 7, 46], []]
  | 10 => [[46], [], [], [47]]
  | 12 => [[], [11], [], [54, 55], [56], [57], [], [59], [60], [61], [], [63], [64], [65], [62, 66], [58, 67], [68], [], [70], [71], [72], [], [74], [75], [76], [73, 77], [69, 78]]
  | 13 => [[2, 3, 7, 79], []]
  | 14 => [[79], [], [81], [], [82, 83], [84], [], [80], [85], [86]]
  | 15 => [[], [], [88], [], [89, 90], [91], [], [87], [92], [93]]
  | 16 => [[], [7], [95], [], [96, 97], [98], [], [94], [99], [100]]
  | 17 => [[], [2], [102], [3], [103, 104], [105], [], [101], [106], [107]]
  | 18 => [[], [13], [15], [108, 109], [110], [], [], [112, 113], [111, 114], [115], [17], [19], [117, 118], [116, 119], [120], [], [], [122, 123], [121, 124], [125], [12], [16], [127, 128], [14], [18], [130, 131], [129, 132], [126, 133], [134], [], [135, 136], [137]]
  | _ => []
def fo10 : Nat → List Nat
  | 11 => [2, 3, 7, 11]
  | _ => []
theorem fdright_law (q : Qry) (r : Rcd) (h1 : q.arg.length ≤ maxLen) (h2 : q.wh.length ≤ maxLen) (h3 : q.src.length ≤ maxLen) (hw : ∀ x ∈ q.src, -9223372036854775808 ≤ x ∧ x ≤ 9223372036854775807) (n1 : nodesB q.arg) (n2 : nodesB q.wh) (hr : r.B) :
    ACall Try.prog 10 [.agg q.cells, .agg r.cells] (.lit (.bool true)) := by
  have hGr := greatQ_c q h1 h2 h3
  have hrc : r.cells = [.lit (.int .i64 r.key), .lit (.int .i64 r.t), .lit (.int .i64 r.v)] := rfl
  cases hg : greatQ q with
  | false =>
    obtain ⟨a1, a2, a3⟩ := greatQ_not hg
    have hf : q.fit := ⟨by omega, by omega, by omega, hw, n1, n2⟩
    have hC1 := checks10_c q hf
    rw [hg] at hGr
    by_cases h0 : accE q = 0
    · obtain ⟨-, ha, hwh⟩ := acc_0 h0
      have hQ := query_c q hf
      have hC2 := checks_c (fqQ q) (fqQ_fit q hf)
      rw [accE_fq h0 n1 n2] at hC2
      have hfr : fqR q = fqQ q := if_pos h0
      rw [hfr, h0] at hQ
      rw [h0] at hC1
      have hE := rEqualQ_c q q (by omega) (by omega) (by omega) (by omega) (by omega) (by omega)
      rw [alikeQ_self q, decide_eq_true (rfl : q.arg = q.arg), decide_eq_true (rfl : q.wh = q.wh)] at hE
      have e1 := fq_val (r := r) (l := q.arg) (ha.imp id (·.1)) n1
      have e2 := fq_val (r := r) (l := q.wh) (hwh.imp id (·.1)) n2
      have hO1 := eOf_c (fq q.arg) r (fq_len _ n1) hr (fq_B n1)
      have hO2 := eOf_c q.arg r (by omega) hr n1
      have hO3 := eOf_c (fq q.wh) r (fq_len _ n2) hr (fq_B n2)
      have hO4 := eOf_c q.wh r (by omega) hr n2
      rw [e1.1, e1.2] at hO1
      rw [e2.1, e2.2] at hO3
      have hS := same7F_c [ofV r q.arg, ofV r q.wh] [ofV r q.arg, ofV r q.wh] (by simp) (by simp)
      rw [decide_eq_true rfl] at hS
      have z1 := fq_nil q.arg n1 (ha.imp id (·.1))
      have z2 := fq_nil q.wh n2 (hwh.imp id (·.1))
      unfold fqQ at hQ hC2
      rw [hrc] at *
      generalize ofV r q.arg = v1 at *
      generalize ofV r q.wh = v2 at *
      generalize ofE q.arg = e1 at *
      generalize ofE q.wh = e2 at *
      generalize fq q.arg = fa at *
      generalize fq q.wh = fw at *
      generalize accP q = ap at *
      generalize accP _ = ap2 at *
      clear hg hw hf n1 n2 a1 a2 a3 h1 h2 h3 ha hwh h0 hfr
      obtain ⟨ag, ar, sr, jn, wh, ⟨kd, sz, ev⟩, bk, lt⟩ := q
      simp only at *
      have y1 : (((fa.length : Int) == 0) != ((ar.length : Int) == 0)) = false := by rw [z1]; simp
      have y2 : (((fw.length : Int) == 0) != ((wh.length : Int) == 0)) = false := by rw [z2]; simp
      unfold Qry.cells nodesV intsV at *
      simp only [List.map_cons, List.map_nil, intC] at *
      refine acall_of (n := 138) (rs := [.tmp 4]) Try.func10 rfl (by kernel_rfl) rfl rfl rfl ?_; simp only [argsE, Nat.reduceAdd]
      repeat (any_goals (first | ((first | refine aops_cons (fun K' h' => ?_) | refine aopsD_cons (fun K' h' => ?_) | refine aopsM_cons (fun K' h' => ?_)); simp only [go_sem, simprocAttr, hgs, Node.cells, intC, aopG, beq_self_eq_true, bne_self_eq_false, Bool.not_false, y1, y2]; (try ((first | refine ⟨_, hGr, ?_⟩ | refine ⟨_, fun _ => hGr, ?_⟩ | refine ⟨_, hC1, ?_⟩ | refine ⟨_, fun _ => hC1, ?_⟩ | refine ⟨_, hC2, ?_⟩ | refine ⟨_, fun _ => hC2, ?_⟩ | refine ⟨_, hQ, ?_⟩ | refine ⟨_, fun _ => hQ, ?_⟩ | refine ⟨_, hE, ?_⟩ | refine ⟨_, fun _ => hE, ?_⟩ | refine ⟨_, hO1, ?_⟩ | refine ⟨_, fun _ => hO1, ?_⟩ | refine ⟨_, hO2, ?_⟩ | refine ⟨_, fun _ => hO2, ?_⟩ | refine ⟨_, hO3, ?_⟩ | refine ⟨_, fun _ => hO3, ?_⟩ | refine ⟨_, hO4, ?_⟩ | refine ⟨_, fun _ => hO4, ?_⟩ | refine ⟨_, hS, ?_⟩ | refine ⟨_, fun _ => hS, ?_⟩ | refine ⟨_, alive12_c, ?_⟩ | refine ⟨_, fun _ => alive12_c, ?_⟩); (try simp only [go_sem, simprocAttr, hgs, Node.cells, intC, aopG, beq_self_eq_true, bne_self_eq_false, Bool.not_false, y1, y2]))); (try simp (disch := omega) only [wrap_id, getD_map_in, Int.toNat_natCast, Node.cells, intC, aopG, beq_self_eq_true, bne_self_eq_false, Bool.not_false, y1, y2]); (repeat (refine And.intro (by (first | omega | (simp; done) | (simp; omega) | assumption)) ?_)); refine h' _ ?_; clear h' K') | (refine aops_nil (hK _ ?_); clear hK K hgs gs; (try simp only [aThen, aBlock]); (try (simp only [fo10, ASt.drop]; simp only [ASt.prune, pruneE, keepB, keepR, Bool.or_false, Bool.or_true, Bool.true_or, Bool.false_or, reduceIte, Bool.or_self, Bool.false_eq_true, aThen, aBlock, Nat.reduceEqDiff]))) | ((first | refine AWp.sregE (id := 11) fo10 [[0, 1, 2, 3, 4, 5, 6, 7], [0, 1, 2, 4, 3, 5, 6, 7], [0, 1, 2, 4, 5, 3, 6, 7], [0, 1, 4, 2, 3, 5, 6, 7], [0, 1, 4, 2, 5, 3, 6, 7], [0, 1, 4, 5, 2, 3, 6, 7], [0, 2, 1, 3, 4, 5, 6, 7], [0, 2, 1, 4, 3, 5, 6, 7], [0, 2, 1, 4, 5, 3, 6, 7], [0, 2, 3, 1, 4, 5, 6, 7], [2, 0, 1, 3, 4, 5, 6, 7], [2, 0, 1, 4, 3, 5, 6, 7], [2, 0, 1, 4, 5, 3, 6, 7], [2, 0, 3, 1, 4, 5, 6, 7], [2, 3, 0, 1, 4, 5, 6, 7]] mo_fact (by kernel_rfl) (fun gs K hgs hK => ?_) | refine AWp.regE (id := 11) fo10 [[0, 1, 2, 3, 4, 5, 6, 7], [0, 1, 2, 4, 3, 5, 6, 7], [0, 1, 2, 4, 5, 3, 6, 7], [0, 1, 4, 2, 3, 5, 6, 7], [0, 1, 4, 2, 5, 3, 6, 7], [0, 1, 4, 5, 2, 3, 6, 7], [0, 2, 1, 3, 4, 5, 6, 7], [0, 2, 1, 4, 3, 5, 6, 7], [0, 2, 1, 4, 5, 3, 6, 7], [0, 2, 3, 1, 4, 5, 6, 7], [2, 0, 1, 3, 4, 5, 6, 7], [2, 0, 1, 4, 3, 5, 6, 7], [2, 0, 1, 4, 5, 3, 6, 7], [2, 0, 3, 1, 4, 5, 6, 7], [2, 3, 0, 1, 4, 5, 6, 7]] mo_fact (by kernel_rfl) (fun gs K hgs hK => ?_)); replace hgs : Nat.succ 0 = 1 := rfl) | ((first | refine AWp.sreg (id := 8) dd10 rfl (fun gs K hgs hK => ?_) | refine AWp.reg (id := 8) dd10 rfl (fun gs K hgs hK => ?_)); replace hgs : gs 2 = some 43 := hgs 2) | ((first | refine AWp.sreg (id := 12) dd10 rfl (fun gs K hgs hK => ?_) | refine AWp.reg (id := 12) dd10 rfl (fun gs K hgs hK => ?_)); replace hgs : gs 4 = some 58 ∧ gs 15 = some 69 := ⟨hgs 4, hgs 15⟩) | ((first | refine AWp.sreg (id := 18) dd10 rfl (fun gs K hgs hK => ?_) | refine AWp.reg (id := 18) dd10 rfl (fun gs K hgs hK => ?_)); replace hgs : gs 3 = some 111 ∧ gs 8 = some 116 ∧ gs 13 = some 121 ∧ gs 18 = some 126 ∧ gs 27 = some 135 := ⟨hgs 3, hgs 8, hgs 13, hgs 18, hgs 27⟩) | (refine AWp.sreg  dd10 rfl (fun gs K hgs hK => ?_); replace hgs : Nat.succ 0 = 1 := rfl) | refine AWp.seq ?_ | refine ARounds.step ?_ | refine AWp.block ?_ | refine AWp.label ?_ | (refine AWp.ret ?_; try simp only [aThen, aBlock]) | (refine AWp.skip ?_; try simp only [aThen, aBlock]) | (refine AWp.exit ?_; try simp only [aThen, aBlock, Nat.reduceEqDiff, reduceIte]) | (refine AWp.reg  dd10 rfl (fun gs K hgs hK => ?_); replace hgs : Nat.succ 0 = 1 := rfl) | (refine aops_consG (fun K' h' => ?_); simp only [go_sem, simprocAttr, hgs, Node.cells, intC, aopG, beq_self_eq_true, bne_self_eq_false, Bool.not_false, y1, y2]; (try simp (disch := omega) only [wrap_id, getD_map_in, Int.toNat_natCast, Node.cells, intC, aopG, beq_self_eq_true, bne_self_eq_false, Bool.not_false, y1, y2]); (repeat (refine And.intro (by (first | omega | (simp; done) | (simp; omega) | assumption)) ?_)); refine h' _ ?_; clear h' K') | (refine AWp.cond rfl (fun h => ?_) (fun h => ?_) <;> (try simp only [decide_eq_true_eq, decide_eq_false_iff_not, beq_iff_eq, bne_iff_ne, ne_eq, Bool.not_eq_true', Bool.not_eq_false', beq_eq_false_iff_ne, Bool.true_eq_false, Bool.false_eq_true, Int.not_le, Int.not_lt, Bool.and_eq_true, Bool.and_eq_false_iff, Bool.or_eq_true, Bool.or_eq_false_iff, bne_eq_false_iff_eq, reduceCtorEq] at h) <;> (try first | contradiction | (exfalso; omega) | (exfalso; revert h; simp; done) | (exfalso; revert h; simp; omega)))))
      repeat (refine allO_cons (by (repeat (any_goals (first | ((first | refine aops_cons (fun K' h' => ?_) | refine aopsD_cons (fun K' h' => ?_) | refine aopsM_cons (fun K' h' => ?_)); simp only [go_sem, simprocAttr, hgs, Node.cells, intC, aopG, beq_self_eq_true, bne_self_eq_false, Bool.not_false, y1, y2]; (try ((first | refine ⟨_, hGr, ?_⟩ | refine ⟨_, fun _ => hGr, ?_⟩ | refine ⟨_, hC1, ?_⟩ | refine ⟨_, fun _ => hC1, ?_⟩ | refine ⟨_, hC2, ?_⟩ | refine ⟨_, fun _ => hC2, ?_⟩ | refine ⟨_, hQ, ?_⟩ | refine ⟨_, fun _ => hQ, ?_⟩ | refine ⟨_, hE, ?_⟩ | refine ⟨_, fun _ => hE, ?_⟩ | refine ⟨_, hO1, ?_⟩ | refine ⟨_, fun _ => hO1, ?_⟩ | refine ⟨_, hO2, ?_⟩ | refine ⟨_, fun _ => hO2, ?_⟩ | refine ⟨_, hO3, ?_⟩ | refine ⟨_, fun _ => hO3, ?_⟩ | refine ⟨_, hO4, ?_⟩ | refine ⟨_, fun _ => hO4, ?_⟩ | refine ⟨_, hS, ?_⟩ | refine ⟨_, fun _ => hS, ?_⟩ | refine ⟨_, alive12_c, ?_⟩ | refine ⟨_, fun _ => alive12_c, ?_⟩); (try simp only [go_sem, simprocAttr, hgs, Node.cells, intC, aopG, beq_self_eq_true, bne_self_eq_false, Bool.not_false, y1, y2]))); (try simp (disch := omega) only [wrap_id, getD_map_in, Int.toNat_natCast, Node.cells, intC, aopG, beq_self_eq_true, bne_self_eq_false, Bool.not_false, y1, y2]); (repeat (refine And.intro (by (first | omega | (simp; done) | (simp; omega) | assumption)) ?_)); refine h' _ ?_; clear h' K') | (refine aops_nil (hK _ ?_); clear hK K hgs gs; (try simp only [aThen, aBlock]); (try (simp only [fo10, ASt.drop]; simp only [ASt.prune, pruneE, keepB, keepR, Bool.or_false, Bool.or_true, Bool.true_or, Bool.false_or, reduceIte, Bool.or_self, Bool.false_eq_true, aThen, aBlock, Nat.reduceEqDiff]))) | ((first | refine AWp.sregE (id := 11) fo10 [[0, 1, 2, 3, 4, 5, 6, 7], [0, 1, 2, 4, 3, 5, 6, 7], [0, 1, 2, 4, 5, 3, 6, 7], [0, 1, 4, 2, 3, 5, 6, 7], [0, 1, 4, 2, 5, 3, 6, 7], [0, 1, 4, 5, 2, 3, 6, 7], [0, 2, 1, 3, 4, 5, 6, 7], [0, 2, 1, 4, 3, 5, 6, 7], [0, 2, 1, 4, 5, 3, 6, 7], [0, 2, 3, 1, 4, 5, 6, 7], [2, 0, 1, 3, 4, 5, 6, 7], [2, 0, 1, 4, 3, 5, 6, 7], [2, 0, 1, 4, 5, 3, 6, 7], [2, 0, 3, 1, 4, 5, 6, 7], [2, 3, 0, 1, 4, 5, 6, 7]] mo_fact (by kernel_rfl) (fun gs K hgs hK => ?_) | refine AWp.regE (id := 11) fo10 [[0, 1, 2, 3, 4, 5, 6, 7], [0, 1, 2, 4, 3, 5, 6, 7], [0, 1, 2, 4, 5, 3, 6, 7], [0, 1, 4, 2, 3, 5, 6, 7], [0, 1, 4, 2, 5, 3, 6, 7], [0, 1, 4, 5, 2, 3, 6, 7], [0, 2, 1, 3, 4, 5, 6, 7], [0, 2, 1, 4, 3, 5, 6, 7], [0, 2, 1, 4, 5, 3, 6, 7], [0, 2, 3, 1, 4, 5, 6, 7], [2, 0, 1, 3, 4, 5, 6, 7], [2, 0, 1, 4, 3, 5, 6, 7], [2, 0, 1, 4, 5, 3, 6, 7], [2, 0, 3, 1, 4, 5, 6, 7], [2, 3, 0, 1, 4, 5, 6, 7]] mo_fact (by kernel_rfl) (fun gs K hgs hK => ?_)); replace hgs : Nat.succ 0 = 1 := rfl) | ((first | refine AWp.sreg (id := 8) dd10 rfl (fun gs K hgs hK => ?_) | refine AWp.reg (id := 8) dd10 rfl (fun gs K hgs hK => ?_)); replace hgs : gs 2 = some 43 := hgs 2) | ((first | refine AWp.sreg (id := 12) dd10 rfl (fun gs K hgs hK => ?_) | refine AWp.reg (id := 12) dd10 rfl (fun gs K hgs hK => ?_)); replace hgs : gs 4 = some 58 ∧ gs 15 = some 69 := ⟨hgs 4, hgs 15⟩) | ((first | refine AWp.sreg (id := 18) dd10 rfl (fun gs K hgs hK => ?_) | refine AWp.reg (id := 18) dd10 rfl (fun gs K hgs hK => ?_)); replace hgs : gs 3 = some 111 ∧ gs 8 = some 116 ∧ gs 13 = some 121 ∧ gs 18 = some 126 ∧ gs 27 = some 135 := ⟨hgs 3, hgs 8, hgs 13, hgs 18, hgs 27⟩) | (refine AWp.sreg  dd10 rfl (fun gs K hgs hK => ?_); replace hgs : Nat.succ 0 = 1 := rfl) | refine AWp.seq ?_ | refine ARounds.step ?_ | refine AWp.block ?_ | refine AWp.label ?_ | (refine AWp.ret ?_; try simp only [aThen, aBlock]) | (refine AWp.skip ?_; try simp only [aThen, aBlock]) | (refine AWp.exit ?_; try simp only [aThen, aBlock, Nat.reduceEqDiff, reduceIte]) | (refine AWp.reg  dd10 rfl (fun gs K hgs hK => ?_); replace hgs : Nat.succ 0 = 1 := rfl) | (refine aops_consG (fun K' h' => ?_); simp only [go_sem, simprocAttr, hgs, Node.cells, intC, aopG, beq_self_eq_true, bne_self_eq_false, Bool.not_false, y1, y2]; (try simp (disch := omega) only [wrap_id, getD_map_in, Int.toNat_natCast, Node.cells, intC, aopG, beq_self_eq_true, bne_self_eq_false, Bool.not_false, y1, y2]); (repeat (refine And.intro (by (first | omega | (simp; done) | (simp; omega) | assumption)) ?_)); refine h' _ ?_; clear h' K') | (refine AWp.cond rfl (fun h => ?_) (fun h => ?_) <;> (try simp only [decide_eq_true_eq, decide_eq_false_iff_not, beq_iff_eq, bne_iff_ne, ne_eq, Bool.not_eq_true', Bool.not_eq_false', beq_eq_false_iff_ne, Bool.true_eq_false, Bool.false_eq_true, Int.not_le, Int.not_lt, Bool.and_eq_true, Bool.and_eq_false_iff, Bool.or_eq_true, Bool.or_eq_false_iff, bne_eq_false_iff_eq, reduceCtorEq] at h) <;> (try first | contradiction | (exfalso; omega) | (exfalso; revert h; simp; done) | (exfalso; revert h; simp; omega)))))); all_goals simp only [Out, outA, outL, resA, go_sem, simprocAttr]; all_goals exact AVle.of_eq (by simp)) ?_)
      exact allO_nil
    · rw [hrc]
      clear hg hw hf n1 n2 a1 a2 a3 h1 h2 h3 hrc
      generalize accE q = ce at *
      generalize accP q = ap at *
      obtain ⟨ag, ar, sr, jn, wh, ⟨kd, sz, ev⟩, bk, lt⟩ := q
      unfold Qry.cells nodesV intsV at *
      refine acall_of (n := 138) (rs := [.tmp 4]) Try.func10 rfl (by kernel_rfl) rfl rfl rfl ?_; simp only [argsE, Nat.reduceAdd]
      repeat (any_goals (first | ((first | refine aops_cons (fun K' h' => ?_) | refine aopsD_cons (fun K' h' => ?_) | refine aopsM_cons (fun K' h' => ?_)); simp only [go_sem, simprocAttr, hgs, Node.cells, intC, aopG, beq_self_eq_true, bne_self_eq_false, Bool.not_false]; (try ((first | refine ⟨_, hGr, ?_⟩ | refine ⟨_, fun _ => hGr, ?_⟩ | refine ⟨_, hC1, ?_⟩ | refine ⟨_, fun _ => hC1, ?_⟩ | refine ⟨_, hC2, ?_⟩ | refine ⟨_, fun _ => hC2, ?_⟩ | refine ⟨_, hQ, ?_⟩ | refine ⟨_, fun _ => hQ, ?_⟩ | refine ⟨_, hE, ?_⟩ | refine ⟨_, fun _ => hE, ?_⟩ | refine ⟨_, hO1, ?_⟩ | refine ⟨_, fun _ => hO1, ?_⟩ | refine ⟨_, hO2, ?_⟩ | refine ⟨_, fun _ => hO2, ?_⟩ | refine ⟨_, hO3, ?_⟩ | refine ⟨_, fun _ => hO3, ?_⟩ | refine ⟨_, hO4, ?_⟩ | refine ⟨_, fun _ => hO4, ?_⟩ | refine ⟨_, hS, ?_⟩ | refine ⟨_, fun _ => hS, ?_⟩ | refine ⟨_, alive12_c, ?_⟩ | refine ⟨_, fun _ => alive12_c, ?_⟩); (try simp only [go_sem, simprocAttr, hgs, Node.cells, intC, aopG, beq_self_eq_true, bne_self_eq_false, Bool.not_false]))); (try simp (disch := omega) only [wrap_id, getD_map_in, Int.toNat_natCast, Node.cells, intC, aopG, beq_self_eq_true, bne_self_eq_false, Bool.not_false]); (repeat (refine And.intro (by (first | omega | (simp; done) | (simp; omega) | assumption)) ?_)); refine h' _ ?_; clear h' K') | (refine aops_nil (hK _ ?_); clear hK K hgs gs; try simp only [aThen, aBlock]) | ((first | refine AWp.sreg (id := 8) dd10 rfl (fun gs K hgs hK => ?_) | refine AWp.reg (id := 8) dd10 rfl (fun gs K hgs hK => ?_)); replace hgs : gs 2 = some 43 := hgs 2) | ((first | refine AWp.sreg (id := 12) dd10 rfl (fun gs K hgs hK => ?_) | refine AWp.reg (id := 12) dd10 rfl (fun gs K hgs hK => ?_)); replace hgs : gs 4 = some 58 ∧ gs 15 = some 69 := ⟨hgs 4, hgs 15⟩) | ((first | refine AWp.sreg (id := 18) dd10 rfl (fun gs K hgs hK => ?_) | refine AWp.reg (id := 18) dd10 rfl (fun gs K hgs hK => ?_)); replace hgs : gs 3 = some 111 ∧ gs 8 = some 116 ∧ gs 13 = some 121 ∧ gs 18 = some 126 ∧ gs 27 = some 135 := ⟨hgs 3, hgs 8, hgs 13, hgs 18, hgs 27⟩) | (refine AWp.sreg  dd10 rfl (fun gs K hgs hK => ?_); replace hgs : Nat.succ 0 = 1 := rfl) | refine AWp.seq ?_ | refine ARounds.step ?_ | refine AWp.block ?_ | refine AWp.label ?_ | (refine AWp.ret ?_; try simp only [aThen, aBlock]) | (refine AWp.skip ?_; try simp only [aThen, aBlock]) | (refine AWp.exit ?_; try simp only [aThen, aBlock, Nat.reduceEqDiff, reduceIte]) | (refine AWp.reg  dd10 rfl (fun gs K hgs hK => ?_); replace hgs : Nat.succ 0 = 1 := rfl) | ((first | refine AWp.sregM (id := 11) fo10 (false, false) mo_fact (by kernel_rfl) (by kernel_rfl) (fun gs K hgs hK => ?_) | refine AWp.regM (id := 11) fo10 (false, false) mo_fact (by kernel_rfl) (by kernel_rfl) (fun gs K hgs hK => ?_)); replace hgs : Nat.succ 0 = 1 := rfl) | (refine aopsM_nil (hK _ ?_); clear hK K hgs gs; simp only [fo10]; simp only [ASt.prune, pruneE, keepB, keepR, Bool.or_false, Bool.or_true, Bool.true_or, Bool.false_or, reduceIte, Bool.or_self, Bool.false_eq_true, aThen, aBlock, Nat.reduceEqDiff]) | (refine aops_consG (fun K' h' => ?_); simp only [go_sem, simprocAttr, hgs, Node.cells, intC, aopG, beq_self_eq_true, bne_self_eq_false, Bool.not_false]; (try simp (disch := omega) only [wrap_id, getD_map_in, Int.toNat_natCast, Node.cells, intC, aopG, beq_self_eq_true, bne_self_eq_false, Bool.not_false]); (repeat (refine And.intro (by (first | omega | (simp; done) | (simp; omega) | assumption)) ?_)); refine h' _ ?_; clear h' K') | (refine AWp.cond rfl (fun h => ?_) (fun h => ?_) <;> (try simp only [decide_eq_true_eq, decide_eq_false_iff_not, beq_iff_eq, bne_iff_ne, ne_eq, Bool.not_eq_true', Bool.not_eq_false', beq_eq_false_iff_ne, Bool.true_eq_false, Bool.false_eq_true, Int.not_le, Int.not_lt, Bool.and_eq_true, Bool.and_eq_false_iff, Bool.or_eq_true, Bool.or_eq_false_iff, bne_eq_false_iff_eq, reduceCtorEq] at h) <;> (try first | contradiction | (exfalso; omega) | (exfalso; revert h; simp; done) | (exfalso; revert h; simp; omega)))))
      all_goals simp only [Out, outA, outL, resA, go_sem, simprocAttr]
      all_goals exact AVle.refl _
  | true =>
    rw [hg] at hGr
    rw [hrc]
    clear hg hw n1 n2 h1 h2 h3 hrc
    obtain ⟨ag, ar, sr, jn, wh, ⟨kd, sz, ev⟩, bk, lt⟩ := q
    unfold Qry.cells nodesV intsV at *
    refine acall_of (n := 138) (rs := [.tmp 4]) Try.func10 rfl (by kernel_rfl) rfl rfl rfl ?_; simp only [argsE, Nat.reduceAdd]
    repeat (any_goals (first | ((first | refine aops_cons (fun K' h' => ?_) | refine aopsD_cons (fun K' h' => ?_) | refine aopsM_cons (fun K' h' => ?_)); simp only [go_sem, simprocAttr, hgs, Node.cells, intC, aopG, beq_self_eq_true, bne_self_eq_false, Bool.not_false]; (try ((first | refine ⟨_, hGr, ?_⟩ | refine ⟨_, fun _ => hGr, ?_⟩ | refine ⟨_, hC1, ?_⟩ | refine ⟨_, fun _ => hC1, ?_⟩ | refine ⟨_, hC2, ?_⟩ | refine ⟨_, fun _ => hC2, ?_⟩ | refine ⟨_, hQ, ?_⟩ | refine ⟨_, fun _ => hQ, ?_⟩ | refine ⟨_, hE, ?_⟩ | refine ⟨_, fun _ => hE, ?_⟩ | refine ⟨_, hO1, ?_⟩ | refine ⟨_, fun _ => hO1, ?_⟩ | refine ⟨_, hO2, ?_⟩ | refine ⟨_, fun _ => hO2, ?_⟩ | refine ⟨_, hO3, ?_⟩ | refine ⟨_, fun _ => hO3, ?_⟩ | refine ⟨_, hO4, ?_⟩ | refine ⟨_, fun _ => hO4, ?_⟩ | refine ⟨_, hS, ?_⟩ | refine ⟨_, fun _ => hS, ?_⟩ | refine ⟨_, alive12_c, ?_⟩ | refine ⟨_, fun _ => alive12_c, ?_⟩); (try simp only [go_sem, simprocAttr, hgs, Node.cells, intC, aopG, beq_self_eq_true, bne_self_eq_false, Bool.not_false]))); (try simp (disch := omega) only [wrap_id, getD_map_in, Int.toNat_natCast, Node.cells, intC, aopG, beq_self_eq_true, bne_self_eq_false, Bool.not_false]); (repeat (refine And.intro (by (first | omega | (simp; done) | (simp; omega) | assumption)) ?_)); refine h' _ ?_; clear h' K') | (refine aops_nil (hK _ ?_); clear hK K hgs gs; try simp only [aThen, aBlock]) | ((first | refine AWp.sreg (id := 8) dd10 rfl (fun gs K hgs hK => ?_) | refine AWp.reg (id := 8) dd10 rfl (fun gs K hgs hK => ?_)); replace hgs : gs 2 = some 43 := hgs 2) | ((first | refine AWp.sreg (id := 12) dd10 rfl (fun gs K hgs hK => ?_) | refine AWp.reg (id := 12) dd10 rfl (fun gs K hgs hK => ?_)); replace hgs : gs 4 = some 58 ∧ gs 15 = some 69 := ⟨hgs 4, hgs 15⟩) | ((first | refine AWp.sreg (id := 18) dd10 rfl (fun gs K hgs hK => ?_) | refine AWp.reg (id := 18) dd10 rfl (fun gs K hgs hK => ?_)); replace hgs : gs 3 = some 111 ∧ gs 8 = some 116 ∧ gs 13 = some 121 ∧ gs 18 = some 126 ∧ gs 27 = some 135 := ⟨hgs 3, hgs 8, hgs 13, hgs 18, hgs 27⟩) | (refine AWp.sreg  dd10 rfl (fun gs K hgs hK => ?_); replace hgs : Nat.succ 0 = 1 := rfl) | refine AWp.seq ?_ | refine ARounds.step ?_ | refine AWp.block ?_ | refine AWp.label ?_ | (refine AWp.ret ?_; try simp only [aThen, aBlock]) | (refine AWp.skip ?_; try simp only [aThen, aBlock]) | (refine AWp.exit ?_; try simp only [aThen, aBlock, Nat.reduceEqDiff, reduceIte]) | (refine AWp.reg  dd10 rfl (fun gs K hgs hK => ?_); replace hgs : Nat.succ 0 = 1 := rfl) | ((first | refine AWp.sregM (id := 11) fo10 (false, false) mo_fact (by kernel_rfl) (by kernel_rfl) (fun gs K hgs hK => ?_) | refine AWp.regM (id := 11) fo10 (false, false) mo_fact (by kernel_rfl) (by kernel_rfl) (fun gs K hgs hK => ?_)); replace hgs : Nat.succ 0 = 1 := rfl) | (refine aopsM_nil (hK _ ?_); clear hK K hgs gs; simp only [fo10]; simp only [ASt.prune, pruneE, keepB, keepR, Bool.or_false, Bool.or_true, Bool.true_or, Bool.false_or, reduceIte, Bool.or_self, Bool.false_eq_true, aThen, aBlock, Nat.reduceEqDiff]) | (refine aops_consG (fun K' h' => ?_); simp only [go_sem, simprocAttr, hgs, Node.cells, intC, aopG, beq_self_eq_true, bne_self_eq_false, Bool.not_false]; (try simp (disch := omega) only [wrap_id, getD_map_in, Int.toNat_natCast, Node.cells, intC, aopG, beq_self_eq_true, bne_self_eq_false, Bool.not_false]); (repeat (refine And.intro (by (first | omega | (simp; done) | (simp; omega) | assumption)) ?_)); refine h' _ ?_; clear h' K') | (refine AWp.cond rfl (fun h => ?_) (fun h => ?_) <;> (try simp only [decide_eq_true_eq, decide_eq_false_iff_not, beq_iff_eq, bne_iff_ne, ne_eq, Bool.not_eq_true', Bool.not_eq_false', beq_eq_false_iff_ne, Bool.true_eq_false, Bool.false_eq_true, Int.not_le, Int.not_lt, Bool.and_eq_true, Bool.and_eq_false_iff, Bool.or_eq_true, Bool.or_eq_false_iff, bne_eq_false_iff_eq, reduceCtorEq] at h) <;> (try first | contradiction | (exfalso; omega) | (exfalso; revert h; simp; done) | (exfalso; revert h; simp; omega)))))
    all_goals simp only [Out, outA, outL, resA, go_sem, simprocAttr]
    all_goals exact AVle.refl _
theorem fdright_all : ∀ xs, ShpAs Try.prog 8 Try.f10.params.toList xs → ACall Try.prog 10 xs (.lit (.bool true)) := by
  intro xs h
  have hp : Try.f10.params.toList = [63, 35] := by kernel_rfl
  rw [hp] at h
  obtain ⟨a, r, rfl, ha, h⟩ := h
  obtain ⟨b, r, rfl, hb, h⟩ := h
  obtain rfl : r = [] := h
  obtain ⟨q, rfl, h1, h2, h3, h4, h5, h6⟩ := qryB_shape ha
  obtain ⟨r, rfl, hr⟩ := recB_shape hb
  exact fdright_law q r h1 h2 h3 h4 h5 h6 hr
end Go.Proofs.Yteohklfoggiojaa
