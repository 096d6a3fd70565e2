/-
  The walk over Node.
-/
import Derived.Test.YteohklfoggiojaaPart2
import Derived.Test.YteohklfoggiojaaMadeM
namespace Go.Proofs.Yteohklfoggiojaa
open Go.AL Go.RowKit
set_option linter.unusedSimpArgs false
set_option linter.unusedVariables false
set_option maxRecDepth 10000
set_option maxHeartbeats 4000000
def partsV (ps : List (List Node)) : AV := .ro 1 (ps.map fun p => [nodesV p])
theorem mv0 (l : List Node) : l.map (mvN 0) = l := by
  rw [show mvN 0 = id from funext fun x => by simp [mvN]]; simp
theorem moved_ex {l : List Node} {e : Ex} (h : IsEx l e) (hl : l.length ≤ 1000) {b : Int} (hb1 : -2000 ≤ b) (hb2 : b ≤ 2000) : ACall Try.prog 54 [nodesV l, .lit (.int .i64 b)] (nodesV (l.map (mvN b))) := by
  have hp := e.sz_pos
  have hle := h.len
  refine moved_ne l b (fun h0 => by subst h0; simp at hle; omega) hl hb1 hb2 fun x hx => ?_
  have := e.ab_bd 0 x (h.2 ▸ hx)
  omega
def dd69 : Nat → List (List Nat)
  | 0 => [[], [8], [9]]
  | 1 => [[], [], [19], [20], [], [18], [21], [22]]
  | 2 => [[], [11], [23], [24], [10], [], [27], [26, 28], [25, 29], [30], [], [32], [31, 33], [34], [], [36], [37], [], [39], [38, 40], [35, 41], [42], [], [44], [43, 45], [46], [], [48], [47, 49]]
  | 3 => [[0, 1, 2, 3, 50], [], []]
  | 4 => [[50], [0], [1], [2], [51, 52, 53], [], [54]]
  | 5 => [[], []]
  | 6 => [[], [3], [], []]
  | 7 => [[], []]
  | 8 => [[58], [], [], [60], [59], [61]]
  | 9 => [[], [], [62], [63]]
  | 10 => [[], [], [64]]
  | 11 => [[12, 13, 14, 15, 55, 56, 57, 65], [16], [], [66]]
  | 12 => [[16, 65], [], [15], [13], [69], [68, 70], [67, 71], [72]]
  | 13 => [[], [14], [73]]
  | 14 => [[74], [], [75], [76], [], [77, 78]]
  | 15 => [[74], [], [79], [80], [], [81, 82]]
  | 16 => [[], [57], [83]]
  | 17 => [[55, 56, 57, 58], [13], [12], [85], [84, 86], [87]]
  | 18 => [[], [], [88], [89]]
  | 19 => [[], [], [90]]
  | 20 => [[13, 91], [17], [], [92]]
  | 21 => [[17, 91], [13], [93], []]
  | _ => []
theorem partsE_0 {k : Int} (h1 : 1 ≤ k) (h2 : k ≤ 19) : partsE k = 0 := by unfold partsE; rw [if_pos (by omega)]
theorem nNode_1 (k n p : Int) {a : List Node} {e : Ex} (hk1 : 4 < k) (hk2 : k ≤ 6) (hn : n = 0) (hp1 : 0 ≤ p) (hp2 : p ≤ 400) (hl : a.length ≤ 1000) (h : IsEx a e) (hea : errL a = 0) :
    ACall Try.prog 69 [.lit (.int .u8 k), .lit (.int .i64 n), .lit (.int .i64 p), partsV [a]] (.tup [nodesV (if errL (made1 k n p a) = 0 then made1 k n p a else []), .lit (.int .i64 (errL (made1 k n p a)))]) := by
  have hP := parts_c k
  rw [show partsN k = 1 by unfold partsN; repeat' split; all_goals omega, partsE_0 (by omega) (by omega)] at hP
  have hC1 := nCheck_c a hl
  rw [hea] at hC1
  have hM1 := moved_ex h hl (b := 0) (by omega) (by omega)
  rw [mv0] at hM1
  have h60 : a.length ≤ 60 := by unfold errL at hea; split at hea <;> omega
  have hC2 := nCheck_c (made1 k n p a) (by simp [made1]; omega)
  have ha0 : 0 < a.length := by rw [h.len]; exact e.sz_pos
  have hcs : (made1 k n p a).map Node.cells = a.map Node.cells ++ [[.lit (.int .u8 k), .lit (.int .i64 n), .lit (.int .i64 ((a.length : Int) - 1)), .lit (.int .i64 0), .lit (.int .i64 p)]] := by simp [made1, Node.cells]
  unfold partsV nodesV at *
  rw [hcs] at hC2
  generalize hem : errL (made1 k n p a) = em at *
  have htk : ∀ v : List AV, (a.map Node.cells ++ [v]).take (a.length + 1) = a.map Node.cells ++ [v] := fun v => List.take_of_length_le (by simp)
  have htk1 : (a.map Node.cells).take a.length = a.map Node.cells := List.take_of_length_le (by simp)
  refine acall_of (n := 94) (rs := [.tmp 8, .tmp 9]) Try.func69 rfl (by kernel_rfl) rfl rfl rfl ?_; simp only [argsE, Nat.reduceAdd]
  repeat (any_goals (first | (refine aops_cons (fun K' h' => ?_); simp only [go_sem, simprocAttr, hgs, Node.cells, htk, htk1, List.drop_zero]; (try ((first | refine ⟨_, hP, ?_⟩ | refine ⟨_, fun _ => hP, ?_⟩ | refine ⟨_, hC1, ?_⟩ | refine ⟨_, fun _ => hC1, ?_⟩ | refine ⟨_, hC2, ?_⟩ | refine ⟨_, fun _ => hC2, ?_⟩ | refine ⟨_, hC3, ?_⟩ | refine ⟨_, fun _ => hC3, ?_⟩ | refine ⟨_, hM1, ?_⟩ | refine ⟨_, fun _ => hM1, ?_⟩ | refine ⟨_, hM2, ?_⟩ | refine ⟨_, fun _ => hM2, ?_⟩); (try simp only [go_sem, simprocAttr, hgs, Node.cells, htk, htk1, List.drop_zero]))); (try simp (disch := omega) only [wrap_id, getD_map_in, Int.toNat_natCast, Node.cells, htk, htk1, List.drop_zero]); (repeat (refine And.intro (by (first | omega | (simp; done) | (simp; omega) | assumption)) ?_)); refine h' _ ?_; clear h' K') | (refine aops_nil (hK _ ?_); clear hK K hgs gs; try simp only [aThen, aBlock]) | ((first | refine AWp.sreg (id := 2) dd69 rfl (fun gs K hgs hK => ?_) | refine AWp.reg (id := 2) dd69 rfl (fun gs K hgs hK => ?_)); replace hgs : gs 2 = some 25 ∧ gs 8 = some 31 ∧ gs 12 = some 35 ∧ gs 15 = some 38 ∧ gs 20 = some 43 ∧ gs 24 = some 47 := ⟨hgs 2, hgs 8, hgs 12, hgs 15, hgs 20, hgs 24⟩) | (refine AWp.sreg  dd69 rfl (fun gs K hgs hK => ?_); replace hgs : Nat.succ 0 = 1 := rfl) | refine AWp.seq ?_ | refine ARounds.step ?_ | refine AWp.block ?_ | refine AWp.label ?_ | (refine AWp.ret ?_; try simp only [aThen, aBlock]) | (refine AWp.skip ?_; try simp only [aThen, aBlock]) | (refine AWp.exit ?_; try simp only [aThen, aBlock, Nat.reduceEqDiff, reduceIte]) | (refine AWp.reg  dd69 rfl (fun gs K hgs hK => ?_); replace hgs : Nat.succ 0 = 1 := rfl) | (refine aops_consG (fun K' h' => ?_); simp only [go_sem, simprocAttr, hgs, Node.cells, htk, htk1, List.drop_zero]; (try simp (disch := omega) only [wrap_id, getD_map_in, Int.toNat_natCast, Node.cells, htk, htk1, List.drop_zero]); (repeat (refine And.intro (by (first | omega | (simp; done) | (simp; omega) | assumption)) ?_)); refine h' _ ?_; clear h' K') | (refine AWp.cond rfl (fun h => ?_) (fun h => ?_) <;> (try simp only [decide_eq_true_eq, decide_eq_false_iff_not, beq_iff_eq, bne_iff_ne, ne_eq, Bool.not_eq_true', Bool.not_eq_false', beq_eq_false_iff_ne, Bool.true_eq_false, Bool.false_eq_true, Int.not_le, Int.not_lt, Bool.and_eq_true, Bool.and_eq_false_iff, Bool.or_eq_true, Bool.or_eq_false_iff, bne_eq_false_iff_eq, reduceCtorEq] at h) <;> (try first | contradiction | (exfalso; omega) | (exfalso; revert h; simp; done) | (exfalso; revert h; simp; omega)))))
  refine AWp.loopR 3 ?_
  repeat (any_goals (first | (refine aops_cons (fun K' h' => ?_); simp only [go_sem, simprocAttr, hgs, Node.cells, htk, htk1, List.drop_zero]; (try ((first | refine ⟨_, hP, ?_⟩ | refine ⟨_, fun _ => hP, ?_⟩ | refine ⟨_, hC1, ?_⟩ | refine ⟨_, fun _ => hC1, ?_⟩ | refine ⟨_, hC2, ?_⟩ | refine ⟨_, fun _ => hC2, ?_⟩ | refine ⟨_, hC3, ?_⟩ | refine ⟨_, fun _ => hC3, ?_⟩ | refine ⟨_, hM1, ?_⟩ | refine ⟨_, fun _ => hM1, ?_⟩ | refine ⟨_, hM2, ?_⟩ | refine ⟨_, fun _ => hM2, ?_⟩); (try simp only [go_sem, simprocAttr, hgs, Node.cells, htk, htk1, List.drop_zero]))); (try simp (disch := omega) only [wrap_id, getD_map_in, Int.toNat_natCast, Node.cells, htk, htk1, List.drop_zero]); (repeat (refine And.intro (by (first | omega | (simp; done) | (simp; omega) | assumption)) ?_)); refine h' _ ?_; clear h' K') | (refine aops_nil (hK _ ?_); clear hK K hgs gs; try simp only [aThen, aBlock]) | ((first | refine AWp.sreg (id := 2) dd69 rfl (fun gs K hgs hK => ?_) | refine AWp.reg (id := 2) dd69 rfl (fun gs K hgs hK => ?_)); replace hgs : gs 2 = some 25 ∧ gs 8 = some 31 ∧ gs 12 = some 35 ∧ gs 15 = some 38 ∧ gs 20 = some 43 ∧ gs 24 = some 47 := ⟨hgs 2, hgs 8, hgs 12, hgs 15, hgs 20, hgs 24⟩) | (refine AWp.sreg  dd69 rfl (fun gs K hgs hK => ?_); replace hgs : Nat.succ 0 = 1 := rfl) | refine AWp.seq ?_ | refine ARounds.step ?_ | refine AWp.block ?_ | refine AWp.label ?_ | (refine AWp.ret ?_; try simp only [aThen, aBlock]) | (refine AWp.skip ?_; try simp only [aThen, aBlock]) | (refine AWp.exit ?_; try simp only [aThen, aBlock, Nat.reduceEqDiff, reduceIte]) | (refine AWp.reg  dd69 rfl (fun gs K hgs hK => ?_); replace hgs : Nat.succ 0 = 1 := rfl) | (refine aops_consG (fun K' h' => ?_); simp only [go_sem, simprocAttr, hgs, Node.cells, htk, htk1, List.drop_zero]; (try simp (disch := omega) only [wrap_id, getD_map_in, Int.toNat_natCast, Node.cells, htk, htk1, List.drop_zero]); (repeat (refine And.intro (by (first | omega | (simp; done) | (simp; omega) | assumption)) ?_)); refine h' _ ?_; clear h' K') | (refine AWp.cond rfl (fun h => ?_) (fun h => ?_) <;> (try simp only [decide_eq_true_eq, decide_eq_false_iff_not, beq_iff_eq, bne_iff_ne, ne_eq, Bool.not_eq_true', Bool.not_eq_false', beq_eq_false_iff_ne, Bool.true_eq_false, Bool.false_eq_true, Int.not_le, Int.not_lt, Bool.and_eq_true, Bool.and_eq_false_iff, Bool.or_eq_true, Bool.or_eq_false_iff, bne_eq_false_iff_eq, reduceCtorEq] at h) <;> (try first | contradiction | (exfalso; omega) | (exfalso; revert h; simp; done) | (exfalso; revert h; simp; omega)))))
  all_goals simp only [Out, outA, outL, resA, go_sem, simprocAttr]
  · rw [if_neg (by assumption)]
    exact AVle.tup ⟨AVle.nil 5, AVle.refl _, trivial⟩
  · rw [if_pos (by assumption), hcs]
    subst em
    rw [htk, ‹errL _ = 0›]
    exact AVle.refl _
theorem nNode_2 (k n p : Int) {a b : List Node} {e f : Ex} (hk1 : 6 < k) (hk2 : k ≤ 19) (hn : n = 0) (hp1 : 0 ≤ p) (hp2 : p ≤ 400) (h : IsEx a e) (hb : IsEx b f) (hea : errL a = 0) (heb : errL b = 0) :
    ACall Try.prog 69 [.lit (.int .u8 k), .lit (.int .i64 n), .lit (.int .i64 p), partsV [a, b]] (.tup [nodesV (if errL (made2 k n p a b) = 0 then made2 k n p a b else []), .lit (.int .i64 (errL (made2 k n p a b)))]) := by
  have hP := parts_c k
  rw [show partsN k = 2 by unfold partsN; repeat' split; all_goals omega, partsE_0 (by omega) (by omega)] at hP
  have h60 : a.length ≤ 60 := by unfold errL at hea; split at hea <;> omega
  have h60b : b.length ≤ 60 := by unfold errL at heb; split at heb <;> omega
  have hC1 := nCheck_c a (by omega)
  rw [hea] at hC1
  have hM1 := moved_ex h (by omega) (b := 0) (by omega) (by omega)
  rw [mv0] at hM1
  have hC3 := nCheck_c b (by omega)
  rw [heb] at hC3
  have hM2 := moved_ex hb (by omega) (b := (a.length : Int)) (by omega) (by omega)
  have hC2 := nCheck_c (made2 k n p a b) (by simp [made2]; omega)
  have ha0 : 0 < a.length := by rw [h.len]; exact e.sz_pos
  have hb0 : 0 < b.length := by rw [hb.len]; exact f.sz_pos
  have hcs : (made2 k n p a b).map Node.cells = a.map Node.cells ++ (b.map (mvN (a.length : Int))).map Node.cells ++ [[.lit (.int .u8 k), .lit (.int .i64 n), .lit (.int .i64 ((a.length : Int) - 1)), .lit (.int .i64 ((a.length : Int) + b.length - 1)), .lit (.int .i64 p)]] := by simp [made2, Node.cells]
  unfold partsV nodesV at *
  rw [hcs] at hC2
  generalize hem : errL (made2 k n p a b) = em at *
  obtain ⟨c, hc⟩ : ∃ c, b.map (mvN (a.length : Int)) = c := ⟨_, rfl⟩
  have hcl : c.length = b.length := by rw [← hc]; simp
  rw [hc] at hM2 hcs hC2
  rw [← hcl] at hcs hC2
  have htk : ∀ v : List AV, (a.map Node.cells ++ c.map Node.cells ++ [v]).take (a.length + c.length + 1) = a.map Node.cells ++ c.map Node.cells ++ [v] := fun v => List.take_of_length_le (by simp; omega)
  have htk2 : (a.map Node.cells ++ c.map Node.cells).take (a.length + c.length) = a.map Node.cells ++ c.map Node.cells := List.take_of_length_le (by simp)
  have htk1 : (a.map Node.cells).take a.length = a.map Node.cells := List.take_of_length_le (by simp)
  refine acall_of (n := 94) (rs := [.tmp 8, .tmp 9]) Try.func69 rfl (by kernel_rfl) rfl rfl rfl ?_; simp only [argsE, Nat.reduceAdd]
  repeat (any_goals (first | (refine aops_cons (fun K' h' => ?_); simp only [go_sem, simprocAttr, hgs, Node.cells, htk, htk2, htk1, List.drop_zero, Int.reduceAdd]; (try ((first | refine ⟨_, hP, ?_⟩ | refine ⟨_, fun _ => hP, ?_⟩ | refine ⟨_, hC1, ?_⟩ | refine ⟨_, fun _ => hC1, ?_⟩ | refine ⟨_, hC2, ?_⟩ | refine ⟨_, fun _ => hC2, ?_⟩ | refine ⟨_, hC3, ?_⟩ | refine ⟨_, fun _ => hC3, ?_⟩ | refine ⟨_, hM1, ?_⟩ | refine ⟨_, fun _ => hM1, ?_⟩ | refine ⟨_, hM2, ?_⟩ | refine ⟨_, fun _ => hM2, ?_⟩); (try simp only [go_sem, simprocAttr, hgs, Node.cells, htk, htk2, htk1, List.drop_zero, Int.reduceAdd]))); (try simp (disch := omega) only [wrap_id, getD_map_in, Int.toNat_natCast, Node.cells, htk, htk2, htk1, List.drop_zero, Int.reduceAdd]); (repeat (refine And.intro (by (first | omega | (simp; done) | (simp; omega) | assumption)) ?_)); refine h' _ ?_; clear h' K') | (refine aops_nil (hK _ ?_); clear hK K hgs gs; try simp only [aThen, aBlock]) | ((first | refine AWp.sreg (id := 2) dd69 rfl (fun gs K hgs hK => ?_) | refine AWp.reg (id := 2) dd69 rfl (fun gs K hgs hK => ?_)); replace hgs : gs 2 = some 25 ∧ gs 8 = some 31 ∧ gs 12 = some 35 ∧ gs 15 = some 38 ∧ gs 20 = some 43 ∧ gs 24 = some 47 := ⟨hgs 2, hgs 8, hgs 12, hgs 15, hgs 20, hgs 24⟩) | (refine AWp.sreg  dd69 rfl (fun gs K hgs hK => ?_); replace hgs : Nat.succ 0 = 1 := rfl) | refine AWp.seq ?_ | refine ARounds.step ?_ | refine AWp.block ?_ | refine AWp.label ?_ | (refine AWp.ret ?_; try simp only [aThen, aBlock]) | (refine AWp.skip ?_; try simp only [aThen, aBlock]) | (refine AWp.exit ?_; try simp only [aThen, aBlock, Nat.reduceEqDiff, reduceIte]) | (refine AWp.reg  dd69 rfl (fun gs K hgs hK => ?_); replace hgs : Nat.succ 0 = 1 := rfl) | (refine aops_consG (fun K' h' => ?_); simp only [go_sem, simprocAttr, hgs, Node.cells, htk, htk2, htk1, List.drop_zero, Int.reduceAdd]; (try simp (disch := omega) only [wrap_id, getD_map_in, Int.toNat_natCast, Node.cells, htk, htk2, htk1, List.drop_zero, Int.reduceAdd]); (repeat (refine And.intro (by (first | omega | (simp; done) | (simp; omega) | assumption)) ?_)); refine h' _ ?_; clear h' K') | (refine AWp.cond rfl (fun h => ?_) (fun h => ?_) <;> (try simp only [decide_eq_true_eq, decide_eq_false_iff_not, beq_iff_eq, bne_iff_ne, ne_eq, Bool.not_eq_true', Bool.not_eq_false', beq_eq_false_iff_ne, Bool.true_eq_false, Bool.false_eq_true, Int.not_le, Int.not_lt, Bool.and_eq_true, Bool.and_eq_false_iff, Bool.or_eq_true, Bool.or_eq_false_iff, bne_eq_false_iff_eq, reduceCtorEq] at h) <;> (try first | contradiction | (exfalso; omega) | (exfalso; revert h; simp; done) | (exfalso; revert h; simp; omega)))))
  refine AWp.loopR 3 ?_
  repeat (any_goals (first | (refine aops_cons (fun K' h' => ?_); simp only [go_sem, simprocAttr, hgs, Node.cells, htk, htk2, htk1, List.drop_zero, Int.reduceAdd]; (try ((first | refine ⟨_, hP, ?_⟩ | refine ⟨_, fun _ => hP, ?_⟩ | refine ⟨_, hC1, ?_⟩ | refine ⟨_, fun _ => hC1, ?_⟩ | refine ⟨_, hC2, ?_⟩ | refine ⟨_, fun _ => hC2, ?_⟩ | refine ⟨_, hC3, ?_⟩ | refine ⟨_, fun _ => hC3, ?_⟩ | refine ⟨_, hM1, ?_⟩ | refine ⟨_, fun _ => hM1, ?_⟩ | refine ⟨_, hM2, ?_⟩ | refine ⟨_, fun _ => hM2, ?_⟩); (try simp only [go_sem, simprocAttr, hgs, Node.cells, htk, htk2, htk1, List.drop_zero, Int.reduceAdd]))); (try simp (disch := omega) only [wrap_id, getD_map_in, Int.toNat_natCast, Node.cells, htk, htk2, htk1, List.drop_zero, Int.reduceAdd]); (repeat (refine And.intro (by (first | omega | (simp; done) | (simp; omega) | assumption)) ?_)); refine h' _ ?_; clear h' K') | (refine aops_nil (hK _ ?_); clear hK K hgs gs; try simp only [aThen, aBlock]) | ((first | refine AWp.sreg (id := 2) dd69 rfl (fun gs K hgs hK => ?_) | refine AWp.reg (id := 2) dd69 rfl (fun gs K hgs hK => ?_)); replace hgs : gs 2 = some 25 ∧ gs 8 = some 31 ∧ gs 12 = some 35 ∧ gs 15 = some 38 ∧ gs 20 = some 43 ∧ gs 24 = some 47 := ⟨hgs 2, hgs 8, hgs 12, hgs 15, hgs 20, hgs 24⟩) | (refine AWp.sreg  dd69 rfl (fun gs K hgs hK => ?_); replace hgs : Nat.succ 0 = 1 := rfl) | refine AWp.seq ?_ | refine ARounds.step ?_ | refine AWp.block ?_ | refine AWp.label ?_ | (refine AWp.ret ?_; try simp only [aThen, aBlock]) | (refine AWp.skip ?_; try simp only [aThen, aBlock]) | (refine AWp.exit ?_; try simp only [aThen, aBlock, Nat.reduceEqDiff, reduceIte]) | (refine AWp.reg  dd69 rfl (fun gs K hgs hK => ?_); replace hgs : Nat.succ 0 = 1 := rfl) | (refine aops_consG (fun K' h' => ?_); simp only [go_sem, simprocAttr, hgs, Node.cells, htk, htk2, htk1, List.drop_zero, Int.reduceAdd]; (try simp (disch := omega) only [wrap_id, getD_map_in, Int.toNat_natCast, Node.cells, htk, htk2, htk1, List.drop_zero, Int.reduceAdd]); (repeat (refine And.intro (by (first | omega | (simp; done) | (simp; omega) | assumption)) ?_)); refine h' _ ?_; clear h' K') | (refine AWp.cond rfl (fun h => ?_) (fun h => ?_) <;> (try simp only [decide_eq_true_eq, decide_eq_false_iff_not, beq_iff_eq, bne_iff_ne, ne_eq, Bool.not_eq_true', Bool.not_eq_false', beq_eq_false_iff_ne, Bool.true_eq_false, Bool.false_eq_true, Int.not_le, Int.not_lt, Bool.and_eq_true, Bool.and_eq_false_iff, Bool.or_eq_true, Bool.or_eq_false_iff, bne_eq_false_iff_eq, reduceCtorEq] at h) <;> (try first | contradiction | (exfalso; omega) | (exfalso; revert h; simp; done) | (exfalso; revert h; simp; omega)))))
  all_goals simp only [Out, outA, outL, resA, go_sem, simprocAttr]
  · rw [if_neg (by assumption)]
    exact AVle.tup ⟨AVle.nil 5, AVle.refl _, trivial⟩
  · rw [if_pos (by assumption), hcs]
    subst em
    rw [htk, ‹errL _ = 0›]
    exact AVle.refl _
theorem nNode_0 (k n p : Int) (h : (⟨k, n, p⟩ : Hd).ok) (hk : k ≤ 4) (hn : n ≤ 9223372036854775807) :
    ACall Try.prog 69 [.lit (.int .u8 k), .lit (.int .i64 n), .lit (.int .i64 p), .lit (.slice none 0 0)] (.tup [nodesV [⟨k, n, 0, 0, p⟩], .lit (.int .i64 0)]) := by
  have hP := parts_c k
  obtain ⟨k1, k2, n0, n1, p0, p1⟩ := h
  simp only at k1 k2 n0 n1 p0 p1
  rw [show partsN k = 0 by unfold partsN; rw [if_pos (by omega)], partsE_0 (by omega) (by omega)] at hP
  have hx : IsEx [⟨k, n, 0, 0, p⟩] (.leaf ⟨k, n, p⟩) := ⟨⟨⟨k1, k2, n0, n1, p0, p1⟩, hk⟩, rfl⟩
  have hC1 := nCheck_c [⟨k, n, 0, 0, p⟩] (by simp)
  rw [errL_of hx (by simp [Ex.sz]) (by simp [Ex.dp])] at hC1
  unfold nodesV at *
  refine acall_of (n := 94) (rs := [.tmp 8, .tmp 9]) Try.func69 rfl (by kernel_rfl) rfl rfl rfl ?_; simp only [argsE, Nat.reduceAdd]
  repeat (any_goals (first | (refine aops_cons (fun K' h' => ?_); simp only [go_sem, simprocAttr, hgs, Node.cells]; (try ((first | refine ⟨_, hP, ?_⟩ | refine ⟨_, fun _ => hP, ?_⟩ | refine ⟨_, hC1, ?_⟩ | refine ⟨_, fun _ => hC1, ?_⟩ | refine ⟨_, hC2, ?_⟩ | refine ⟨_, fun _ => hC2, ?_⟩ | refine ⟨_, hC3, ?_⟩ | refine ⟨_, fun _ => hC3, ?_⟩ | refine ⟨_, hM1, ?_⟩ | refine ⟨_, fun _ => hM1, ?_⟩ | refine ⟨_, hM2, ?_⟩ | refine ⟨_, fun _ => hM2, ?_⟩); (try simp only [go_sem, simprocAttr, hgs, Node.cells]))); (try simp (disch := omega) only [wrap_id, getD_map_in, Int.toNat_natCast, Node.cells]); (repeat (refine And.intro (by (first | omega | (simp; done) | (simp; omega) | assumption)) ?_)); refine h' _ ?_; clear h' K') | (refine aops_nil (hK _ ?_); clear hK K hgs gs; try simp only [aThen, aBlock]) | ((first | refine AWp.sreg (id := 2) dd69 rfl (fun gs K hgs hK => ?_) | refine AWp.reg (id := 2) dd69 rfl (fun gs K hgs hK => ?_)); replace hgs : gs 2 = some 25 ∧ gs 8 = some 31 ∧ gs 12 = some 35 ∧ gs 15 = some 38 ∧ gs 20 = some 43 ∧ gs 24 = some 47 := ⟨hgs 2, hgs 8, hgs 12, hgs 15, hgs 20, hgs 24⟩) | (refine AWp.sreg  dd69 rfl (fun gs K hgs hK => ?_); replace hgs : Nat.succ 0 = 1 := rfl) | refine AWp.seq ?_ | refine ARounds.step ?_ | refine AWp.block ?_ | refine AWp.label ?_ | (refine AWp.ret ?_; try simp only [aThen, aBlock]) | (refine AWp.skip ?_; try simp only [aThen, aBlock]) | (refine AWp.exit ?_; try simp only [aThen, aBlock, Nat.reduceEqDiff, reduceIte]) | (refine AWp.reg  dd69 rfl (fun gs K hgs hK => ?_); replace hgs : Nat.succ 0 = 1 := rfl) | (refine aops_consG (fun K' h' => ?_); simp only [go_sem, simprocAttr, hgs, Node.cells]; (try simp (disch := omega) only [wrap_id, getD_map_in, Int.toNat_natCast, Node.cells]); (repeat (refine And.intro (by (first | omega | (simp; done) | (simp; omega) | assumption)) ?_)); refine h' _ ?_; clear h' K') | (refine AWp.cond rfl (fun h => ?_) (fun h => ?_) <;> (try simp only [decide_eq_true_eq, decide_eq_false_iff_not, beq_iff_eq, bne_iff_ne, ne_eq, Bool.not_eq_true', Bool.not_eq_false', beq_eq_false_iff_ne, Bool.true_eq_false, Bool.false_eq_true, Int.not_le, Int.not_lt, Bool.and_eq_true, Bool.and_eq_false_iff, Bool.or_eq_true, Bool.or_eq_false_iff, bne_eq_false_iff_eq, reduceCtorEq] at h) <;> (try first | contradiction | (exfalso; omega) | (exfalso; revert h; simp; done) | (exfalso; revert h; simp; omega)))))
  refine AWp.loopR 1 ?_
  repeat (any_goals (first | (refine aops_cons (fun K' h' => ?_); simp only [go_sem, simprocAttr, hgs, Node.cells]; (try ((first | refine ⟨_, hP, ?_⟩ | refine ⟨_, fun _ => hP, ?_⟩ | refine ⟨_, hC1, ?_⟩ | refine ⟨_, fun _ => hC1, ?_⟩ | refine ⟨_, hC2, ?_⟩ | refine ⟨_, fun _ => hC2, ?_⟩ | refine ⟨_, hC3, ?_⟩ | refine ⟨_, fun _ => hC3, ?_⟩ | refine ⟨_, hM1, ?_⟩ | refine ⟨_, fun _ => hM1, ?_⟩ | refine ⟨_, hM2, ?_⟩ | refine ⟨_, fun _ => hM2, ?_⟩); (try simp only [go_sem, simprocAttr, hgs, Node.cells]))); (try simp (disch := omega) only [wrap_id, getD_map_in, Int.toNat_natCast, Node.cells]); (repeat (refine And.intro (by (first | omega | (simp; done) | (simp; omega) | assumption)) ?_)); refine h' _ ?_; clear h' K') | (refine aops_nil (hK _ ?_); clear hK K hgs gs; try simp only [aThen, aBlock]) | ((first | refine AWp.sreg (id := 2) dd69 rfl (fun gs K hgs hK => ?_) | refine AWp.reg (id := 2) dd69 rfl (fun gs K hgs hK => ?_)); replace hgs : gs 2 = some 25 ∧ gs 8 = some 31 ∧ gs 12 = some 35 ∧ gs 15 = some 38 ∧ gs 20 = some 43 ∧ gs 24 = some 47 := ⟨hgs 2, hgs 8, hgs 12, hgs 15, hgs 20, hgs 24⟩) | (refine AWp.sreg  dd69 rfl (fun gs K hgs hK => ?_); replace hgs : Nat.succ 0 = 1 := rfl) | refine AWp.seq ?_ | refine ARounds.step ?_ | refine AWp.block ?_ | refine AWp.label ?_ | (refine AWp.ret ?_; try simp only [aThen, aBlock]) | (refine AWp.skip ?_; try simp only [aThen, aBlock]) | (refine AWp.exit ?_; try simp only [aThen, aBlock, Nat.reduceEqDiff, reduceIte]) | (refine AWp.reg  dd69 rfl (fun gs K hgs hK => ?_); replace hgs : Nat.succ 0 = 1 := rfl) | (refine aops_consG (fun K' h' => ?_); simp only [go_sem, simprocAttr, hgs, Node.cells]; (try simp (disch := omega) only [wrap_id, getD_map_in, Int.toNat_natCast, Node.cells]); (repeat (refine And.intro (by (first | omega | (simp; done) | (simp; omega) | assumption)) ?_)); refine h' _ ?_; clear h' K') | (refine AWp.cond rfl (fun h => ?_) (fun h => ?_) <;> (try simp only [decide_eq_true_eq, decide_eq_false_iff_not, beq_iff_eq, bne_iff_ne, ne_eq, Bool.not_eq_true', Bool.not_eq_false', beq_eq_false_iff_ne, Bool.true_eq_false, Bool.false_eq_true, Int.not_le, Int.not_lt, Bool.and_eq_true, Bool.and_eq_false_iff, Bool.or_eq_true, Bool.or_eq_false_iff, bne_eq_false_iff_eq, reduceCtorEq] at h) <;> (try first | contradiction | (exfalso; omega) | (exfalso; revert h; simp; done) | (exfalso; revert h; simp; omega)))))
  all_goals simp only [Out, outA, outL, resA, go_sem, simprocAttr]
  all_goals exact AVle.refl _
end Go.Proofs.Yteohklfoggiojaa
