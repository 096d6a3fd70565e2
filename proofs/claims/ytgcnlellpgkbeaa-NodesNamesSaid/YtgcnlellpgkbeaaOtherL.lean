/-
  The law NodesOther.
-/
import Derived.Test.YtgcnlellpgkbeaaSameL
namespace Go.Proofs.Ytgcnlellpgkbeaa
open Go.AL Go.RowKit
set_option linter.unusedSimpArgs false
set_option linter.unusedVariables false
set_option maxRecDepth 10000
set_option maxHeartbeats 4000000

theorem getD_set_self {α : Type} [Inhabited α] {l : List α} {j : Nat} {y : α} (hj : j < l.length) : (l.set j y).getD j default = y := by
  rw [List.getD_eq_getElem?_getD, List.getElem?_set_self hj]; rfl
theorem set_kinds {l : List Node} {j : Nat} {y : Node} (hj : j < l.length) (h : y.kind = (l.getD j default).kind) : (l.set j y).map Node.kind = l.map Node.kind := by
  rw [List.map_set, h]
  refine List.ext_getElem (by simp) fun i h1 h2 => ?_
  rw [List.getElem_set]
  split
  · rename_i e; subst e
    simp [List.getD_eq_getElem?_getD, List.getElem?_eq_getElem hj]
  · rfl
theorem map_at {β : Type} [Inhabited β] {l m : List Node} {f : Node → β} (h : l.map f = m.map f) (hl : l.length = m.length) {j : Nat} (hj : j < l.length) : f (l.getD j default) = f (m.getD j default) := by
  have h1 : (l.map f)[j]? = (m.map f)[j]? := by rw [h]
  simp only [List.getElem?_map, List.getElem?_eq_getElem hj, List.getElem?_eq_getElem (show j < m.length by omega), Option.map_some, Option.some.injEq] at h1
  simp only [List.getD_eq_getElem?_getD, List.getElem?_eq_getElem hj, List.getElem?_eq_getElem (show j < m.length by omega), Option.getD_some]
  exact h1
/-- another index: no expression -/
theorem other_ab {l : List Node} {e : Ex} (hx : IsEx l e) (h60 : l.length ≤ 60) {j : Nat} (hj : j < l.length) {y : Node} (hk : y.kind = (l.getD j default).kind) (hab : y.a ≠ (l.getD j default).a ∨ y.b ≠ (l.getD j default).b) : errL (l.set j y) = 8 := by
  refine errL_bad (by simpa using h60) fun f hf => ?_
  obtain ⟨_, _, h1, h2⟩ := hf.det hx (set_kinds hj hk)
  have h1 := map_at h1 (by simp) (by simpa using hj)
  have h2 := map_at h2 (by simp) (by simpa using hj)
  rw [getD_set_self hj] at h1 h2
  rcases hab with h | h
  · exact h h1
  · exact h h2
theorem other_n {l : List Node} (h60 : l.length ≤ 60) {j : Nat} (hj : j < l.length) {y : Node} (hk : y.kind ≠ 1) (hn : y.n ≠ 0) : errL (l.set j y) = 8 := by
  refine errL_bad (by simpa using h60) fun f hf => ?_
  have := (hf.hd y (List.mem_iff_getElem.2 ⟨j, by simpa using hj, by simp⟩)).n1
  exact this.elim (fun h => hn h) fun h => hk h
theorem other_same {l : List Node} {j : Nat} (hj : j < l.length) {y : Node} (h : y.setp 0 ≠ (l.getD j default).setp 0) : sameN l (l.set j y) = false := by
  cases hs : sameN l (l.set j y) with
  | false => rfl
  | true => have := sameN_at hs j; rw [getD_set_self hj] at this; exact absurd this.symm h
theorem same_any (a b : List Node) (ha : a.length ≤ 1000) (hb : b.length ≤ 1000) (h : errL a = 0) (hs : sameN a b = false) : ACall Try.prog 41 [nodesV a, nodesV b] (.tup [.lit (.bool false), .lit (.int .i64 (errL b))]) := by
  by_cases hb0 : errL b = 0
  · have := nSame_ok a b ha hb h hb0; rw [hs] at this; rw [hb0]; exact this
  · exact nSame_badB a b ha hb h hb0

def dd10 : Nat → List (List Nat)
  | 0 => [[], [8]]
  | 1 => [[], [], [14], [15], [], [17], [18], [16, 19], [20], [], [22], [21, 23], [24], [], [], [27], [26, 28], [25, 29], [30], [], [32], [31, 33], [34], [], [36], [35, 37], [38], [], [40], [39, 41]]
  | 2 => [[0, 1, 2, 3, 42], [], [43]]
  | 3 => [[42], [], [], [44, 45], [46]]
  | 4 => [[], [], [], [48, 49], [50], [51], [52], [53], [], [47], [54], [55]]
  | 5 => [[], [11], [56]]
  | 6 => [[0, 1, 2, 3, 9, 10, 57], []]
  | 7 => [[57], [2]]
  | 8 => [[105], [], [], [], [61], [62], [3], [63, 64], [59, 60], [66], [65, 67]]
  | 9 => [[], [], [1], [68, 69], [70], [71], [72], [73], [], [75], [76], [74, 77]]
  | 10 => [[0, 9, 10, 78], []]
  | 11 => [[], [], [80]]
  | 12 => [[58, 79], [], [1], [], [83], [84], [3], [86], [85, 87], [81, 82], [89], [88, 90]]
  | 13 => [[79], [], [92]]
  | 14 => [[58, 91], [], [1], [], [95], [96], [3], [97, 98], [93, 94], [100], [99, 101]]
  | 15 => [[], [], [102], [103]]
  | 16 => [[0, 9, 10, 104], []]
  | 17 => [[91], [58], [106]]
  | 18 => [[105], [], [1], [], [109], [110], [3], [111, 112], [107, 108], [114], [113, 115]]
  | 19 => [[], [], [116], [117]]
  | 20 => [[0, 9, 10, 118], []]
  | 21 => [[78, 104, 118], [], [119], [120]]
  | 22 => [[0, 9, 121], [10], [122], [123], [], [124, 125], [126]]
  | 23 => [[10, 121], [0], [9], [128, 129], [130], [], [127], [131], [132]]
  | 24 => [[], [13], [133], [134], [12], [136], [135, 137], [138], [], [139, 140], [141]]
  | _ => []
theorem other_law (l : List Node) (i w d : Int) (hma : l.length ≤ maxLen) (hi1 : -9223372036854775808 ≤ i) (hi2 : i ≤ 9223372036854775807) (hd1 : -9223372036854775808 ≤ d) (hd2 : d ≤ 9223372036854775807)
    (hnn : ∀ x ∈ l, x.n ≤ 9223372036854775807) : ACall Try.prog 10 [nodesV l, .lit (.int .i64 i), .lit (.int .i64 w), .lit (.int .i64 d)] (.lit (.bool true)) := by
  have hG := great_c l
  have hC := rCheck_all l hma
  unfold maxLen at hma
  by_cases hv : l.length ≤ 70 ∧ errL l = 0 ∧ 0 ≤ i ∧ i < l.length ∧ d ≠ 0 ∧ -100 ≤ d ∧ d ≤ 100
  · obtain ⟨hl, h0, hi0, hil, hd0, hdl, hdh⟩ := hv
    obtain ⟨j, rfl⟩ : ∃ j : Nat, i = j := ⟨i.toNat, by omega⟩
    have hj : j < l.length := by omega
    obtain ⟨e, ht, hx, hsz, hdp⟩ := errL_ok h0
    have h60 : l.length ≤ 60 := by rw [hx.len]; exact hsz
    obtain ⟨y, hy⟩ : ∃ y, l.getD j default = y := ⟨_, rfl⟩
    have hym : y ∈ l := by rw [← hy, List.getD_eq_getElem?_getD, List.getElem?_eq_getElem hj]; exact List.getElem_mem _
    have hyn := hnn y hym
    have hyo := hx.hd y hym
    have hyb := e.ab_bd 0 y (hx.2 ▸ hym)
    have hP := parts_c y.kind
    rw [show partsE y.kind = 0 from partsE_ok hyo] at hP
    have hpn := partsN_range y.kind
    rw [h0] at hC
    obtain ⟨kd, nn, xa, xb, xp⟩ := y
    have hk1 := hyo.k1
    have hk2 := hyo.k2
    have hn0 := hyo.n0
    have hn1 := hyo.n1
    simp only [Node.hd] at hyn hyb hP hpn hk1 hk2 hn0 hn1
    have htk : ∀ v, ((l.map Node.cells).set j v).take l.length = (l.map Node.cells).set j v := fun v => List.take_of_length_le (by simp)
    have htk2 : (l.map Node.cells).take l.length = l.map Node.cells := List.take_of_length_le (by simp)
    have hset : ∀ v, ((l.map Node.cells).set j v).getD j [] = v := fun v => by
      rw [List.getD_eq_getElem?_getD, List.getElem?_set_self (by simpa using hj)]; rfl
    have hm : ∀ z : Node, (l.map Node.cells).set j z.cells = (l.set j z).map Node.cells := fun z => by rw [List.map_set]
    have con : ∀ z : Node, ACall Try.prog 27 [.ro 5 ((l.map Node.cells).set j z.cells)] (.lit (.int .i64 (errL (l.set j z)))) := fun z => by
      rw [hm]; exact nCheck_c (l.set j z) (by simp; omega)
    have cos : ∀ z : Node, z.setp 0 ≠ (⟨kd, nn, xa, xb, xp⟩ : Node).setp 0 → ACall Try.prog 41 [.ro 5 (l.map Node.cells), .ro 5 ((l.map Node.cells).set j z.cells)] (.tup [.lit (.bool false), .lit (.int .i64 (errL (l.set j z)))]) := fun z hz => by
      rw [hm]; exact same_any l (l.set j z) (by omega) (by simp; omega) h0 (other_same hj (by rw [hy]; exact hz))
    have eab : ∀ z : Node, z.kind = kd → (z.a ≠ xa ∨ z.b ≠ xb) → errL (l.set j z) = 8 := fun z h1 h2 => other_ab hx h60 hj (by rw [hy]; exact h1) (by rw [hy]; exact h2)
    have en : ∀ z : Node, z.kind ≠ 1 → z.n ≠ 0 → errL (l.set j z) = 8 := fun z h1 h2 => other_n h60 hj h1 h2
    generalize partsN kd = pn at *
    by_cases w0 : w = 0
    · subst w0
      obtain ⟨k', hk'⟩ : ∃ k', IntKind.u8.wrap (kd + IntKind.u8.wrap d) = k' := ⟨_, rfl⟩
      have hkk : k' ≠ kd := by rw [← hk', IntKind.wrap_u8, IntKind.wrap_u8]; omega
      have hM := con ⟨k', nn, xa, xb, xp⟩
      have hS := cos ⟨k', nn, xa, xb, xp⟩ (by simp [Node.setp]; omega)
      generalize errL (l.set j ⟨k', nn, xa, xb, xp⟩) = em at *
      unfold nodesV Node.cells at *
      refine acall_of (n := 142) (rs := [.tmp 8]) Try.func10 rfl (by kernel_rfl) rfl rfl rfl ?_; simp only [argsE, Nat.reduceAdd]
      repeat (any_goals (first | (refine aops_cons (fun K' h' => ?_); simp only [go_sem, Nat.reduceLT, Nat.reduceLeDiff, Nat.reduceEqDiff, reduceIte, Nat.reduceAdd, Nat.reduceMul, Nat.reduceSub, Int.reduceLT, Int.reduceLE, Int.reduceToNat, Int.reduceNeg, reduceCtorEq, hgs, Node.cells, Option.toArray_none, Option.toArray_some, List.toList_toArray, hy, htk, htk2, hset, hk', List.drop_zero]; (try simp (disch := omega) only [wrap_id, getD_map_in, Int.toNat_natCast, Node.cells, Option.toArray_none, Option.toArray_some, List.toList_toArray, hy, htk, htk2, hset, hk', List.drop_zero]); (repeat (refine And.intro (by (first | omega | (simp; done) | (simp; omega) | assumption)) ?_)); refine h' _ ?_; clear h' K') | (refine aops_nil (hK _ ?_); clear hK K hgs gs; try simp only [aThen, aBlock]) | ((first | refine aops_cons (fun K' h' => ?_) | refine aopsD_cons (fun K' h' => ?_)); simp only [go_sem, Nat.reduceLT, Nat.reduceLeDiff, Nat.reduceEqDiff, reduceIte, Nat.reduceAdd, Nat.reduceMul, Nat.reduceSub, Int.reduceLT, Int.reduceLE, Int.reduceToNat, Int.reduceNeg, reduceCtorEq, hgs, Node.cells, Option.toArray_none, Option.toArray_some, List.toList_toArray, hy, htk, htk2, hset, hk', List.drop_zero]; (first | refine ⟨_, hG, ?_⟩ | refine ⟨_, fun _ => hG, ?_⟩ | refine ⟨_, hC, ?_⟩ | refine ⟨_, fun _ => hC, ?_⟩ | refine ⟨_, alive_c, ?_⟩ | refine ⟨_, fun _ => alive_c, ?_⟩ | refine ⟨_, hS, ?_⟩ | refine ⟨_, fun _ => hS, ?_⟩ | refine ⟨_, hP, ?_⟩ | refine ⟨_, fun _ => hP, ?_⟩ | refine ⟨_, hM, ?_⟩ | refine ⟨_, fun _ => hM, ?_⟩); (try simp only [go_sem, Nat.reduceLT, Nat.reduceLeDiff, Nat.reduceEqDiff, reduceIte, Nat.reduceAdd, Nat.reduceMul, Nat.reduceSub, Int.reduceLT, Int.reduceLE, Int.reduceToNat, Int.reduceNeg, reduceCtorEq, hgs, Node.cells, Option.toArray_none, Option.toArray_some, List.toList_toArray, hy, htk, htk2, hset, hk', List.drop_zero]); (repeat (refine And.intro (by (first | omega | (simp; done) | (simp; omega) | assumption)) ?_)); refine h' _ ?_; clear h' K') | (refine AWp.sreg (id := 1) dd10 rfl (fun gs K hgs hK => ?_); replace hgs : gs 2 = some 16 ∧ gs 7 = some 21 ∧ gs 11 = some 25 ∧ gs 17 = some 31 ∧ gs 21 = some 35 ∧ gs 25 = some 39 := ⟨hgs 2, hgs 7, hgs 11, hgs 17, hgs 21, hgs 25⟩) | (refine AWp.sreg (id := 9) dd10 rfl (fun gs K hgs hK => ?_); replace hgs : gs 6 = some 74 := hgs 6) | (refine AWp.sreg (id := 22) dd10 rfl (fun gs K hgs hK => ?_); replace hgs : gs 2 = some 124 := hgs 2) | (refine AWp.sreg (id := 24) dd10 rfl (fun gs K hgs hK => ?_); replace hgs : gs 2 = some 135 ∧ gs 6 = some 139 := ⟨hgs 2, hgs 6⟩) | (refine AWp.reg (id := 1) dd10 rfl (fun gs K hgs hK => ?_); replace hgs : gs 2 = some 16 ∧ gs 7 = some 21 ∧ gs 11 = some 25 ∧ gs 17 = some 31 ∧ gs 21 = some 35 ∧ gs 25 = some 39 := ⟨hgs 2, hgs 7, hgs 11, hgs 17, hgs 21, hgs 25⟩) | (refine AWp.reg (id := 9) dd10 rfl (fun gs K hgs hK => ?_); replace hgs : gs 6 = some 74 := hgs 6) | (refine AWp.reg (id := 22) dd10 rfl (fun gs K hgs hK => ?_); replace hgs : gs 2 = some 124 := hgs 2) | (refine AWp.reg (id := 24) dd10 rfl (fun gs K hgs hK => ?_); replace hgs : gs 2 = some 135 ∧ gs 6 = some 139 := ⟨hgs 2, hgs 6⟩) | (refine AWp.sreg  dd10 rfl (fun gs K hgs hK => ?_); replace hgs : Nat.succ 0 = 1 := rfl) | refine AWp.seq ?_ | refine ARounds.step ?_ | refine AWp.block ?_ | refine AWp.label ?_ | (refine AWp.ret ?_; try simp only [aThen, aBlock]) | (refine AWp.skip ?_; try simp only [aThen, aBlock]) | (refine AWp.exit ?_; try simp only [aThen, aBlock, Nat.reduceEqDiff, reduceIte]) | (refine AWp.reg  dd10 rfl (fun gs K hgs hK => ?_); replace hgs : Nat.succ 0 = 1 := rfl) | (refine AWp.cond rfl (fun h => ?_) (fun h => ?_) <;> (try simp only [decide_eq_true_eq, decide_eq_false_iff_not, beq_iff_eq, bne_iff_ne, ne_eq, Bool.not_eq_true', Bool.not_eq_false', beq_eq_false_iff_ne, Bool.true_eq_false, Bool.false_eq_true, Int.not_le, Int.not_lt, Bool.and_eq_true, Bool.and_eq_false_iff, Bool.or_eq_true, Bool.or_eq_false_iff, bne_eq_false_iff_eq, reduceCtorEq] at h) <;> (try first | contradiction | (exfalso; omega) | (exfalso; revert h; simp; done) | (exfalso; revert h; simp; omega)))))
      all_goals simp only [Out, outA, outL, resA, go_sem, Nat.reduceLT, Nat.reduceLeDiff, Nat.reduceEqDiff, reduceIte, Nat.reduceAdd, Nat.reduceMul, Nat.reduceSub, Int.reduceLT, Int.reduceLE, Int.reduceToNat, Int.reduceNeg, reduceCtorEq]
      all_goals refine AVle.of_eq (congrArg (fun b => AV.lit (.bool b)) ?_)
      all_goals first
        | (simp; done)
        | (simp; omega)
    by_cases w1 : w = 1
    · subst w1
      have hE := eab ⟨kd, nn, xa + d, xb, xp⟩ rfl (.inl (by simp; omega))
      have hM := con ⟨kd, nn, xa + d, xb, xp⟩
      have hS := cos ⟨kd, nn, xa + d, xb, xp⟩ (by simp [Node.setp]; omega)
      rw [hE] at hM hS
      unfold nodesV Node.cells at *
      refine acall_of (n := 142) (rs := [.tmp 8]) Try.func10 rfl (by kernel_rfl) rfl rfl rfl ?_; simp only [argsE, Nat.reduceAdd]
      repeat (any_goals (first | (refine aops_cons (fun K' h' => ?_); simp only [go_sem, Nat.reduceLT, Nat.reduceLeDiff, Nat.reduceEqDiff, reduceIte, Nat.reduceAdd, Nat.reduceMul, Nat.reduceSub, Int.reduceLT, Int.reduceLE, Int.reduceToNat, Int.reduceNeg, reduceCtorEq, hgs, Node.cells, Option.toArray_none, Option.toArray_some, List.toList_toArray, hy, htk, htk2, hset, List.drop_zero]; (try simp (disch := omega) only [wrap_id, getD_map_in, Int.toNat_natCast, Node.cells, Option.toArray_none, Option.toArray_some, List.toList_toArray, hy, htk, htk2, hset, List.drop_zero]); (repeat (refine And.intro (by (first | omega | (simp; done) | (simp; omega) | assumption)) ?_)); refine h' _ ?_; clear h' K') | (refine aops_nil (hK _ ?_); clear hK K hgs gs; try simp only [aThen, aBlock]) | ((first | refine aops_cons (fun K' h' => ?_) | refine aopsD_cons (fun K' h' => ?_)); simp only [go_sem, Nat.reduceLT, Nat.reduceLeDiff, Nat.reduceEqDiff, reduceIte, Nat.reduceAdd, Nat.reduceMul, Nat.reduceSub, Int.reduceLT, Int.reduceLE, Int.reduceToNat, Int.reduceNeg, reduceCtorEq, hgs, Node.cells, Option.toArray_none, Option.toArray_some, List.toList_toArray, hy, htk, htk2, hset, List.drop_zero]; (first | refine ⟨_, hG, ?_⟩ | refine ⟨_, fun _ => hG, ?_⟩ | refine ⟨_, hC, ?_⟩ | refine ⟨_, fun _ => hC, ?_⟩ | refine ⟨_, alive_c, ?_⟩ | refine ⟨_, fun _ => alive_c, ?_⟩ | refine ⟨_, hS, ?_⟩ | refine ⟨_, fun _ => hS, ?_⟩ | refine ⟨_, hP, ?_⟩ | refine ⟨_, fun _ => hP, ?_⟩ | refine ⟨_, hM, ?_⟩ | refine ⟨_, fun _ => hM, ?_⟩); (try simp only [go_sem, Nat.reduceLT, Nat.reduceLeDiff, Nat.reduceEqDiff, reduceIte, Nat.reduceAdd, Nat.reduceMul, Nat.reduceSub, Int.reduceLT, Int.reduceLE, Int.reduceToNat, Int.reduceNeg, reduceCtorEq, hgs, Node.cells, Option.toArray_none, Option.toArray_some, List.toList_toArray, hy, htk, htk2, hset, List.drop_zero]); (repeat (refine And.intro (by (first | omega | (simp; done) | (simp; omega) | assumption)) ?_)); refine h' _ ?_; clear h' K') | (refine AWp.sreg (id := 1) dd10 rfl (fun gs K hgs hK => ?_); replace hgs : gs 2 = some 16 ∧ gs 7 = some 21 ∧ gs 11 = some 25 ∧ gs 17 = some 31 ∧ gs 21 = some 35 ∧ gs 25 = some 39 := ⟨hgs 2, hgs 7, hgs 11, hgs 17, hgs 21, hgs 25⟩) | (refine AWp.sreg (id := 9) dd10 rfl (fun gs K hgs hK => ?_); replace hgs : gs 6 = some 74 := hgs 6) | (refine AWp.sreg (id := 22) dd10 rfl (fun gs K hgs hK => ?_); replace hgs : gs 2 = some 124 := hgs 2) | (refine AWp.sreg (id := 24) dd10 rfl (fun gs K hgs hK => ?_); replace hgs : gs 2 = some 135 ∧ gs 6 = some 139 := ⟨hgs 2, hgs 6⟩) | (refine AWp.reg (id := 1) dd10 rfl (fun gs K hgs hK => ?_); replace hgs : gs 2 = some 16 ∧ gs 7 = some 21 ∧ gs 11 = some 25 ∧ gs 17 = some 31 ∧ gs 21 = some 35 ∧ gs 25 = some 39 := ⟨hgs 2, hgs 7, hgs 11, hgs 17, hgs 21, hgs 25⟩) | (refine AWp.reg (id := 9) dd10 rfl (fun gs K hgs hK => ?_); replace hgs : gs 6 = some 74 := hgs 6) | (refine AWp.reg (id := 22) dd10 rfl (fun gs K hgs hK => ?_); replace hgs : gs 2 = some 124 := hgs 2) | (refine AWp.reg (id := 24) dd10 rfl (fun gs K hgs hK => ?_); replace hgs : gs 2 = some 135 ∧ gs 6 = some 139 := ⟨hgs 2, hgs 6⟩) | (refine AWp.sreg  dd10 rfl (fun gs K hgs hK => ?_); replace hgs : Nat.succ 0 = 1 := rfl) | refine AWp.seq ?_ | refine ARounds.step ?_ | refine AWp.block ?_ | refine AWp.label ?_ | (refine AWp.ret ?_; try simp only [aThen, aBlock]) | (refine AWp.skip ?_; try simp only [aThen, aBlock]) | (refine AWp.exit ?_; try simp only [aThen, aBlock, Nat.reduceEqDiff, reduceIte]) | (refine AWp.reg  dd10 rfl (fun gs K hgs hK => ?_); replace hgs : Nat.succ 0 = 1 := rfl) | (refine AWp.cond rfl (fun h => ?_) (fun h => ?_) <;> (try simp only [decide_eq_true_eq, decide_eq_false_iff_not, beq_iff_eq, bne_iff_ne, ne_eq, Bool.not_eq_true', Bool.not_eq_false', beq_eq_false_iff_ne, Bool.true_eq_false, Bool.false_eq_true, Int.not_le, Int.not_lt, Bool.and_eq_true, Bool.and_eq_false_iff, Bool.or_eq_true, Bool.or_eq_false_iff, bne_eq_false_iff_eq, reduceCtorEq] at h) <;> (try first | contradiction | (exfalso; omega) | (exfalso; revert h; simp; done) | (exfalso; revert h; simp; omega)))))
      all_goals simp only [Out, outA, outL, resA, go_sem, Nat.reduceLT, Nat.reduceLeDiff, Nat.reduceEqDiff, reduceIte, Nat.reduceAdd, Nat.reduceMul, Nat.reduceSub, Int.reduceLT, Int.reduceLE, Int.reduceToNat, Int.reduceNeg, reduceCtorEq]
      all_goals refine AVle.of_eq (congrArg (fun b => AV.lit (.bool b)) ?_)
      all_goals first
        | (simp; done)
        | (simp; omega)
    by_cases w2 : w = 2
    · subst w2
      have hE := eab ⟨kd, nn, xa, xb + d, xp⟩ rfl (.inr (by simp; omega))
      have hM := con ⟨kd, nn, xa, xb + d, xp⟩
      have hS := cos ⟨kd, nn, xa, xb + d, xp⟩ (by simp [Node.setp]; omega)
      rw [hE] at hM hS
      unfold nodesV Node.cells at *
      refine acall_of (n := 142) (rs := [.tmp 8]) Try.func10 rfl (by kernel_rfl) rfl rfl rfl ?_; simp only [argsE, Nat.reduceAdd]
      repeat (any_goals (first | (refine aops_cons (fun K' h' => ?_); simp only [go_sem, Nat.reduceLT, Nat.reduceLeDiff, Nat.reduceEqDiff, reduceIte, Nat.reduceAdd, Nat.reduceMul, Nat.reduceSub, Int.reduceLT, Int.reduceLE, Int.reduceToNat, Int.reduceNeg, reduceCtorEq, hgs, Node.cells, Option.toArray_none, Option.toArray_some, List.toList_toArray, hy, htk, htk2, hset, List.drop_zero]; (try simp (disch := omega) only [wrap_id, getD_map_in, Int.toNat_natCast, Node.cells, Option.toArray_none, Option.toArray_some, List.toList_toArray, hy, htk, htk2, hset, List.drop_zero]); (repeat (refine And.intro (by (first | omega | (simp; done) | (simp; omega) | assumption)) ?_)); refine h' _ ?_; clear h' K') | (refine aops_nil (hK _ ?_); clear hK K hgs gs; try simp only [aThen, aBlock]) | ((first | refine aops_cons (fun K' h' => ?_) | refine aopsD_cons (fun K' h' => ?_)); simp only [go_sem, Nat.reduceLT, Nat.reduceLeDiff, Nat.reduceEqDiff, reduceIte, Nat.reduceAdd, Nat.reduceMul, Nat.reduceSub, Int.reduceLT, Int.reduceLE, Int.reduceToNat, Int.reduceNeg, reduceCtorEq, hgs, Node.cells, Option.toArray_none, Option.toArray_some, List.toList_toArray, hy, htk, htk2, hset, List.drop_zero]; (first | refine ⟨_, hG, ?_⟩ | refine ⟨_, fun _ => hG, ?_⟩ | refine ⟨_, hC, ?_⟩ | refine ⟨_, fun _ => hC, ?_⟩ | refine ⟨_, alive_c, ?_⟩ | refine ⟨_, fun _ => alive_c, ?_⟩ | refine ⟨_, hS, ?_⟩ | refine ⟨_, fun _ => hS, ?_⟩ | refine ⟨_, hP, ?_⟩ | refine ⟨_, fun _ => hP, ?_⟩ | refine ⟨_, hM, ?_⟩ | refine ⟨_, fun _ => hM, ?_⟩); (try simp only [go_sem, Nat.reduceLT, Nat.reduceLeDiff, Nat.reduceEqDiff, reduceIte, Nat.reduceAdd, Nat.reduceMul, Nat.reduceSub, Int.reduceLT, Int.reduceLE, Int.reduceToNat, Int.reduceNeg, reduceCtorEq, hgs, Node.cells, Option.toArray_none, Option.toArray_some, List.toList_toArray, hy, htk, htk2, hset, List.drop_zero]); (repeat (refine And.intro (by (first | omega | (simp; done) | (simp; omega) | assumption)) ?_)); refine h' _ ?_; clear h' K') | (refine AWp.sreg (id := 1) dd10 rfl (fun gs K hgs hK => ?_); replace hgs : gs 2 = some 16 ∧ gs 7 = some 21 ∧ gs 11 = some 25 ∧ gs 17 = some 31 ∧ gs 21 = some 35 ∧ gs 25 = some 39 := ⟨hgs 2, hgs 7, hgs 11, hgs 17, hgs 21, hgs 25⟩) | (refine AWp.sreg (id := 9) dd10 rfl (fun gs K hgs hK => ?_); replace hgs : gs 6 = some 74 := hgs 6) | (refine AWp.sreg (id := 22) dd10 rfl (fun gs K hgs hK => ?_); replace hgs : gs 2 = some 124 := hgs 2) | (refine AWp.sreg (id := 24) dd10 rfl (fun gs K hgs hK => ?_); replace hgs : gs 2 = some 135 ∧ gs 6 = some 139 := ⟨hgs 2, hgs 6⟩) | (refine AWp.reg (id := 1) dd10 rfl (fun gs K hgs hK => ?_); replace hgs : gs 2 = some 16 ∧ gs 7 = some 21 ∧ gs 11 = some 25 ∧ gs 17 = some 31 ∧ gs 21 = some 35 ∧ gs 25 = some 39 := ⟨hgs 2, hgs 7, hgs 11, hgs 17, hgs 21, hgs 25⟩) | (refine AWp.reg (id := 9) dd10 rfl (fun gs K hgs hK => ?_); replace hgs : gs 6 = some 74 := hgs 6) | (refine AWp.reg (id := 22) dd10 rfl (fun gs K hgs hK => ?_); replace hgs : gs 2 = some 124 := hgs 2) | (refine AWp.reg (id := 24) dd10 rfl (fun gs K hgs hK => ?_); replace hgs : gs 2 = some 135 ∧ gs 6 = some 139 := ⟨hgs 2, hgs 6⟩) | (refine AWp.sreg  dd10 rfl (fun gs K hgs hK => ?_); replace hgs : Nat.succ 0 = 1 := rfl) | refine AWp.seq ?_ | refine ARounds.step ?_ | refine AWp.block ?_ | refine AWp.label ?_ | (refine AWp.ret ?_; try simp only [aThen, aBlock]) | (refine AWp.skip ?_; try simp only [aThen, aBlock]) | (refine AWp.exit ?_; try simp only [aThen, aBlock, Nat.reduceEqDiff, reduceIte]) | (refine AWp.reg  dd10 rfl (fun gs K hgs hK => ?_); replace hgs : Nat.succ 0 = 1 := rfl) | (refine AWp.cond rfl (fun h => ?_) (fun h => ?_) <;> (try simp only [decide_eq_true_eq, decide_eq_false_iff_not, beq_iff_eq, bne_iff_ne, ne_eq, Bool.not_eq_true', Bool.not_eq_false', beq_eq_false_iff_ne, Bool.true_eq_false, Bool.false_eq_true, Int.not_le, Int.not_lt, Bool.and_eq_true, Bool.and_eq_false_iff, Bool.or_eq_true, Bool.or_eq_false_iff, bne_eq_false_iff_eq, reduceCtorEq] at h) <;> (try first | contradiction | (exfalso; omega) | (exfalso; revert h; simp; done) | (exfalso; revert h; simp; omega)))))
      all_goals simp only [Out, outA, outL, resA, go_sem, Nat.reduceLT, Nat.reduceLeDiff, Nat.reduceEqDiff, reduceIte, Nat.reduceAdd, Nat.reduceMul, Nat.reduceSub, Int.reduceLT, Int.reduceLE, Int.reduceToNat, Int.reduceNeg, reduceCtorEq]
      all_goals refine AVle.of_eq (congrArg (fun b => AV.lit (.bool b)) ?_)
      all_goals first
        | (simp; done)
        | (simp; omega)
    obtain ⟨n', hn'⟩ : ∃ n', IntKind.i64.wrap (nn + d) = n' := ⟨_, rfl⟩
    have hnk : n' ≠ nn := by rw [← hn', IntKind.wrap_i64]; omega
    have hnz : nn = 0 → n' ≠ 0 := fun h => by omega
    by_cases k1 : kd = 1
    · subst k1
      have hM := con ⟨1, n', xa, xb, xp⟩
      have hS := cos ⟨1, n', xa, xb, xp⟩ (by simp [Node.setp]; omega)
      generalize errL (l.set j ⟨1, n', xa, xb, xp⟩) = em at *
      unfold nodesV Node.cells at *
      refine acall_of (n := 142) (rs := [.tmp 8]) Try.func10 rfl (by kernel_rfl) rfl rfl rfl ?_; simp only [argsE, Nat.reduceAdd]
      repeat (any_goals (first | (refine aops_cons (fun K' h' => ?_); simp only [go_sem, Nat.reduceLT, Nat.reduceLeDiff, Nat.reduceEqDiff, reduceIte, Nat.reduceAdd, Nat.reduceMul, Nat.reduceSub, Int.reduceLT, Int.reduceLE, Int.reduceToNat, Int.reduceNeg, reduceCtorEq, hgs, Node.cells, Option.toArray_none, Option.toArray_some, List.toList_toArray, hy, htk, htk2, hset, List.drop_zero, hn']; (try simp (disch := omega) only [wrap_id, getD_map_in, Int.toNat_natCast, Node.cells, Option.toArray_none, Option.toArray_some, List.toList_toArray, hy, htk, htk2, hset, List.drop_zero, hn']); (repeat (refine And.intro (by (first | omega | (simp; done) | (simp; omega) | assumption)) ?_)); refine h' _ ?_; clear h' K') | (refine aops_nil (hK _ ?_); clear hK K hgs gs; try simp only [aThen, aBlock]) | ((first | refine aops_cons (fun K' h' => ?_) | refine aopsD_cons (fun K' h' => ?_)); simp only [go_sem, Nat.reduceLT, Nat.reduceLeDiff, Nat.reduceEqDiff, reduceIte, Nat.reduceAdd, Nat.reduceMul, Nat.reduceSub, Int.reduceLT, Int.reduceLE, Int.reduceToNat, Int.reduceNeg, reduceCtorEq, hgs, Node.cells, Option.toArray_none, Option.toArray_some, List.toList_toArray, hy, htk, htk2, hset, List.drop_zero, hn']; (first | refine ⟨_, hG, ?_⟩ | refine ⟨_, fun _ => hG, ?_⟩ | refine ⟨_, hC, ?_⟩ | refine ⟨_, fun _ => hC, ?_⟩ | refine ⟨_, alive_c, ?_⟩ | refine ⟨_, fun _ => alive_c, ?_⟩ | refine ⟨_, hS, ?_⟩ | refine ⟨_, fun _ => hS, ?_⟩ | refine ⟨_, hP, ?_⟩ | refine ⟨_, fun _ => hP, ?_⟩ | refine ⟨_, hM, ?_⟩ | refine ⟨_, fun _ => hM, ?_⟩); (try simp only [go_sem, Nat.reduceLT, Nat.reduceLeDiff, Nat.reduceEqDiff, reduceIte, Nat.reduceAdd, Nat.reduceMul, Nat.reduceSub, Int.reduceLT, Int.reduceLE, Int.reduceToNat, Int.reduceNeg, reduceCtorEq, hgs, Node.cells, Option.toArray_none, Option.toArray_some, List.toList_toArray, hy, htk, htk2, hset, List.drop_zero, hn']); (repeat (refine And.intro (by (first | omega | (simp; done) | (simp; omega) | assumption)) ?_)); refine h' _ ?_; clear h' K') | (refine AWp.sreg (id := 1) dd10 rfl (fun gs K hgs hK => ?_); replace hgs : gs 2 = some 16 ∧ gs 7 = some 21 ∧ gs 11 = some 25 ∧ gs 17 = some 31 ∧ gs 21 = some 35 ∧ gs 25 = some 39 := ⟨hgs 2, hgs 7, hgs 11, hgs 17, hgs 21, hgs 25⟩) | (refine AWp.sreg (id := 9) dd10 rfl (fun gs K hgs hK => ?_); replace hgs : gs 6 = some 74 := hgs 6) | (refine AWp.sreg (id := 22) dd10 rfl (fun gs K hgs hK => ?_); replace hgs : gs 2 = some 124 := hgs 2) | (refine AWp.sreg (id := 24) dd10 rfl (fun gs K hgs hK => ?_); replace hgs : gs 2 = some 135 ∧ gs 6 = some 139 := ⟨hgs 2, hgs 6⟩) | (refine AWp.reg (id := 1) dd10 rfl (fun gs K hgs hK => ?_); replace hgs : gs 2 = some 16 ∧ gs 7 = some 21 ∧ gs 11 = some 25 ∧ gs 17 = some 31 ∧ gs 21 = some 35 ∧ gs 25 = some 39 := ⟨hgs 2, hgs 7, hgs 11, hgs 17, hgs 21, hgs 25⟩) | (refine AWp.reg (id := 9) dd10 rfl (fun gs K hgs hK => ?_); replace hgs : gs 6 = some 74 := hgs 6) | (refine AWp.reg (id := 22) dd10 rfl (fun gs K hgs hK => ?_); replace hgs : gs 2 = some 124 := hgs 2) | (refine AWp.reg (id := 24) dd10 rfl (fun gs K hgs hK => ?_); replace hgs : gs 2 = some 135 ∧ gs 6 = some 139 := ⟨hgs 2, hgs 6⟩) | (refine AWp.sreg  dd10 rfl (fun gs K hgs hK => ?_); replace hgs : Nat.succ 0 = 1 := rfl) | refine AWp.seq ?_ | refine ARounds.step ?_ | refine AWp.block ?_ | refine AWp.label ?_ | (refine AWp.ret ?_; try simp only [aThen, aBlock]) | (refine AWp.skip ?_; try simp only [aThen, aBlock]) | (refine AWp.exit ?_; try simp only [aThen, aBlock, Nat.reduceEqDiff, reduceIte]) | (refine AWp.reg  dd10 rfl (fun gs K hgs hK => ?_); replace hgs : Nat.succ 0 = 1 := rfl) | (refine AWp.cond rfl (fun h => ?_) (fun h => ?_) <;> (try simp only [decide_eq_true_eq, decide_eq_false_iff_not, beq_iff_eq, bne_iff_ne, ne_eq, Bool.not_eq_true', Bool.not_eq_false', beq_eq_false_iff_ne, Bool.true_eq_false, Bool.false_eq_true, Int.not_le, Int.not_lt, Bool.and_eq_true, Bool.and_eq_false_iff, Bool.or_eq_true, Bool.or_eq_false_iff, bne_eq_false_iff_eq, reduceCtorEq] at h) <;> (try first | contradiction | (exfalso; omega) | (exfalso; revert h; simp; done) | (exfalso; revert h; simp; omega)))))
      all_goals simp only [Out, outA, outL, resA, go_sem, Nat.reduceLT, Nat.reduceLeDiff, Nat.reduceEqDiff, reduceIte, Nat.reduceAdd, Nat.reduceMul, Nat.reduceSub, Int.reduceLT, Int.reduceLE, Int.reduceToNat, Int.reduceNeg, reduceCtorEq]
      all_goals refine AVle.of_eq (congrArg (fun b => AV.lit (.bool b)) ?_)
      all_goals first
        | (simp; done)
        | (simp; omega)
    · have hE := en ⟨kd, n', xa, xb, xp⟩ k1 (hnz (by omega))
      have hM := con ⟨kd, n', xa, xb, xp⟩
      have hS := cos ⟨kd, n', xa, xb, xp⟩ (by simp [Node.setp]; omega)
      rw [hE] at hM hS
      unfold nodesV Node.cells at *
      refine acall_of (n := 142) (rs := [.tmp 8]) Try.func10 rfl (by kernel_rfl) rfl rfl rfl ?_; simp only [argsE, Nat.reduceAdd]
      repeat (any_goals (first | (refine aops_cons (fun K' h' => ?_); simp only [go_sem, Nat.reduceLT, Nat.reduceLeDiff, Nat.reduceEqDiff, reduceIte, Nat.reduceAdd, Nat.reduceMul, Nat.reduceSub, Int.reduceLT, Int.reduceLE, Int.reduceToNat, Int.reduceNeg, reduceCtorEq, hgs, Node.cells, Option.toArray_none, Option.toArray_some, List.toList_toArray, hy, htk, htk2, hset, List.drop_zero, hn']; (try simp (disch := omega) only [wrap_id, getD_map_in, Int.toNat_natCast, Node.cells, Option.toArray_none, Option.toArray_some, List.toList_toArray, hy, htk, htk2, hset, List.drop_zero, hn']); (repeat (refine And.intro (by (first | omega | (simp; done) | (simp; omega) | assumption)) ?_)); refine h' _ ?_; clear h' K') | (refine aops_nil (hK _ ?_); clear hK K hgs gs; try simp only [aThen, aBlock]) | ((first | refine aops_cons (fun K' h' => ?_) | refine aopsD_cons (fun K' h' => ?_)); simp only [go_sem, Nat.reduceLT, Nat.reduceLeDiff, Nat.reduceEqDiff, reduceIte, Nat.reduceAdd, Nat.reduceMul, Nat.reduceSub, Int.reduceLT, Int.reduceLE, Int.reduceToNat, Int.reduceNeg, reduceCtorEq, hgs, Node.cells, Option.toArray_none, Option.toArray_some, List.toList_toArray, hy, htk, htk2, hset, List.drop_zero, hn']; (first | refine ⟨_, hG, ?_⟩ | refine ⟨_, fun _ => hG, ?_⟩ | refine ⟨_, hC, ?_⟩ | refine ⟨_, fun _ => hC, ?_⟩ | refine ⟨_, alive_c, ?_⟩ | refine ⟨_, fun _ => alive_c, ?_⟩ | refine ⟨_, hS, ?_⟩ | refine ⟨_, fun _ => hS, ?_⟩ | refine ⟨_, hP, ?_⟩ | refine ⟨_, fun _ => hP, ?_⟩ | refine ⟨_, hM, ?_⟩ | refine ⟨_, fun _ => hM, ?_⟩); (try simp only [go_sem, Nat.reduceLT, Nat.reduceLeDiff, Nat.reduceEqDiff, reduceIte, Nat.reduceAdd, Nat.reduceMul, Nat.reduceSub, Int.reduceLT, Int.reduceLE, Int.reduceToNat, Int.reduceNeg, reduceCtorEq, hgs, Node.cells, Option.toArray_none, Option.toArray_some, List.toList_toArray, hy, htk, htk2, hset, List.drop_zero, hn']); (repeat (refine And.intro (by (first | omega | (simp; done) | (simp; omega) | assumption)) ?_)); refine h' _ ?_; clear h' K') | (refine AWp.sreg (id := 1) dd10 rfl (fun gs K hgs hK => ?_); replace hgs : gs 2 = some 16 ∧ gs 7 = some 21 ∧ gs 11 = some 25 ∧ gs 17 = some 31 ∧ gs 21 = some 35 ∧ gs 25 = some 39 := ⟨hgs 2, hgs 7, hgs 11, hgs 17, hgs 21, hgs 25⟩) | (refine AWp.sreg (id := 9) dd10 rfl (fun gs K hgs hK => ?_); replace hgs : gs 6 = some 74 := hgs 6) | (refine AWp.sreg (id := 22) dd10 rfl (fun gs K hgs hK => ?_); replace hgs : gs 2 = some 124 := hgs 2) | (refine AWp.sreg (id := 24) dd10 rfl (fun gs K hgs hK => ?_); replace hgs : gs 2 = some 135 ∧ gs 6 = some 139 := ⟨hgs 2, hgs 6⟩) | (refine AWp.reg (id := 1) dd10 rfl (fun gs K hgs hK => ?_); replace hgs : gs 2 = some 16 ∧ gs 7 = some 21 ∧ gs 11 = some 25 ∧ gs 17 = some 31 ∧ gs 21 = some 35 ∧ gs 25 = some 39 := ⟨hgs 2, hgs 7, hgs 11, hgs 17, hgs 21, hgs 25⟩) | (refine AWp.reg (id := 9) dd10 rfl (fun gs K hgs hK => ?_); replace hgs : gs 6 = some 74 := hgs 6) | (refine AWp.reg (id := 22) dd10 rfl (fun gs K hgs hK => ?_); replace hgs : gs 2 = some 124 := hgs 2) | (refine AWp.reg (id := 24) dd10 rfl (fun gs K hgs hK => ?_); replace hgs : gs 2 = some 135 ∧ gs 6 = some 139 := ⟨hgs 2, hgs 6⟩) | (refine AWp.sreg  dd10 rfl (fun gs K hgs hK => ?_); replace hgs : Nat.succ 0 = 1 := rfl) | refine AWp.seq ?_ | refine ARounds.step ?_ | refine AWp.block ?_ | refine AWp.label ?_ | (refine AWp.ret ?_; try simp only [aThen, aBlock]) | (refine AWp.skip ?_; try simp only [aThen, aBlock]) | (refine AWp.exit ?_; try simp only [aThen, aBlock, Nat.reduceEqDiff, reduceIte]) | (refine AWp.reg  dd10 rfl (fun gs K hgs hK => ?_); replace hgs : Nat.succ 0 = 1 := rfl) | (refine AWp.cond rfl (fun h => ?_) (fun h => ?_) <;> (try simp only [decide_eq_true_eq, decide_eq_false_iff_not, beq_iff_eq, bne_iff_ne, ne_eq, Bool.not_eq_true', Bool.not_eq_false', beq_eq_false_iff_ne, Bool.true_eq_false, Bool.false_eq_true, Int.not_le, Int.not_lt, Bool.and_eq_true, Bool.and_eq_false_iff, Bool.or_eq_true, Bool.or_eq_false_iff, bne_eq_false_iff_eq, reduceCtorEq] at h) <;> (try first | contradiction | (exfalso; omega) | (exfalso; revert h; simp; done) | (exfalso; revert h; simp; omega)))))
      all_goals simp only [Out, outA, outL, resA, go_sem, Nat.reduceLT, Nat.reduceLeDiff, Nat.reduceEqDiff, reduceIte, Nat.reduceAdd, Nat.reduceMul, Nat.reduceSub, Int.reduceLT, Int.reduceLE, Int.reduceToNat, Int.reduceNeg, reduceCtorEq]
      all_goals refine AVle.of_eq (congrArg (fun b => AV.lit (.bool b)) ?_)
      all_goals first
        | (simp; done)
        | (simp; omega)
  · generalize errL l = ea at *
    unfold nodesV at *
    refine acall_of (n := 142) (rs := [.tmp 8]) Try.func10 rfl (by kernel_rfl) rfl rfl rfl ?_; simp only [argsE, Nat.reduceAdd]
    repeat (any_goals (first | (refine aops_cons (fun K' h' => ?_); simp only [go_sem, Nat.reduceLT, Nat.reduceLeDiff, Nat.reduceEqDiff, reduceIte, Nat.reduceAdd, Nat.reduceMul, Nat.reduceSub, Int.reduceLT, Int.reduceLE, Int.reduceToNat, Int.reduceNeg, reduceCtorEq, hgs, Node.cells, Option.toArray_none, Option.toArray_some, List.toList_toArray]; (try simp (disch := omega) only [wrap_id, getD_map_in, Int.toNat_natCast, Node.cells, Option.toArray_none, Option.toArray_some, List.toList_toArray]); (repeat (refine And.intro (by (first | omega | (simp; done) | (simp; omega) | assumption)) ?_)); refine h' _ ?_; clear h' K') | (refine aops_nil (hK _ ?_); clear hK K hgs gs; try simp only [aThen, aBlock]) | ((first | refine aops_cons (fun K' h' => ?_) | refine aopsD_cons (fun K' h' => ?_)); simp only [go_sem, Nat.reduceLT, Nat.reduceLeDiff, Nat.reduceEqDiff, reduceIte, Nat.reduceAdd, Nat.reduceMul, Nat.reduceSub, Int.reduceLT, Int.reduceLE, Int.reduceToNat, Int.reduceNeg, reduceCtorEq, hgs, Node.cells, Option.toArray_none, Option.toArray_some, List.toList_toArray]; (first | refine ⟨_, hG, ?_⟩ | refine ⟨_, fun _ => hG, ?_⟩ | refine ⟨_, hC, ?_⟩ | refine ⟨_, fun _ => hC, ?_⟩ | refine ⟨_, alive_c, ?_⟩ | refine ⟨_, fun _ => alive_c, ?_⟩ | refine ⟨_, hS, ?_⟩ | refine ⟨_, fun _ => hS, ?_⟩ | refine ⟨_, hP, ?_⟩ | refine ⟨_, fun _ => hP, ?_⟩ | refine ⟨_, hM, ?_⟩ | refine ⟨_, fun _ => hM, ?_⟩); (try simp only [go_sem, Nat.reduceLT, Nat.reduceLeDiff, Nat.reduceEqDiff, reduceIte, Nat.reduceAdd, Nat.reduceMul, Nat.reduceSub, Int.reduceLT, Int.reduceLE, Int.reduceToNat, Int.reduceNeg, reduceCtorEq, hgs, Node.cells, Option.toArray_none, Option.toArray_some, List.toList_toArray]); (repeat (refine And.intro (by (first | omega | (simp; done) | (simp; omega) | assumption)) ?_)); refine h' _ ?_; clear h' K') | (refine AWp.sreg (id := 1) dd10 rfl (fun gs K hgs hK => ?_); replace hgs : gs 2 = some 16 ∧ gs 7 = some 21 ∧ gs 11 = some 25 ∧ gs 17 = some 31 ∧ gs 21 = some 35 ∧ gs 25 = some 39 := ⟨hgs 2, hgs 7, hgs 11, hgs 17, hgs 21, hgs 25⟩) | (refine AWp.sreg (id := 9) dd10 rfl (fun gs K hgs hK => ?_); replace hgs : gs 6 = some 74 := hgs 6) | (refine AWp.sreg (id := 22) dd10 rfl (fun gs K hgs hK => ?_); replace hgs : gs 2 = some 124 := hgs 2) | (refine AWp.sreg (id := 24) dd10 rfl (fun gs K hgs hK => ?_); replace hgs : gs 2 = some 135 ∧ gs 6 = some 139 := ⟨hgs 2, hgs 6⟩) | (refine AWp.reg (id := 1) dd10 rfl (fun gs K hgs hK => ?_); replace hgs : gs 2 = some 16 ∧ gs 7 = some 21 ∧ gs 11 = some 25 ∧ gs 17 = some 31 ∧ gs 21 = some 35 ∧ gs 25 = some 39 := ⟨hgs 2, hgs 7, hgs 11, hgs 17, hgs 21, hgs 25⟩) | (refine AWp.reg (id := 9) dd10 rfl (fun gs K hgs hK => ?_); replace hgs : gs 6 = some 74 := hgs 6) | (refine AWp.reg (id := 22) dd10 rfl (fun gs K hgs hK => ?_); replace hgs : gs 2 = some 124 := hgs 2) | (refine AWp.reg (id := 24) dd10 rfl (fun gs K hgs hK => ?_); replace hgs : gs 2 = some 135 ∧ gs 6 = some 139 := ⟨hgs 2, hgs 6⟩) | (refine AWp.sreg  dd10 rfl (fun gs K hgs hK => ?_); replace hgs : Nat.succ 0 = 1 := rfl) | refine AWp.seq ?_ | refine ARounds.step ?_ | refine AWp.block ?_ | refine AWp.label ?_ | (refine AWp.ret ?_; try simp only [aThen, aBlock]) | (refine AWp.skip ?_; try simp only [aThen, aBlock]) | (refine AWp.exit ?_; try simp only [aThen, aBlock, Nat.reduceEqDiff, reduceIte]) | (refine AWp.reg  dd10 rfl (fun gs K hgs hK => ?_); replace hgs : Nat.succ 0 = 1 := rfl) | (refine AWp.cond rfl (fun h => ?_) (fun h => ?_) <;> (try simp only [decide_eq_true_eq, decide_eq_false_iff_not, beq_iff_eq, bne_iff_ne, ne_eq, Bool.not_eq_true', Bool.not_eq_false', beq_eq_false_iff_ne, Bool.true_eq_false, Bool.false_eq_true, Int.not_le, Int.not_lt, Bool.and_eq_true, Bool.and_eq_false_iff, Bool.or_eq_true, Bool.or_eq_false_iff, bne_eq_false_iff_eq, reduceCtorEq] at h) <;> (try first | contradiction | (exfalso; omega) | (exfalso; revert h; simp; done) | (exfalso; revert h; simp; omega)))))
    all_goals first
      | (exfalso; omega)
      | (simp only [Out, outA, outL, resA, go_sem, Nat.reduceLT, Nat.reduceLeDiff, Nat.reduceEqDiff, reduceIte, Nat.reduceAdd, Nat.reduceMul, Nat.reduceSub, Int.reduceLT, Int.reduceLE, Int.reduceToNat, Int.reduceNeg, reduceCtorEq]
         exact AVle.refl _)
theorem node_shape2 {x : List AV} (h : Shp Try.prog 7 31 x) : ∃ e : Node, x = e.cells ∧ (0 ≤ e.kind ∧ e.kind ≤ 255) ∧ (-9223372036854775808 ≤ e.n ∧ e.n ≤ 9223372036854775807) ∧ (-9223372036854775808 ≤ e.a ∧ e.a ≤ 9223372036854775807) ∧ (-9223372036854775808 ≤ e.b ∧ e.b ≤ 9223372036854775807) ∧ (-9223372036854775808 ≤ e.pos ∧ e.pos ≤ 9223372036854775807) := by
  obtain ⟨a, r, rfl, ha, h1⟩ := shp_st (ts := [5, 2, 3, 3, 3]) (by kernel_rfl) h
  obtain ⟨b, r, rfl, hb, h2⟩ := h1
  obtain ⟨c, r, rfl, hc, h3⟩ := h2
  obtain ⟨d, r, rfl, hd, h4⟩ := h3
  obtain ⟨e, r, rfl, he, h5⟩ := h4
  obtain rfl : r = [] := h5
  obtain ⟨xk, rfl, w1⟩ := shp_in (k := .u8) (by kernel_rfl) ha
  obtain ⟨xn, rfl, w2⟩ := shp_in (k := .i64) (by kernel_rfl) hb
  obtain ⟨xa, rfl, w3⟩ := shp_in (k := .i64) (by kernel_rfl) hc
  obtain ⟨xb, rfl, w4⟩ := shp_in (k := .i64) (by kernel_rfl) hd
  obtain ⟨xp, rfl, w5⟩ := shp_in (k := .i64) (by kernel_rfl) he
  exact ⟨⟨xk, xn, xa, xb, xp⟩, rfl, wf_u8 w1, wf_i64 w2, wf_i64 w3, wf_i64 w4, wf_i64 w5⟩
theorem list_of2 {α : Type} {f : α → List AV} {p : α → Prop} : ∀ {xs : List (List AV)}, (∀ x ∈ xs, ∃ e, x = f e ∧ p e) → ∃ l : List α, xs = l.map f ∧ ∀ e ∈ l, p e
  | [], _ => ⟨[], rfl, fun e h => by cases h⟩
  | x :: xs, h => by
    obtain ⟨e, h1, h2⟩ := h x (by simp)
    obtain ⟨l, h3, h4⟩ := list_of2 (xs := xs) fun y hy => h y (by simp [hy])
    refine ⟨e :: l, by simp [h1, h3], fun y hy => ?_⟩
    rcases List.mem_cons.1 hy with rfl | hy
    · exact h2
    · exact h4 y hy
theorem nodes_shape2 {a : AV} (h : ShpA Try.prog 8 22 a) : ∃ l : List Node, a = nodesV l ∧ l.length ≤ maxLen ∧ ∀ e ∈ l, (0 ≤ e.kind ∧ e.kind ≤ 255) ∧ (-9223372036854775808 ≤ e.n ∧ e.n ≤ 9223372036854775807) ∧ (-9223372036854775808 ≤ e.a ∧ e.a ≤ 9223372036854775807) ∧ (-9223372036854775808 ≤ e.b ∧ e.b ≤ 9223372036854775807) ∧ (-9223372036854775808 ≤ e.pos ∧ e.pos ≤ 9223372036854775807) := by
  obtain ⟨xs, e, hm, hx⟩ := shp_sl (q := (31, 5)) (by kernel_rfl) (shpA_one (by kernel_rfl) h)
  obtain ⟨l, rfl, hp⟩ := list_of2 (f := Node.cells) fun x hx' => node_shape2 (hx x hx')
  refine ⟨l, ?_, by simpa using hm, hp⟩
  simpa [nodesV] using e
theorem other_all : ∀ xs, ShpAs Try.prog 8 Try.f10.params.toList xs → ACall Try.prog 10 xs (.lit (.bool true)) := by
  intro xs h
  have hp : Try.f10.params.toList = [22, 3, 3, 3] := by kernel_rfl
  rw [hp] at h
  obtain ⟨a, r, rfl, ha, h1⟩ := h
  obtain ⟨b, r, rfl, hb, h2⟩ := h1
  obtain ⟨c, r, rfl, hc, h3⟩ := h2
  obtain ⟨d, r, rfl, hd, h4⟩ := h3
  obtain rfl : r = [] := h4
  obtain ⟨l, rfl, hm, hn⟩ := nodes_shape2 ha
  obtain ⟨n, rfl, h1, h2⟩ := int_shape hb
  obtain ⟨w, rfl, h3, h4⟩ := int_shape hc
  obtain ⟨v, rfl, h5, h6⟩ := int_shape hd
  exact other_law l n w v hm h1 h2 h5 h6 fun x hx => (hn x hx).2.1.2
end Go.Proofs.Ytgcnlellpgkbeaa
